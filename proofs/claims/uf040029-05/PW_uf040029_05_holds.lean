import PyProof.Rows.All
import Wide.All
import OpenK.AllK
import Wide.FinOn
import PySem.Challenge.RW_uf040029_05
open PySem PySem.W PySem.Calls PySem.Spec PyProof.Rows
set_option Elab.async false
set_option maxRecDepth 100000
set_option linter.unusedVariables false
set_option linter.unusedSimpArgs false
set_option maxHeartbeats 1000000
namespace Mine
theorem zA {k a b : Nat} (h : Nat.ble a b = true) : k + a ≤ k + b := Nat.add_le_add_left (Nat.le_of_ble_eq_true h) k
theorem zB {a b : Nat} (h : Nat.ble a b = true) : a ≤ b := Nat.le_of_ble_eq_true h
theorem zC {n : Nat} : 0 ≤ (n : Int) := Int.natCast_nonneg n
theorem zD {a m b : Nat} (h : a ≤ m) (h2 : Nat.ble m b = true) : a ≤ b := Nat.le_trans h (Nat.le_of_ble_eq_true h2)
theorem zE {a m b : Nat} (h : a ≤ m) (h2 : Nat.ble (m + 1) b = true) : a < b := Nat.lt_of_le_of_lt h (Nat.le_of_ble_eq_true h2)
theorem zF {n m : Nat} (h : n ≤ m) (h2 : Nat.ble m 1000000 = true) : (n : Int) < 9223372036854775808 := by
  have := Nat.le_trans h (Nat.le_of_ble_eq_true h2)
  omega
theorem zI {n m : Nat} (h : n ≤ m) (h2 : Nat.ble m 1000000 = true) : (n : Int) < 2 ^ 63 := zF h h2
theorem zJ {n m : Nat} (h : n < m) (h2 : Nat.ble m 1000000 = true) : (n : Int) < 2 ^ 63 := zF (Nat.le_of_lt h) h2
theorem zG {i b : Int} (h : 0 ≤ i ∧ i < b) : i = (i.toNat : Int) := (Int.toNat_of_nonneg h.1).symm
theorem zK {n m : Nat} {a b : Int} (h : a ≤ (n : Int) ∧ (n : Int) < b) (hb : b = (m : Int)) : n < m := Int.ofNat_lt.mp (hb ▸ h.2)
theorem z2 {j : Int} (h : 0 ≤ j ∧ j < 2) : j = 0 ∨ j = 1 := by omega
theorem z4 {j : Int} (h : 0 ≤ j ∧ j < 4) : j = 0 ∨ j = 1 ∨ j = 2 ∨ j = 3 := by omega
theorem z5 {j : Int} (h : 0 ≤ j ∧ j < 5) : j = 0 ∨ j = 1 ∨ j = 2 ∨ j = 3 ∨ j = 4 := by omega
theorem zN {a b : Nat} : ((a + b : Nat) : Int) = (a : Int) + (b : Int) := rfl
theorem zP {a b m n : Nat} (h : a ≤ b) (h1 : b ≤ m) (h2 : Nat.ble m n = true) : a ≤ n := Nat.le_trans h (zD h1 h2)
theorem zR {m : Nat} : (1 : Int) + (m : Int) = ((1 + m : Nat) : Int) := rfl
theorem zT {m : Nat} : ((m + 1 : Nat) : Int) - 1 = (m : Int) := by omega
end Mine
namespace Mine
set_option genInjectivity false
set_option genSizeOfSpec false

noncomputable abbrev Led := List (Addr × Obj)
noncomputable abbrev tupObj (vals : List Value) (n : Nat) : Obj := { cls := .type "tuple", data := .seq vals.toArray n }
noncomputable abbrev rngObj (a b c : Int) (t u v : Tok) : Obj := { cls := .type "range", dict := none, data := .fields #[.int a t, .int b u, .int c v], slots := #[] }

theorem len0 {α : Type} {xs : List α} (h : xs.length = 0) : xs = [] := List.length_eq_zero_iff.mp h
theorem len1 {α : Type} {xs : List α} {n : Nat} (h : xs.length = n + 1) : ∃ x ys, xs = x :: ys ∧ ys.length = n := by
  cases xs with
  | nil => cases h
  | cons x ys => exact ⟨x, ys, rfl, Nat.succ.inj h⟩
/-- abstract values -/
inductive V where
  | none
  | bool (b : Bool)
  | int (i : Int)
  | str (x : Str)
  | tup (vs : List V)
  | rng (a b c : Int)
  | ref (a : Addr)
  | stat (v : Value)
  | scr (ns : List Int)

/-- abstract objects -/
inductive O where
  | list (vs : List V)
  | dictI (kvs : List (Int × V))
  | dictS (kvs : List (Str × V))
  | inst (C d : Addr)
  | exc (C : Addr)
  | attr (fs : List (Str × V))
  | any (P : Led → Obj → Prop)

noncomputable abbrev St := List (Addr × O)
noncomputable abbrev Loc := List (Str × V)
noncomputable def setL : Loc → Str → V → Loc
  | [], x, v => [(x, v)]
  | (y, u) :: r, x, v => if y = x then (x, v) :: r else (y, u) :: setL r x v
noncomputable def getL : Loc → Str → Option V
  | [], _ => none
  | (y, u) :: r, x => if y = x then some u else getL r x
theorem getL_nil (x : Str) : getL [] x = none := rfl
theorem getL_cons (y : Str) (u : V) (r : Loc) (x : Str) : getL ((y, u) :: r) x = if y = x then some u else getL r x := rfl
theorem getL_setL (ρ : Loc) (x : Str) (v : V) (y : Str) : getL (setL ρ x v) y = if y = x then some v else getL ρ y := by
  induction ρ with
  | nil => rw [setL, getL_cons, getL_nil]; by_cases h : y = x
           · subst h; simp
           · have : ¬ x = y := fun e => h e.symm
             simp [h, this]
  | cons p r ih =>
    obtain ⟨z, u⟩ := p
    rw [setL]
    by_cases hz : z = x
    · subst hz
      rw [if_pos rfl, getL_cons, getL_cons]
      by_cases h : z = y
      · subst h; simp
      · have : ¬ y = z := fun e => h e.symm
        simp [h, this]
    · rw [if_neg hz, getL_cons, ih, getL_cons]
      by_cases h : z = y
      · subst h; simp [hz]
      · simp [h]

/-- the whole, unchanging -/
structure Cx where
  prog : Program
  w : World
  K : Frag
  p : Program
  loose : List Str
  mean : ExcName → Option Value
  mg : Str → Option Value
  mb : Str → Option Value
  base : Heap
  s₀ : Shared
  q : Bool

noncomputable abbrev Cx.M (c : Cx) : Model := model c.prog c.w

mutual
inductive RV (base : Heap) (imm : Led) : V → Value → Prop
  | none : RV base imm .none .none
  | bool (b : Bool) : RV base imm (.bool b) (.bool b)
  | int (i : Int) (t : Tok) : RV base imm (.int i) (.int i t)
  | str (x : Str) (t : Tok) : RV base imm (.str x) (.str x t)
  | tup {a : Addr} {vals : List Value} {n : Nat} {vs : List V} : (a, tupObj vals n) ∈ imm → RVs base imm vs vals → RV base imm (.tup vs) (.ref a)
  | rng {r : Addr} {a b c : Int} {t u v : Tok} : (r, rngObj a b c t u v) ∈ imm → RV base imm (.rng a b c) (.ref r)
  | ref (a : Addr) : RV base imm (.ref a) (.ref a)
  | stat (v : Value) : RV base imm (.stat v) v
  | scr {a : Addr} {vals : List Value} {ns : List Int} : base.IsList a vals.toArray → IntsAre vals ns → RV base imm (.scr ns) (.ref a)
inductive RVs (base : Heap) (imm : Led) : List V → List Value → Prop
  | nil : RVs base imm [] []
  | cons {v : V} {vs : List V} {x : Value} {xs : List Value} : RV base imm v x → RVs base imm vs xs → RVs base imm (v :: vs) (x :: xs)
end

theorem RV.mono {base : Heap} {imm imm' : Led} (hs : ∀ p ∈ imm, p ∈ imm') {v : V} {x : Value} (h : RV base imm v x) : RV base imm' v x :=
  RV.rec (motive_1 := fun v x _ => RV base imm' v x) (motive_2 := fun vs xs _ => RVs base imm' vs xs) .none .bool .int .str (fun hm _ ih => .tup (hs _ hm) ih) (fun hm => .rng (hs _ hm)) .ref .stat (fun h i => .scr h i) .nil (fun _ _ a b => .cons a b) h
theorem RVs.mono {base : Heap} {imm imm' : Led} (hs : ∀ p ∈ imm, p ∈ imm') {v : List V} {x : List Value} (h : RVs base imm v x) : RVs base imm' v x := by
  induction v generalizing x with
  | nil => cases h; exact .nil
  | cons a v ih => cases h with | cons p q => exact .cons (p.mono hs) (ih q)

section
variable {base : Heap} {imm : Led} {vs ws : List V} {xs ys : List Value} {v : V} {x : Value}
theorem RVs.length (h : RVs base imm vs xs) : xs.length = vs.length := by
  induction vs generalizing xs with
  | nil => cases h; rfl
  | cons v vs ih => cases h with | cons _ r => simp [ih r]
theorem RVs.append (h : RVs base imm vs xs) (k : RVs base imm ws ys) : RVs base imm (vs ++ ws) (xs ++ ys) := by
  induction vs generalizing xs with
  | nil => cases h; exact k
  | cons v vs ih => cases h with | cons a r => exact .cons a (ih r)
theorem RVs.get (h : RVs base imm vs xs) {i : Nat} {v : V} (hi : vs[i]? = some v) : ∃ x, xs[i]? = some x ∧ RV base imm v x := by
  induction vs generalizing xs i with
  | nil => simp at hi
  | cons w vs ih => cases h with
    | cons a r => cases i with
      | zero => simp at hi; subst hi; exact ⟨_, by simp, a⟩
      | succ i => simpa using ih r (by simpa using hi)
theorem RVs.get' (h : RVs base imm vs xs) {i : Nat} {x : Value} (hi : xs[i]? = some x) : ∃ v, vs[i]? = some v ∧ RV base imm v x := by
  induction vs generalizing xs i with
  | nil => cases h; simp at hi
  | cons w vs ih => cases h with
    | cons a r => cases i with
      | zero => simp at hi; subst hi; exact ⟨_, by simp, a⟩
      | succ i => simpa using ih r (by simpa using hi)
theorem RVs.one (h : RV base imm v x) : RVs base imm [v] [x] := .cons h .nil
end

theorem RVs.inv1 {base : Heap} {imm : Led} {v : V} {xs : List Value} (h : RVs base imm [v] xs) : ∃ x, xs = [x] ∧ RV base imm v x := by
  cases h with | cons a r => cases r; exact ⟨_, rfl, a⟩
theorem RVs.inv2 {base : Heap} {imm : Led} {v w : V} {xs : List Value} (h : RVs base imm [v, w] xs) : ∃ x y, xs = [x, y] ∧ RV base imm v x ∧ RV base imm w y := by
  cases h with | cons a r => obtain ⟨y, rfl, b⟩ := r.inv1; exact ⟨_, y, rfl, a, b⟩
theorem RV.refI {base : Heap} {imm : Led} {a : Addr} {x : Value} (h : RV base imm (.ref a) x) : x = .ref a := by cases h; rfl
theorem RV.intI {base : Heap} {imm : Led} {i : Int} {x : Value} (h : RV base imm (.int i) x) : ∃ t, x = .int i t := by cases h; exact ⟨_, rfl⟩
theorem RV.strI {base : Heap} {imm : Led} {i : Str} {x : Value} (h : RV base imm (.str i) x) : ∃ t, x = .str i t := by cases h; exact ⟨_, rfl⟩
theorem RV.boolI {base : Heap} {imm : Led} {i : Bool} {x : Value} (h : RV base imm (.bool i) x) : x = .bool i := by cases h; rfl
theorem RV.noneI {base : Heap} {imm : Led} {x : Value} (h : RV base imm .none x) : x = .none := by cases h; rfl
theorem RV.tupI {base : Heap} {imm : Led} {vs : List V} {x : Value} (h : RV base imm (.tup vs) x) : ∃ a vals n, x = .ref a ∧ (a, tupObj vals n) ∈ imm ∧ RVs base imm vs vals := by cases h with | tup hm r => exact ⟨_, _, _, rfl, hm, r⟩
theorem RV.scrI {base : Heap} {imm : Led} {ns : List Int} {x : Value} (h : RV base imm (.scr ns) x) : ∃ a vals, x = .ref a ∧ base.IsList a vals.toArray ∧ IntsAre vals ns := by cases h with | scr hm r => exact ⟨_, _, rfl, hm, r⟩
theorem RV.statI {base : Heap} {imm : Led} {v x : Value} (h : RV base imm (.stat v) x) : x = v := by cases h; rfl

/-- values under keys -/
inductive RKs (base : Heap) (imm : Led) {α : Type} : List (α × V) → List (α × Value) → Prop
  | nil : RKs base imm [] []
  | cons {k : α} {v : V} {x : Value} {l : List (α × V)} {r : List (α × Value)} : RV base imm v x → RKs base imm l r → RKs base imm ((k, v) :: l) ((k, x) :: r)
theorem RKs.mono {base : Heap} {imm imm' : Led} (hs : ∀ p ∈ imm, p ∈ imm') {α : Type} {l : List (α × V)} {r : List (α × Value)} (h : RKs base imm l r) : RKs base imm' l r := by
  induction h with
  | nil => exact .nil
  | cons a _ ih => exact .cons (a.mono hs) ih

/-- a dict whose keys are of one kind -/
noncomputable def IsDict {α : Type} [DecidableEq α] {prog : Program} {w : World} (knd : KeyKind prog w α) (o : Obj) (kvs : List (α × Value)) : Prop :=
  o.ExactDict ∧ ∃ es ep, o.data = .dict es ep ∧ KeysOf knd es ∧ Pairs knd es.toList kvs ∧ (kvs.map (·.1)).Nodup

/-- the names of a made thing, and what they mean -/
inductive AtR (base : Heap) (imm : Led) : List (Str × V) → List DictEntry → Prop
  | nil : AtR base imm [] []
  | cons {x : Str} {v : V} {t : Tok} {hsh : Int} {val : Value} {fs : List (Str × V)} {es : List DictEntry} : RV base imm v val → AtR base imm fs es → AtR base imm ((x, v) :: fs) (⟨hsh, .str x t, val⟩ :: es)
theorem AtR.mono {base : Heap} {imm imm' : Led} (hs : ∀ p ∈ imm, p ∈ imm') {l : List (Str × V)} {r : List DictEntry} (h : AtR base imm l r) : AtR base imm' l r := by
  induction h with
  | nil => exact .nil
  | cons a _ ih => exact .cons (a.mono hs) ih
/-- an abstract object and the concrete one -/
inductive RO (c : Cx) (imm : Led) : O → Obj → Prop
  | list {vs : List V} {vals : List Value} {n : Nat} : RVs c.base imm vs vals → RO c imm (.list vs) (listOf vals.toArray n)
  | dictI {kvs : List (Int × V)} {kvals : List (Int × Value)} {o : Obj} : RKs c.base imm kvs kvals → IsDict (intKind c.prog c.w) o kvals → RO c imm (.dictI kvs) o
  | dictS {kvs : List (Str × V)} {kvals : List (Str × Value)} {o : Obj} : RKs c.base imm kvs kvals → IsDict (strKind c.prog c.w) o kvals → RO c imm (.dictS kvs) o
  | inst (C d : Addr) : RO c imm (.inst C d) (instObj C d)
  | exc {C : Addr} {o : Obj} : o.cls = .ref C → (∃ vs, o.data = .fields vs) → RO c imm (.exc C) o
  | attr {fs : List (Str × V)} {es : List DictEntry} {n : Nat} : AtR c.base imm fs es → RO c imm (.attr fs) (dictOf es n)
  | any {P : Led → Obj → Prop} {o : Obj} : (∀ imm', (∀ p ∈ imm, p ∈ imm') → P imm' o) → RO c imm (.any P) o
theorem RO.mono {c : Cx} {imm imm' : Led} (hs : ∀ p ∈ imm, p ∈ imm') {o : O} {co : Obj} (h : RO c imm o co) : RO c imm' o co := by
  cases h with
  | list r => exact .list (r.mono hs)
  | dictI r d => exact .dictI (r.mono hs) d
  | dictS r d => exact .dictS (r.mono hs) d
  | inst C d => exact .inst C d
  | exc a b => exact .exc a b
  | attr a => exact .attr (a.mono hs)
  | any a => exact .any fun imm'' h => a imm'' fun p hp => h p (hs p hp)

theorem RO.listI {c : Cx} {imm : Led} {vs : List V} {o : Obj} (h : RO c imm (.list vs) o) : ∃ vals n, RVs c.base imm vs vals ∧ o = listOf vals.toArray n := by
  cases h with | list r => exact ⟨_, _, r, rfl⟩
inductive StR (c : Cx) (imm : Led) : St → Led → Prop
  | nil : StR c imm [] []
  | cons {a : Addr} {o : O} {co : Obj} {st : St} {mt : Led} : RO c imm o co → StR c imm st mt → StR c imm ((a, o) :: st) ((a, co) :: mt)
theorem StR.mono {c : Cx} {imm imm' : Led} (hs : ∀ p ∈ imm, p ∈ imm') {st : St} {mt : Led} (h : StR c imm st mt) : StR c imm' st mt := by
  induction h with
  | nil => exact .nil
  | cons a _ ih => exact .cons (a.mono hs) ih
noncomputable def get (st : St) (a : Addr) : Option O := st.lookup a
noncomputable def upd (st : St) (a : Addr) (o : O) : St := st.map fun p => if p.1 = a then (a, o) else p

theorem StR.get {c : Cx} {imm : Led} {st : St} {mt : Led} (h : StR c imm st mt) {a : Addr} {o : O} (e : get st a = some o) : ∃ co, (a, co) ∈ mt ∧ RO c imm o co := by
  induction h with
  | nil => cases e
  | @cons b o' co st mt r _ ih =>
    unfold Mine.get at e ih
    rw [List.lookup_cons] at e
    split at e
    · rename_i q
      have q' : a = b := by simpa using q
      subst q'; cases e
      exact ⟨co, .head _, r⟩
    · obtain ⟨co', m, r'⟩ := ih e
      exact ⟨co', .tail _ m, r'⟩

/-- a frame -/
structure Fm where
  outer : List Env
  frs : List (Addr × (Str → Option Value))
  L : Addr
  fenv : Env
  env : Env
  A : Around
  cmp : Bool

/-- a dict that is a namespace -/
noncomputable def NsObj (o : Obj) (m : Str → Option Value) : Prop := ∃ es ep, o.data = .dict es ep ∧ StrKeys es ∧ ∀ name, nsFind es name = m name

/-- the callers' frames -/
inductive FoR : List (Addr × (Str → Option Value)) → Led → Prop
  | nil : FoR [] []
  | cons {L : Addr} {m : Str → Option Value} {o : Obj} {fs : List (Addr × (Str → Option Value))} {fo : Led} : NsObj o m → FoR fs fo → FoR ((L, m) :: fs) ((L, o) :: fo)

/-- the frames' envs -/
noncomputable def EnvOk (f : Fm) (e : Env) : Prop := e.scope.kind = .function ∧ ∃ L, e.frame = some L ∧ (L = f.L ∨ ∃ m, (L, m) ∈ f.frs)

structure Fm.Ok (c : Cx) (k : Nat) (f : Fm) : Prop where
  kin : c.K.In c.base
  top : Top c.p c.loose c.mean c.mg c.mb c.base
  envs : ∀ e ∈ f.fenv :: f.outer, EnvOk f e
  frames : f.A.frames = some (f.fenv :: f.outer)
  eframe : f.env.frame = f.fenv.frame
  ekind : f.env.scope.kind = .function
  eglob : f.env.globals = mainGlobals
  ebi : f.env.builtins = builtinsNs
  ecell : ∀ x, f.env.kindOf x = some .cell → ∃ cc, f.env.cells.lookup x = some cc
  hnd : c.q = true → f.A.handled = none
  depth : f.A.depth + k + 200 < recursionLimit
  units : f.A.units + 8 * k + 200 < cLine

/-- what a name reads -/
noncomputable def ReadsName (f : Fm) (m : Str → Option Value) (cs fr : Led) (x : Str) (val : Value) : Prop :=
  (f.env.kindOf x = some .local ∧ f.env.locals = f.L ∧ m x = some val) ∨
  ((f.env.kindOf x = some .cell ∨ f.env.kindOf x = some .free) ∧ ∃ c o, f.env.cells.lookup x = some c ∧ (c, o) ∈ cs ++ fr ∧ o.data = .cell (some val))

structure LocR (base : Heap) (imm : Led) (f : Fm) (ρ : Loc) (m : Str → Option Value) (cs fr : Led) : Prop where
  reads : ∀ x v, getL ρ x = some v → ∃ val, RV base imm v val ∧ ReadsName f m cs fr x val
  cells : f.cmp = false → ∀ x c, f.env.cells.lookup x = some c → ∃ o v, (c, o) ∈ cs ∧ o.data = .cell v
  inj : f.cmp = false → ∀ x y c, f.env.cells.lookup x = some c → f.env.cells.lookup y = some c → x = y

theorem LocR.mono {base : Heap} {imm imm' : Led} {f : Fm} {ρ : Loc} {m : Str → Option Value} {cs fr : Led} (hs : ∀ p ∈ imm, p ∈ imm') (h : LocR base imm f ρ m cs fr) : LocR base imm' f ρ m cs fr :=
  ⟨fun x v e => let ⟨val, r, q⟩ := h.reads x v e; ⟨val, r.mono hs, q⟩, h.cells, h.inj⟩

noncomputable abbrev whole (mt cs imm fr fo : Led) : Led := mt ++ (cs ++ (imm ++ (fr ++ fo)))

structure RelAt (c : Cx) (f : Fm) (ρ : Loc) (st : St) (imm fr : Led) (h : Heap) (m : Str → Option Value) (mt cs fo : Led) : Prop where
  frm : Fr c.base f.L h m
  news : News c.base f.L h (whole mt cs imm fr fo)
  nodup : ((whole mt cs imm fr fo).map (·.1)).Nodup
  sto : StR c imm st mt
  fos : FoR f.frs fo
  loc : LocR c.base imm f ρ m cs fr

noncomputable def Rel (c : Cx) (f : Fm) (ρ : Loc) (st : St) (imm fr : Led) (s : Shared) : Prop :=
  (∃ h tk, s = { c.s₀ with heap := h, toks := tk }) ∧ ∃ m mt cs fo, RelAt c f ρ st imm fr s.heap m mt cs fo

section
variable {c : Cx} {f : Fm} {k : Nat} {ρ : Loc} {st : St} {imm fr : Led} {s : Shared} {h h' : Heap} {m : Str → Option Value} {mt cs fo : Led} {a : Addr} {o o' : Obj} {tk : Nat}

theorem RelAt.keeps (R : RelAt c f ρ st imm fr h m mt cs fo) (hk : ∀ b o, h.get? b = some o → h'.get? b = some o) : RelAt c f ρ st imm fr h' m mt cs fo :=
  ⟨R.frm.keeps hk, R.news.grown hk, R.nodup, R.sto, R.fos, R.loc⟩
theorem Rel.keeps (R : Rel c f ρ st imm fr s) (hk : ∀ b o, s.heap.get? b = some o → h'.get? b = some o) : Rel c f ρ st imm fr { s with heap := h', toks := tk } := by
  obtain ⟨⟨h0, tk0, rfl⟩, m, mt, cs, fo, r⟩ := R
  exact ⟨⟨h', tk, rfl⟩, m, mt, cs, fo, r.keeps hk⟩
theorem Rel.toks (R : Rel c f ρ st imm fr s) : Rel c f ρ st imm fr { s with toks := tk } := R.keeps (h' := s.heap) fun _ _ e => e
theorem RelAt.size (R : RelAt c f ρ st imm fr h m mt cs fo) : ∀ p ∈ whole mt cs imm fr fo, p.1 < h.objs.size := fun p hp => Heap.lt_size (R.news p hp).1
theorem RelAt.none (R : RelAt c f ρ st imm fr h m mt cs fo) : get st h.objs.size = none := by
  cases e : get st h.objs.size with
  | none => rfl
  | some o =>
    obtain ⟨co, hm, _⟩ := R.sto.get e
    exact absurd (R.size _ (List.mem_append_left _ hm)) (Nat.lt_irrefl _)

theorem newAt (F : Fr c.base f.L h m) (ho : o.isFreed = false) : (h.push o).get? h.objs.size = some o ∧ h.objs.size ≠ f.L ∧ c.base.get? h.objs.size = none := by
  refine ⟨Heap.get?_push_size _ ho, Nat.ne_of_gt F.ns.lt, ?_⟩
  cases hq : c.base.get? h.objs.size with
  | none => rfl
  | some o' => exact absurd (Heap.lt_size (F.keep _ _ hq)) (Nat.lt_irrefl _)

theorem nodup_ins {α β : Type} {l₁ l₂ : List (α × β)} {p : α × β} (h : ((l₁ ++ l₂).map (·.1)).Nodup) (hn : ∀ q ∈ l₁ ++ l₂, q.1 ≠ p.1) : ((l₁ ++ p :: l₂).map (·.1)).Nodup := by
  have e : ((l₁ ++ p :: l₂).map (·.1)).Perm ((p :: (l₁ ++ l₂)).map (·.1)) := List.Perm.map _ List.perm_middle
  refine e.nodup_iff.mpr ?_
  rw [List.map_cons, List.nodup_cons]
  refine ⟨fun hm => ?_, h⟩
  obtain ⟨q, hq, e⟩ := List.mem_map.mp hm
  exact hn q hq e

/-- one more object, anywhere in the ledger -/
theorem news_ins {l₁ l₂ : Led} (F : Fr c.base f.L h m) (N : News c.base f.L h (l₁ ++ l₂)) (nd : ((l₁ ++ l₂).map (·.1)).Nodup) (ho : o.isFreed = false) :
    News c.base f.L (h.push o) (l₁ ++ (h.objs.size, o) :: l₂) ∧ ((l₁ ++ (h.objs.size, o) :: l₂).map (·.1)).Nodup := by
  refine ⟨fun p hp => ?_, nodup_ins nd fun q hq => Nat.ne_of_lt (Heap.lt_size (N q hq).1)⟩
  have hp' : p = (h.objs.size, o) ∨ p ∈ l₁ ++ l₂ := by
    simp only [List.mem_append, List.mem_cons] at hp ⊢
    rcases hp with hp | hp | hp
    · exact .inr (.inl hp)
    · exact .inl hp
    · exact .inr (.inr hp)
  rcases hp' with rfl | hp'
  · exact newAt F ho
  · exact ⟨Heap.get?_push_of_some _ (N p hp').1, (N p hp').2⟩

theorem LocR.more {base : Heap} {p : Addr × Obj} (h : LocR base imm f ρ m cs fr) : LocR base imm f ρ m cs (p :: fr) := by
  refine ⟨fun x v e => ?_, h.cells, h.inj⟩
  obtain ⟨val, r, q⟩ := h.reads x v e
  refine ⟨val, r, ?_⟩
  rcases q with q | ⟨q1, c, o, q2, q3, q4⟩
  · exact .inl q
  · refine .inr ⟨q1, c, o, q2, ?_, q4⟩
    rcases List.mem_append.mp q3 with q3 | q3
    · exact List.mem_append_left _ q3
    · exact List.mem_append_right _ (.tail _ q3)
theorem LocR.other {base : Heap} {l₁ l₂ l₃ : Led} (h : LocR base imm f ρ m cs (l₁ ++ (a, o) :: l₂)) (hd : ∀ v, o.data ≠ .cell v) (hl : ∀ p, p ∈ l₁ ++ l₂ → p ∈ l₃) : LocR base imm f ρ m cs l₃ := by
  refine ⟨fun x v e => ?_, h.cells, h.inj⟩
  obtain ⟨val, r, q⟩ := h.reads x v e
  refine ⟨val, r, ?_⟩
  rcases q with q | ⟨q1, c, ob, q2, q3, q4⟩
  · exact .inl q
  · refine .inr ⟨q1, c, ob, q2, ?_, q4⟩
    rcases List.mem_append.mp q3 with q3 | q3
    · exact List.mem_append_left _ q3
    · refine List.mem_append_right _ (hl _ ?_)
      simp only [List.mem_append, List.mem_cons, Prod.mk.injEq] at q3 ⊢
      rcases q3 with q3 | ⟨_, q3⟩ | q3
      · exact .inl q3
      · exact absurd (q3 ▸ q4) (hd _)
      · exact .inr q3

theorem RelAt.pushImm (R : RelAt c f ρ st imm fr h m mt cs fo) (ho : o.isFreed = false) : RelAt c f ρ st ((h.objs.size, o) :: imm) fr (h.push o) m mt cs fo := by
  have hs : ∀ p ∈ imm, p ∈ (h.objs.size, o) :: imm := fun p hp => .tail _ hp
  have e : whole mt cs ((h.objs.size, o) :: imm) fr fo = (mt ++ cs) ++ (h.objs.size, o) :: (imm ++ (fr ++ fo)) := by simp
  have e' : whole mt cs imm fr fo = (mt ++ cs) ++ (imm ++ (fr ++ fo)) := by simp
  have z := news_ins R.frm (e' ▸ R.news) (e' ▸ R.nodup) ho
  exact ⟨R.frm.push _, e ▸ z.1, e ▸ z.2, R.sto.mono hs, R.fos, R.loc.mono hs⟩
theorem RelAt.pushSt (R : RelAt c f ρ st imm fr h m mt cs fo) {x : O} (ho : o.isFreed = false) (hr : RO c imm x o) : RelAt c f ρ ((h.objs.size, x) :: st) imm fr (h.push o) m ((h.objs.size, o) :: mt) cs fo := by
  have z := news_ins (l₁ := []) R.frm R.news R.nodup ho
  exact ⟨R.frm.push _, z.1, z.2, .cons hr R.sto, R.fos, R.loc⟩
theorem RelAt.pushFr (R : RelAt c f ρ st imm fr h m mt cs fo) (ho : o.isFreed = false) : RelAt c f ρ st imm ((h.objs.size, o) :: fr) (h.push o) m mt cs fo := by
  have e : whole mt cs imm ((h.objs.size, o) :: fr) fo = (mt ++ cs ++ imm) ++ (h.objs.size, o) :: (fr ++ fo) := by simp
  have e' : whole mt cs imm fr fo = (mt ++ cs ++ imm) ++ (fr ++ fo) := by simp
  have z := news_ins R.frm (e' ▸ R.news) (e' ▸ R.nodup) ho
  exact ⟨R.frm.push _, e ▸ z.1, e ▸ z.2, R.sto, R.fos, R.loc.more⟩

theorem Rel.pushImm (R : Rel c f ρ st imm fr s) (ho : o.isFreed = false := by rfl) : Rel c f ρ st ((s.heap.objs.size, o) :: imm) fr { s with heap := s.heap.push o, toks := tk } := by
  obtain ⟨⟨h0, tk0, rfl⟩, m, mt, cs, fo, r⟩ := R
  exact ⟨⟨_, tk, rfl⟩, m, mt, cs, fo, r.pushImm ho⟩
theorem Rel.pushSt (R : Rel c f ρ st imm fr s) {x : O} (hr : RO c imm x o) (ho : o.isFreed = false := by rfl) : Rel c f ρ ((s.heap.objs.size, x) :: st) imm fr { s with heap := s.heap.push o, toks := tk } := by
  obtain ⟨⟨h0, tk0, rfl⟩, m, mt, cs, fo, r⟩ := R
  exact ⟨⟨_, tk, rfl⟩, m, _, cs, fo, r.pushSt ho hr⟩
theorem Rel.pushFr (R : Rel c f ρ st imm fr s) (ho : o.isFreed = false := by rfl) : Rel c f ρ st imm ((s.heap.objs.size, o) :: fr) { s with heap := s.heap.push o, toks := tk } := by
  obtain ⟨⟨h0, tk0, rfl⟩, m, mt, cs, fo, r⟩ := R
  exact ⟨⟨_, tk, rfl⟩, m, mt, cs, fo, r.pushFr ho⟩
theorem Rel.none (R : Rel c f ρ st imm fr s) : get st s.heap.objs.size = none := by
  obtain ⟨_, m, mt, cs, fo, r⟩ := R
  exact r.none

theorem RelAt.get (R : RelAt c f ρ st imm fr h m mt cs fo) {x : O} (e : get st a = some x) : ∃ co, (a, co) ∈ mt ∧ RO c imm x co ∧ h.get? a = some co := by
  obtain ⟨co, hm, r⟩ := R.sto.get e
  exact ⟨co, hm, r, (R.news _ (List.mem_append_left _ hm)).1⟩
theorem StR.upd {imm : Led} {st : St} {mt : Led} (h : StR c imm st mt) {x : O} (hr : RO c imm x o) : StR c imm (upd st a x) (mt.map fun p => if p.1 = a then (a, o) else p) := by
  induction h with
  | nil => exact .nil
  | @cons b o' co st mt r _ ih =>
    simp only [Mine.upd, List.map_cons] at ih ⊢
    by_cases e : b = a
    · subst e; simp only [if_true]; exact .cons hr ih
    · simp only [if_neg e]; exact .cons r ih
theorem Fr.other (F : Fr c.base f.L h m) (hs : Heap.SameBut a h h') (hL : a ≠ f.L) (hn : c.base.get? a = none) : Fr c.base f.L h' m :=
  ⟨F.ns.sameBut hs (Ne.symm hL), fun b ob e => (hs.2 b (fun q => by rw [q, hn] at e; cases e)).trans (F.keep b ob e), F.above⟩
theorem RelAt.upd (R : RelAt c f ρ st imm fr h m mt cs fo) {x y : O} (e : Mine.get st a = some y) (hs : Heap.SameBut a h h') (ho : h'.get? a = some o) (hr : RO c imm x o) :
    RelAt c f ρ (upd st a x) imm fr h' m (mt.map fun p => if p.1 = a then (a, o) else p) cs fo := by
  obtain ⟨co, hm, _, hg⟩ := R.get e
  have hw := R.news _ (List.mem_append_left _ hm)
  have ne : ∀ p ∈ cs ++ (imm ++ (fr ++ fo)), p.1 ≠ a := fun p hp q => by
    have := R.nodup
    rw [List.map_append, List.nodup_append] at this
    exact this.2.2 a (List.mem_map_of_mem hm) p.1 (List.mem_map_of_mem hp) q.symm
  refine ⟨Fr.other R.frm hs hw.2.1 hw.2.2, ?_, ?_, R.sto.upd hr, R.fos, R.loc⟩
  · intro p hp
    rcases List.mem_append.mp hp with hp | hp
    · obtain ⟨q, hq, rfl⟩ := List.mem_map.mp hp
      by_cases e1 : q.1 = a
      · simp only [if_pos e1]; exact ⟨ho, hw.2⟩
      · simp only [if_neg e1]
        have z := R.news q (List.mem_append_left _ hq)
        exact ⟨(hs.2 _ e1).trans z.1, z.2⟩
    · have z := R.news p (List.mem_append_right _ hp)
      exact ⟨(hs.2 _ (ne p hp)).trans z.1, z.2⟩
  · have e1 : (mt.map fun p => if p.1 = a then (a, o) else p).map (·.1) = mt.map (·.1) := by
      rw [List.map_map]
      refine List.map_congr_left fun p _ => ?_
      simp only [Function.comp]
      split
      · rename_i q; exact q.symm
      · rfl
    have := R.nodup
    simp only [whole, List.map_append] at this ⊢
    rw [e1]; exact this
theorem Rel.upd (R : Rel c f ρ st imm fr s) {x y : O} (e : Mine.get st a = some y) (hs : Heap.SameBut a s.heap h') (ho : h'.get? a = some o) (hr : RO c imm x o) :
    Rel c f ρ (upd st a x) imm fr { s with heap := h', toks := tk } := by
  obtain ⟨⟨h0, tk0, rfl⟩, m, mt, cs, fo, r⟩ := R
  exact ⟨⟨_, tk, rfl⟩, m, _, cs, fo, r.upd e hs ho hr⟩
theorem Rel.get (R : Rel c f ρ st imm fr s) {x : O} (e : Mine.get st a = some x) : ∃ co, RO c imm x co ∧ s.heap.get? a = some co := by
  obtain ⟨_, m, mt, cs, fo, r⟩ := R
  obtain ⟨co, _, h1, h2⟩ := r.get e
  exact ⟨co, h1, h2⟩
theorem Rel.isList {vs : List V} (R : Rel c f ρ st imm fr s) (hg : Mine.get st a = some (.list vs)) : ∃ vals n, RVs c.base imm vs vals ∧ s.heap.get? a = some (listOf vals.toArray n) := by
  obtain ⟨co, hr, ho⟩ := R.get hg
  obtain ⟨vals, n, r, rfl⟩ := hr.listI
  exact ⟨vals, n, r, ho⟩
theorem Rel.inImm (R : Rel c f ρ st imm fr s) (hm : (a, o) ∈ imm) : s.heap.get? a = some o := by
  obtain ⟨_, m, mt, cs, fo, r⟩ := R
  exact (r.news (a, o) (by simp [hm])).1
theorem Rel.inFr (R : Rel c f ρ st imm fr s) (hm : (a, o) ∈ fr) : s.heap.get? a = some o := by
  obtain ⟨_, m, mt, cs, fo, r⟩ := R
  exact (r.news (a, o) (by simp [hm])).1
theorem Rel.keep (R : Rel c f ρ st imm fr s) : ∀ b o, c.base.get? b = some o → s.heap.get? b = some o := by
  obtain ⟨_, m, mt, cs, fo, r⟩ := R
  exact r.frm.keep
theorem Rel.kin (R : Rel c f ρ st imm fr s) (ok : f.Ok c k) : c.K.In s.heap := ok.kin.keeps R.keep
/-- one of the frame's own changes -/
theorem Rel.frSetAt (l₁ : Led) {l₂ : Led} (R : Rel c f ρ st imm (l₁ ++ (a, o) :: l₂) s) (hs : Heap.SameBut a s.heap h') (ho : h'.get? a = some o') (hd : ∀ v, o.data ≠ .cell v) : Rel c f ρ st imm (l₁ ++ (a, o') :: l₂) { s with heap := h', toks := tk } := by
  obtain ⟨⟨h0, tk0, rfl⟩, m, mt, cs, fo, r⟩ := R
  refine ⟨⟨_, tk, rfl⟩, m, mt, cs, fo, ?_⟩
  have hw := r.news (a, o) (by simp)
  have nd := r.nodup
  have e : whole mt cs imm (l₁ ++ (a, o) :: l₂) fo = (mt ++ cs ++ imm ++ l₁) ++ (a, o) :: (l₂ ++ fo) := by simp
  have e' : whole mt cs imm (l₁ ++ (a, o') :: l₂) fo = (mt ++ cs ++ imm ++ l₁) ++ (a, o') :: (l₂ ++ fo) := by simp
  rw [e] at nd
  have h1 : ∀ p ∈ mt ++ cs ++ imm ++ l₁, p.1 ≠ a := fun p hp q => by
    rw [List.map_append, List.nodup_append] at nd
    exact nd.2.2 p.1 (List.mem_map_of_mem hp) a (by simp) q
  have h2 : ∀ p ∈ l₂ ++ fo, p.1 ≠ a := fun p hp q => by
    rw [List.map_append, List.nodup_append, List.map_cons, List.nodup_cons] at nd
    exact nd.2.1.1 (List.mem_map.mpr ⟨p, hp, q⟩)
  refine ⟨Fr.other r.frm hs hw.2.1 hw.2.2, ?_, ?_, r.sto, r.fos, r.loc.other hd ?_⟩
  · rw [e']
    have := r.news
    rw [e] at this
    exact News.setAt this h1 h2 hs ho
  · rw [e']; simp only [List.map_append, List.map_cons] at nd ⊢; exact nd
  · intro p hp
    simp only [List.mem_append, List.mem_cons] at hp ⊢
    rcases hp with hp | hp
    · exact .inl hp
    · exact .inr (.inr hp)
theorem Rel.frSet (R : Rel c f ρ st imm ((a, o) :: fr) s) (hs : Heap.SameBut a s.heap h') (ho : h'.get? a = some o') (hd : ∀ v, o.data ≠ .cell v) : Rel c f ρ st imm ((a, o') :: fr) { s with heap := h', toks := tk } := Rel.frSetAt [] R hs ho hd
/-- one of the frame's own is forgotten; it may change at that -/
theorem Rel.frEndAt (l₁ : Led) {l₂ : Led} (R : Rel c f ρ st imm (l₁ ++ (a, o) :: l₂) s) (hs : Heap.ExtBut a s.heap h') (hd : ∀ v, o.data ≠ .cell v) : Rel c f ρ st imm (l₁ ++ l₂) { s with heap := h', toks := tk } := by
  obtain ⟨⟨h0, tk0, rfl⟩, m, mt, cs, fo, r⟩ := R
  have hw := r.news (a, o) (by simp)
  have nd := r.nodup
  have e : whole mt cs imm (l₁ ++ (a, o) :: l₂) fo = (mt ++ cs ++ imm ++ l₁) ++ (a, o) :: (l₂ ++ fo) := by simp
  have e' : whole mt cs imm (l₁ ++ l₂) fo = (mt ++ cs ++ imm ++ l₁) ++ (l₂ ++ fo) := by simp
  rw [e, List.map_append, List.nodup_append, List.map_cons, List.nodup_cons] at nd
  have ne : ∀ p ∈ whole mt cs imm (l₁ ++ l₂) fo, p.1 ≠ a := fun p hp q => by
    rw [e'] at hp
    rcases List.mem_append.mp hp with hp | hp
    · exact nd.2.2 p.1 (List.mem_map_of_mem hp) a (by simp) q
    · exact nd.2.1.1 (List.mem_map.mpr ⟨p, hp, q⟩)
  have sub : ∀ p ∈ whole mt cs imm (l₁ ++ l₂) fo, p ∈ whole mt cs imm (l₁ ++ (a, o) :: l₂) fo := fun p hp => by
    rw [e'] at hp
    rw [e]
    rcases List.mem_append.mp hp with hp | hp
    · exact List.mem_append_left _ hp
    · exact List.mem_append_right _ (.tail _ hp)
  refine ⟨⟨_, tk, rfl⟩, m, mt, cs, fo, ⟨r.frm.ns.at' fun ob q => hs _ _ (fun q' => hw.2.1 q'.symm) q, fun b ob q => hs b ob (fun q' => by rw [q', hw.2.2] at q; cases q) (r.frm.keep b ob q), r.frm.above⟩, fun p hp => ?_, ?_, r.sto, r.fos, r.loc.other hd fun p hp => hp⟩
  · have z := r.news p (sub p hp)
    exact ⟨hs _ _ (ne p hp) z.1, z.2⟩
  · rw [e', List.map_append, List.nodup_append]
    exact ⟨nd.1, nd.2.1.2, fun x hx y hy => nd.2.2 x hx y (.tail _ hy)⟩
theorem Rel.frEnd (R : Rel c f ρ st imm ((a, o) :: fr) s) (hs : Heap.ExtBut a s.heap h') (hd : ∀ v, o.data ≠ .cell v) : Rel c f ρ st imm fr { s with heap := h', toks := tk } := Rel.frEndAt [] R hs hd
/-- one of the frame's own becomes an object of the store -/
theorem Rel.frSt {x : O} (R : Rel c f ρ st imm ((a, o) :: fr) s) (hd : ∀ v, o.data ≠ .cell v) (hr : RO c imm x o) : Rel c f ρ ((a, x) :: st) imm fr s ∧ Mine.get st a = Option.none := by
  obtain ⟨hs, m, mt, cs, fo, r⟩ := R
  have e : whole mt cs imm ((a, o) :: fr) fo = (mt ++ cs ++ imm) ++ (a, o) :: (fr ++ fo) := by simp
  have perm : (whole ((a, o) :: mt) cs imm fr fo).Perm (whole mt cs imm ((a, o) :: fr) fo) := by
    rw [e, show whole ((a, o) :: mt) cs imm fr fo = (a, o) :: ((mt ++ cs ++ imm) ++ (fr ++ fo)) by simp]
    exact List.perm_middle.symm
  have nd := (perm.map (·.1)).nodup_iff.mpr r.nodup
  refine ⟨⟨hs, m, (a, o) :: mt, cs, fo, r.frm, fun p hp => r.news p (perm.mem_iff.mp hp), nd, .cons hr r.sto, r.fos, LocR.other (l₁ := []) r.loc hd fun p hp => hp⟩, ?_⟩
  cases q : Mine.get st a with
  | none => rfl
  | some y =>
    obtain ⟨co, hm, _⟩ := r.sto.get q
    rw [show whole ((a, o) :: mt) cs imm fr fo = (a, o) :: whole mt cs imm fr fo from rfl, List.map_cons, List.nodup_cons] at nd
    exact absurd (List.mem_map.mpr ⟨(a, co), List.mem_append_left _ hm, rfl⟩) nd.1
end

/-- an exception's own objects; its entry's flight mark -/
inductive ExcL (e C : Addr) : Option Value → Led → Prop
  | made {oe : Obj} {vs : Array Value} {a0 : Value} (h1 : oe.cls = .ref C) (h2 : oe.data = .fields vs) (h3 : vs[1]? = some .none) (h4 : vs[0]? = some a0) : ExcL e C none [(e, oe)]
  | traced {oe oT : Obj} {vs ts : Array Value} {a0 fl : Value} {T : Addr} (h1 : oe.cls = .ref C) (h2 : oe.data = .fields vs) (h3 : vs[1]? = some (.ref T)) (h4 : vs[0]? = some a0) (h5 : oT.data = .fields ts) (h6 : ts[3]? = some fl) : ExcL e C (some fl) [(e, oe), (T, oT)]
/-- how far it is -/
noncomputable def MarkOk (f : Fm) (mk : Option Value) : Prop := mk = none ∨ mk = some .none ∨ ∃ L, f.fenv.frame = some L ∧ mk = some (rawInt L)
/-- what was thrown -/
noncomputable def Thrown (c : Cx) (f : Fm) (imm fr : Led) (X : Addr → Loc → St → Prop) (ev : Value) (s : Shared) : Prop :=
  ∃ e C mk E ρ st imm', ev = .ref e ∧ ExcL e C mk E ∧ MarkOk f mk ∧ (∀ p ∈ imm, p ∈ imm') ∧ Rel c f ρ st imm' (E ++ fr) s ∧ X C ρ st
theorem Thrown.mono {c : Cx} {f : Fm} {imm imm' fr : Led} {X : Addr → Loc → St → Prop} {ev : Value} {s : Shared} (hs : ∀ p ∈ imm, p ∈ imm') (h : Thrown c f imm' fr X ev s) : Thrown c f imm fr X ev s :=
  by obtain ⟨e, C, mk, E, ρ, st, imm'', a, b, d, i, r⟩ := h; exact ⟨e, C, mk, E, ρ, st, imm'', a, b, d, fun p hp => i p (hs p hp), r⟩
theorem Thrown.never {c : Cx} {f : Fm} {imm fr : Led} {ev : Value} {s : Shared} (h : Thrown c f imm fr (fun _ _ _ => False) ev s) : False :=
  by obtain ⟨_, _, _, _, _, _, _, _, _, _, _, _, h⟩ := h; exact h

noncomputable def PostE (c : Cx) (f : Fm) (ρ : Loc) (imm fr : Led) (Q : V → St → Prop) (val : Value) (s : Shared) : Prop :=
  ∃ v st imm', (∀ p ∈ imm, p ∈ imm') ∧ RV c.base imm' v val ∧ Rel c f ρ st imm' fr s ∧ Q v st
theorem PostE.mono {c : Cx} {f : Fm} {ρ : Loc} {imm imm' fr : Led} {Q : V → St → Prop} {val : Value} {s : Shared} (hs : ∀ p ∈ imm, p ∈ imm') (h : PostE c f ρ imm' fr Q val s) : PostE c f ρ imm fr Q val s :=
  let ⟨v, st, imm'', a, r⟩ := h; ⟨v, st, imm'', fun p hp => a p (hs p hp), r⟩

noncomputable abbrev Xp := Addr → Loc → St → Prop

/-- an expression -/
structure WPE (c : Cx) (k : Nat) (sc : Scope) (ρ : Loc) (st : St) (e : Expr) (Q : V → St → Prop) (X : Xp) : Prop where
  go : ∀ f imm fr s, f.Ok c k → f.env.scope = sc → Rel c f ρ st imm fr s →
    wpAny c.M f.A (eval e f.env) (PostE c f ρ imm fr Q) (Thrown c f imm fr X) s

/-- one value in, one out -/
structure W1 (c : Cx) (k : Nat) (t : Value → Sem Value) (a : V) (ρ : Loc) (st : St) (Q : V → St → Prop) (X : Xp) : Prop where
  go : ∀ f imm fr s x, f.Ok c k → Rel c f ρ st imm fr s → RV c.base imm a x → wpAny c.M f.A (t x) (PostE c f ρ imm fr Q) (Thrown c f imm fr X) s
/-- two values in, one out -/
structure W2 (c : Cx) (k : Nat) (t : Value → Value → Sem Value) (a b : V) (ρ : Loc) (st : St) (Q : V → St → Prop) (X : Xp) : Prop where
  go : ∀ f imm fr s x y, f.Ok c k → Rel c f ρ st imm fr s → RV c.base imm a x → RV c.base imm b y → wpAny c.M f.A (t x y) (PostE c f ρ imm fr Q) (Thrown c f imm fr X) s
/-- some values in, one out -/
structure WL (c : Cx) (k : Nat) (t : List Value → Sem Value) (as : List V) (ρ : Loc) (st : St) (Q : V → St → Prop) (X : Xp) : Prop where
  go : ∀ f imm fr s xs, f.Ok c k → Rel c f ρ st imm fr s → RVs c.base imm as xs → wpAny c.M f.A (t xs) (PostE c f ρ imm fr Q) (Thrown c f imm fr X) s
end Mine
namespace Mine
/-- two ways, by a bool -/
noncomputable def cnd (b : Bool) (p q : Prop) : Prop := match b with
  | true => p
  | false => q
theorem cnd_t {p q : Prop} (h : p) : cnd true p q := h
theorem cnd_f {p q : Prop} (h : q) : cnd false p q := h
theorem of_t {p q : Prop} (h : cnd true p q) : p := h
theorem of_f {p q : Prop} (h : cnd false p q) : q := h
theorem cnd_is {b : Bool} {p q : Prop} (b' : Bool) (e : b = b') (h : cnd b' p q) : cnd b p q := e ▸ h
theorem cnd_cases {b : Bool} {p q : Prop} (h1 : b = true → p) (h2 : b = false → q) : cnd b p q := by
  cases b with
  | true => exact h1 rfl
  | false => exact h2 rfl

section
variable {c : Cx} {k : Nat} {sc : Scope} {ρ : Loc} {st : St} {Q : V → St → Prop} {X : Xp} {f : Fm} {imm fr : Led} {s : Shared} {tk : Nat}

theorem PostE.of {v : V} {x : Value} (hr : RV c.base imm v x) (R : Rel c f ρ st imm fr s) (h : Q v st) : PostE c f ρ imm fr Q x s := ⟨v, st, imm, fun _ h => h, hr, R, h⟩
theorem PostE.int {i : Int} {t : Tok} (R : Rel c f ρ st imm fr s) (h : Q (.int i) st) : PostE c f ρ imm fr Q (.int i t) { s with toks := tk } := .of (.int i t) R.toks h
theorem PostE.bool {b : Bool} (R : Rel c f ρ st imm fr s) (h : Q (.bool b) st) : PostE c f ρ imm fr Q (.bool b) s := .of (.bool b) R h
theorem PostE.none (R : Rel c f ρ st imm fr s) (h : Q .none st) : PostE c f ρ imm fr Q .none s := .of .none R h
theorem PostE.str {x : Str} {t : Tok} (R : Rel c f ρ st imm fr s) (h : Q (.str x) st) : PostE c f ρ imm fr Q (.str x t) { s with toks := tk } := .of (.str x t) R.toks h

theorem Rel.ns (R : Rel c f ρ st imm fr s) : ∃ m, Fr c.base f.L s.heap m := by
  obtain ⟨_, m, mt, cs, fo, r⟩ := R; exact ⟨m, r.frm⟩

/-- a name of the frame's -/
theorem WPE.nm {x : Str} {pos : Pos} {v : V} (e : getL ρ x = some v) (h : Q v st) (hd : (x == ("__debug__" : Str)) = false := by decide) (hn : (x == ("__classdict__" : Str)) = false := by decide) : WPE c k sc ρ st (.Name x pos) Q X := by
  refine ⟨fun f imm fr s ok hsc R => ?_⟩
  obtain ⟨hr, m, mt, cs, fo, r⟩ := id R
  obtain ⟨val, rv, q⟩ := r.loc.reads x v e
  refine wpAny_Name ?_ hd
  have P : PostE c f ρ imm fr Q val s := .of rv R h
  rcases q with ⟨q1, q2, q3⟩ | ⟨q1, cc, o, q2, q3, q4⟩
  · exact wpAny_loadName_local ok.ekind q1 (q2 ▸ r.frm.ns) q3 P
  · have hc : s.heap.get? cc = some o := (r.news (cc, o) (by
      simp only [List.mem_append] at q3 ⊢
      rcases q3 with q3 | q3
      · exact .inr (.inl q3)
      · exact .inr (.inr (.inr (.inl q3))))).1
    rcases q1 with q1 | q1
    · exact wpAny_loadName_cell ok.ekind q1 q2 ⟨o, hc, q4⟩ P
    · exact wpAny_loadName_free ok.ekind q1 q2 ⟨o, hc, q4⟩ P hn

theorem WPE.glob {x : Str} {pos : Pos} {v : V} {val : Value} (hx : sc.names.lookup x = some .globalImplicit) (e : nsIn c.K mainGlobals x = some (some val)) (hv : ∀ base imm, RV base imm v val) (h : Q v st)
    (hd : (x == ("__debug__" : Str)) = false := by decide) : WPE c k sc ρ st (.Name x pos) Q X := by
  refine ⟨fun f imm fr s ok hsc R => ?_⟩
  obtain ⟨m, F⟩ := R.ns
  have T := topRead_of ok.top
  exact Name_function_global ok.ekind (by unfold Env.kindOf; rw [hsc]; exact hx) (loadGlobal_global (env := f.env) (ok.eglob ▸ T.g.keeps F.keep) (mg_of ok.kin T.g e) (.of (hv _ _) R h)) hd
theorem WPE.blt {x : Str} {pos : Pos} {val : Value} (hx : sc.names.lookup x = some .globalImplicit) (e : nsIn c.K mainGlobals x = some none) (hv : bootBuiltins x = some val) (h : Q (.stat val) st)
    (hn : x ≠ "__name__" := by decide) (hd : (x == ("__debug__" : Str)) = false := by decide) : WPE c k sc ρ st (.Name x pos) Q X := by
  refine ⟨fun f imm fr s ok hsc R => ?_⟩
  obtain ⟨m, F⟩ := R.ns
  have T := topRead_of ok.top
  exact Name_function_global ok.ekind (by unfold Env.kindOf; rw [hsc]; exact hx) (loadGlobal_builtin (env := f.env) (ok.eglob ▸ T.g.keeps F.keep) (mg_none_of ok.kin T.g e) (ok.ebi ▸ T.b.keeps F.keep) ((T.builtins x hn).trans hv) (.of (.stat val) R h)) hd

theorem WPE.cint {i : Int} {n : Nat} {pos : Pos} (h : Q (.int i) st) : WPE c k sc ρ st (.Constant (.int i) n pos) Q X := ⟨fun _ _ _ _ _ _ R => wpAny_Constant_int (.int R h)⟩
theorem WPE.cbool {b : Bool} {n : Nat} {pos : Pos} (h : Q (.bool b) st) : WPE c k sc ρ st (.Constant (.bool b) n pos) Q X := ⟨fun _ _ _ _ _ _ R => wpAny_Constant_bool (.bool R h)⟩
theorem WPE.cnone {n : Nat} {pos : Pos} (h : Q .none st) : WPE c k sc ρ st (.Constant .none n pos) Q X := ⟨fun _ _ _ _ _ _ R => wpAny_Constant_none (.none R h)⟩

theorem WPE.bin {l r : Expr} {op : Operator} {pos : Pos} (h : WPE c k sc ρ st l (fun a st₁ => WPE c k sc ρ st₁ r (fun b st₂ => W2 c k (binaryOp op) a b ρ st₂ Q X) X) X) : WPE c k sc ρ st (.BinOp l op r pos) Q X := by
  refine ⟨fun f imm fr s ok hsc R => ?_⟩
  refine wpAny_BinOp (wpAny_mono (h.go f imm fr s ok hsc R) (fun x s₁ p => ?_) fun _ _ t => t)
  obtain ⟨a, st₁, imm₁, i₁, ra, R₁, h₁⟩ := p
  refine wpAny_mono (h₁.go f imm₁ fr s₁ ok hsc R₁) (fun y s₂ p => ?_) fun _ _ t => t.mono i₁
  obtain ⟨b, st₂, imm₂, i₂, rb, R₂, h₂⟩ := p
  exact wpAny_mono (h₂.go f imm₂ fr s₂ x y ok R₂ (ra.mono i₂) rb) (fun _ _ p => p.mono fun q hq => i₂ q (i₁ q hq)) fun _ _ t => t.mono fun q hq => i₂ q (i₁ q hq)
theorem WPE.un {e : Expr} {op : UnaryOp} {pos : Pos} (h : WPE c k sc ρ st e (fun a st₁ => W1 c k (unaryOp op) a ρ st₁ Q X) X) : WPE c k sc ρ st (.UnaryOp op e pos) Q X := by
  refine ⟨fun f imm fr s ok hsc R => ?_⟩
  refine wpAny_UnaryOp (wpAny_mono (h.go f imm fr s ok hsc R) (fun x s₁ p => ?_) fun _ _ t => t)
  obtain ⟨a, st₁, imm₁, i₁, ra, R₁, h₁⟩ := p
  exact wpAny_mono (h₁.go f imm₁ fr s₁ x ok R₁ ra) (fun _ _ p => p.mono i₁) fun _ _ t => t.mono i₁
theorem WPE.cmp {l r : Expr} {op : CmpOp} {pos : Pos} (h : WPE c k sc ρ st l (fun a st₁ => WPE c k sc ρ st₁ r (fun b st₂ => W2 c k (compareOp op) a b ρ st₂ Q X) X) X) (hm : behindInMarks op r = false := by rfl) : WPE c k sc ρ st (.Compare l [op] [r] pos) Q X := by
  refine ⟨fun f imm fr s ok hsc R => ?_⟩
  refine wpAny_Compare1 (wpAny_mono (h.go f imm fr s ok hsc R) (fun x s₁ p => ?_) fun _ _ t => t) hm
  obtain ⟨a, st₁, imm₁, i₁, ra, R₁, h₁⟩ := p
  refine wpAny_mono (h₁.go f imm₁ fr s₁ ok hsc R₁) (fun y s₂ p => ?_) fun _ _ t => t.mono i₁
  obtain ⟨b, st₂, imm₂, i₂, rb, R₂, h₂⟩ := p
  exact wpAny_mono (h₂.go f imm₂ fr s₂ x y ok R₂ (ra.mono i₂) rb) (fun _ _ p => p.mono fun q hq => i₂ q (i₁ q hq)) fun _ _ t => t.mono fun q hq => i₂ q (i₁ q hq)

theorem WPE.cstr {x : Str} {n : Nat} {pos : Pos} (h : Q (.str x) st) : WPE c k sc ρ st (.Constant (.str x) n pos) Q X := ⟨fun _ _ _ _ _ _ R => wpAny_Constant_str (.str R h)⟩

/-- ints -/
theorem W2.addI {a b : Int} (h : Q (.int (a + b)) st) : W2 c k (binaryOp .Add) (.int a) (.int b) ρ st Q X := by
  refine ⟨fun f imm fr s x y ok R ra rb => ?_⟩
  obtain ⟨_, rfl⟩ := ra.intI
  obtain ⟨_, rfl⟩ := rb.intI
  exact add_int (.int R h)
theorem W2.subI {a b : Int} (h : Q (.int (a - b)) st) : W2 c k (binaryOp .Sub) (.int a) (.int b) ρ st Q X := by
  refine ⟨fun f imm fr s x y ok R ra rb => ?_⟩
  obtain ⟨_, rfl⟩ := ra.intI
  obtain ⟨_, rfl⟩ := rb.intI
  exact sub_int (.int R h)
theorem W2.mulI {a b : Int} (hm : IntMulOk a b) (h : Q (.int (a * b)) st) : W2 c k (binaryOp .Mult) (.int a) (.int b) ρ st Q X := by
  refine ⟨fun f imm fr s x y ok R ra rb => ?_⟩
  obtain ⟨_, rfl⟩ := ra.intI
  obtain ⟨_, rfl⟩ := rb.intI
  exact mul_int (.int R h) hm
theorem W2.modI {a b : Int} (hb : b ≠ 0) (h : Q (.int (a.fmod b)) st) : W2 c k (binaryOp .Mod) (.int a) (.int b) ρ st Q X := by
  refine ⟨fun f imm fr s x y ok R ra rb => ?_⟩
  obtain ⟨_, rfl⟩ := ra.intI
  obtain ⟨_, rfl⟩ := rb.intI
  exact mod_int' hb (.int R h)
theorem W2.divI {a b : Int} (hb : b ≠ 0) (hs : b.natAbs < 1073741824) (h : Q (.int (a.fdiv b)) st) : W2 c k (binaryOp .FloorDiv) (.int a) (.int b) ρ st Q X := by
  refine ⟨fun f imm fr s x y ok R ra rb => ?_⟩
  obtain ⟨_, rfl⟩ := ra.intI
  obtain ⟨_, rfl⟩ := rb.intI
  exact floordiv_int hb (.int R h) (.inl (PyProof.noPylong_small hs))
theorem W1.negI {a : Int} (h : Q (.int (-a)) st) : W1 c k (unaryOp .USub) (.int a) ρ st Q X := by
  refine ⟨fun f imm fr s x ok R ra => ?_⟩
  obtain ⟨_, rfl⟩ := ra.intI
  exact neg_int (.int R h)
theorem W2.eqI {a b : Int} (h : Q (.bool (a == b)) st) : W2 c k (compareOp .Eq) (.int a) (.int b) ρ st Q X := by
  refine ⟨fun f imm fr s x y ok R ra rb => ?_⟩
  obtain ⟨_, rfl⟩ := ra.intI
  obtain ⟨_, rfl⟩ := rb.intI
  exact eq_int (.bool R h)
theorem W2.neI {a b : Int} (h : Q (.bool (a != b)) st) : W2 c k (compareOp .NotEq) (.int a) (.int b) ρ st Q X := by
  refine ⟨fun f imm fr s x y ok R ra rb => ?_⟩
  obtain ⟨_, rfl⟩ := ra.intI
  obtain ⟨_, rfl⟩ := rb.intI
  exact ne_int (.bool R h)
theorem W2.ltI {a b : Int} (h : Q (.bool (decide (a < b))) st) : W2 c k (compareOp .Lt) (.int a) (.int b) ρ st Q X := by
  refine ⟨fun f imm fr s x y ok R ra rb => ?_⟩
  obtain ⟨_, rfl⟩ := ra.intI
  obtain ⟨_, rfl⟩ := rb.intI
  exact lt_int (.bool R h)
theorem W2.leI {a b : Int} (h : Q (.bool (decide (a ≤ b))) st) : W2 c k (compareOp .LtE) (.int a) (.int b) ρ st Q X := by
  refine ⟨fun f imm fr s x y ok R ra rb => ?_⟩
  obtain ⟨_, rfl⟩ := ra.intI
  obtain ⟨_, rfl⟩ := rb.intI
  exact le_int (.bool R h)
theorem W2.gtI {a b : Int} (h : Q (.bool (decide (b < a))) st) : W2 c k (compareOp .Gt) (.int a) (.int b) ρ st Q X := by
  refine ⟨fun f imm fr s x y ok R ra rb => ?_⟩
  obtain ⟨_, rfl⟩ := ra.intI
  obtain ⟨_, rfl⟩ := rb.intI
  exact gt_int (.bool R h)
theorem W2.geI {a b : Int} (h : Q (.bool (decide (b ≤ a))) st) : W2 c k (compareOp .GtE) (.int a) (.int b) ρ st Q X := by
  refine ⟨fun f imm fr s x y ok R ra rb => ?_⟩
  obtain ⟨_, rfl⟩ := ra.intI
  obtain ⟨_, rfl⟩ := rb.intI
  exact ge_int (.bool R h)
theorem W2.eqS {a b : Str} (h : Q (.bool (a == b)) st) : W2 c k (compareOp .Eq) (.str a) (.str b) ρ st Q X := by
  refine ⟨fun f imm fr s x y ok R ra rb => ?_⟩
  obtain ⟨_, rfl⟩ := ra.strI
  obtain ⟨_, rfl⟩ := rb.strI
  exact PyProof.Rows.eq_str (.bool R h)


/-- is: a value that is no int, no text, no object of two -/
noncomputable def isOk : V → V → Bool
  | .none, .none => true
  | .none, .bool _ => true
  | .none, .int _ => true
  | .none, .str _ => true
  | .none, .tup _ => true
  | .none, .ref _ => true
  | .bool _, .none => true
  | .bool _, .bool _ => true
  | .int _, .none => true
  | .int _, .bool _ => true
  | .str _, .none => true
  | .str _, .bool _ => true
  | .tup _, .none => true
  | .tup _, .bool _ => true
  | .ref _, .none => true
  | .ref _, .bool _ => true
  | _, _ => false
noncomputable def isSameV : V → V → Bool
  | .none, .none => true
  | .bool a, .bool b => a == b
  | _, _ => false
theorem is_plain {base : Heap} {imm : Led} {a b : V} {x y : Value} (ra : RV base imm a x) (rb : RV base imm b y) (ho : isOk a b = true) : plainIs x y = true ∧ (x == y) = isSameV a b := by
  cases ra <;> cases rb <;> first | (exact ⟨rfl, rfl⟩) | (cases ho; done) | (rename_i a b; cases a <;> cases b <;> exact ⟨rfl, rfl⟩)
theorem W2.isNot {a b : V} (ho : isOk a b = true) (h : Q (.bool (!isSameV a b)) st) : W2 c k (compareOp .IsNot) a b ρ st Q X := by
  refine ⟨fun f imm fr s x y ok R ra rb => ?_⟩
  have q := is_plain ra rb ho
  exact wpAny_isNot_plain q.1 (.bool R (q.2 ▸ h))

noncomputable def isNoneV : V → Bool
  | .none => true
  | _ => false
theorem isN_plain {base : Heap} {imm : Led} {a : V} {x : Value} (ra : RV base imm a x) (ho : isOk a .none = true) : plainIs x .none = true ∧ (x == .none) = isNoneV a := by
  cases ra <;> first | exact ⟨rfl, rfl⟩ | cases ho
theorem W2.isN {a : V} (ho : isOk a .none = true) (h : Q (.bool (isNoneV a)) st) : W2 c k (compareOp .Is) a .none ρ st Q X := by
  refine ⟨fun f imm fr s x y ok R ra rb => ?_⟩
  obtain rfl := rb.noneI
  have q := isN_plain ra ho
  exact wpAny_is_plain q.1 (.bool R (q.2 ▸ h))
/-! truth -/
noncomputable def PostB (c : Cx) (f : Fm) (ρ : Loc) (imm fr : Led) (Q : Bool → St → Prop) (b : Bool) (s : Shared) : Prop :=
  ∃ st imm', (∀ p ∈ imm, p ∈ imm') ∧ Rel c f ρ st imm' fr s ∧ Q b st
theorem PostB.mono {imm' : Led} {Q : Bool → St → Prop} {b : Bool} (hs : ∀ p ∈ imm, p ∈ imm') (h : PostB c f ρ imm' fr Q b s) : PostB c f ρ imm fr Q b s :=
  let ⟨st, imm'', a, r⟩ := h; ⟨st, imm'', fun p hp => a p (hs p hp), r⟩
structure WPB (c : Cx) (k : Nat) (sc : Scope) (ρ : Loc) (st : St) (e : Expr) (Q : Bool → St → Prop) (X : Xp) : Prop where
  go : ∀ f imm fr s, f.Ok c k → f.env.scope = sc → Rel c f ρ st imm fr s →
    wpAny c.M f.A (isTrue e f.env (eval e f.env)) (PostB c f ρ imm fr Q) (Thrown c f imm fr X) s
/-- and, or: the rest of them -/
structure WPAll (c : Cx) (k : Nat) (sc : Scope) (op : BoolOp) (ρ : Loc) (st : St) (es : List Expr) (Q : Bool → St → Prop) (X : Xp) : Prop where
  go : ∀ f imm fr s, f.Ok c k → f.env.scope = sc → Rel c f ρ st imm fr s →
    wpAny c.M f.A (allTrue op es f.env) (PostB c f ρ imm fr Q) (Thrown c f imm fr X) s
variable {B : Bool → St → Prop}

theorem WPB.val {e : Expr} (h : WPE c k sc ρ st e (fun v st₁ => ∃ b, v = .bool b ∧ B b st₁) X)
    (he : ∀ env whole, isTrue e env whole = (do let v ← whole; standAt e.pos; holding [v] (truthy v)) := by intro _ _; rfl) : WPB c k sc ρ st e B X := by
  refine ⟨fun f imm fr s ok hsc R => ?_⟩
  refine wpAny_isTrue_value (wpAny_mono (h.go f imm fr s ok hsc R) (fun x s₁ p => ?_) fun _ _ t => t) (he _ _)
  obtain ⟨v, st₁, imm₁, i₁, rv, R₁, b, rfl, h₁⟩ := p
  obtain rfl := rv.boolI
  exact wpAny_truthy_bool ⟨st₁, imm₁, i₁, R₁, h₁⟩
theorem WPB.not {e : Expr} {pos : Pos} (h : WPB c k sc ρ st e (fun b st₁ => cnd b (B false st₁) (B true st₁)) X) : WPB c k sc ρ st (.UnaryOp .Not e pos) B X := by
  refine ⟨fun f imm fr s ok hsc R => ?_⟩
  refine wpAny_isTrue_Not (wpAny_mono (h.go f imm fr s ok hsc R) (fun b s₁ p => ?_) fun _ _ t => t)
  obtain ⟨st₁, imm₁, i₁, R₁, h₁⟩ := p
  cases b with
  | true => exact ⟨st₁, imm₁, i₁, R₁, of_t h₁⟩
  | false => exact ⟨st₁, imm₁, i₁, R₁, of_f h₁⟩
theorem WPB.cmp {l r : Expr} {op : CmpOp} {pos : Pos} (h : WPE c k sc ρ st l (fun a st₁ => WPE c k sc ρ st₁ r (fun b st₂ => W2 c k (compareOp op) a b ρ st₂ (fun v st₃ => ∃ b, v = .bool b ∧ B b st₃) X) X) X) (hm : behindInMarks op r = false := by rfl) : WPB c k sc ρ st (.Compare l [op] [r] pos) B X := by
  refine ⟨fun f imm fr s ok hsc R => ?_⟩
  refine wpAny_isTrue_Compare1 (wpAny_mono (h.go f imm fr s ok hsc R) (fun x s₁ p => ?_) fun _ _ t => t) hm
  obtain ⟨a, st₁, imm₁, i₁, ra, R₁, h₁⟩ := p
  refine wpAny_mono (h₁.go f imm₁ fr s₁ ok hsc R₁) (fun y s₂ p => ?_) fun _ _ t => t.mono i₁
  obtain ⟨b, st₂, imm₂, i₂, rb, R₂, h₂⟩ := p
  refine wpAny_mono (h₂.go f imm₂ fr s₂ x y ok R₂ (ra.mono i₂) rb) (fun z s₃ p => ?_) fun _ _ t => t.mono fun q hq => i₂ q (i₁ q hq)
  obtain ⟨v, st₃, imm₃, i₃, rv, R₃, b, rfl, h₃⟩ := p
  obtain rfl := rv.boolI
  exact wpAny_truthy_bool ⟨st₃, imm₃, fun q hq => i₃ q (i₂ q (i₁ q hq)), R₃, h₃⟩
theorem WPB.op {op : BoolOp} {es : List Expr} {pos : Pos} (h : WPAll c k sc op ρ st es B X) : WPB c k sc ρ st (.BoolOp op es pos) B X := ⟨fun f imm fr s ok hsc R => wpAny_isTrue_BoolOp (h.go f imm fr s ok hsc R)⟩
theorem WPAll.and {e : Expr} {es : List Expr} (h : WPB c k sc ρ st e (fun b st₁ => cnd b (WPAll c k sc .And ρ st₁ es B X) (B false st₁)) X) : WPAll c k sc .And ρ st (e :: es) B X := by
  refine ⟨fun f imm fr s ok hsc R => ?_⟩
  refine wpAny_allTrue_And_cons (wpAny_mono (h.go f imm fr s ok hsc R) (fun b s₁ p => ?_) fun _ _ t => t)
  obtain ⟨st₁, imm₁, i₁, R₁, h₁⟩ := p
  cases b with
  | true => exact wpAny_mono ((of_t h₁).go f imm₁ fr s₁ ok hsc R₁) (fun _ _ p => p.mono i₁) fun _ _ t => t.mono i₁
  | false => exact ⟨st₁, imm₁, i₁, R₁, h₁⟩
theorem WPAll.or {e : Expr} {es : List Expr} (h : WPB c k sc ρ st e (fun b st₁ => cnd b (B true st₁) (WPAll c k sc .Or ρ st₁ es B X)) X) : WPAll c k sc .Or ρ st (e :: es) B X := by
  refine ⟨fun f imm fr s ok hsc R => ?_⟩
  refine wpAny_allTrue_Or_cons (wpAny_mono (h.go f imm fr s ok hsc R) (fun b s₁ p => ?_) fun _ _ t => t)
  obtain ⟨st₁, imm₁, i₁, R₁, h₁⟩ := p
  cases b with
  | false => exact wpAny_mono ((of_f h₁).go f imm₁ fr s₁ ok hsc R₁) (fun _ _ p => p.mono i₁) fun _ _ t => t.mono i₁
  | true => exact ⟨st₁, imm₁, i₁, R₁, h₁⟩
theorem WPAll.andNil (h : B true st) : WPAll c k sc .And ρ st [] B X := ⟨fun f imm fr s ok hsc R => wpAny_allTrue_And_nil ⟨st, imm, fun _ h => h, R, h⟩⟩
theorem WPAll.orNil (h : B false st) : WPAll c k sc .Or ρ st [] B X := ⟨fun f imm fr s ok hsc R => wpAny_allTrue_Or_nil ⟨st, imm, fun _ h => h, R, h⟩⟩
/-! and, or, if as values -/
theorem WPE.ife {t b o : Expr} {pos : Pos} (h : WPB c k sc ρ st t (fun v st₁ => cnd v (WPE c k sc ρ st₁ b Q X) (WPE c k sc ρ st₁ o Q X)) X) : WPE c k sc ρ st (.IfExp t b o pos) Q X := by
  refine ⟨fun f imm fr s ok hsc R => ?_⟩
  refine wpAny_IfExp (wpAny_mono (h.go f imm fr s ok hsc R) (fun b s₁ p => ?_) fun _ _ t => t)
  obtain ⟨st₁, imm₁, i₁, R₁, h₁⟩ := p
  cases b with
  | false => exact wpAny_mono ((of_f h₁).go f imm₁ fr s₁ ok hsc R₁) (fun _ _ p => p.mono i₁) fun _ _ t => t.mono i₁
  | true => exact wpAny_mono ((of_t h₁).go f imm₁ fr s₁ ok hsc R₁) (fun _ _ p => p.mono i₁) fun _ _ t => t.mono i₁
theorem WPE.not {e : Expr} {pos : Pos} (h : WPE c k sc ρ st e (fun v st₁ => ∃ b, v = .bool b ∧ cnd b (Q (.bool false) st₁) (Q (.bool true) st₁)) X) : WPE c k sc ρ st (.UnaryOp .Not e pos) Q X := by
  refine ⟨fun f imm fr s ok hsc R => ?_⟩
  refine wpAny_UnaryOp (wpAny_mono (h.go f imm fr s ok hsc R) (fun x s₁ p => ?_) fun _ _ t => t)
  obtain ⟨v, st₁, imm₁, i₁, rv, R₁, b, rfl, h₁⟩ := p
  obtain rfl := rv.boolI
  cases b with
  | true => exact not_of (wpAny_truthy_bool (PostE.mono i₁ (.bool R₁ (of_t h₁))))
  | false => exact not_of (wpAny_truthy_bool (PostE.mono i₁ (.bool R₁ (of_f h₁))))
theorem boolOp_one {M : Model} {A : Around} {E : Value → Shared → Prop} {x : Sem Value} {pos : Pos} {op : BoolOp} {P : Value → Shared → Prop} (h : wpAny M A x P E s) : wpAny M A (boolOp pos op [x]) P E s := h
theorem boolOp_more {M : Model} {A : Around} {E : Value → Shared → Prop} {x y : Sem Value} {r : List (Sem Value)} {pos : Pos} {op : BoolOp} {P : Value → Shared → Prop}
    (h : wpAny M A x (fun v s₁ => wpAny M A (truthy v) (fun t s₂ => match op, t with | .And, false | .Or, true => P v s₂ | _, _ => wpAny M A (boolOp pos op (y :: r)) P E s₂) E s₁) E s) : wpAny M A (boolOp pos op (x :: y :: r)) P E s := by
  show wpAny M A (do
    let v ← x
    standAt pos
    let t ← holding [v] (truthy v)
    match op, t with
    | .And, false | .Or, true => pure v
    | _, _ => boolOp pos op (y :: r)) P E s
  refine wpAny_bind (wpAny_mono h (fun v s₁ h₁ => wpAny_bind (wpAny_standAt (wpAny_bind (wpAny_holding (wpAny_mono h₁ (fun t s₂ h₂ => ?_) fun _ _ x => x))))) fun _ _ x => x)
  cases op <;> cases t <;> first | exact wpAny_pure h₂ | exact h₂
theorem WPE.opOne {op : BoolOp} {e : Expr} {pos : Pos} (h : WPE c k sc ρ st e Q X) : WPE c k sc ρ st (.BoolOp op [e] pos) Q X := ⟨fun f imm fr s ok hsc R => boolOp_one (h.go f imm fr s ok hsc R)⟩
theorem WPE.and {e e' : Expr} {es : List Expr} {pos : Pos} (h : WPE c k sc ρ st e (fun v st₁ => ∃ b, v = .bool b ∧ cnd b (WPE c k sc ρ st₁ (.BoolOp .And (e' :: es) pos) Q X) (Q (.bool false) st₁)) X) : WPE c k sc ρ st (.BoolOp .And (e :: e' :: es) pos) Q X := by
  refine ⟨fun f imm fr s ok hsc R => ?_⟩
  refine boolOp_more (wpAny_mono (h.go f imm fr s ok hsc R) (fun x s₁ p => ?_) fun _ _ t => t)
  obtain ⟨v, st₁, imm₁, i₁, rv, R₁, b, rfl, h₁⟩ := p
  obtain rfl := rv.boolI
  refine wpAny_truthy_bool ?_
  cases b with
  | true => exact wpAny_mono ((of_t h₁).go f imm₁ fr s₁ ok hsc R₁) (fun _ _ p => p.mono i₁) fun _ _ t => t.mono i₁
  | false => exact PostE.mono i₁ (.bool R₁ h₁)
theorem WPE.cmp2 {l r₁ r₂ : Expr} {op₁ op₂ : CmpOp} {pos : Pos} (h : WPE c k sc ρ st l (fun a st₁ => WPE c k sc ρ st₁ r₁ (fun b st₂ => W2 c k (compareOp op₁) a b ρ st₂ (fun v st₃ => ∃ t, v = .bool t ∧ cnd t (WPE c k sc ρ st₃ r₂ (fun d st₄ => W2 c k (compareOp op₂) b d ρ st₄ Q X) X) (Q (.bool false) st₃)) X) X) X)
    (hm : lastMarks [op₁, op₂] [r₁, r₂] = false := by rfl) : WPE c k sc ρ st (.Compare l [op₁, op₂] [r₁, r₂] pos) Q X := by
  refine ⟨fun f imm fr s ok hsc R => ?_⟩
  refine Compare_chain (wpAny_mono (h.go f imm fr s ok hsc R) (fun x s₁ p => ?_) fun _ _ t => t) hm
  obtain ⟨a, st₁, imm₁, i₁, ra, R₁, h₁⟩ := p
  refine chain_link (wpAny_mono (h₁.go f imm₁ fr s₁ ok hsc R₁) (fun y s₂ p => ?_) fun _ _ t => t.mono i₁)
  obtain ⟨b, st₂, imm₂, i₂, rb, R₂, h₂⟩ := p
  refine wpAny_mono (h₂.go f imm₂ fr s₂ x y ok R₂ (ra.mono i₂) rb) (fun z s₃ p => ?_) fun _ _ t => t.mono fun q hq => i₂ q (i₁ q hq)
  obtain ⟨v, st₃, imm₃, i₃, rv, R₃, t, rfl, h₃⟩ := p
  obtain rfl := rv.boolI
  refine wpAny_truthy_bool ?_
  have i₁₃ : ∀ p ∈ imm, p ∈ imm₃ := fun q hq => i₃ q (i₂ q (i₁ q hq))
  cases t with
  | false => exact PostE.mono i₁₃ (.bool R₃ h₃)
  | true =>
    refine chain_last (wpAny_mono ((of_t h₃).go f imm₃ fr s₃ ok hsc R₃) (fun u s₄ p => ?_) fun _ _ t => t.mono i₁₃)
    obtain ⟨d, st₄, imm₄, i₄, rd, R₄, h₄⟩ := p
    exact wpAny_mono (h₄.go f imm₄ fr s₄ y u ok R₄ ((rb.mono i₃).mono i₄) rd) (fun _ _ p => p.mono fun q hq => i₄ q (i₁₃ q hq)) fun _ _ t => t.mono fun q hq => i₄ q (i₁₃ q hq)
end
end Mine
namespace Mine
inductive Fl where
  | next | brk | cont
  | ret (v : V)
/-- on, or out -/
noncomputable def nxt (fl : Fl) (p q : Prop) : Prop := match fl with
  | .next => p
  | _ => q
theorem nxt_next {p q : Prop} (h : p) : nxt .next p q := h
theorem nxt_ret {v : V} {p q : Prop} (h : q) : nxt (.ret v) p q := h
inductive RFl (base : Heap) (imm : Led) : Fl → Flow → Prop
  | next : RFl base imm .next .next
  | brk : RFl base imm .brk .brk
  | cont : RFl base imm .cont .cont
  | ret {v : V} {x : Value} : RV base imm v x → RFl base imm (.ret v) (.ret x)

noncomputable def PostS (c : Cx) (f : Fm) (imm fr : Led) (Q : Fl → Loc → St → Prop) (fl : Flow) (s : Shared) : Prop :=
  ∃ fl' ρ st imm', (∀ p ∈ imm, p ∈ imm') ∧ RFl c.base imm' fl' fl ∧ Rel c f ρ st imm' fr s ∧ Q fl' ρ st
theorem PostS.mono {c : Cx} {f : Fm} {imm imm' fr : Led} {Q : Fl → Loc → St → Prop} {fl : Flow} {s : Shared} (hs : ∀ p ∈ imm, p ∈ imm') (h : PostS c f imm' fr Q fl s) : PostS c f imm fr Q fl s :=
  let ⟨v, ρ, st, imm'', a, r⟩ := h; ⟨v, ρ, st, imm'', fun p hp => a p (hs p hp), r⟩

/-- a function's own block -/
structure Fm.Own (f : Fm) : Prop where
  same : f.env = f.fenv
  locals : f.env.locals = f.L
  cmp : f.cmp = false

/-- statements -/
structure WPS (c : Cx) (k : Nat) (sc : Scope) (ρ : Loc) (st : St) (ss : List Stmt) (Q : Fl → Loc → St → Prop) (X : Xp) : Prop where
  go : ∀ f imm fr s, f.Ok c k → f.env.scope = sc → f.Own → Rel c f ρ st imm fr s →
    wpAny c.M f.A (execs ss f.env) (PostS c f imm fr Q) (Thrown c f imm fr X) s
/-- one statement -/
structure WPs (c : Cx) (k : Nat) (sc : Scope) (ρ : Loc) (st : St) (ss : Stmt) (Q : Fl → Loc → St → Prop) (X : Xp) : Prop where
  go : ∀ f imm fr s, f.Ok c k → f.env.scope = sc → f.Own → Rel c f ρ st imm fr s →
    wpAny c.M f.A (exec ss f.env) (PostS c f imm fr Q) (Thrown c f imm fr X) s
/-- expressions, one behind the other -/
noncomputable def PostL (c : Cx) (f : Fm) (ρ : Loc) (imm fr : Led) (n : Nat) (Q : List V → St → Prop) (xs : List Value) (s : Shared) : Prop :=
  ∃ vs st imm', (∀ p ∈ imm, p ∈ imm') ∧ RVs c.base imm' vs xs ∧ Rel c f ρ st imm' fr s ∧ vs.length = n ∧ Q vs st
structure WPEs (c : Cx) (k : Nat) (sc : Scope) (ρ : Loc) (st : St) (es : List Expr) (Q : List V → St → Prop) (X : Xp) : Prop where
  go : ∀ f imm fr s pos, f.Ok c k → f.env.scope = sc → Rel c f ρ st imm fr s →
    wpAny c.M f.A (spliced (backTo pos (starEach es f.env))) (PostL c f ρ imm fr es.length Q) (Thrown c f imm fr X) s

section
variable {c : Cx} {k : Nat} {sc : Scope} {ρ : Loc} {st : St} {Q : V → St → Prop} {S : Fl → Loc → St → Prop} {X : Xp} {f : Fm} {imm fr : Led} {s : Shared} {tk : Nat}

theorem PostS.next (R : Rel c f ρ st imm fr s) (h : S .next ρ st) : PostS c f imm fr S .next s := ⟨.next, ρ, st, imm, fun _ h => h, .next, R, h⟩

theorem WPS.nil (h : S .next ρ st) : WPS c k sc ρ st [] S X := ⟨fun f imm fr s ok hsc own R => wpAny_execs_nil (.next R h)⟩
theorem WPS.cons {t : Stmt} {ts : List Stmt} (h : WPs c k sc ρ st t (fun fl ρ₁ st₁ => nxt fl (WPS c k sc ρ₁ st₁ ts S X) (S fl ρ₁ st₁)) X) : WPS c k sc ρ st (t :: ts) S X := by
  refine ⟨fun f imm fr s ok hsc own R => ?_⟩
  refine wpAny_execs_cons (wpAny_mono (h.go f imm fr s ok hsc own R) (fun fl s₁ p => ?_) fun _ _ t => t)
  obtain ⟨fl', ρ₁, st₁, imm₁, i₁, rf, R₁, h₁⟩ := p
  cases rf with
  | next => exact wpAny_mono ((show WPS c k sc ρ₁ st₁ ts S X from h₁).go f imm₁ fr s₁ ok hsc own R₁) (fun _ _ p => p.mono i₁) fun _ _ t => t.mono i₁
  | brk => exact ⟨.brk, ρ₁, st₁, imm₁, i₁, .brk, R₁, h₁⟩
  | cont => exact ⟨.cont, ρ₁, st₁, imm₁, i₁, .cont, R₁, h₁⟩
  | ret r => exact ⟨_, ρ₁, st₁, imm₁, i₁, .ret r, R₁, h₁⟩

theorem WPs.ret {e : Expr} {pos : Pos} (h : WPE c k sc ρ st e (fun v st₁ => S (.ret v) ρ st₁) X) : WPs c k sc ρ st (.Return (some e) pos) S X := by
  refine ⟨fun f imm fr s ok hsc own R => ?_⟩
  refine wpAny_Return_some (wpAny_mono (h.go f imm fr s ok hsc R) (fun x s₁ p => ?_) fun _ _ t => t)
  obtain ⟨v, st₁, imm₁, i₁, rv, R₁, h₁⟩ := p
  exact ⟨.ret v, ρ, st₁, imm₁, i₁, .ret rv, R₁, h₁⟩
theorem WPs.ifs {e : Expr} {b o : List Stmt} {pos : Pos} (h : WPB c k sc ρ st e (fun v st₁ => cnd v (WPS c k sc ρ st₁ b S X) (WPS c k sc ρ st₁ o S X)) X) : WPs c k sc ρ st (.If e b o pos) S X := by
  refine ⟨fun f imm fr s ok hsc own R => ?_⟩
  refine wpAny_If (wpAny_mono (h.go f imm fr s ok hsc R) (fun b s₁ p => ?_) fun _ _ t => t)
  obtain ⟨st₁, imm₁, i₁, R₁, h₁⟩ := p
  cases b with
  | false => exact wpAny_mono ((of_f h₁).go f imm₁ fr s₁ ok hsc own R₁) (fun _ _ p => p.mono i₁) fun _ _ t => t.mono i₁
  | true => exact wpAny_mono ((of_t h₁).go f imm₁ fr s₁ ok hsc own R₁) (fun _ _ p => p.mono i₁) fun _ _ t => t.mono i₁
theorem WPs.expr {e : Expr} {pos : Pos} (h : WPE c k sc ρ st e (fun _ st₁ => S .next ρ st₁) X) (hs : ∀ env, swapsWith e none pos.line env = pure false := by intro _; rfl) : WPs c k sc ρ st (.Expr e pos) S X := by
  refine ⟨fun f imm fr s ok hsc own R => ?_⟩
  refine wpAny_Expr_any (wpAny_mono (h.go f imm fr s ok hsc R) (fun x s₁ p => ?_) fun _ _ t => t) ?_ (hs _)
  · obtain ⟨v, st₁, imm₁, i₁, rv, R₁, h₁⟩ := p
    exact ⟨.next, ρ, st₁, imm₁, i₁, .next, R₁, h₁⟩
  · unfold interactive; rw [ok.ekind]; rfl

/-! storing a name -/
theorem getL_set_reads {base : Heap} {f : Fm} {m : Str → Option Value} {cs : Led} {x : Str} {v : V} {val : Value} (L : LocR base imm f ρ m cs fr) (hl : f.env.kindOf x = some .local) (own : f.env.locals = f.L) (rv : RV base imm v val) :
    LocR base imm f (setL ρ x v) (fun y => if y = x then some val else m y) cs fr := by
  refine ⟨fun y u e => ?_, L.cells, L.inj⟩
  rw [getL_setL] at e
  by_cases h : y = x
  · subst h
    rw [if_pos rfl] at e
    cases e
    exact ⟨val, rv, .inl ⟨hl, own, by simp⟩⟩
  · rw [if_neg h] at e
    obtain ⟨w, rw', q⟩ := L.reads y u e
    refine ⟨w, rw', ?_⟩
    rcases q with ⟨q1, q2, q3⟩ | q
    · exact .inl ⟨q1, q2, by simpa [h] using q3⟩
    · exact .inr q
theorem store_local {x : Str} {v : V} {val : Value} {P : Unit → Shared → Prop} {E : Value → Shared → Prop} (ok : f.Ok c k) (own : f.env.locals = f.L) (R : Rel c f ρ st imm fr s) (hx : f.env.kindOf x = some .local) (rv : RV c.base imm v val)
    (h : ∀ s', Rel c f (setL ρ x v) st imm fr s' → P () s') : wpAny c.M f.A (storeName f.env x val) P E s := by
  obtain ⟨⟨h0, tk0, rfl⟩, m, mt, cs, fo, r⟩ := R
  refine wpAny_storeName_local hx (own ▸ r.frm.ns) (fun h' hn hs => h _ ⟨⟨h', _, rfl⟩, (fun y => if y = x then some val else m y), mt, cs, fo, ?_⟩) (by rw [ok.ekind]; rfl)
  rw [own] at hn hs
  exact ⟨r.frm.set hn hs, r.news.set hs, r.nodup, r.sto, r.fos, getL_set_reads r.loc hx own rv⟩
theorem store_cell {x : Str} {v : V} {val : Value} {P : Unit → Shared → Prop} {E : Value → Shared → Prop} {cc : Addr} (ok : f.Ok c k) (own : f.Own) (R : Rel c f ρ st imm fr s) (hx : f.env.kindOf x = some .cell) (hc : f.env.cells.lookup x = some cc) (rv : RV c.base imm v val)
    (h : ∀ s', Rel c f (setL ρ x v) st imm fr s' → P () s') : wpAny c.M f.A (storeName f.env x val) P E s := by
  obtain ⟨⟨h0, tk0, rfl⟩, m, mt, cs, fo, r⟩ := R
  obtain ⟨o, v₀, hm, hd⟩ := r.loc.cells own.cmp x cc hc
  have hw := r.news (cc, o) (by simp [hm])
  refine wpAny_storeName_cell ok.ekind hx hc ⟨o, hw.1, hd⟩ fun h' hv hs => ?_
  obtain ⟨o', ho', hd'⟩ := hv
  obtain ⟨c1, c2, rfl⟩ := List.append_of_mem hm
  have e : whole mt (c1 ++ (cc, o) :: c2) imm fr fo = (mt ++ c1) ++ (cc, o) :: (c2 ++ (imm ++ (fr ++ fo))) := by simp
  have e' : whole mt (c1 ++ (cc, o') :: c2) imm fr fo = (mt ++ c1) ++ (cc, o') :: (c2 ++ (imm ++ (fr ++ fo))) := by simp
  have nd := r.nodup
  rw [e] at nd
  have h1 : ∀ p ∈ mt ++ c1, p.1 ≠ cc := fun p hp q => by
    rw [List.map_append, List.nodup_append] at nd
    exact nd.2.2 p.1 (List.mem_map_of_mem hp) cc (by simp) q
  have h2 : ∀ p ∈ c2 ++ (imm ++ (fr ++ fo)), p.1 ≠ cc := fun p hp q => by
    rw [List.map_append, List.nodup_append, List.map_cons, List.nodup_cons] at nd
    exact nd.2.1.1 (List.mem_map.mpr ⟨p, hp, q⟩)
  have hne : ∀ b ob, (b, ob) ∈ c1 ++ (cc, o) :: c2 → b ≠ cc → (b, ob) ∈ c1 ++ (cc, o') :: c2 := fun b ob hb n => by
    simp only [List.mem_append, List.mem_cons, Prod.mk.injEq] at hb ⊢
    rcases hb with hb | ⟨hb, _⟩ | hb
    · exact .inl hb
    · exact absurd hb n
    · exact .inr (.inr hb)
  refine h _ ⟨⟨h', _, rfl⟩, m, mt, c1 ++ (cc, o') :: c2, fo, Fr.other r.frm hs hw.2.1 hw.2.2, ?_, ?_, r.sto, r.fos, ?_⟩
  · rw [e']
    have := r.news
    rw [e] at this
    exact News.setAt this h1 h2 hs ho'
  · rw [e']; simp only [List.map_append, List.map_cons] at nd ⊢; exact nd
  · refine ⟨fun y u q => ?_, fun _ y cy q => ?_, r.loc.inj⟩
    · rw [getL_setL] at q
      by_cases hy : y = x
      · subst hy
        rw [if_pos rfl] at q
        cases q
        exact ⟨val, rv, .inr ⟨.inl hx, cc, o', hc, by simp, hd'⟩⟩
      · rw [if_neg hy] at q
        obtain ⟨w, rw', z⟩ := r.loc.reads y u q
        refine ⟨w, rw', ?_⟩
        rcases z with z | ⟨z1, c', oc, z2, z3, z4⟩
        · exact .inl z
        · refine .inr ⟨z1, c', oc, z2, ?_, z4⟩
          rcases List.mem_append.mp z3 with z3 | z3
          · exact List.mem_append_left _ (hne _ _ z3 fun e => hy (r.loc.inj own.cmp y x cc (e ▸ z2) hc))
          · exact List.mem_append_right _ z3
    · obtain ⟨oy, vy, z1, z2⟩ := r.loc.cells own.cmp y cy q
      by_cases e : cy = cc
      · subst e; exact ⟨o', _, by simp, hd'⟩
      · exact ⟨oy, vy, hne _ _ z1 e, z2⟩
/-- any name that the frame stores -/
noncomputable def storesB (sc : Scope) (x : Str) : Bool := match sc.names.lookup x with | some .local | some .cell => true | _ => false
theorem store {x : Str} {v : V} {val : Value} {P : Unit → Shared → Prop} {E : Value → Shared → Prop} (ok : f.Ok c k) (own : f.Own) (R : Rel c f ρ st imm fr s) (hx : storesB f.env.scope x = true) (rv : RV c.base imm v val)
    (h : ∀ s', Rel c f (setL ρ x v) st imm fr s' → P () s') : wpAny c.M f.A (storeName f.env x val) P E s := by
  unfold storesB at hx
  cases hk : f.env.scope.names.lookup x with
  | none => rw [hk] at hx; cases hx
  | some kd =>
    rw [hk] at hx
    cases kd <;> first | (cases hx; done) | (exact store_local ok own.locals R hk rv h) | skip
    obtain ⟨cc, hcc⟩ := ok.ecell x hk
    exact store_cell ok own R hk hcc rv h

theorem WPs.asg {x : Str} {e : Expr} {np pos : Pos} (h : WPE c k sc ρ st e (fun v st₁ => S .next (setL ρ x v) st₁) X) (hx : storesB sc x = true := by rfl)
    (hs : ∀ env, swapsWith e (some (.Name x np)) pos.line env = pure false := by intro _; rfl) : WPs c k sc ρ st (.Assign [.Name x np] e pos) S X := by
  refine ⟨fun f imm fr s ok hsc own R => ?_⟩
  refine wpAny_Assign_Name (wpAny_mono (h.go f imm fr s ok hsc R) (fun val s₁ p => ?_) fun _ _ t => t) (hs _)
  obtain ⟨v, st₁, imm₁, i₁, rv, R₁, h₁⟩ := p
  exact store ok own R₁ (hsc ▸ hx) rv fun s' R' => ⟨.next, _, st₁, imm₁, i₁, .next, R', h₁⟩

/-! tuples and lists made -/
theorem WPEs.nil {P : List V → St → Prop} (h : P [] st) : WPEs c k sc ρ st [] P X := ⟨fun f imm fr s pos ok hsc R => spliced_none ⟨[], st, imm, fun _ h => h, .nil, R, rfl, h⟩⟩
theorem WPEs.cons {e : Expr} {es : List Expr} {P : List V → St → Prop} (h : WPE c k sc ρ st e (fun v st₁ => WPEs c k sc ρ st₁ es (fun vs st₂ => P (v :: vs) st₂) X) X)
    (he : ∀ env, starEach (e :: es) env = (false, eval e env) :: starEach es env := by intro _; rfl) : WPEs c k sc ρ st (e :: es) P X := by
  refine ⟨fun f imm fr s pos ok hsc R => ?_⟩
  refine spliced_more (wpAny_mono (h.go f imm fr s ok hsc R) (fun x s₁ p => ?_) fun _ _ t => t) (he _)
  obtain ⟨v, st₁, imm₁, i₁, rv, R₁, h₁⟩ := p
  refine wpAny_mono (h₁.go f imm₁ fr s₁ pos ok hsc R₁) (fun xs s₂ p => ?_) fun _ _ t => t.mono i₁
  obtain ⟨vs, st₂, imm₂, i₂, rvs, R₂, hn, h₂⟩ := p
  exact ⟨v :: vs, st₂, imm₂, fun q hq => i₂ q (i₁ q hq), .cons (rv.mono i₂) rvs, R₂, by simp [hn], h₂⟩
theorem WPE.tup {es : List Expr} {n : Nat} {pos : Pos} (h : WPEs c k sc ρ st es (fun vs st₁ => Q (.tup vs) st₁) X) (hl : es.length ≤ sizeLine := by decide) : WPE c k sc ρ st (.Tuple es n pos) Q X := by
  refine ⟨fun f imm fr s ok hsc R => ?_⟩
  refine wpAny_Tuple (wpAny_mono (h.go f imm fr s pos ok hsc R) (fun xs s₁ p => ?_) fun _ _ t => t)
  obtain ⟨vs, st₁, imm₁, i₁, rvs, R₁, hn, h₁⟩ := p
  have hs : ∀ p ∈ imm₁, p ∈ (s₁.heap.objs.size, tupObj xs 0) :: imm₁ := fun p hp => .tail _ hp
  exact ⟨by rw [rvs.length, hn]; exact hl, _, st₁, _, fun q hq => hs q (i₁ q hq), .tup (.head _) (rvs.mono hs), R₁.pushImm (tk := s₁.toks), h₁⟩
theorem WPE.lst {es : List Expr} {pos : Pos} (h : WPEs c k sc ρ st es (fun vs st₁ => ∀ a, get st₁ a = none → Q (.ref a) ((a, .list vs) :: st₁)) X) (hl : es.length ≤ sizeLine := by decide) : WPE c k sc ρ st (.List es pos) Q X := by
  refine ⟨fun f imm fr s ok hsc R => ?_⟩
  refine wpAny_List (wpAny_mono (h.go f imm fr s pos ok hsc R) (fun xs s₁ p => ?_) fun _ _ t => t)
  obtain ⟨vs, st₁, imm₁, i₁, rvs, R₁, hn, h₁⟩ := p
  exact ⟨by rw [rvs.length, hn]; exact hl, _, _, _, i₁, .ref _, R₁.pushSt (tk := s₁.toks) (.list rvs), h₁ _ R₁.none⟩
end
end Mine
namespace Mine
section
variable {c : Cx} {k : Nat} {f : Fm} {ρ : Loc} {st : St} {imm fr : Led} {s : Shared} {h h' : Heap} {m : Str → Option Value} {mt cs fo : Led} {e C : Addr} {E : Led} {mk : Option Value} {X : Xp} {tk : Nat}

theorem nodupc {l : List Nat} (h : ∀ a, l.count a ≤ 1) : l.Nodup := List.nodup_iff_count.mpr h
theorem ExcL.fields (x : ExcL e C mk E) : ∀ p ∈ E, ∃ vs, p.2.data = .fields vs := by
  intro p hp
  cases x with
  | made h1 h2 h3 h4 => simp at hp; subst hp; exact ⟨_, h2⟩
  | traced h1 h2 h3 h4 h5 h6 =>
    simp at hp
    rcases hp with rfl | rfl
    · exact ⟨_, h2⟩
    · exact ⟨_, h5⟩
theorem LocR.exc {base : Heap} {E E' : Led} (hE : ∀ p ∈ E, ∃ vs, p.2.data = .fields vs) (l : LocR base imm f ρ m cs (E ++ fr)) : LocR base imm f ρ m cs (E' ++ fr) := by
  refine ⟨fun x v q => ?_, l.cells, l.inj⟩
  obtain ⟨val, r, z⟩ := l.reads x v q
  refine ⟨val, r, ?_⟩
  rcases z with z | ⟨z1, cc, o, z2, z3, z4⟩
  · exact .inl z
  · refine .inr ⟨z1, cc, o, z2, ?_, z4⟩
    simp only [List.mem_append] at z3 ⊢
    rcases z3 with z3 | z3 | z3
    · exact .inl z3
    · obtain ⟨vs, q⟩ := hE _ z3
      rw [z4] at q; cases q
    · exact .inr (.inr z3)
theorem FoR.slots {frs : List (Addr × (Str → Option Value))} (hf : FoR frs fo) (hk : ∀ p ∈ fo, h.get? p.1 = some p.2) (u : h.UpToSlots h') : ∃ fo', FoR frs fo' ∧ fo'.map (·.1) = fo.map (·.1) ∧ ∀ p ∈ fo', h'.get? p.1 = some p.2 ∧ ∀ vs, p.2.data ≠ .fields vs := by
  induction hf with
  | nil => exact ⟨[], .nil, rfl, fun p hp => nomatch hp⟩
  | @cons L m o fs fo no _ ih =>
    obtain ⟨fo', h1, h2, h3⟩ := ih fun p hp => hk p (.tail _ hp)
    obtain ⟨es, ep, n1, n2, n3⟩ := no
    have nf : ∀ vs, o.data ≠ .fields vs := fun vs q => by rw [n1] at q; cases q
    obtain ⟨sl, hs⟩ := u L o (hk (L, o) (.head _)) nf
    refine ⟨(L, { o with slots := sl }) :: fo', .cons ⟨es, ep, n1, n2, n3⟩ h1, by simp [h2], fun p hp => ?_⟩
    rcases List.mem_cons.mp hp with rfl | hp
    · exact ⟨hs, nf⟩
    · exact h3 p hp
/-- the addresses of the frames -/
theorem env_in (ok : f.Ok c k) (R : RelAt c f ρ st imm fr h m mt cs fo) {b : Addr} (hb : b ∈ (f.fenv :: f.outer).filterMap (·.frame)) : b = f.L ∨ ∃ o, (b, o) ∈ fo := by
  obtain ⟨env, he, hf⟩ := List.mem_filterMap.mp hb
  obtain ⟨_, L, hL, hq⟩ := ok.envs env he
  rw [hL] at hf
  cases hf
  rcases hq with rfl | ⟨m', hm⟩
  · exact .inl rfl
  · right
    have : ∀ {frs : List (Addr × (Str → Option Value))} {fo : Led}, FoR frs fo → (b, m') ∈ frs → ∃ o, (b, o) ∈ fo := by
      intro frs fo hf
      induction hf with
      | nil => intro q; cases q
      | cons no _ ih =>
        intro q
        rcases List.mem_cons.mp q with q | q
        · cases q; exact ⟨_, .head _⟩
        · obtain ⟨o, ho⟩ := ih q; exact ⟨o, .tail _ ho⟩
    exact this R.fos hm
noncomputable abbrev hid (f : Fm) (E : Led) (h : Heap) : Heap := hideAll h ((f.fenv :: f.outer).filterMap (·.frame) ++ E.map (·.1))
theorem funs (ok : f.Ok c k) (R : RelAt c f ρ st imm (E ++ fr) h m mt cs fo) : h.FunFrames (hid f E h) (f.fenv :: f.outer) := by
  have go : ∀ l : List Env, (∀ env ∈ l, env ∈ f.fenv :: f.outer) → h.FunFrames (hid f E h) l := by
    intro l
    induction l with
    | nil => intro _; exact trivial
    | cons env l ih =>
      intro hin
      obtain ⟨hk, L, hL, hq⟩ := ok.envs env (hin env (.head _))
      have hb : L ∈ (f.fenv :: f.outer).filterMap (·.frame) := List.mem_filterMap.mpr ⟨env, hin env (.head _), hL⟩
      refine ⟨by rw [hk]; decide, ?_, ih fun x hx => hin x (.tail _ hx)⟩
      rcases env_in ok R hb with rfl | ⟨o, ho⟩
      · obtain ⟨o, es, ep, h1, h2, _⟩ := R.frm.ns
        exact ⟨f.L, o, hL, hideAll_none _ (List.mem_append_left _ hb), h1, fun vs q => by rw [h2] at q; cases q⟩
      · have nf : ∀ {frs : List (Addr × (Str → Option Value))} {fo : Led}, FoR frs fo → (L, o) ∈ fo → ∀ vs, o.data ≠ .fields vs := by
          intro frs fo hf
          induction hf with
          | nil => intro q; cases q
          | cons no _ ih =>
            intro q
            rcases List.mem_cons.mp q with q | q
            · cases q
              obtain ⟨es, ep, n1, _⟩ := no
              intro vs z; rw [n1] at z; cases z
            · exact ih q
        exact ⟨L, o, hL, hideAll_none _ (List.mem_append_left _ hb), (R.news (L, o) (by simp [ho])).1, nf R.fos ho⟩
  exact go _ fun _ h => h

/-- the heap behind a note -/
theorem relNoted (ok : f.Ok c k) {e T : Addr} {oe oT : Obj} {vs ts : Array Value} (hE : ∀ p ∈ E, ∃ vs, p.2.data = .fields vs) (he : ∃ o, (e, o) ∈ E) (R : Rel c f ρ st imm (E ++ fr) s) (hk : (hid f E s.heap).StaysIn h') (u : s.heap.UpToSlots h')
    (ge : h'.get? e = some oe) (de : oe.data = .fields vs) (gT : h'.get? T = some oT) (dT : oT.data = .fields ts) (nT : (hid f E s.heap).get? T = none) (hTe : T ≠ e) : Rel c f ρ st imm ([(e, oe), (T, oT)] ++ fr) { s with heap := h', toks := tk } := by
  obtain ⟨⟨h0, tk0, rfl⟩, m, mt, cs, fo, r⟩ := R
  dsimp only at r hk u nT
  obtain ⟨oe0, he0⟩ := he
  have nd := List.nodup_iff_count.mp r.nodup
  have hfo : ∀ p ∈ fo, h0.get? p.1 = some p.2 := fun p hp => (r.news p (by simp [hp])).1
  obtain ⟨fo', f1, f2, f3⟩ := r.fos.slots hfo u
  have nL : ∀ p ∈ whole mt cs imm (E ++ fr) fo, p.1 ≠ f.L := fun p hp => (r.news p hp).2.1
  -- what is not hidden
  have other : ∀ p ∈ mt ++ (cs ++ (imm ++ fr)), p.1 ∉ (f.fenv :: f.outer).filterMap (·.frame) ++ E.map (·.1) := fun p hp hq => by
    have hpw : p ∈ whole mt cs imm (E ++ fr) fo := by
      simp only [List.mem_append] at hp ⊢
      rcases hp with hp | hp | hp | hp
      · exact .inl hp
      · exact .inr (.inl hp)
      · exact .inr (.inr (.inl hp))
      · exact .inr (.inr (.inr (.inl (.inr hp))))
    have c1 : 0 < ((mt ++ (cs ++ (imm ++ fr))).map (·.1)).count p.1 := List.count_pos_iff.mpr (List.mem_map_of_mem hp)
    have c0 := nd p.1
    simp only [List.map_append, List.count_append] at c0 c1
    rcases List.mem_append.mp hq with hq | hq
    · rcases env_in ok r hq with hq | ⟨o, hq⟩
      · exact nL p hpw hq
      · have : 0 < (fo.map (·.1)).count p.1 := List.count_pos_iff.mpr (List.mem_map.mpr ⟨_, hq, rfl⟩)
        (first | lia | omega)
    · have : 0 < (E.map (·.1)).count p.1 := List.count_pos_iff.mpr hq
      (first | lia | omega)
  have kept : ∀ p ∈ mt ++ (cs ++ (imm ++ fr)), h'.get? p.1 = some p.2 ∧ (hid f E h0).get? p.1 = some p.2 := fun p hp => by
    have hpw : p ∈ whole mt cs imm (E ++ fr) fo := by
      simp only [List.mem_append] at hp ⊢
      rcases hp with hp | hp | hp | hp
      · exact .inl hp
      · exact .inr (.inl hp)
      · exact .inr (.inr (.inl hp))
      · exact .inr (.inr (.inr (.inl (.inr hp))))
    have := hideAll_get _ (r.news p hpw).1 (other p hp)
    exact ⟨hk _ _ this, this⟩
  have hbase : ∀ b o, c.base.get? b = some o → (hid f E h0).get? b = some o := fun b o q => by
    refine hideAll_get _ (r.frm.keep b o q) fun hq => ?_
    rcases List.mem_append.mp hq with hq | hq
    · rcases env_in ok r hq with rfl | ⟨o', hq⟩
      · rw [Heap.get?_none_of_le r.frm.above] at q; cases q
      · rw [(r.news (b, o') (by simp [hq])).2.2] at q; cases q
    · obtain ⟨p, hp, rfl⟩ := List.mem_map.mp hq
      rw [(r.news p (by simp [hp])).2.2] at q; cases q
  have hT0 : c.base.get? T = none := by
    cases q : c.base.get? T with
    | none => rfl
    | some o => rw [hbase T o q] at nT; cases nT
  have ns' := u.ns r.frm.ns
  have hLf : ∀ a o vs, h'.get? a = some o → o.data = .fields vs → a ≠ f.L := fun a o vs g d q => by
    obtain ⟨o', es, ep, g', d', _⟩ := ns'
    rw [q, g'] at g
    cases g
    rw [d'] at d; cases d
  refine ⟨⟨h', tk, rfl⟩, m, mt, cs, fo', ⟨ns', fun b o q => hk _ _ (hbase b o q), r.frm.above⟩, fun p hp => ?_, nodupc fun a => ?_, r.sto, f1, LocR.exc hE r.loc⟩
  · have hp' : p ∈ mt ++ (cs ++ (imm ++ fr)) ∨ p = (e, oe) ∨ p = (T, oT) ∨ p ∈ fo' := by
      simp only [List.mem_append, List.mem_cons, List.not_mem_nil, or_false] at hp ⊢
      rcases hp with hp | hp | hp | ((hp | hp) | hp) | hp
      · exact .inl (.inl hp)
      · exact .inl (.inr (.inl hp))
      · exact .inl (.inr (.inr (.inl hp)))
      · exact .inr (.inl hp)
      · exact .inr (.inr (.inl hp))
      · exact .inl (.inr (.inr (.inr hp)))
      · exact .inr (.inr (.inr hp))
    rcases hp' with hp' | rfl | rfl | hp'
    · have hpw : p ∈ whole mt cs imm (E ++ fr) fo := by
        simp only [List.mem_append] at hp' ⊢
        rcases hp' with hp | hp | hp | hp
        · exact .inl hp
        · exact .inr (.inl hp)
        · exact .inr (.inr (.inl hp))
        · exact .inr (.inr (.inr (.inl (.inr hp))))
      exact ⟨(kept p hp').1, (r.news p hpw).2⟩
    · exact ⟨ge, hLf _ _ _ ge de, (r.news (e, oe0) (by simp [he0])).2.2⟩
    · exact ⟨gT, hLf _ _ _ gT dT, hT0⟩
    · have : p.1 ∈ fo.map (·.1) := by rw [← f2]; exact List.mem_map_of_mem hp'
      obtain ⟨q, hq, e1⟩ := List.mem_map.mp this
      have z := r.news q (by simp [hq])
      rw [show q.1 = p.1 from e1] at z
      exact ⟨(f3 p hp').1, z.2⟩
  · have c0 := nd a
    simp only [List.map_append, List.map_cons, List.map_nil, List.count_append, List.count_cons, List.count_nil, f2] at c0 ⊢
    have cT : a = T → (mt.map (·.1)).count a = 0 ∧ (cs.map (·.1)).count a = 0 ∧ (imm.map (·.1)).count a = 0 ∧ (fr.map (·.1)).count a = 0 ∧ (fo.map (·.1)).count a = 0 := fun q => by
      have n0 : ∀ p ∈ mt ++ (cs ++ (imm ++ fr)), p.1 ≠ a := fun p hp z => by
        have := (kept p hp).2
        rw [z, q, nT] at this; cases this
      have n1 : ∀ p ∈ fo', p.1 ≠ a := fun p hp z => by
        obtain ⟨g, d⟩ := f3 p hp
        rw [z, q, gT] at g
        cases g
        exact d _ dT
      refine ⟨List.count_eq_zero.mpr fun hm => ?_, List.count_eq_zero.mpr fun hm => ?_, List.count_eq_zero.mpr fun hm => ?_, List.count_eq_zero.mpr fun hm => ?_, List.count_eq_zero.mpr fun hm => ?_⟩
      · obtain ⟨p, hp, z⟩ := List.mem_map.mp hm; exact n0 p (by simp [hp]) z
      · obtain ⟨p, hp, z⟩ := List.mem_map.mp hm; exact n0 p (by simp [hp]) z
      · obtain ⟨p, hp, z⟩ := List.mem_map.mp hm; exact n0 p (by simp [hp]) z
      · obtain ⟨p, hp, z⟩ := List.mem_map.mp hm; exact n0 p (by simp [hp]) z
      · rw [← f2] at hm; obtain ⟨p, hp, z⟩ := List.mem_map.mp hm; exact n1 p hp z
    have cE : a = e → 0 < (E.map (·.1)).count a := fun q => by rw [q]; exact List.count_pos_iff.mpr (List.mem_map.mpr ⟨_, he0, rfl⟩)
    by_cases qe : e = a
    · have := cE qe.symm
      have hne : (T == a) = false := by rw [← qe]; simpa using hTe
      simp only [qe, hne, beq_self_eq_true, if_true, Bool.false_eq_true, if_false]
      (first | lia | omega)
    · have hne : (e == a) = false := by simpa using qe
      by_cases qT : T = a
      · obtain ⟨z1, z2, z3, z4, z5⟩ := cT qT.symm
        simp only [hne, qT, beq_self_eq_true, if_true, Bool.false_eq_true, if_false, z1, z2, z3, z4, z5]
        (first | lia | omega)
      · have hne' : (T == a) = false := by simpa using qT
        simp only [hne, hne', Bool.false_eq_true, if_false]
        (first | lia | omega)
theorem Rel.permFr {fr' : Led} (R : Rel c f ρ st imm fr s) (hp : fr.Perm fr') : Rel c f ρ st imm fr' s := by
  obtain ⟨hs, m, mt, cs, fo, r⟩ := R
  have hw : (whole mt cs imm fr' fo).Perm (whole mt cs imm fr fo) := List.Perm.append_left _ (List.Perm.append_left _ (List.Perm.append_left _ (hp.symm.append_right _)))
  refine ⟨hs, m, mt, cs, fo, r.frm, fun p q => r.news p (hw.mem_iff.mp q), (hw.map (·.1)).nodup_iff.mpr r.nodup, r.sto, r.fos, ⟨fun x v e => ?_, r.loc.cells, r.loc.inj⟩⟩
  obtain ⟨val, rv, q⟩ := r.loc.reads x v e
  refine ⟨val, rv, ?_⟩
  rcases q with q | ⟨q1, c, o, q2, q3, q4⟩
  · exact .inl q
  · refine .inr ⟨q1, c, o, q2, ?_, q4⟩
    rcases List.mem_append.mp q3 with q3 | q3
    · exact List.mem_append_left _ q3
    · exact List.mem_append_right _ (hp.mem_iff.mp q3)
theorem LocR.app {base : Heap} {E : Led} (l : LocR base imm f ρ m cs fr) : LocR base imm f ρ m cs (E ++ fr) := by
  induction E with
  | nil => exact l
  | cons p E ih => exact ih.more
theorem Rel.two {e T : Addr} {oe oT : Obj} (R : Rel c f ρ st imm ([(e, oe), (T, oT)] ++ fr) s) : T ≠ e := by
  obtain ⟨_, m, mt, cs, fo, r⟩ := R
  intro q
  have nd := List.nodup_iff_count.mp r.nodup e
  subst q
  simp only [List.map_append, List.map_cons, List.map_nil, List.count_append, List.count_cons, List.count_nil, beq_self_eq_true, if_true] at nd
  (first | lia | omega)

/-- noted in the frame -/
theorem noted {Q : Unit → Shared → Prop} {E' : Value → Shared → Prop} {L : Addr} (ok : f.Ok c k) (hL : f.fenv.frame = some L) (x : ExcL e C mk E) (hm : MarkOk f mk) (R : Rel c f ρ st imm (E ++ fr) s)
    (hQ : ∀ E₂ s', ExcL e C (some (rawInt L)) E₂ → Rel c f ρ st imm (E₂ ++ fr) s' → Q () s') : wpAny c.M f.A (noteFrame (.ref e) f.fenv) Q E' s := by
  have hkb : (hid f E s.heap).StaysIn s.heap := fun b o q => of_hideAll _ q
  have hef : ∀ oe b, (b, oe) ∈ E → (hid f E s.heap).get? b = none := fun oe b h => hideAll_none _ (List.mem_append_right _ (List.mem_map.mpr ⟨_, h, rfl⟩))
  have hl : s.heap.FunFrames (hid f E s.heap) (f.fenv :: f.outer) := by
    obtain ⟨_, m, mt, cs, fo, r⟩ := R
    exact funs ok r
  have hF := x.fields
  have fin : ∀ {a0 : Value} {h' : Heap}, (∃ o, (e, o) ∈ E) → Heap.NotedW (hid f E s.heap) (f.fenv :: f.outer) e (.ref C) a0 (rawInt L) s.heap h' → Q () { s with heap := h' } := by
    intro a0 h' hin hN
    obtain ⟨k1, k2, ⟨oe', vs', T', oT', ts', ge, ⟨hc, h0⟩, de, g1, nT, hTe, gT, dT, g3⟩, k4⟩ := hN
    exact hQ _ _ (.traced hc de g1 h0 dT g3) (relNoted (tk := s.toks) ok hF hin R k1 k4 ge de gT dT nT hTe)
  cases x with
  | @made oe vs a0 h1 h2 h3 h4 =>
    have he := R.inFr (a := e) (o := oe) (by simp)
    unfold noteFrame
    simp only [hL]
    refine wpAny_bind (wpAny_field he h2 h3 ?_)
    rw [if_neg (by decide)]
    refine wpAny_entryW ok.frames hl hL he hkb (hef oe _ (by simp)) h2 (Array.getElem?_eq_some_iff.mp h3).1 h4 fun h' hN => ?_
    rw [h1] at hN
    exact fin ⟨oe, by simp⟩ hN
  | @traced oe oT vs ts a0 fl T h1 h2 h3 h4 h5 h6 =>
    have he := R.inFr (a := e) (o := oe) (by simp)
    have hT := R.inFr (a := T) (o := oT) (by simp)
    have hTe := R.two
    rcases hm with hm | hm | ⟨L', hL', hm⟩
    · cases hm
    · cases hm
      exact wpAny_noteFrame_onW ok.frames hl hL ⟨oe, vs, T, oT, ts, he, ⟨h1, h4⟩, h2, h3, hef oT _ (by simp), hTe, hT, h5, h6⟩ hkb (hef oe _ (by simp)) fun h' hN => fin ⟨oe, by simp⟩ hN
    · rw [hL] at hL'; cases hL'; cases hm
      exact wpAny_noteFrame_againW (base := hid f [(e, oe), (T, oT)] s.heap) hL ⟨oe, vs, T, oT, ts, he, ⟨h1, h4⟩, h2, h3, hef oT _ (by simp), hTe, hT, h5, h6⟩ (hQ _ _ (.traced h1 h2 h3 h4 h5 h6) R)
/-- the mark is set anew -/
theorem flight {Q : Unit → Shared → Prop} {E' : Value → Shared → Prop} {fl : Value} (v : Option Addr) (x : ExcL e C (some fl) E) (R : Rel c f ρ st imm (E ++ fr) s)
    (hQ : ∀ E₂ s', ExcL e C (some (v.elim .none fun a => rawInt a)) E₂ → Rel c f ρ st imm (E₂ ++ fr) s' → Q () s') : wpAny c.M f.A (setFlight (.ref e) v) Q E' s := by
  cases x with
  | @traced oe oT vs ts a0 fl T h1 h2 h3 h4 h5 h6 =>
    have he := R.inFr (a := e) (o := oe) (by simp)
    have hT := R.inFr (a := T) (o := oT) (by simp)
    have hsz := (Array.getElem?_eq_some_iff.mp h6).1
    unfold setFlight
    refine wpAny_bind (wpAny_field he h2 h3 ?_)
    rw [if_pos (show (Value.ref T != Value.none) = true from by simp)]
    refine wpAny_setField hT h5 hsz (hQ [(e, oe), (T, oT.mapFields (·.setIfInBounds 3 (v.elim Value.none fun a => rawInt a)))] _ (.traced h1 h2 h3 h4 (Obj.data_mapFields h5 (·.setIfInBounds 3 (v.elim Value.none fun a => rawInt a))) (by simp [hsz])) ?_)
    exact Rel.frSetAt [(e, oe)] R (tk := s.toks) (.update ..) (Heap.get?_update_self _ hT (Obj.isFreed_of_fields (Obj.data_mapFields h5 _))) (by rw [h5]; intro w q; cases q)
theorem leaves {Q : Unit → Shared → Prop} {E' : Value → Shared → Prop} {L : Addr} (ok : f.Ok c k) (hL : f.fenv.frame = some L) (x : ExcL e C mk E) (hm : MarkOk f mk) (R : Rel c f ρ st imm (E ++ fr) s)
    (hQ : ∀ E₂ s', ExcL e C (some .none) E₂ → Rel c f ρ st imm (E₂ ++ fr) s' → Q () s') : wpAny c.M f.A (leaving f.fenv (.ref e)) Q E' s := by
  unfold leaving
  exact wpAny_bind (noted ok hL x hm R fun E₂ s' x₂ R₂ => flight none x₂ R₂ fun E₃ s₃ x₃ R₃ => hQ E₃ s₃ x₃ R₃)
theorem Fm.Ok.frm (ok : f.Ok c k) : ∃ L, f.fenv.frame = some L := let ⟨_, L, h, _⟩ := ok.envs f.fenv (.head _); ⟨L, h⟩
theorem outOfLoop {ev : Value} (ok : f.Ok c k) (own : f.env = f.fenv) (t : Thrown c f imm fr X ev s) : notedBy c.M f.A f.env (cameBackBy c.M f.A f.env (Thrown c f imm fr X)) ev s := by
  obtain ⟨e, C, mk, E, ρ, st, imm', rfl, x, hm, i, R, hX⟩ := t
  obtain ⟨L, hL⟩ := ok.frm
  rw [own]
  refine noted ok hL x hm R fun E₂ s' x₂ R₂ => ?_
  have x₃ := x₂
  unfold cameBackBy
  cases x₂ with
  | @traced oe oT vs ts a0 fl T h1 h2 h3 h4 h5 h6 =>
    refine wpAny_bind (wpAny_field (R₂.inFr (a := e) (o := oe) (by simp)) h2 h3 ?_)
    rw [if_neg (show ¬ (Value.ref T == Value.none) = true from by simp)]
    rw [hL]
    exact flight (some L) x₃ R₂ fun E₃ s₃ x₃ R₃ => ⟨e, C, _, E₃, ρ, st, imm', rfl, x₃, .inr (.inr ⟨L, hL, rfl⟩), i, R₃, hX⟩
theorem Thrown.drop {imm' : Led} {I : Addr} {o : Obj} {ev : Value} (hd : ∀ w, o.data ≠ .cell w) (hi : ∀ p ∈ imm, p ∈ imm') (t : Thrown c f imm' ((I, o) :: fr) X ev s) : Thrown c f imm fr X ev s := by
  obtain ⟨e, C, mk, E, ρ, st, imm'', rfl, x, hm, i, R, hX⟩ := t
  refine ⟨e, C, mk, E, ρ, st, imm'', rfl, x, hm, fun p hp => i p (hi p hp), ?_, hX⟩
  have hR := R
  obtain ⟨⟨h0, tk0, rfl⟩, _⟩ := hR
  have zz := Rel.frEndAt E R (h' := h0) (tk := tk0) (fun _ _ _ e => e) hd
  exact zz
noncomputable abbrev never : Xp := fun _ _ _ => False
end
end Mine
namespace Mine
/-- a def of the text -/
structure FnAt (K : Frag) (a : Addr) (names : List Str) (sc : Scope) (body : List Stmt) : Prop where
  ex : ∃ fo fd, K.lookup a = some fo ∧ fo.data = .func fd ∧ fd.body = .stmts body ∧ fd.scope = sc ∧ fd.globals = mainGlobals ∧ fd.closure = [] ∧ fd.builtins = builtinsNs ∧
    codeIn K fd.code fd.qualname = true ∧ ∀ xs : List Value, xs.length = names.length → bindArgs fd ⟨xs, []⟩ = pure (names.zip xs)
  locB : names.all (storesB sc) = true
  co : sc.isCoroutine = false
  gen : sc.isGenerator = false
  kind : sc.kind = .function
  nodup : names.Nodup

theorem FnAt.loc {K : Frag} {a : Addr} {names : List Str} {sc : Scope} {body : List Stmt} (H : FnAt K a names sc body) : ∀ x ∈ names, storesB sc x = true := List.all_eq_true.mp H.locB
theorem zip_mem {base : Heap} {imm : Led} : ∀ {names : List Str} {vs : List V} {xs : List Value}, RVs base imm vs xs → ∀ {x : Str} {v : V}, getL (names.zip vs) x = some v → ∃ val, (x, val) ∈ names.zip xs ∧ RV base imm v val := by
  intro names
  induction names with
  | nil => intro vs xs _ x v e; simp [getL] at e
  | cons n names ih =>
    intro vs xs r x v e
    cases r with
    | nil => simp [getL] at e
    | cons rv rvs =>
      rw [List.zip_cons_cons, getL_cons] at e
      by_cases h : n = x
      · subst h
        rw [if_pos rfl] at e; cases e
        exact ⟨_, by simp, rv⟩
      · rw [if_neg h] at e
        obtain ⟨val, hm, hv⟩ := ih rvs e
        exact ⟨val, by rw [List.zip_cons_cons]; exact .tail _ hm, hv⟩
theorem zip_keys (ns : List Str) (ys : List Value) : ((ns.zip ys).map (·.1)).Sublist ns := by
  induction ns generalizing ys with
  | nil => simp
  | cons n ns ih => cases ys with
    | nil => simp
    | cons y ys => simpa using ih ys
theorem bindL_other {kd : Str → Option NameKind} {x : Str} : ∀ {b : List (Str × Value)} {m : Str → Option Value}, x ∉ b.map (·.1) → bindL kd b m x = m x
  | [], _, _ => rfl
  | (n, v) :: r, m, h => by
    simp only [List.map_cons, List.mem_cons, not_or] at h
    unfold bindL
    rw [bindL_other h.2]
    split
    · simp [h.1]
    · rfl
theorem bindC_other {kd : Str → Option NameKind} {x : Str} : ∀ {b : List (Str × Value)} {m : Str → Option Value}, x ∉ b.map (·.1) → bindC kd b m x = m x
  | [], _, _ => rfl
  | (n, v) :: r, m, h => by
    simp only [List.map_cons, List.mem_cons, not_or] at h
    unfold bindC
    rw [bindC_other h.2]
    split
    · rfl
    · simp [h.1]
theorem bindL_at {kd : Str → Option NameKind} {x : Str} {val : Value} (hk : kd x = some .local) : ∀ {b : List (Str × Value)} {m : Str → Option Value}, (b.map (·.1)).Nodup → (x, val) ∈ b → bindL kd b m x = some val
  | (n, v) :: r, m, nd, h => by
    simp only [List.map_cons, List.nodup_cons] at nd
    unfold bindL
    rcases List.mem_cons.mp h with h | h
    · cases h
      rw [bindL_other nd.1, if_pos hk]; simp
    · exact bindL_at hk nd.2 h
theorem bindC_at {kd : Str → Option NameKind} {x : Str} {val : Value} (hk : ¬ kd x = some .local) : ∀ {b : List (Str × Value)} {m : Str → Option Value}, (b.map (·.1)).Nodup → (x, val) ∈ b → bindC kd b m x = some val
  | (n, v) :: r, m, nd, h => by
    simp only [List.map_cons, List.nodup_cons] at nd
    unfold bindC
    rcases List.mem_cons.mp h with h | h
    · cases h
      rw [bindC_other nd.1, if_neg hk]; simp
    · exact bindC_at hk nd.2 h
theorem cells_look {x : Str} : ∀ (names : List (Str × NameKind)) (n : Nat) (acc : List (Str × Addr)), ((x, NameKind.cell) ∈ names ∨ (acc.lookup x).isSome = true) → ((cellsFrom n names acc).lookup x).isSome = true
  | [], n, acc, h => by
    rcases h with h | h
    · cases h
    · exact h
  | (y, kd) :: r, n, acc, h => by
    unfold cellsFrom
    split
    · rename_i hk
      refine cells_look r _ _ ?_
      rcases h with h | h
      · rcases List.mem_cons.mp h with h | h
        · cases h; right; simp
        · exact .inl h
      · right
        rw [List.lookup_cons]
        split
        · rfl
        · exact h
    · rename_i hk
      refine cells_look r _ _ ?_
      rcases h with h | h
      · rcases List.mem_cons.mp h with h | h
        · cases h; exact absurd rfl hk
        · exact .inl h
      · exact .inr h

section
variable {c : Cx} {k : Nat} {ρ : Loc} {st : St} {Q : V → St → Prop} {X : Xp} {f : Fm} {imm fr : Led} {s : Shared}

noncomputable def retV : Fl → V
  | .ret v => v
  | _ => .none

/-- the callee's frame -/
noncomputable abbrev Fm.call (f : Fm) (m : Str → Option Value) (L : Addr) (env : Env) : Fm := { outer := f.fenv :: f.outer, frs := (f.L, m) :: f.frs, L := L, fenv := env, env := env, A := f.A.deeper env, cmp := false }

theorem nodup_count {l : List Nat} (h : ∀ a, l.count a ≤ 1) : l.Nodup := List.nodup_iff_count.mpr h

/-- back in the caller's frame -/
theorem back {f' : Fm} {m : Str → Option Value} {ρ' : Loc} {st' : St} {imm' cs : Led} {s' : Shared} {h : Heap} (hf : f'.frs = (f.L, m) :: f.frs) (R : Rel c f' ρ' st' imm' (cs ++ fr) s') (F : Fr c.base f.L h m) (hl : LocR c.base imm f ρ m cs fr) (hi : ∀ p ∈ imm, p ∈ imm') : Rel c f ρ st' imm' fr s' := by
  obtain ⟨hr, m', mt', cs', fo', r⟩ := R
  have fos := r.fos
  rw [hf] at fos
  cases fos with
  | @cons _ _ oL _ fo no fos =>
    have hw := r.news (f.L, oL) (by simp)
    obtain ⟨es, ep, n1, n2, n3⟩ := no
    have nd := List.nodup_iff_count.mp r.nodup
    simp only [List.map_append, List.map_cons, List.count_append, List.count_cons] at nd
    refine ⟨hr, m, mt', cs, fo, ⟨⟨oL, es, ep, hw.1, n1, n2, n3⟩, r.frm.keep, F.above⟩, fun p hp => ?_, nodup_count fun a => ?_, r.sto, fos, hl.mono hi⟩
    · have hp' : p ∈ whole mt' cs' imm' (cs ++ fr) ((f.L, oL) :: fo) := by
        simp only [List.mem_append, List.mem_cons] at hp ⊢
        rcases hp with hp | hp | hp | hp | hp
        · exact .inl hp
        · exact .inr (.inr (.inr (.inl (.inl hp))))
        · exact .inr (.inr (.inl hp))
        · exact .inr (.inr (.inr (.inl (.inr hp))))
        · exact .inr (.inr (.inr (.inr (.inr hp))))
      refine ⟨(r.news p hp').1, fun e => ?_, (r.news p hp').2.2⟩
      have q := nd f.L
      simp only [beq_self_eq_true, if_true] at q
      have hin : p.1 ∈ (mt' ++ (cs ++ (imm' ++ (fr ++ fo)))).map (·.1) := List.mem_map_of_mem hp
      rw [e] at hin
      have := List.count_pos_iff.mpr hin
      simp only [List.map_append, List.count_append] at this
      (first | lia | omega)
    · have q := nd a
      simp only [List.map_append, List.count_append]
      (first | lia | omega)

/-- a frame begins -/
theorem enterAt {a : Addr} {names : List Str} {sc : Scope} {body : List Stmt} {vs : List V} {xs : List Value} {fd : FuncData} {s s₁ : Shared} {f : Fm} {mt fo : Led} (H : FnAt c.K a names sc body) (hsc : fd.scope = sc) (hcl : fd.closure = []) (rvs : RVs c.base imm vs xs)
    (hs : ∃ h tk, s = { c.s₀ with heap := h, toks := tk }) (hkeep : ∀ b o, c.base.get? b = some o → s.heap.get? b = some o) (hbase : c.base.objs.size ≤ s.heap.objs.size) (N : ∀ p ∈ whole mt [] imm fr fo, s.heap.get? p.1 = some p.2 ∧ c.base.get? p.1 = none) (nd : ((whole mt [] imm fr fo).map (·.1)).Nodup)
    (hst : StR c imm st mt) (hfo : FoR f.frs fo) (hL : f.L = s.heap.objs.size) (he : f.env = callEnvC fd s.heap.objs.size a)
    (x : InCallC s (callEnvC fd s.heap.objs.size a).locals (bindL (callEnvC fd s.heap.objs.size a).kindOf (names.zip xs) fun _ => none) (callEnvC fd s.heap.objs.size a).cells (bindC (callEnvC fd s.heap.objs.size a).kindOf (names.zip xs) fun _ => none) s₁) :
    Rel c f (names.zip vs) st imm fr s₁ := by
  obtain ⟨h0, tk0, rfl⟩ := hs
  obtain ⟨h₁, tk₁, rfl, hk₁⟩ := x.done
  have hloc : (callEnvC fd h0.objs.size a).locals = h0.objs.size := rfl
  have ns := x.toInCall.ns
  have above := x.above
  have apart := x.apart
  have cell := x.cell
  generalize hcells : (callEnvC fd h0.objs.size a).cells = cells at above apart cell
  have hfc : f.env.cells = cells := by rw [he]; exact hcells
  dsimp only at cell hk₁ ns N hkeep hL hbase
  have hobj : ∀ n cc, cells.lookup n = some cc → h₁.get? cc = some ((h₁.get? cc).getD default) ∧ ((h₁.get? cc).getD default).data = .cell (bindC (callEnvC fd h0.objs.size a).kindOf (names.zip xs) (fun _ => none) n) := fun n cc hn => by
    obtain ⟨o, ho, hd⟩ := cell n cc hn
    rw [ho]; exact ⟨rfl, hd⟩
  let cs : Led := (cells.filter fun p => decide (cells.lookup p.1 = some p.2)).map fun p => (p.2, (h₁.get? p.2).getD default)
  have hcs : ∀ p ∈ cs, ∃ n, cells.lookup n = some p.1 ∧ p.2 = (h₁.get? p.1).getD default := fun p hp => by
    obtain ⟨q, hq, rfl⟩ := List.mem_map.mp hp
    have := (List.mem_filter.mp hq).2
    exact ⟨q.1, by simpa using this, rfl⟩
  have hin : ∀ n cc, cells.lookup n = some cc → (cc, (h₁.get? cc).getD default) ∈ cs := fun n cc hn =>
    List.mem_map.mpr ⟨(n, cc), List.mem_filter.mpr ⟨mem_of_lookup hn, by simpa using hn⟩, rfl⟩
  have hcnd : (cs.map (·.1)).Nodup := by
    show ((((cells.filter fun p => decide (cells.lookup p.1 = some p.2)).map fun p => (p.2, (h₁.get? p.2).getD default))).map (·.1)).Nodup
    rw [List.map_map]
    exact List.pairwise_map.mpr (apart.filter _)
  have hab : ∀ p ∈ cs, h0.objs.size < p.1 := fun p hp => by
    obtain ⟨n, hn, _⟩ := hcs p hp
    have := above n p.1 (mem_of_lookup hn)
    rw [hloc] at this; exact this
  have hlt : ∀ p ∈ whole mt [] imm fr fo, p.1 < h0.objs.size := fun p hp => Heap.lt_size (N p hp).1
  have hzn : ((names.zip xs).map (·.1)).Nodup := H.nodup.sublist (zip_keys names xs)
  refine ⟨⟨h₁, tk₁, rfl⟩, _, mt, cs, fo, ⟨hL ▸ hloc ▸ ns, fun b o e => hk₁ b o (hkeep b o e), hL ▸ hbase⟩, fun p hp => ?_, nodup_count fun b => ?_, hst, hfo, ⟨fun y v e => ?_, fun _ y cc e => ?_, fun _ y z cc e e' => ?_⟩⟩
  · have hp' : p ∈ cs ∨ p ∈ whole mt [] imm fr fo := by
      simp only [List.mem_append, List.nil_append, List.not_mem_nil, false_or] at hp ⊢
      rcases hp with hp | hp | hp | hp | hp
      · exact .inr (.inl hp)
      · exact .inl hp
      · exact .inr (.inr (.inl hp))
      · exact .inr (.inr (.inr (.inl hp)))
      · exact .inr (.inr (.inr (.inr hp)))
    rcases hp' with hp' | hp'
    · obtain ⟨n, hn, e⟩ := hcs p hp'
      have z := hab p hp'
      exact ⟨e ▸ (hobj n p.1 hn).1, by rw [hL]; exact Nat.ne_of_gt z, Heap.get?_none_of_le (Nat.le_trans hbase (Nat.le_of_lt z))⟩
    · exact ⟨hk₁ _ _ (N p hp').1, by rw [hL]; exact Nat.ne_of_lt (hlt p hp'), (N p hp').2⟩
  · have z := List.nodup_iff_count.mp nd b
    have z' := List.nodup_iff_count.mp hcnd b
    have z2 : (cs.map (·.1)).count b = 0 ∨ ((whole mt [] imm fr fo).map (·.1)).count b = 0 := by
      by_cases q : h0.objs.size < b
      · right
        refine List.count_eq_zero.mpr fun hm => ?_
        obtain ⟨p, hp, e⟩ := List.mem_map.mp hm
        have := hlt p hp
        have e2 : p.1 = b := e
        rw [e2] at this
        exact Nat.lt_asymm q this
      · left
        refine List.count_eq_zero.mpr fun hm => ?_
        obtain ⟨p, hp, e⟩ := List.mem_map.mp hm
        have := hab p hp
        have e2 : p.1 = b := e
        rw [e2] at this
        exact q this
    simp only [List.map_append, List.count_append, List.map_nil, List.count_nil] at z z2 ⊢
    (first | lia | omega)
  · obtain ⟨val, h1, h2⟩ := zip_mem rvs e
    have hy : y ∈ names := (List.of_mem_zip h1).1
    have hk := H.loc y hy
    unfold storesB at hk
    refine ⟨val, h2, ?_⟩
    cases hkd : sc.names.lookup y with
    | none => rw [hkd] at hk; cases hk
    | some kd =>
      have hkind : f.env.kindOf y = some kd := by rw [he]; show fd.scope.names.lookup y = _; rw [hsc]; exact hkd
      have hkind' : (callEnvC fd h0.objs.size a).kindOf y = some kd := he ▸ hkind
      rw [hkd] at hk
      by_cases hl : kd = .local
      · subst hl
        refine .inl ⟨hkind, ?_, bindL_at hkind' hzn h1⟩
        rw [he, hL]; rfl
      · have hce : kd = .cell := by cases kd <;> first | rfl | (cases hk; done) | exact absurd rfl hl
        subst hce
        have hlk := cells_look (x := y) fd.scope.names (h0.objs.size + 1) [] (.inl (mem_of_lookup (by rw [hsc]; exact hkd)))
        obtain ⟨cc, hcc⟩ := Option.isSome_iff_exists.mp hlk
        have hcc' : cells.lookup y = some cc := hcells ▸ hcc
        refine .inr ⟨.inl hkind, cc, _, hfc ▸ hcc', List.mem_append_left _ (hin y cc hcc'), ?_⟩
        rw [(hobj y cc hcc').2, bindC_at (by rw [hkind']; decide) hzn h1]
  · rw [hfc] at e
    exact ⟨_, _, hin y cc e, (hobj y cc e).2⟩
  · rw [hfc] at e e'
    exact name_of_addr apart (mem_of_lookup e) (mem_of_lookup e')

theorem envs_call {m : Str → Option Value} {L : Addr} {env : Env} (hk : env.scope.kind = .function) (hf : env.frame = some L) (h : ∀ e ∈ f.fenv :: f.outer, EnvOk f e) : ∀ e ∈ (f.call m L env).fenv :: (f.call m L env).outer, EnvOk (f.call m L env) e := by
  intro e he
  rcases List.mem_cons.mp he with rfl | he
  · exact ⟨hk, L, hf, .inl rfl⟩
  · obtain ⟨h1, L', h2, h3⟩ := h e he
    refine ⟨h1, L', h2, .inr ?_⟩
    rcases h3 with rfl | ⟨m', h3⟩
    · exact ⟨m, .head _⟩
    · exact ⟨m', .tail _ h3⟩
theorem CodeW.fn {a : Addr} {names : List Str} {sc : Scope} {body : List Stmt} {vs : List V} (H : FnAt c.K a names sc body) (hn : vs.length = names.length)
    (h : WPS c k sc (names.zip vs) st body (fun fl ρ' st' => Q (retV fl) st') (fun C _ st' => X C ρ st')) (ok : f.Ok c (k + 1)) (R : Rel c f ρ st imm fr s) {xs : List Value} (rvs : RVs c.base imm vs xs) :
    codeAny c.M f.A (.call (.ref a) ⟨xs, []⟩) (fun r s' => match r with | .ok (.ret v) => PostE c f ρ imm fr Q v s' | .ok _ => False | .error e => Thrown c f imm fr X e s') s := by
  obtain ⟨fo, fd, hK, hd, hb, hsc, hg, hcl, hbi, hcd, hbind⟩ := H.ex
  have hx : xs.length = names.length := rvs.length.trans hn
  have kin := R.kin ok
  obtain ⟨hs, m, mt, cs, fo, r⟩ := R
  have hzip : ∀ y ∈ names.zip xs, fd.scope.names.lookup y.1 = some .local ∨ (fd.scope.names.lookup y.1 = some .cell ∧ ((cellsFrom (s.heap.objs.size + 1) fd.scope.names []).lookup y.1).isSome = true) := fun y hy => by
    have := H.loc _ (List.of_mem_zip hy).1
    unfold storesB at this
    rw [hsc]
    cases hkd : sc.names.lookup y.1 with
    | none => rw [hkd] at this; cases this
    | some kd =>
      rw [hkd] at this
      cases kd <;> first | (cases this; done) | exact .inl rfl | exact .inr ⟨rfl, cells_look _ _ _ (.inl (mem_of_lookup hkd))⟩
  refine (codeAny_call_cells (binds := names.zip xs) (by have := ok.depth; (first | lia | omega)) (kin _ _ hK) hd (ok.top.nolimit.keeps r.frm.keep) (codeRec_of kin hcd) hb (hbind xs hx) hcl hzip (fun s₁ x => ?_) (hsc ▸ H.co) (hsc ▸ H.gen) (hsc ▸ H.kind))
  obtain ⟨oL, es, ep, hL, hLd, hLk, hLf⟩ := r.frm.ns
  have hkd : fd.scope.kind = .function := hsc ▸ H.kind
  have ok' : (f.call m s.heap.objs.size (callEnvC fd s.heap.objs.size a)).Ok c k := by
    refine ⟨ok.kin, ok.top, envs_call hkd rfl ok.envs, Around.frames_deeper ok.frames, rfl, hkd, hg, hbi, fun x hx => ?_, ok.hnd, ?_, ?_⟩
    · exact Option.isSome_iff_exists.mp (cells_look _ _ _ (.inl (mem_of_lookup hx)))
    · show f.A.depth + 1 + k + 200 < _; have := ok.depth; (first | lia | omega)
    · show f.A.units + 3 + 8 * k + 200 < _; have := ok.units; (first | lia | omega)
  have R' : Rel c (f.call m s.heap.objs.size (callEnvC fd s.heap.objs.size a)) (names.zip vs) st imm (cs ++ fr) s₁ := by
    refine enterAt (fo := (f.L, oL) :: fo) H hsc hcl rvs hs r.frm.keep (Nat.le_trans r.frm.above (Nat.le_of_lt r.frm.ns.lt)) (fun p hp => ?_) (nodup_count fun b => ?_) r.sto (.cons ⟨es, ep, hLd, hLk, hLf⟩ r.fos) rfl rfl x
    · have hp' : p = (f.L, oL) ∨ p ∈ whole mt cs imm fr fo := by
        simp only [List.mem_append, List.mem_cons, List.nil_append, List.not_mem_nil, false_or] at hp ⊢
        rcases hp with hp | hp | (hp | hp) | hp | hp
        · exact .inr (.inl hp)
        · exact .inr (.inr (.inr (.inl hp)))
        · exact .inr (.inr (.inl hp))
        · exact .inr (.inr (.inr (.inr (.inl hp))))
        · exact .inl hp
        · exact .inr (.inr (.inr (.inr (.inr hp))))
      rcases hp' with rfl | hp'
      · exact ⟨hL, Heap.get?_none_of_le r.frm.above⟩
      · exact ⟨(r.news p hp').1, (r.news p hp').2.2⟩
    · have nd := List.nodup_iff_count.mp r.nodup b
      simp only [List.map_append, List.map_cons, List.count_append, List.count_cons, List.map_nil, List.count_nil] at nd ⊢
      by_cases e : f.L = b
      · subst e
        have : (List.map (fun x => x.fst) (whole mt cs imm fr fo)).count f.L = 0 := List.count_eq_zero.mpr fun hm => by
          obtain ⟨p, hp, e⟩ := List.mem_map.mp hm
          exact (r.news p hp).2.1 e
        simp only [List.map_append, List.count_append] at this
        simp only [beq_self_eq_true, if_true]
        (first | lia | omega)
      · have : (f.L == b) = false := by simpa using e
        simp only [this]
        simp only [Bool.false_eq_true, if_false]
        (first | lia | omega)
  refine wpAny_mono (h.go _ imm (cs ++ fr) _ ok' hsc ⟨rfl, rfl, rfl⟩ R') (fun fl s' p => ?_) fun ev s' t => ?_
  rotate_left
  · obtain ⟨e, C, mk, E, ρ', st', imm', rfl, x, hm, i', R'', hX⟩ := t
    refine leaves ok' rfl x hm R'' fun E₂ s₂ x₂ R₂ => ?_
    have pm : (E₂ ++ (cs ++ fr)).Perm (cs ++ (E₂ ++ fr)) := by
      rw [← List.append_assoc, ← List.append_assoc]
      exact List.Perm.append_right _ List.perm_append_comm
    exact ⟨e, C, some .none, E₂, ρ, st', imm', rfl, x₂, .inr (.inl rfl), i', back rfl (R₂.permFr pm) r.frm r.loc.app i', hX⟩
  obtain ⟨fl', ρ', st', imm', i', rf, R'', h'⟩ := p
  have B := back rfl R'' r.frm r.loc i'
  cases rf with
  | ret rv => exact ⟨_, st', imm', i', rv, B, h'⟩
  | next => exact ⟨.none, st', imm', i', .none, B, h'⟩
  | brk => exact ⟨.none, st', imm', i', .none, B, h'⟩
  | cont => exact ⟨.none, st', imm', i', .none, B, h'⟩

theorem CallW.fn {a : Addr} {names : List Str} {sc : Scope} {body : List Stmt} {vs : List V} (H : FnAt c.K a names sc body) (hn : vs.length = names.length)
    (h : WPS c k sc (names.zip vs) st body (fun fl ρ' st' => Q (retV fl) st') (fun C _ st' => X C ρ st')) : WL c (k + 1) (fun xs => call (.ref a) xs) vs ρ st Q X :=
  ⟨fun f imm fr s xs ok R rvs => wpAny_call (CodeW.fn H hn h ok R rvs)⟩

/-- the law itself is called -/
theorem enterLaw {a l : Addr} {name : Str} {sc : Scope} {body : List Stmt} {vals : List Value} {ns : List Int} {s : Shared} {Rr : Result → Shared → Prop} (H : FnAt c.K a [name] sc body) (hs : c.s₀ = s) (hb : c.base = s.heap) (kin : c.K.In c.base) (top : Top c.p c.loose c.mean c.mg c.mb c.base)
    (hk : 301 + k + 201 < 1000) (hl : c.base.IsList l vals.toArray) (hn : IntsAre vals ns)
    (h : WPS c k sc [(name, .scr ns)] [] body (fun fl _ _ => retV fl = .bool true) (fun _ _ _ => False))
    (hR : ∀ L m h' tk, Fr s.heap L h' m → Rr (.ok (.ret (.bool true))) { s with heap := h', toks := tk }) : codeAny c.M callerA (.call (.ref a) ⟨[.ref l], []⟩) Rr s := by
  subst hs
  obtain ⟨fo, fd, hK, hd, hbd, hsc, hg, hcl, hbi, hcd, hbind⟩ := H.ex
  rw [hb] at kin
  have hbase := hb
  have hzip : ∀ y ∈ [name].zip [Value.ref l], fd.scope.names.lookup y.1 = some .local ∨ (fd.scope.names.lookup y.1 = some .cell ∧ ((cellsFrom (c.s₀.heap.objs.size + 1) fd.scope.names []).lookup y.1).isSome = true) := fun y hy => by
    have := H.loc _ (List.of_mem_zip hy).1
    unfold storesB at this
    rw [hsc]
    cases hkd : sc.names.lookup y.1 with
    | none => rw [hkd] at this; cases this
    | some kd =>
      rw [hkd] at this
      cases kd <;> first | (cases this; done) | exact .inl rfl | exact .inr ⟨rfl, cells_look _ _ _ (.inl (mem_of_lookup hkd))⟩
  refine codeAny_call_cells (binds := [name].zip [Value.ref l]) (by decide) (kin _ _ hK) hd (hb ▸ top.nolimit) (codeRec_of kin hcd) hbd (hbind [.ref l] rfl) hcl hzip (fun s₁ x => ?_) (hsc ▸ H.co) (hsc ▸ H.gen) (hsc ▸ H.kind)
  let f : Fm := { outer := [], frs := [], L := c.s₀.heap.objs.size, fenv := callEnvC fd c.s₀.heap.objs.size a, env := callEnvC fd c.s₀.heap.objs.size a, A := callerA.deeper (callEnvC fd c.s₀.heap.objs.size a), cmp := false }
  have hkd : fd.scope.kind = .function := hsc ▸ H.kind
  have ok' : f.Ok c k := by
    refine ⟨hb ▸ kin, top, (fun e he => by rw [List.mem_singleton.mp he]; exact ⟨hkd, _, rfl, .inl rfl⟩), rfl, rfl, hkd, hg, hbi, fun x hx => ?_, fun _ => rfl, ?_, ?_⟩
    · exact Option.isSome_iff_exists.mp (cells_look _ _ _ (.inl (mem_of_lookup hx)))
    · show 1 + claimMargin + 1 + k + 200 < recursionLimit
      unfold claimMargin recursionLimit; (first | lia | omega)
    · show 4 + 3 + 8 * k + 200 < cLine
      unfold cLine; (first | lia | omega)
  have R' : Rel c f ([name].zip [V.scr ns]) [] [] [] s₁ :=
    enterAt (mt := []) (fo := []) H hsc hcl (.one (.scr hl hn)) ⟨_, _, rfl⟩ (fun b o e => hb ▸ e) (by rw [hb]; exact Nat.le_refl _) (fun p hp => nomatch hp) .nil .nil .nil rfl rfl x
  refine wpAny_mono (h.go f [] [] s₁ ok' hsc ⟨rfl, rfl, rfl⟩ R') (fun fl s' p => ?_) fun _ _ t => t.never.elim
  obtain ⟨fl', ρ', st', imm', i', rf, R'', h'⟩ := p
  obtain ⟨⟨h1, tk1, rfl⟩, m, mt, cs, fo, r⟩ := R''
  have F : Fr c.s₀.heap c.s₀.heap.objs.size h1 m := by
    have := r.frm
    rw [hb] at this
    exact this
  cases rf with
  | ret rv =>
    cases h'
    cases rv
    exact hR _ _ _ _ F
  | next => cases h'
  | brk => cases h'
  | cont => cases h'
end
end Mine
namespace Mine
section
variable {c : Cx} {k : Nat} {sc : Scope} {ρ : Loc} {st : St} {Q : V → St → Prop} {S : Fl → Loc → St → Prop} {X : Xp} {f : Fm} {imm fr : Led} {s : Shared} {tk : Nat}

/-! calls -/
noncomputable def isStar : Expr → Bool
  | .Starred _ _ => true
  | _ => false
theorem star_cons {e : Expr} {es : List Expr} {env : Env} (h : isStar e = false) : starEach (e :: es) env = (false, eval e env) :: starEach es env := by
  cases e <;> first | rfl | (cases h)
theorem star_plain {es : List Expr} {env : Env} {pos : Pos} (h : es.any isStar = false) : (backTo pos (starEach es env)).any (·.1) = false := by
  induction es with
  | nil => rfl
  | cons e es ih =>
    simp only [List.any_cons, Bool.or_eq_false_iff] at h
    rw [star_cons h.1]
    have := ih h.2
    simp only [backTo, List.map_cons, List.any_cons, Bool.false_or] at this ⊢
    exact this

noncomputable def callable (K : Frag) : Value → Bool
  | .builtin _ => true
  | .type _ => true
  | .ref a => keepIn K (.ref a)
  | _ => false

theorem callWithW {val : Value} {args : List Expr} {first : List Value} {vs₀ : List V} {pos : Pos} (hc : callable c.K val = true) (hp : args.any isStar = false) (ok : f.Ok c k) (hsc : f.env.scope = sc) (R : Rel c f ρ st imm fr s) (rf : RVs c.base imm vs₀ first)
    (hf0 : first = [] ∨ (∀ T, val ≠ .type T))
    (h : WPEs c k sc ρ st args (fun vs st₂ => WL c k (fun xs => call val xs) (vs₀ ++ vs) ρ st₂ Q X) X) :
    wpAny c.M f.A (callWith pos val first (backTo pos (starEach args f.env)) []) (PostE c f ρ imm fr Q) (Thrown c f imm fr X) s := by
  have K : ∀ xs s₁, PostL c f ρ imm fr args.length (fun vs st₂ => WL c k (fun xs => call val xs) (vs₀ ++ vs) ρ st₂ Q X) xs s₁ → wpAny c.M f.A (call val (first ++ xs)) (PostE c f ρ imm fr Q) (Thrown c f imm fr X) s₁ := by
    rintro xs s₁ ⟨vs, st₁, imm₁, i₁, rvs, R₁, hn, h₁⟩
    exact wpAny_mono (h₁.go f imm₁ fr s₁ (first ++ xs) ok R₁ ((rf.mono i₁).append rvs)) (fun _ _ p => p.mono i₁) fun _ _ t => t.mono i₁
  have H := h.go f imm fr s pos ok hsc R
  cases args with
  | nil =>
    have KK : wpAny c.M f.A (call val (first ++ [])) (PostE c f ρ imm fr Q) (Thrown c f imm fr X) s := by
      have e : wpAny c.M f.A (spliced (backTo pos (starEach [] f.env))) (fun xs s₁ => wpAny c.M f.A (call val (first ++ xs)) (PostE c f ρ imm fr Q) (Thrown c f imm fr X) s₁) (Thrown c f imm fr X) s :=
        wpAny_mono H (fun xs s₁ p => K xs s₁ p) fun _ _ t => t
      exact fun Γ p hΓ => e Γ p hΓ Γ p hΓ
    cases val <;> first | (cases hc; done) | skip
    · rename_i T
      rcases hf0 with rfl | hf0
      · exact callWith_type0 KK
      · exact absurd rfl (hf0 T)
    · exact callWith_method0 (by simpa using KK)
    · exact callWith_K0 (R.kin ok) hc KK
  | cons e es =>
    simp only [List.any_cons, Bool.or_eq_false_iff] at hp
    cases val <;> first | (cases hc; done) | skip
    · rename_i T
      rcases hf0 with rfl | hf0
      · exact callWith_type1 (wpAny_mono H (fun xs s₁ p => by simpa using K xs s₁ p) fun _ _ t => t) (star_cons hp.1) (star_plain hp.2)
      · exact absurd rfl (hf0 T)
    · exact callWith_method1 (wpAny_mono H (fun xs s₁ p => K xs s₁ p) fun _ _ t => t) (star_cons hp.1) (star_plain hp.2)
    · refine callWith_K ok.kin hc (wpAny_mono H (fun xs s₁ p => ⟨?_, K xs s₁ p⟩) fun _ _ t => t) (star_cons hp.1) (star_plain hp.2)
      obtain ⟨vs, st₁, imm₁, i₁, rvs, R₁, hn, h₁⟩ := p
      exact R₁.kin ok

theorem WPE.call {id : Str} {p pos : Pos} {args : List Expr}
    (h : WPE c k sc ρ st (.Name id p) (fun fv st₁ => ∃ val, fv = .stat val ∧ callable c.K val = true ∧ WPEs c k sc ρ st₁ args (fun vs st₂ => WL c k (fun xs => call val xs) vs ρ st₂ Q X) X) X)
    (hp : args.any isStar = false := by rfl) : WPE c k sc ρ st (.Call (.Name id p) args [] pos) Q X := by
  refine ⟨fun f imm fr s ok hsc R => ?_⟩
  refine wpAny_Call_NameR (wpAny_mono (h.go f imm fr s ok hsc R) (fun x s₁ q => ?_) fun _ _ t => t)
  obtain ⟨v, st₁, imm₁, i₁, rv, R₁, val, rfl, hc, h₁⟩ := q
  cases rv
  exact wpAny_mono (callWithW (vs₀ := []) hc hp ok hsc R₁ .nil (.inl rfl) h₁) (fun _ _ p => p.mono i₁) fun _ _ t => t.mono i₁

/-! isinstance of the plain types -/
noncomputable def typV (st : St) : V → Option String
  | .none => some "NoneType"
  | .bool _ => some "bool"
  | .int _ => some "int"
  | .str _ => some "str"
  | .tup _ => some "tuple"
  | .scr _ => some "list"
  | .ref a => match get st a with
    | some (.list _) => some "list"
    | some (.dictI _) => some "dict"
    | some (.dictS _) => some "dict"
    | _ => none
  | _ => none
noncomputable def isi (T U : String) : Bool := T == U || (T == "bool" && U == "int")

theorem typV_ref {a : Addr} {T : String} (R : Rel c f ρ st imm fr s) (ht : typV st (.ref a) = some T) : (T = "list" ∨ T = "dict") ∧ ∃ o, s.heap.get? a = some o ∧ o.cls = .type T := by
  simp only [typV] at ht
  cases hg : get st a with
  | none => rw [hg] at ht; cases ht
  | some o =>
    rw [hg] at ht
    obtain ⟨co, hr, ho⟩ := R.get hg
    cases hr with
    | list r => cases ht; exact ⟨.inl rfl, _, ho, rfl⟩
    | dictI r d => cases ht; exact ⟨.inr rfl, _, ho, d.1.1⟩
    | dictS r d => cases ht; exact ⟨.inr rfl, _, ho, d.1.1⟩
    | inst C d => cases ht
    | exc _ _ => cases ht
    | attr _ => cases ht
    | any _ => cases ht

noncomputable def isiTypes : List String := ["int", "bool", "str", "tuple", "list"]
open IsiPair in
theorem WL.isinstance {v : V} {T U : String} (ht : typV st v = some T) (hu : isiTypes.contains U = true) (h : Q (.bool (isi T U)) st) : WL c k (fun xs => call (.builtin "isinstance") xs) [v, .stat (.type U)] ρ st Q X := by
  refine ⟨fun f imm fr s xs ok R rvs => ?_⟩
  cases rvs with
  | cons rv rvs =>
  cases rvs with
  | cons ru rvs =>
  cases rvs
  cases ru
  have P : ∀ b, isi T U = b → PostE c f ρ imm fr Q (.bool b) s := fun b e => .bool R (e ▸ h)
  have P' : ∀ b tk, isi T U = b → PostE c f ρ imm fr Q (.bool b) { s with toks := tk } := fun b tk e => .bool R.toks (e ▸ h)
  have hu' : U = "int" ∨ U = "bool" ∨ U = "str" ∨ U = "tuple" ∨ U = "list" := by
    simpa [isiTypes] using hu
  cases rv with
  | none => cases ht; rcases hu' with rfl | rfl | rfl | rfl | rfl <;> first | exact NoneType_int (P' _ _ rfl) | exact NoneType_bool (P' _ _ rfl) | exact NoneType_str (P' _ _ rfl) | exact NoneType_tuple (P' _ _ rfl) | exact NoneType_list (P' _ _ rfl)
  | bool b => cases ht; rcases hu' with rfl | rfl | rfl | rfl | rfl <;> first | exact bool_int (P _ rfl) | exact bool_bool (P _ rfl) | exact bool_str (P' _ _ rfl) | exact bool_tuple (P' _ _ rfl) | exact bool_list (P' _ _ rfl)
  | int i t => cases ht; rcases hu' with rfl | rfl | rfl | rfl | rfl <;> first | exact int_int (P _ rfl) | exact int_bool (P' _ _ rfl) | exact int_str (P' _ _ rfl) | exact int_tuple (P' _ _ rfl) | exact int_list (P' _ _ rfl)
  | str x t => cases ht; rcases hu' with rfl | rfl | rfl | rfl | rfl <;> first | exact str_int (P' _ _ rfl) | exact str_bool (P' _ _ rfl) | exact str_str (P _ rfl) | exact str_tuple (P' _ _ rfl) | exact str_list (P' _ _ rfl)
  | tup hm r =>
    cases ht
    have hg := R.inImm hm
    rcases hu' with rfl | rfl | rfl | rfl | rfl <;> first | exact tuple_int hg rfl (P' _ _ rfl) | exact tuple_bool hg rfl (P' _ _ rfl) | exact tuple_str hg rfl (P' _ _ rfl) | exact tuple_tuple hg rfl (P _ rfl) | exact tuple_list hg rfl (P' _ _ rfl)
  | scr hl hi =>
    cases ht
    obtain ⟨o, ho, hc, n, hd⟩ := hl
    have hg := R.keep _ _ ho
    rcases hu' with rfl | rfl | rfl | rfl | rfl <;> first | exact list_int hg hc (P' _ _ rfl) | exact list_bool hg hc (P' _ _ rfl) | exact list_str hg hc (P' _ _ rfl) | exact list_tuple hg hc (P' _ _ rfl) | exact list_list hg hc (P _ rfl)
  | ref a =>
    obtain ⟨hT, o, hg, hc⟩ := typV_ref R ht
    rcases hT with rfl | rfl
    · rcases hu' with rfl | rfl | rfl | rfl | rfl <;> first | exact list_int hg hc (P' _ _ rfl) | exact list_bool hg hc (P' _ _ rfl) | exact list_str hg hc (P' _ _ rfl) | exact list_tuple hg hc (P' _ _ rfl) | exact list_list hg hc (P _ rfl)
    · rcases hu' with rfl | rfl | rfl | rfl | rfl <;> first | exact dict_int hg hc (P' _ _ rfl) | exact dict_bool hg hc (P' _ _ rfl) | exact dict_str hg hc (P' _ _ rfl) | exact dict_tuple hg hc (P' _ _ rfl) | exact dict_list hg hc (P' _ _ rfl)
  | rng _ => cases ht
  | stat _ => cases ht

/-! len -/
theorem WL.lenTup {vs : List V} (hl : (vs.length : Int) < 2 ^ 63) (h : Q (.int vs.length) st) : WL c k (fun xs => call (.builtin "len") xs) [.tup vs] ρ st Q X := by
  refine ⟨fun f imm fr s xs ok R rvs => ?_⟩
  obtain ⟨_, rfl, rv⟩ := rvs.inv1
  obtain ⟨_, _, _, rfl, hm, r⟩ := rv.tupI
  · have e := r.length
    refine PyProof.Rows.len_tuple (items := _) ⟨_, R.inImm hm, rfl, _, rfl⟩ (by simpa [e] using hl) ?_
    simp only [List.size_toArray, e]
    exact .int R h
theorem WL.lenList {a : Addr} {vs : List V} (hg : get st a = some (.list vs)) (hl : (vs.length : Int) < 2 ^ 63) (h : Q (.int vs.length) st) : WL c k (fun xs => call (.builtin "len") xs) [.ref a] ρ st Q X := by
  refine ⟨fun f imm fr s xs ok R rvs => ?_⟩
  obtain ⟨_, rfl, rv⟩ := rvs.inv1
  obtain rfl := rv.refI
  obtain ⟨_, _, r, ho⟩ := R.isList hg
  · · have e := r.length
      refine PyProof.Rows.len_list (items := _) ⟨_, ho, rfl, _, rfl⟩ (by simpa [e] using hl) ?_
      simp only [List.size_toArray, e]
      exact .int R h
theorem WL.lenScr {ns : List Int} (hl : (ns.length : Int) < 2 ^ 63) (h : Q (.int ns.length) st) : WL c k (fun xs => call (.builtin "len") xs) [.scr ns] ρ st Q X := by
  refine ⟨fun f imm fr s xs ok R rvs => ?_⟩
  obtain ⟨_, rfl, rv⟩ := rvs.inv1
  obtain ⟨_, _, rfl, hi, hn⟩ := rv.scrI
  · have e := hn.length
    refine PyProof.Rows.len_list (items := _) (hi.at fun o e => R.keep _ _ e) (by simpa [e] using hl) ?_
    simp only [List.size_toArray, e]
    exact .int R h
end
end Mine
namespace Mine
section
variable {c : Cx} {k : Nat} {sc : Scope} {ρ : Loc} {st : St} {Q : V → St → Prop} {S : Fl → Loc → St → Prop} {X : Xp} {f : Fm} {imm fr : Led} {s : Shared} {tk : Nat}

/-! subscripts -/
noncomputable def isSl : Expr → Bool
  | .Slice .. => true
  | _ => false
theorem sub_plain {e : Expr} (h : isSl e = false) (o i : Value) : subscripted e false o i = operate [o, i] (getItem o i) := by
  cases e <;> first | rfl | (cases h)
theorem WPE.sub {e i : Expr} {pos : Pos} (h : WPE c k sc ρ st e (fun a st₁ => WPE c k sc ρ st₁ i (fun b st₂ => W2 c k (subscriptTail e i) a b ρ st₂ Q X) X) X) : WPE c k sc ρ st (.Subscript e i pos) Q X := by
  refine ⟨fun f imm fr s ok hsc R => ?_⟩
  refine Subscript_ (wpAny_mono (h.go f imm fr s ok hsc R) (fun x s₁ p => ?_) fun _ _ t => t)
  obtain ⟨a, st₁, imm₁, i₁, ra, R₁, h₁⟩ := p
  refine wpAny_mono (h₁.go f imm₁ fr s₁ ok hsc R₁) (fun y s₂ p => ?_) fun _ _ t => t.mono i₁
  obtain ⟨b, st₂, imm₂, i₂, rb, R₂, h₂⟩ := p
  exact wpAny_mono (h₂.go f imm₂ fr s₂ x y ok R₂ (ra.mono i₂) rb) (fun _ _ p => p.mono fun q hq => i₂ q (i₁ q hq)) fun _ _ t => t.mono fun q hq => i₂ q (i₁ q hq)

theorem seqIndex_lt {i : Int} {n j : Nat} (h : seqIndex? i n = some j) : -(n : Int) ≤ i ∧ i < n ∧ j < n ∧ (0 ≤ i → j = i.toNat) ∧ (i < 0 → j = (i + n).toNat) := by
  unfold seqIndex? at h
  simp at h
  split at h <;> (first | lia | omega)

theorem W2.subTup {e ie : Expr} {vs : List V} {i : Int} {j : Nat} {v : V} (hs : isSl ie = false) (hl : (vs.length : Int) < 2 ^ 63) (hj : seqIndex? i vs.length = some j) (hv : vs[j]? = some v) (h : Q v st) : W2 c k (subscriptTail e ie) (.tup vs) (.int i) ρ st Q X := by
  refine ⟨fun f imm fr s x y ok R ra rb => ?_⟩
  obtain ⟨_, rfl⟩ := rb.intI
  obtain ⟨_, _, _, rfl, hm, r⟩ := ra.tupI
  · obtain ⟨x, hx, rx⟩ := r.get hv
    have q := seqIndex_lt hj
    exact item_tupleT ⟨_, R.inImm hm, rfl, _, rfl⟩ (by (first | lia | omega)) (by (first | lia | omega)) (by rw [r.length]; exact hj) hx (.of rx R h) (sub_plain hs _ _)
theorem getItem_listJ {prog : Program} {w : World} {A : Around} {E : Value → Shared → Prop} {P : Value → Shared → Prop} {a : Addr} {items : Array Value} {i : Int} {t : Tok} {j : Nat} {x : Value} (hl : s.heap.IsList a items) (hb : (items.size : Int) < 2 ^ 63) (hj : seqIndex? i items.size = some j) (hx : items[j]? = some x) (h : P x s) :
    wpAny (model prog w) A (getItem (.ref a) (.int i t)) P E s := by
  have q := seqIndex_lt hj
  by_cases h0 : 0 ≤ i
  · exact wpAny_getItem_list hl h0 (by (first | lia | omega)) (by rw [← q.2.2.2.1 h0]; exact hx) h
  · exact wpAny_getItem_list_neg hl (by (first | lia | omega)) (by (first | lia | omega)) (by (first | lia | omega)) (by rw [← q.2.2.2.2 (by (first | lia | omega))]; exact hx) h
theorem W2.subList {e ie : Expr} {a : Addr} {vs : List V} {i : Int} {j : Nat} {v : V} (hg : get st a = some (.list vs)) (hs : isSl ie = false) (hl : (vs.length : Int) < 2 ^ 63) (hj : seqIndex? i vs.length = some j) (hv : vs[j]? = some v) (h : Q v st) : W2 c k (subscriptTail e ie) (.ref a) (.int i) ρ st Q X := by
  refine ⟨fun f imm fr s x y ok R ra rb => ?_⟩
  obtain ⟨_, rfl⟩ := rb.intI
  obtain rfl := ra.refI
  obtain ⟨vals, n, r, ho⟩ := R.isList hg
  · · obtain ⟨x, hx, rx⟩ := r.get hv
      have hL : s.heap.IsList a _ := ⟨_, ho, rfl, _, rfl⟩
      exact tail_any hL.typeIs slot_list_getitem.lookup (getItem_listJ hL (by simpa [r.length] using hl) (by simpa [r.length] using hj) (by simpa using hx) (.of rx R h)) (sub_plain hs _ _)
theorem W2.subScr {e ie : Expr} {ns : List Int} {i : Int} {j : Nat} {n : Int} (hs : isSl ie = false) (hl : (ns.length : Int) < 2 ^ 63) (hj : seqIndex? i ns.length = some j) (hv : ns[j]? = some n) (h : Q (.int n) st) : W2 c k (subscriptTail e ie) (.scr ns) (.int i) ρ st Q X := by
  refine ⟨fun f imm fr s x y ok R ra rb => ?_⟩
  obtain ⟨_, rfl⟩ := rb.intI
  obtain ⟨_, _, rfl, hi, hn⟩ := ra.scrI
  · obtain ⟨t, hx⟩ := hn.get j n hv
    have hL := hi.at fun o e => R.keep _ _ e
    exact tail_any hL.typeIs slot_list_getitem.lookup (getItem_listJ hL (by simpa [hn.length] using hl) (by simpa [hn.length] using hj) (by simpa using hx) (.of (.int _ _) R h)) (sub_plain hs _ _)

/-! data: what a value reads as -/
mutual
inductive Dat (st : St) : V → PyData → Prop
  | none : Dat st .none .none
  | bool (b : Bool) : Dat st (.bool b) (.bool b)
  | int (i : Int) : Dat st (.int i) (.int i)
  | str (x : Str) : Dat st (.str x) (.str x)
  | tup {vs : List V} {ds : List PyData} : Dats st vs ds → Dat st (.tup vs) (.tuple ds)
  | list {a : Addr} {vs : List V} {ds : List PyData} : get st a = some (.list vs) → Dats st vs ds → Dat st (.ref a) (.list ds)
inductive Dats (st : St) : List V → List PyData → Prop
  | nil : Dats st [] []
  | cons {v : V} {vs : List V} {d : PyData} {ds : List PyData} : Dat st v d → Dats st vs ds → Dats st (v :: vs) (d :: ds)
end
mutual
theorem Dat.reads (R : Rel c f ρ st imm fr s) : ∀ {v : V} {d : PyData} {x : Value}, Dat st v d → RV c.base imm v x → ∃ as, Reads s.heap x d as
  | _, _, x, .none, h => by obtain rfl := h.noneI; exact ⟨_, .none⟩
  | _, _, x, .bool b, h => by obtain rfl := h.boolI; exact ⟨_, .bool b⟩
  | _, _, x, .int i, h => by obtain ⟨t, rfl⟩ := h.intI; exact ⟨_, .int i t⟩
  | _, _, x, .str y, h => by obtain ⟨t, rfl⟩ := h.strI; exact ⟨_, .str y t⟩
  | _, _, x, .tup h, q => by
    obtain ⟨_, _, _, rfl, hm, r⟩ := q.tupI
    obtain ⟨as, q⟩ := Dats.reads R h r
    exact ⟨as, .tuple (R.inImm hm) rfl rfl (by simpa using q)⟩
  | _, _, x, .list hg h, q => by
    obtain rfl := q.refI
    obtain ⟨_, _, r, ho⟩ := R.isList hg
    obtain ⟨as, q⟩ := Dats.reads R h r
    exact ⟨_, .list ho rfl rfl (by simpa using q)⟩
theorem Dats.reads (R : Rel c f ρ st imm fr s) : ∀ {vs : List V} {ds : List PyData} {xs : List Value}, Dats st vs ds → RVs c.base imm vs xs → ∃ as, ReadsAll s.heap xs ds as
  | _, _, xs, .nil, q => by cases q; exact ⟨_, .nil⟩
  | _, _, xs, .cons h hs, q => by
    cases q with | cons r rs =>
    obtain ⟨as, q⟩ := Dat.reads R h r
    obtain ⟨bs, p⟩ := Dats.reads R hs rs
    exact ⟨_, .cons q p⟩
end
theorem W2.ne {a b : V} {da db : PyData} (ha : Dat st a da) (hb : Dat st b db) (sa : SeqAt.shaped da = true) (sb : SeqAt.shaped db = true) (h : Q (.bool (!PyData.eqv da db)) st) : W2 c k (compareOp .NotEq) a b ρ st Q X := by
  refine ⟨fun f imm fr s x y ok R ra rb => ?_⟩
  obtain ⟨as, r1⟩ := ha.reads R ra
  obtain ⟨bs, r2⟩ := hb.reads R rb
  exact ne_dataH r1 r2 sa sb (by have := ok.units; (first | lia | omega)) (.bool R h)
theorem W2.inList {a : V} {l : Addr} {vs : List V} {da : PyData} {ds : List PyData} (hg : get st l = some (.list vs)) (ha : Dat st a da) (hb : Dats st vs ds) (sa : da.canLay0 = true) (sb : PyData.canLayAll0 ds = true) (hd : da.depth ≤ 100) (h : Q (.bool (ds.any fun y => PyData.eqv y da)) st) : W2 c k (compareOp .In) a (.ref l) ρ st Q X := by
  refine ⟨fun f imm fr s x y ok R ra rb => ?_⟩
  obtain ⟨as, r1⟩ := ha.reads R ra
  obtain ⟨bs, r2⟩ := (Dat.list hg hb).reads R rb
  exact SeqAt.in_list_reads r2 r1 sb sa (by have := ok.units; have := Nat.min_le_right (PyData.depthAll ds) da.depth; (first | lia | omega)) (.bool R h)
theorem W2.notInList {a : V} {l : Addr} {vs : List V} {da : PyData} {ds : List PyData} (hg : get st l = some (.list vs)) (ha : Dat st a da) (hb : Dats st vs ds) (sa : da.canLay0 = true) (sb : PyData.canLayAll0 ds = true) (hd : da.depth ≤ 100) (h : Q (.bool (!(ds.any fun y => PyData.eqv y da))) st) : W2 c k (compareOp .NotIn) a (.ref l) ρ st Q X := by
  refine ⟨fun f imm fr s x y ok R ra rb => ?_⟩
  obtain ⟨as, r1⟩ := ha.reads R ra
  obtain ⟨bs, r2⟩ := (Dat.list hg hb).reads R rb
  exact SeqAt.notIn_list_reads r2 r1 sb sa (by have := ok.units; have := Nat.min_le_right (PyData.depthAll ds) da.depth; (first | lia | omega)) (.bool R h)

/-! lists glued -/
theorem W2.addList {a b : Addr} {vs ws : List V} (ha : get st a = some (.list vs)) (hb : get st b = some (.list ws)) (hl : vs.length + ws.length ≤ sizeLine) (h : ∀ l, get st l = none → Q (.ref l) ((l, .list (vs ++ ws)) :: st)) : W2 c k (binaryOp .Add) (.ref a) (.ref b) ρ st Q X := by
  refine ⟨fun f imm fr s x y ok R ra rb => ?_⟩
  obtain rfl := ra.refI
  obtain rfl := rb.refI
  obtain ⟨_, _, r, ho⟩ := R.isList ha
  obtain ⟨_, _, r', ho'⟩ := R.isList hb
  · · have fr0 := R.none
      obtain ⟨⟨h0, tk0, rfl⟩, m, mt, cs, fo, rr⟩ := id R
      refine add_arrays rr.frm rr.news ⟨_, ho, rfl, _, rfl⟩ ⟨_, ho', rfl, _, rfl⟩ (fun h' F' N' => ?_) (by simpa [r.length, r'.length] using hl)
      refine ⟨_, _, imm, fun _ h => h, .ref _, ⟨⟨h', tk0, rfl⟩, m, _ :: mt, cs, fo, F', N', ?_, .cons (.list (vals := _ ++ _) (n := 0) (by simpa using r.append r')) rr.sto, rr.fos, rr.loc⟩, h _ fr0⟩
      rw [show (whole ((h0.objs.size, _) :: mt) cs imm fr fo) = (h0.objs.size, _) :: whole mt cs imm fr fo from rfl, List.map_cons, List.nodup_cons]
      refine ⟨fun hm => ?_, rr.nodup⟩
      obtain ⟨p, hp, e⟩ := List.mem_map.mp hm
      exact absurd (rr.size p hp) (by rw [e]; exact Nat.lt_irrefl _)
end
end Mine
namespace Mine
section
variable {c : Cx} {k : Nat} {sc : Scope} {ρ : Loc} {st : St} {Q : V → St → Prop} {S : Fl → Loc → St → Prop} {X : Xp}

theorem WPE.globR {x : Str} {pos : Pos} {a : Addr} (hx : sc.names.lookup x = some .globalImplicit) (e : nsIn c.K mainGlobals x = some (some (.ref a))) (h : Q (.stat (.ref a)) st)
    (hd : (x == ("__debug__" : Str)) = false := by decide) : WPE c k sc ρ st (.Name x pos) Q X := WPE.glob hx e (fun _ _ => .stat _) h hd
theorem WPE.globI {x : Str} {pos : Pos} {i : Int} {t : Tok} (hx : sc.names.lookup x = some .globalImplicit) (e : nsIn c.K mainGlobals x = some (some (.int i t))) (h : Q (.int i) st)
    (hd : (x == ("__debug__" : Str)) = false := by decide) : WPE c k sc ρ st (.Name x pos) Q X := WPE.glob hx e (fun _ _ => .int _ _) h hd
theorem WPE.callF {id : Str} {p pos : Pos} {args : List Expr} {a : Addr} (hx : sc.names.lookup id = some .globalImplicit) (e : nsIn c.K mainGlobals id = some (some (.ref a))) (hk : keepIn c.K (.ref a) = true)
    (h : WPEs c k sc ρ st args (fun vs st₂ => WL c k (fun xs => PySem.call (.ref a) xs) vs ρ st₂ Q X) X)
    (hp : args.any isStar = false := by rfl) (hd : (id == ("__debug__" : Str)) = false := by decide) : WPE c k sc ρ st (.Call (.Name id p) args [] pos) Q X :=
  WPE.call (WPE.globR hx e ⟨_, rfl, hk, h⟩ hd) hp
theorem WPE.callB {id : Str} {p pos : Pos} {args : List Expr} {b : String} (hx : sc.names.lookup id = some .globalImplicit) (e : nsIn c.K mainGlobals id = some none) (hv : bootBuiltins id = some (.builtin b))
    (h : WPEs c k sc ρ st args (fun vs st₂ => WL c k (fun xs => PySem.call (.builtin b) xs) vs ρ st₂ Q X) X)
    (hp : args.any isStar = false := by rfl) (hn : id ≠ "__name__" := by decide) (hd : (id == ("__debug__" : Str)) = false := by decide) : WPE c k sc ρ st (.Call (.Name id p) args [] pos) Q X :=
  WPE.call (WPE.blt hx e hv ⟨_, rfl, rfl, h⟩ hn hd) hp
theorem WPE.callT {id : Str} {p pos : Pos} {args : List Expr} {b : String} (hx : sc.names.lookup id = some .globalImplicit) (e : nsIn c.K mainGlobals id = some none) (hv : bootBuiltins id = some (.type b))
    (h : WPEs c k sc ρ st args (fun vs st₂ => WL c k (fun xs => PySem.call (.type b) xs) vs ρ st₂ Q X) X)
    (hp : args.any isStar = false := by rfl) (hn : id ≠ "__name__" := by decide) (hd : (id == ("__debug__" : Str)) = false := by decide) : WPE c k sc ρ st (.Call (.Name id p) args [] pos) Q X :=
  WPE.call (WPE.blt hx e hv ⟨_, rfl, rfl, h⟩ hn hd) hp
theorem WPE.bltT {x : Str} {pos : Pos} {b : String} (hx : sc.names.lookup x = some .globalImplicit) (e : nsIn c.K mainGlobals x = some none) (hv : bootBuiltins x = some (.type b)) (h : Q (.stat (.type b)) st)
    (hn : x ≠ "__name__" := by decide) (hd : (x == ("__debug__" : Str)) = false := by decide) : WPE c k sc ρ st (.Name x pos) Q X := WPE.blt hx e hv h hn hd
end
end Mine
namespace Mine
section
variable {c : Cx} {k : Nat} {sc : Scope} {ρ : Loc} {st : St} {Q : V → St → Prop} {S : Fl → Loc → St → Prop} {X : Xp} {f : Fm} {imm fr : Led} {s : Shared} {tk : Nat}

theorem RVs.strs {base : Heap} {imm : Led} : ∀ {ys : List Str} {xs : List Value}, RVs base imm (ys.map V.str) xs → StrsAre xs ys := by
  intro ys
  induction ys with
  | nil => intro xs h; cases h; exact .nil
  | cons y ys ih => intro xs h; cases h with | cons a r => obtain ⟨t, rfl⟩ := a.strI; exact .cons y t (ih r)
theorem W2.inStrs {a : Str} {ys : List Str} {vs : List V} (hv : vs = ys.map V.str) (h : Q (.bool (ys.any (· == a))) st) : W2 c k (compareOp .In) (.str a) (.tup vs) ρ st Q X := by
  subst hv
  refine ⟨fun f imm fr s x y ok R ra rb => ?_⟩
  obtain ⟨_, rfl⟩ := ra.strI
  obtain ⟨_, _, _, rfl, hm, r⟩ := rb.tupI
  exact in_tuple_strs ⟨_, R.inImm hm, rfl, _, rfl⟩ (by simpa using RVs.strs r) (.bool R h)
theorem Fm.Ok.le {k' : Nat} (ok : f.Ok c k) (h : k' ≤ k) : f.Ok c k' := { ok with depth := by have := ok.depth; (first | lia | omega), units := by have := ok.units; (first | lia | omega) }
theorem WL.le {t : List Value → Sem Value} {vs : List V} {k' : Nat} (h : WL c k' t vs ρ st Q X) (hk : k' ≤ k) : WL c k t vs ρ st Q X :=
  ⟨fun f imm fr s xs ok R rvs => h.go f imm fr s xs (ok.le hk) R rvs⟩

noncomputable abbrev CF (c : Cx) (k : Nat) (a : Addr) (vs : List V) (ρ : Loc) (st : St) (Q : V → St → Prop) (X : Xp) : Prop := WL c k (fun xs => PySem.call (.ref a) xs) vs ρ st Q X
theorem seqIndex_pos {i : Int} {n : Nat} (h0 : 0 ≤ i) (h1 : i < n) : seqIndex? i n = some i.toNat := by
  unfold seqIndex?
  have h : ¬ i < 0 := by (first | lia | omega)
  simp [h, h0, h1]
theorem seqIndex_neg {i : Int} {n : Nat} (h0 : i < 0) (h1 : -(n : Int) ≤ i) : seqIndex? i n = some (i + n).toNat := by
  unfold seqIndex?
  have h2 : 0 ≤ i + (n : Int) := by (first | lia | omega)
  have h3 : i + (n : Int) < n := by (first | lia | omega)
  simp [h0, h2, h3]
theorem seqIndex_0 {n : Nat} : seqIndex? 0 (n + 1) = some 0 := seqIndex_pos (by decide) (by (first | lia | omega))
theorem seqIndex_1 {n : Nat} : seqIndex? 1 (n + 2) = some 1 := seqIndex_pos (by decide) (by (first | lia | omega))
/-- a store that has grown -/
noncomputable def Le (st st' : St) : Prop := ∀ a o, get st a = some o → get st' a = some o
theorem Le.refl : Le st st := fun _ _ h => h
theorem Le.trans {st₁ st₂ st₃ : St} (h : Le st₁ st₂) (h' : Le st₂ st₃) : Le st₁ st₃ := fun a o e => h' a o (h a o e)
theorem get_head {a : Addr} {o : O} : get ((a, o) :: st) a = some o := by simp [get]
theorem get_tail {a b : Addr} {o : O} (h : b ≠ a) : get ((a, o) :: st) b = get st b := by
  unfold get
  rw [List.lookup_cons]
  have : (b == a) = false := by simpa using h
  rw [this]
theorem Le.alloc {a : Addr} {o : O} (h : get st a = none) : Le st ((a, o) :: st) := fun b p e => by
  have : b ≠ a := fun q => by rw [q, h] at e; cases e
  rw [get_tail this]; exact e
theorem get_upd {a b : Addr} {o : O} : get (upd st a o) b = if b = a then (get st a).map (fun _ => o) else get st b := by
  induction st with
  | nil => simp [get, upd]
  | cons p r ih =>
    obtain ⟨x, y⟩ := p
    by_cases h1 : x = a
    · subst h1
      have e : upd ((x, y) :: r) x o = (x, o) :: upd r x o := by simp [upd]
      rw [e]
      by_cases h2 : b = x
      · subst h2; rw [get_head, get_head, if_pos rfl]; rfl
      · rw [get_tail h2, ih, if_neg h2, if_neg h2, get_tail h2]
    · have e : upd ((x, y) :: r) a o = (x, y) :: upd r a o := by simp [upd, h1]
      rw [e]
      by_cases h2 : b = x
      · subst h2; rw [get_head, if_neg h1, get_head]
      · rw [get_tail h2, ih, get_tail h2, get_tail (fun q => h1 q.symm)]
theorem get_upd_self {a : Addr} {o o' : O} (h : get st a = some o') : get (upd st a o) a = some o := by rw [get_upd, if_pos rfl, h]; rfl
theorem get_upd_ne {a b : Addr} {o : O} (h : b ≠ a) : get (upd st a o) b = get st b := by rw [get_upd, if_neg h]
theorem W2.tupAt {e ie : Expr} {vs : List V} {i : Int} {v : V} (hs : isSl ie = false) (hl : Nat.blt vs.length 1000000 = true) (hv : (seqIndex? i vs.length).bind (fun j => vs[j]?) = some v) (h : Q v st) : W2 c k (subscriptTail e ie) (.tup vs) (.int i) ρ st Q X := by
  have hl' : vs.length < 1000000 := by simpa [Nat.blt_eq] using hl
  cases hj : seqIndex? i vs.length with
  | none => rw [hj] at hv; cases hv
  | some j => rw [hj] at hv; exact W2.subTup hs (by (first | lia | omega)) hj hv h
theorem W2.listAt {e ie : Expr} {a : Addr} {vs : List V} {i : Int} {v : V} (hg : get st a = some (.list vs)) (hs : isSl ie = false) (hl : Nat.blt vs.length 1000000 = true) (hv : (seqIndex? i vs.length).bind (fun j => vs[j]?) = some v) (h : Q v st) : W2 c k (subscriptTail e ie) (.ref a) (.int i) ρ st Q X := by
  have hl' : vs.length < 1000000 := by simpa [Nat.blt_eq] using hl
  cases hj : seqIndex? i vs.length with
  | none => rw [hj] at hv; cases hv
  | some j => rw [hj] at hv; exact W2.subList hg hs (by (first | lia | omega)) hj hv h
theorem isDict_nil {α : Type} [DecidableEq α] {knd : KeyKind c.prog c.w α} : IsDict knd { cls := .type "dict", data := .dict #[] } [] :=
  ⟨⟨rfl, rfl, rfl⟩, #[], 0, rfl, fun e he => by simp at he, .nil, .nil⟩
theorem Rel.fresh (ok : f.Ok c k) (R : Rel c f ρ st imm fr s) : (s.heap.objs.size == sysModules) = false := by
  obtain ⟨_, m, mt, cs, fo, r⟩ := R
  exact r.frm.notModules (modules_low ok.top.nolimit)
theorem WPE.dict0 {pos : Pos} (h : ∀ a, get st a = none → (a == sysModules) = false → Q (.ref a) ((a, .dictI []) :: st)) : WPE c k sc ρ st (.Dict [] [] pos) Q X :=
  ⟨fun f imm fr s ok hsc R => wpAny_Dict_empty ⟨_, _, imm, fun _ h => h, .ref _, R.pushSt (tk := s.toks) (.dictI .nil isDict_nil), h _ R.none (R.fresh ok)⟩⟩
theorem W2.cat {a b : Addr} {vs ws : List V} (ha : get st a = some (.list vs)) (hb : get st b = some (.list ws)) (hl : Nat.ble (vs.length + ws.length) 1000000 = true) (h : ∀ l, get st l = none → Q (.ref l) ((l, .list (vs ++ ws)) :: st)) : W2 c k (binaryOp .Add) (.ref a) (.ref b) ρ st Q X :=
  W2.addList ha hb (Nat.le_trans (Nat.le_of_ble_eq_true hl) (by decide)) h
end
end Mine
namespace Mine
noncomputable def rngItems (a b c : Int) : List V := (List.range (Builtin.Range.rangeSize a b c).toNat).map fun (i : Nat) => .int (a + i * c)
/-- the things of a thing that is gone through -/
inductive Src (st : St) : V → List V → Prop
  | list {a : Addr} {vs : List V} : get st a = some (.list vs) → Src st (.ref a) vs
  | tup {vs : List V} : Src st (.tup vs) vs
  | scr {ns : List Int} : Src st (.scr ns) (ns.map .int)
  | rng {a b c : Int} : Builtin.Range.small a b c = true → Src st (.rng a b c) (rngItems a b c)
  | str {x : Str} : Src st (.str x) (x.cps.toList.map fun n => .str ⟨#[n]⟩)

/-- an iterator's object, i taken -/
inductive ItO : Value → V → Nat → Obj → Prop
  | list {a : Addr} {i : Nat} {o : Obj} (h1 : o.cls = .type "list_iterator") (h2 : o.data = .fields #[.ref a, .int i 0]) : ItO (.ref a) (.ref a) i o
  | scr {a : Addr} {ns : List Int} {i : Nat} {o : Obj} (h1 : o.cls = .type "list_iterator") (h2 : o.data = .fields #[.ref a, .int i 0]) : ItO (.ref a) (.scr ns) i o
  | tup {a : Addr} {vs : List V} {i : Nat} {o : Obj} (h1 : o.cls = .type "tuple_iterator") (h2 : o.data = .fields #[.ref a, .int i 0]) : ItO (.ref a) (.tup vs) i o
  | rng {r : Addr} {a b c : Int} {i : Nat} : ItO (.ref r) (.rng a b c) i { cls := .type "range_iterator", dict := none, data := .fields #[rawInt (a + i * c), rawInt (Builtin.Range.rangeSize a b c - i), rawInt c], slots := #[] }
  | strA {x : Str} {t : Tok} {i : Nat} {o : Obj} (h1 : o.cls = .type "str_ascii_iterator") (h2 : o.data = .fields #[.str x t, .int i 0]) : ItO (.str x t) (.str x) i o
  | strW {x : Str} {t : Tok} {i : Nat} {o : Obj} (h1 : o.cls = .type "str_iterator") (h2 : o.data = .fields #[.str x t, .int i 0]) : ItO (.str x t) (.str x) i o
theorem ItO.fields {x : Value} {v : V} {i : Nat} {o : Obj} (h : ItO x v i o) : ∀ w, o.data ≠ .cell w := by
  cases h with
  | list _ h => intro w e; rw [h] at e; cases e
  | scr _ h => intro w e; rw [h] at e; cases e
  | tup _ h => intro w e; rw [h] at e; cases e
  | rng => intro w e; cases e
  | strA _ h => intro w e; rw [h] at e; cases e
  | strW _ h => intro w e; rw [h] at e; cases e

section
variable {c : Cx} {k : Nat} {sc : Scope} {ρ : Loc} {st : St} {Q : V → St → Prop} {S : Fl → Loc → St → Prop} {X : Xp} {f : Fm} {imm fr : Led} {s : Shared} {tk : Nat}

theorem it_start {v : V} {vs : List V} {x : Value} {E : Value → Shared → Prop} (R : Rel c f ρ st imm fr s) (rv : RV c.base imm v x) (hs : Src st v vs) :
    wpAny c.M f.A (pyIter x) (fun it s' => ∃ I o, it = .ref I ∧ ItO x v 0 o ∧ Rel c f ρ st imm ((I, o) :: fr) s') E s := by
  cases hs with
  | list hg =>
    cases rv with
    | ref =>
      obtain ⟨co, hr, ho⟩ := R.get hg
      cases hr with
      | list r => exact wpAny_pyIter_list ⟨_, ho, rfl, _, rfl⟩ ⟨_, _, rfl, .list rfl rfl, R.pushFr (tk := s.toks)⟩
  | tup =>
    cases rv with
    | tup hm r => exact wpAny_pyIter_tuple ⟨_, R.inImm hm, rfl, _, rfl⟩ ⟨_, _, rfl, .tup rfl rfl, R.pushFr (tk := s.toks)⟩
  | scr =>
    cases rv with
    | scr hl hn => exact wpAny_pyIter_list (hl.at fun o e => R.keep _ _ e) ⟨_, _, rfl, .scr rfl rfl, R.pushFr (tk := s.toks)⟩
  | @rng a b cc hsm =>
    cases rv with
    | @rng r _ _ _ _ _ _ hm =>
      refine wpAny_pyIter_range (R.inImm hm) hsm ⟨_, _, rfl, ?_, R.pushFr (tk := s.toks)⟩
      have := ItO.rng (r := r) (a := a) (b := b) (c := cc) (i := 0)
      simpa using this
  | @str z =>
    obtain ⟨t, rfl⟩ := rv.strI
    cases ha : z.cps.all (· < 128) with
    | true => exact wpAny_pyIter_ascii ha ⟨_, _, rfl, .strA rfl rfl, R.pushFr (tk := s.toks)⟩
    | false => exact wpAny_pyIter_wide ha ⟨_, _, rfl, .strW rfl rfl, R.pushFr (tk := s.toks)⟩

theorem rngItems_get {a b c : Int} {i : Nat} {u : V} (h : (rngItems a b c)[i]? = some u) : u = .int (a + i * c) ∧ (i : Int) < Builtin.Range.rangeSize a b c := by
  unfold rngItems at h
  rw [List.getElem?_map] at h
  by_cases hi : i < (Builtin.Range.rangeSize a b c).toNat
  · rw [List.getElem?_range hi] at h
    simp at h
    exact ⟨h.symm, by (first | lia | omega)⟩
  · rw [List.getElem?_eq_none (by simpa using hi)] at h; cases h
theorem it_next {v u : V} {vs : List V} {x : Value} {I : Addr} {i : Nat} {o : Obj} {E : Value → Shared → Prop} (R : Rel c f ρ st imm ((I, o) :: fr) s) (rv : RV c.base imm v x) (hs : Src st v vs) (hi : ItO x v i o) (hu : vs[i]? = some u) :
    wpAny c.M f.A (pyNext (.ref I)) (fun r s' => ∃ y o', r = some y ∧ RV c.base imm u y ∧ ItO x v (i + 1) o' ∧ Rel c f ρ st imm ((I, o') :: fr) s') E s := by
  have hI := R.inFr (List.mem_cons_self)
  cases hi with
  | list h1 h2 =>
    cases hs with
    | list hg =>
    cases rv with
    | ref =>
      obtain ⟨co, hr, ho⟩ := R.get hg
      cases hr with
      | list r =>
        obtain ⟨y, hy, ry⟩ := r.get hu
        refine wpAny_pyNext_list_item ⟨_, hI, h1, h2⟩ ⟨_, ho, rfl, _, rfl⟩ (by simpa using hy) fun h' hit hsb => ?_
        obtain ⟨o', ho', c1, c2⟩ := hit
        exact ⟨y, o', rfl, ry, .list c1 c2, R.frSet (tk := s.toks) hsb ho' (by rw [h2]; intro _ e; cases e)⟩
  | scr h1 h2 =>
    cases hs with
    | scr =>
    cases rv with
    | scr hl hn =>
      rw [List.getElem?_map] at hu
      obtain ⟨n, hn', rfl⟩ := Option.map_eq_some_iff.mp hu
      obtain ⟨t, ht⟩ := hn.get i n hn'
      refine wpAny_pyNext_list_item ⟨_, hI, h1, h2⟩ (hl.at fun o e => R.keep _ _ e) (by simpa using ht) fun h' hit hsb => ?_
      obtain ⟨o', ho', c1, c2⟩ := hit
      exact ⟨_, o', rfl, .int _ _, .scr c1 c2, R.frSet (tk := s.toks) hsb ho' (by rw [h2]; intro _ e; cases e)⟩
  | tup h1 h2 =>
    cases hs with
    | tup =>
    cases rv with
    | tup hm r =>
      obtain ⟨y, hy, ry⟩ := r.get hu
      refine wpAny_pyNext_tuple_item ⟨_, hI, h1, h2⟩ ⟨_, R.inImm hm, rfl, _, rfl⟩ (by simpa using hy) fun h' hit hsb => ?_
      obtain ⟨o', ho', c1, c2⟩ := hit
      exact ⟨y, o', rfl, ry, .tup c1 c2, R.frSet (tk := s.toks) hsb ho' (by rw [h2]; intro _ e; cases e)⟩
  | @rng r a b cc i =>
    cases hs with
    | rng hsm =>
    obtain ⟨rfl, hlt⟩ := rngItems_get hu
    refine wpAny_pyNext_range_item hI (by (first | lia | omega)) fun h' hit hsb => ?_
    refine ⟨_, _, rfl, .int _ _, ?_, R.frSet hsb hit (by intro _ e; cases e)⟩
    have := ItO.rng (r := r) (a := a) (b := b) (c := cc) (i := i + 1)
    have e1 : a + ((i + 1 : Nat) : Int) * cc = a + i * cc + cc := by rw [Int.natCast_add, Int.add_mul]; simp; (first | lia | omega)
    have e2 : Builtin.Range.rangeSize a b cc - ((i + 1 : Nat) : Int) = Builtin.Range.rangeSize a b cc - i - 1 := by (first | lia | omega)
    rw [e1, e2] at this
    exact this
  | strA h1 h2 =>
    cases hs with
    | str =>
    rw [List.getElem?_map] at hu
    obtain ⟨n, hn, rfl⟩ := Option.map_eq_some_iff.mp hu
    refine wpAny_pyNext_ascii_item ⟨_, hI, h1, h2⟩ (by rw [← Array.getElem?_toList]; exact hn) fun h' hit hsb => ?_
    obtain ⟨o', ho', c1, c2⟩ := hit
    exact ⟨_, o', rfl, .str _ _, .strA c1 c2, R.frSet hsb ho' (by rw [h2]; intro _ e; cases e)⟩
  | strW h1 h2 =>
    cases hs with
    | str =>
    rw [List.getElem?_map] at hu
    obtain ⟨n, hn, rfl⟩ := Option.map_eq_some_iff.mp hu
    refine wpAny_pyNext_wide_item ⟨_, hI, h1, h2⟩ (by rw [← Array.getElem?_toList]; exact hn) fun h' hit hsb => ?_
    obtain ⟨o', ho', c1, c2⟩ := hit
    exact ⟨_, o', rfl, .str _ _, .strW c1 c2, R.frSet hsb ho' (by rw [h2]; intro _ e; cases e)⟩
theorem it_end {v : V} {vs : List V} {x : Value} {I : Addr} {i : Nat} {o : Obj} {E : Value → Shared → Prop} (hh : f.A.handled = none) (R : Rel c f ρ st imm ((I, o) :: fr) s) (rv : RV c.base imm v x) (hs : Src st v vs) (hi : ItO x v i o) (hu : vs.length ≤ i) :
    wpAny c.M f.A (pyNext (.ref I)) (fun r s' => r = none ∧ Rel c f ρ st imm fr s') E s := by
  have hI := R.inFr (List.mem_cons_self)
  have hd := hi.fields
  cases hi with
  | list h1 h2 =>
    cases hs with
    | list hg =>
    cases rv with
    | ref =>
      obtain ⟨co, hr, ho⟩ := R.get hg
      cases hr with
      | list r => exact wpAny_pyNext_list_end hh ⟨_, hI, h1, h2⟩ ⟨_, ho, rfl, _, rfl⟩ (by simpa [r.length] using hu) fun h' hx => ⟨rfl, R.frEnd (tk := s.toks) hx hd⟩
  | scr h1 h2 =>
    cases hs with
    | scr =>
    cases rv with
    | scr hl hn => exact wpAny_pyNext_list_end hh ⟨_, hI, h1, h2⟩ (hl.at fun o e => R.keep _ _ e) (by simpa [hn.length] using hu) fun h' hx => ⟨rfl, R.frEnd (tk := s.toks) hx hd⟩
  | tup h1 h2 =>
    cases hs with
    | tup =>
    cases rv with
    | tup hm r => exact wpAny_pyNext_tuple_end hh ⟨_, hI, h1, h2⟩ ⟨_, R.inImm hm, rfl, _, rfl⟩ (by simpa [r.length] using hu) fun h' hx => ⟨rfl, R.frEnd (tk := s.toks) hx hd⟩
  | @rng r a b cc i =>
    cases hs with
    | rng hsm =>
    refine wpAny_pyNext_range_end hh hI ?_ fun h' hx => ⟨rfl, R.frEnd (tk := s.toks) hx hd⟩
    simp only [rngItems, List.length_map, List.length_range] at hu
    (first | lia | omega)
  | strA h1 h2 =>
    cases hs with
    | str => exact wpAny_pyNext_ascii_end hh ⟨_, hI, h1, h2⟩ (Array.getElem?_eq_none (by simpa using hu)) fun h' hx => ⟨rfl, R.frEnd (tk := s.toks) hx hd⟩
  | strW h1 h2 =>
    cases hs with
    | str => exact wpAny_pyNext_wide_end hh ⟨_, hI, h1, h2⟩ (Array.getElem?_eq_none (by simpa using hu)) fun h' hx => ⟨rfl, R.frEnd (tk := s.toks) hx hd⟩
theorem it_self {v : V} {x : Value} {I : Addr} {i : Nat} {o : Obj} {E : Value → Shared → Prop} {P : Value → Shared → Prop} (R : Rel c f ρ st imm ((I, o) :: fr) s) (hi : ItO x v i o) (h : P (.ref I) s) : wpAny c.M f.A (pyIter (.ref I)) P E s := by
  have hI := R.inFr (List.mem_cons_self)
  cases hi with
  | list h1 h2 => exact wpAny_pyIter_listiter ⟨_, hI, h1, h2⟩ h
  | scr h1 h2 => exact wpAny_pyIter_listiter ⟨_, hI, h1, h2⟩ h
  | tup h1 h2 => exact wpAny_pyIter_tupleiter ⟨_, hI, h1, h2⟩ h
  | rng => exact wpAny_pyIter_rangeiter hI h
  | strA h1 h2 => exact wpAny_pyIter_striter_ascii ⟨_, hI, h1, h2⟩ h
  | strW h1 h2 => exact wpAny_pyIter_striter_wide ⟨_, hI, h1, h2⟩ h
end
end Mine
namespace Mine
/-- how a turn ends -/
noncomputable def lp (fl : Fl) (again : Prop) (out : Fl → Prop) : Prop := match fl with
  | .next => again
  | .cont => again
  | .brk => out .next
  | .ret v => out (.ret v)
theorem lp_next {p : Prop} {q : Fl → Prop} (h : p) : lp .next p q := h
/-- fewer locals -/
noncomputable def Sub (ρ₂ ρ : Loc) : Prop := ∀ y v, getL ρ₂ y = some v → getL ρ y = some v
theorem getL_mem {ρ : Loc} {y : Str} {v : V} (h : getL ρ y = some v) : (y, v) ∈ ρ := by
  induction ρ with
  | nil => cases h
  | cons p r ih =>
    obtain ⟨x, u⟩ := p
    rw [getL_cons] at h
    by_cases e : x = y
    · subst e; rw [if_pos rfl] at h; cases h; exact .head _
    · rw [if_neg e] at h; exact .tail _ (ih h)
theorem Sub.of {ρ₂ ρ : Loc} (h : ∀ p ∈ ρ₂, getL ρ p.1 = some p.2) : Sub ρ₂ ρ := fun y v e => h (y, v) (getL_mem e)

section
variable {c : Cx} {k : Nat} {sc : Scope} {ρ : Loc} {st : St} {Q : V → St → Prop} {S : Fl → Loc → St → Prop} {X : Xp} {f : Fm} {imm fr : Led} {s : Shared} {tk : Nat}

theorem Rel.locs {ρ' : Loc} (R : Rel c f ρ st imm fr s) (h : Sub ρ' ρ) : Rel c f ρ' st imm fr s := by
  obtain ⟨hs, m, mt, cs, fo, r⟩ := R
  exact ⟨hs, m, mt, cs, fo, r.frm, r.news, r.nodup, r.sto, r.fos, ⟨fun y v e => r.loc.reads y v (h y v e), r.loc.cells, r.loc.inj⟩⟩
theorem WPS.locs {ρ' : Loc} {ss : List Stmt} (h : WPS c k sc ρ' st ss S X) (hs : Sub ρ' ρ) : WPS c k sc ρ st ss S X := ⟨fun f imm fr s ok hsc own R => h.go f imm fr s ok hsc own (R.locs hs)⟩
/-- the turns that are left -/
noncomputable def FOR (c : Cx) (k : Nat) (sc : Scope) (x : Str) (body : List Stmt) (v : V) (vs : List V) (S : Fl → Loc → St → Prop) (X : Xp) : List V → Loc → St → Prop
  | [], ρ, st => S .next ρ st
  | u :: us, ρ, st => WPS c k sc (setL ρ x u) st body (fun fl ρ' st' => lp fl (∃ ρ₂, Sub ρ₂ ρ' ∧ Src st' v vs ∧ FOR c k sc x body v vs S X us ρ₂ st') (fun fl => S fl ρ' st')) X

theorem WPs.for {x : Str} {px pos : Pos} {iter : Expr} {body : List Stmt} (hq : c.q = true) (h : WPE c k sc ρ st iter (fun v st₁ => ∃ vs, Src st₁ v vs ∧ FOR c k sc x body v vs S X vs ρ st₁) X) (hx : storesB sc x = true := by rfl)
    (hs : ∀ env x, foldedSetIterable iter env x = pure x := by intro _ _; rfl) : WPs c k sc ρ st (.For (.Name x px) iter body [] pos) S X := by
  refine ⟨fun f imm fr s ok hsc own R => ?_⟩
  refine wpAny_For (wpAny_mono (h.go f imm fr s ok hsc R) (fun y s₁ p => ?_) fun _ _ t => t) (hs _)
  obtain ⟨v, st₁, imm₁, i₁, rv, R₁, vs, hsrc, hF⟩ := p
  refine wpAny_mono (it_start (E := Thrown c f imm fr X) R₁ rv hsrc) (fun it s₂ p => ?_) fun _ _ t => t
  obtain ⟨I, o, rfl, hi, R₂⟩ := p
  refine codeAny_forLoop (fun n s' => ∃ us i ρ' st' imm' o, n = us.length ∧ vs.drop i = us ∧ (∀ p ∈ imm₁, p ∈ imm') ∧ ItO y v i o ∧ Rel c f ρ' st' imm' ((I, o) :: fr) s' ∧ Src st' v vs ∧ FOR c k sc x body v vs S X us ρ' st') ?_ vs.length
    ⟨vs, 0, ρ, st₁, imm₁, o, rfl, rfl, fun _ h => h, hi, R₂, hsrc, hF⟩
  rintro n s' ⟨us, i, ρ', st', imm', o', rfl, hus, i', hi', R', hsrc', hF'⟩
  cases us with
  | nil =>
    have hle : vs.length ≤ i := by simpa using hus
    refine wpAny_mono (it_end (ok.hnd hq) R' (rv.mono i') hsrc' hi' hle) (fun r s₃ p => ?_) fun _ _ t => t
    obtain ⟨rfl, R₃⟩ := p
    exact wpAny_execs_nil ⟨.next, ρ', st', imm', fun q hq => i' q (i₁ q hq), .next, R₃, hF'⟩
  | cons u us =>
    have hu : vs[i]? = some u := by
      have := congrArg List.head? hus
      rw [List.head?_drop] at this
      simpa using this
    have hdr : vs.drop (i + 1) = us := by
      have := congrArg List.tail hus
      rwa [List.tail_drop] at this
    refine wpAny_mono (it_next R' (rv.mono i') hsrc' hi' hu) (fun r s₃ p => ?_) fun _ _ t => t
    obtain ⟨w, o₂, rfl, rw', hi₂, R₃⟩ := p
    refine wpAny_assign_Name (store ok own R₃ (hsc ▸ hx) rw' fun s₄ R₄ => ?_)
    refine wpAny_mono ((show WPS c k sc (setL ρ' x u) st' body _ X from hF').go f imm' ((I, o₂) :: fr) s₄ ok hsc own R₄) (fun fl s₅ p => ?_) fun _ _ t => outOfLoop ok own.same (t.drop hi₂.fields fun q hq => i' q (i₁ q hq))
    obtain ⟨fl', ρ₅, st₅, imm₅, i₅, rf, R₅, h₅⟩ := p
    have R₆ : Rel c f ρ₅ st₅ imm₅ fr s₅ := by
      have hR := R₅
      obtain ⟨⟨h0, tk0, rfl⟩, _⟩ := hR
      exact R₅.frEnd (h' := h0) (tk := tk0) (fun _ _ _ e => e) hi₂.fields
    cases rf with
    | next => obtain ⟨ρ₂, hsub, h1, h2⟩ := h₅; exact ⟨us.length, by simp, us, i + 1, ρ₂, st₅, imm₅, o₂, rfl, hdr, fun q hq => i₅ q (i' q hq), hi₂, R₅.locs hsub, h1, h2⟩
    | cont => obtain ⟨ρ₂, hsub, h1, h2⟩ := h₅; exact ⟨us.length, by simp, us, i + 1, ρ₂, st₅, imm₅, o₂, rfl, hdr, fun q hq => i₅ q (i' q hq), hi₂, R₅.locs hsub, h1, h2⟩
    | brk => exact ⟨.next, ρ₅, st₅, imm₅, fun q hq => i₅ q (i' q (i₁ q hq)), .next, R₆, h₅⟩
    | ret r => exact ⟨.ret _, ρ₅, st₅, imm₅, fun q hq => i₅ q (i' q (i₁ q hq)), .ret r, R₆, h₅⟩

end
end Mine
namespace Mine
/-- the cells of a comprehension -/
noncomputable def clF (cells : List (Str × Addr)) : List (Str × NameKind) → List (Str × Addr) → List (Str × Addr)
  | [], acc => acc
  | (n, k) :: r, acc => if k == .free then clF cells r ((n, (cells.lookup n).getD 0) :: acc) else clF cells r acc
theorem closure_go {env : Env} : ∀ (names : List (Str × NameKind)) (acc : List (Str × Addr)), (∀ p ∈ names, p.2 = .free → ∃ a, env.cells.lookup p.1 = some a) →
    (forIn names acc (fun (x : Str × NameKind) cs => (do if (x.2 == NameKind.free) = true then do let a ← cellOf env x.1; pure (ForInStep.yield ((x.1, a) :: cs)) else pure (ForInStep.yield cs) : Sem (ForInStep (List (Str × Addr)))))) = (pure (clF env.cells names acc) : Sem _)
  | [], acc, _ => rfl
  | (n, k) :: r, acc, h => by
    have ih := fun acc => closure_go (env := env) r acc fun p hp => h p (.tail _ hp)
    rw [List.forIn_cons]
    by_cases hk : (k == NameKind.free) = true
    · have hk' : k = .free := by simpa using hk
      obtain ⟨a, ha⟩ := h (n, k) (.head _) hk'
      have e : cellOf env n = pure a := by unfold cellOf; rw [ha]
      simp only [hk, if_true, e, pure_bind]
      rw [ih]
      conv => rhs; unfold clF
      simp only [hk, if_true]
      rw [ha]; rfl
    · simp only [hk, Bool.false_eq_true, if_false, pure_bind]
      rw [ih]
      conv => rhs; unfold clF
      simp only [hk, Bool.false_eq_true, if_false]
theorem closure_is {scope : Scope} {env : Env} (h : ∀ p ∈ scope.names, p.2 = .free → ∃ a, env.cells.lookup p.1 = some a) : closureFor scope env = pure (clF env.cells scope.names []) := by
  have := closure_go (env := env) scope.names [] h
  unfold closureFor
  simp only [pure_bind, bind_pure] at this ⊢
  refine Eq.trans ?_ this
  congr
theorem clF_mem {cells : List (Str × Addr)} {p : Str × Addr} : ∀ {names : List (Str × NameKind)} {acc : List (Str × Addr)}, (∀ q ∈ names, q.2 = .free → ∃ a, cells.lookup q.1 = some a) → p ∈ clF cells names acc → p ∈ acc ∨ cells.lookup p.1 = some p.2
  | [], acc, _, h => .inl h
  | (n, k) :: r, acc, hq, h => by
    unfold clF at h
    split at h
    · rename_i hk
      rcases clF_mem (fun q hq' => hq q (.tail _ hq')) h with h | h
      · rcases List.mem_cons.mp h with rfl | h
        · obtain ⟨a, ha⟩ := hq (n, k) (.head _) (by simpa using hk)
          right; simp [ha]
        · exact .inl h
      · exact .inr h
    · exact clF_mem (fun q hq' => hq q (.tail _ hq')) h
theorem clF_some {cells : List (Str × Addr)} {n : Str} : ∀ {names : List (Str × NameKind)} {acc : List (Str × Addr)}, (n, NameKind.free) ∈ names ∨ (acc.lookup n).isSome = true → ((clF cells names acc).lookup n).isSome = true
  | [], acc, h => by
    rcases h with h | h
    · cases h
    · exact h
  | (y, k) :: r, acc, h => by
    unfold clF
    split
    · rename_i hk
      refine clF_some ?_
      rcases h with h | h
      · rcases List.mem_cons.mp h with h | h
        · cases h; right; simp
        · exact .inl h
      · right
        rw [List.lookup_cons]
        split
        · rfl
        · exact h
    · rename_i hk
      refine clF_some ?_
      rcases h with h | h
      · rcases List.mem_cons.mp h with h | h
        · cases h; exact absurd rfl hk
        · exact .inl h
      · exact .inr h
theorem clF_at {cells : List (Str × Addr)} {names : List (Str × NameKind)} {n : Str} (hq : ∀ q ∈ names, q.2 = .free → ∃ a, cells.lookup q.1 = some a) (h : (n, NameKind.free) ∈ names) : ∃ a, (clF cells names []).lookup n = some a ∧ cells.lookup n = some a := by
  obtain ⟨a, ha⟩ := Option.isSome_iff_exists.mp (clF_some (cells := cells) (acc := []) (.inl h))
  refine ⟨a, ha, ?_⟩
  rcases clF_mem hq (mem_of_lookup ha) with h | h
  · cases h
  · exact h

/-- a comprehension's scope in its block -/
noncomputable def relabelS (scope sc : Scope) : Scope :=
  { scope with names := scope.names.map fun (n, k) => if (k == .free && sc.kind == .function && sc.names.lookup n == some .cell) then (n, .cell) else (n, k) }
/-- what a comprehension reads of its block -/
noncomputable def inner (scope : Scope) : Loc → Loc
  | [] => []
  | (x, v) :: r => match scope.names.lookup x with
    | some .free => (x, v) :: inner scope r
    | _ => inner scope r
theorem inner_get {scope : Scope} {x : Str} {v : V} : ∀ {ρ : Loc}, getL (inner scope ρ) x = some v → scope.names.lookup x = some .free ∧ getL ρ x = some v
  | [], h => by cases h
  | (y, u) :: r, h => by
    unfold inner at h
    split at h
    · rename_i hy
      rw [getL_cons] at h
      rw [getL_cons]
      by_cases e : y = x
      · subst e
        rw [if_pos rfl] at h ⊢
        exact ⟨hy, h⟩
      · rw [if_neg e] at h ⊢
        exact inner_get h
    · rename_i hy
      have z := inner_get h
      refine ⟨z.1, ?_⟩
      rw [getL_cons]
      by_cases e : y = x
      · subst e; exact absurd z.1 hy
      · rw [if_neg e]; exact z.2
/-- a comprehension's scope is plain: its free names are cells of the block -/
noncomputable def compOk (scope sc : Scope) (x : Str) : Bool :=
  (scope.kind == .function) && scope.names.all (fun p => (p.2 != .cell) && (p.2 != .free || sc.names.lookup p.1 == some .cell) && (p.2 != .local || scope.names.lookup p.1 == some .local)) && (scope.names.lookup x == some .local) && (sc.kind == .function)
theorem relabel_free {scope sc : Scope} {y : Str} (hk : sc.kind = .function) (hc : sc.names.lookup y = some .cell) (h : scope.names.lookup y = some .free) : (relabelS scope sc).names.lookup y = some .cell := by
  show (scope.names.map fun (n, k) => if (k == NameKind.free && sc.kind == .function && sc.names.lookup n == some .cell) then (n, NameKind.cell) else (n, k)).lookup y = _
  generalize scope.names = names at h
  induction names with
  | nil => cases h
  | cons p r ih =>
    obtain ⟨n, k⟩ := p
    rw [List.lookup_cons] at h
    by_cases e : y = n
    · subst e
      simp at h
      subst h
      simp [hk, hc]
    · have e' : (y == n) = false := by simpa using e
      rw [e'] at h
      rw [List.map_cons, List.lookup_cons]
      have : ∀ k', (y == ((n, k') : Str × NameKind).1) = false := fun _ => e'
      by_cases q : (k == NameKind.free && sc.kind == .function && sc.names.lookup n == some .cell) = true
      · simp only [q, if_true, e']; exact ih h
      · simp only [q, Bool.false_eq_true, if_false, e']; exact ih h
theorem relabel_cell {scope sc : Scope} {y : Str} (hn : ∀ p ∈ scope.names, p.2 ≠ .cell) (h : (relabelS scope sc).names.lookup y = some .cell) : (y, NameKind.free) ∈ scope.names := by
  have hm := mem_of_lookup h
  obtain ⟨⟨n, k⟩, hp, e⟩ := List.mem_map.mp hm
  dsimp only at e
  split at e
  · rename_i q
    cases e
    simp only [Bool.and_eq_true, beq_iff_eq] at q
    rw [← q.1.1]; exact hp
  · cases e
    exact absurd rfl (hn _ hp)

section
variable {c : Cx} {k : Nat} {sc : Scope} {ρ : Loc} {st : St} {Q : V → St → Prop} {S : Fl → Loc → St → Prop} {X : Xp} {f : Fm} {imm fr : Led} {s : Shared} {tk : Nat}

noncomputable abbrev Fm.comp (f : Fm) (m : Str → Option Value) (C : Addr) (env : Env) : Fm := { outer := f.outer, frs := (f.L, m) :: f.frs, L := C, fenv := f.fenv, env := env, A := f.A, cmp := true }

theorem Fm.Ok.cells {scope : Scope} {x : Str} (ok : f.Ok c k) (h : compOk scope f.env.scope x = true) : ∀ p ∈ scope.names, p.2 = .free → ∃ a, f.env.cells.lookup p.1 = some a := by
  intro p hp hf
  simp only [compOk, Bool.and_eq_true, List.all_eq_true, bne_iff_ne, Bool.or_eq_true, beq_iff_eq] at h
  rcases (h.1.1.2 p hp).1.2 with q | q
  · exact absurd hf q
  · exact ok.ecell _ q

theorem okComp {scope : Scope} {x : Str} {m : Str → Option Value} {C : Addr} (ok : f.Ok c k) (h : compOk scope f.env.scope x = true) : (f.comp m C (compEnvC scope (clF f.env.cells scope.names []) C f.env)).Ok c k := by
  have hc := ok.cells h
  simp only [compOk, Bool.and_eq_true, List.all_eq_true, bne_iff_ne, Bool.or_eq_true, beq_iff_eq] at h
  refine ⟨ok.kin, ok.top, fun e he => ?_, ok.frames, ok.eframe, h.1.1.1, ok.eglob, ok.ebi, fun y hy => ?_, ok.hnd, ok.depth, ok.units⟩
  · obtain ⟨h1, L, h2, h3⟩ := ok.envs e he
    refine ⟨h1, L, h2, .inr ?_⟩
    rcases h3 with rfl | ⟨m', h3⟩
    · exact ⟨m, .head _⟩
    · exact ⟨m', .tail _ h3⟩
  · obtain ⟨a, ha, _⟩ := clF_at hc (relabel_cell (fun p hp => (h.1.1.2 p hp).1.1) hy)
    exact ⟨a, ha⟩

/-- into a comprehension's block -/
theorem enterComp {scope : Scope} {x : Str} {o : Obj} {h₁ : Heap} {m₁ : Str → Option Value} {tk : Nat} (ok : f.Ok c k) (hk : compOk scope f.env.scope x = true) (R : Rel c f ρ st imm fr s) (hns : h₁.Ns s.heap.objs.size m₁) (hsb : Heap.SameBut s.heap.objs.size (s.heap.push o) h₁) :
    ∃ m cs, Fr c.base f.L s.heap m ∧ LocR c.base imm f ρ m cs fr ∧ (∀ p ∈ cs ++ fr, p.1 ≠ f.L) ∧
      Rel c (f.comp m s.heap.objs.size (compEnvC scope (clF f.env.cells scope.names []) s.heap.objs.size f.env)) (inner scope ρ) st imm (cs ++ fr) { s with heap := h₁, toks := tk } := by
  have hcl := ok.cells hk
  simp only [compOk, Bool.and_eq_true, List.all_eq_true, bne_iff_ne, Bool.or_eq_true, beq_iff_eq] at hk
  obtain ⟨⟨h0, tk0, rfl⟩, m, mt, cs, fo, r⟩ := R
  dsimp only at hns hsb r ⊢
  have old : ∀ b ob, h0.get? b = some ob → h₁.get? b = some ob := fun b ob e => (hsb.2 b (Nat.ne_of_lt (Heap.lt_size e))).trans (Heap.get?_push_of_some _ e)
  have hLs : ∀ p ∈ whole mt cs imm fr fo, p.1 ≠ f.L := fun p hp => (r.news p hp).2.1
  have hin : ∀ p ∈ cs ++ fr, p ∈ whole mt cs imm fr fo := fun p hp => by
    simp only [List.mem_append] at hp ⊢
    rcases hp with hp | hp
    · exact .inr (.inl hp)
    · exact .inr (.inr (.inr (.inl hp)))
  obtain ⟨oL, es, ep, hL, hLd, hLk, hLf⟩ := r.frm.ns
  have hb : c.base.objs.size ≤ h0.objs.size := Nat.le_trans r.frm.above (Nat.le_of_lt r.frm.ns.lt)
  refine ⟨m, cs, r.frm, r.loc, fun p hp => hLs p (hin p hp), ⟨h₁, tk, rfl⟩, m₁, mt, [], (f.L, oL) :: fo, ⟨hns, fun b ob e => old b ob (r.frm.keep b ob e), hb⟩, fun p hp => ?_, nodup_count fun b => ?_, r.sto, .cons ⟨es, ep, hLd, hLk, hLf⟩ r.fos, ⟨fun y v e => ?_, (fun q => by cases q), (fun q => by cases q)⟩⟩
  · have hp' : p = (f.L, oL) ∨ p ∈ whole mt cs imm fr fo := by
      simp only [List.mem_append, List.mem_cons, List.nil_append, List.not_mem_nil, false_or] at hp ⊢
      rcases hp with hp | hp | (hp | hp) | hp | hp
      · exact .inr (.inl hp)
      · exact .inr (.inr (.inr (.inl hp)))
      · exact .inr (.inr (.inl hp))
      · exact .inr (.inr (.inr (.inr (.inl hp))))
      · exact .inl hp
      · exact .inr (.inr (.inr (.inr (.inr hp))))
    rcases hp' with rfl | hp'
    · exact ⟨old _ _ hL, Nat.ne_of_lt (Heap.lt_size hL), Heap.get?_none_of_le r.frm.above⟩
    · have z := r.news p hp'
      exact ⟨old _ _ z.1, Nat.ne_of_lt (Heap.lt_size z.1), z.2.2⟩
  · have nd := List.nodup_iff_count.mp r.nodup b
    simp only [List.map_append, List.map_cons, List.count_append, List.count_cons, List.map_nil, List.count_nil] at nd ⊢
    by_cases e : f.L = b
    · subst e
      have : (List.map (fun x => x.fst) (whole mt cs imm fr fo)).count f.L = 0 := List.count_eq_zero.mpr fun hm => by
        obtain ⟨p, hp, e⟩ := List.mem_map.mp hm
        exact hLs p hp e
      simp only [List.map_append, List.count_append] at this
      simp only [beq_self_eq_true, if_true]
      (first | lia | omega)
    · have : (f.L == b) = false := by simpa using e
      simp only [this, Bool.false_eq_true, if_false]
      (first | lia | omega)
  · obtain ⟨e1, e2⟩ := inner_get e
    obtain ⟨val, rv, q⟩ := r.loc.reads y v e2
    have hfree := mem_of_lookup e1
    have hcell : f.env.scope.names.lookup y = some .cell := by
      rcases (hk.1.1.2 _ hfree).1.2 with q | q
      · exact absurd rfl q
      · exact q
    obtain ⟨a, ha, ha'⟩ := clF_at hcl hfree
    refine ⟨val, rv, ?_⟩
    rcases q with ⟨q1, _⟩ | ⟨q1, cc, ob, q2, q3, q4⟩
    · rw [show f.env.kindOf y = f.env.scope.names.lookup y from rfl, hcell] at q1; cases q1
    · rw [ha'] at q2
      cases q2
      exact .inr ⟨.inl (relabel_free hk.2 hcell e1), a, ob, ha, by simpa using q3, q4⟩

/-- and out of it -/
theorem backC {f' : Fm} {m : Str → Option Value} {ρ' : Loc} {st' : St} {imm' cs : Led} {s' : Shared} {h : Heap} (hf : f'.frs = (f.L, m) :: f.frs) (R : Rel c f' ρ' st' imm' (cs ++ fr) s') (F : Fr c.base f.L h m) (hl : LocR c.base imm f ρ m cs fr) (hi : ∀ p ∈ imm, p ∈ imm')
    (hL : ∀ p ∈ cs ++ fr, p.1 ≠ f.L) : ∃ oC m', s'.heap.Ns f'.L m' ∧ (∃ es ep, oC.data = .dict es ep) ∧ Rel c f ρ st' imm' ((f'.L, oC) :: fr) s' := by
  obtain ⟨hr, m', mt', cs', fo', r⟩ := R
  have fos := r.fos
  rw [hf] at fos
  cases fos with
  | @cons _ _ oL _ fo no fos =>
    have hw := r.news (f.L, oL) (by simp)
    obtain ⟨es, ep, n1, n2, n3⟩ := no
    obtain ⟨oC, esC, epC, hC, hCd, hCk, hCf⟩ := r.frm.ns
    have nd := List.nodup_iff_count.mp r.nodup
    simp only [List.map_append, List.map_cons, List.count_append, List.count_cons] at nd
    have hC0 : ∀ p ∈ whole mt' cs' imm' (cs ++ fr) ((f.L, oL) :: fo), p.1 ≠ f'.L := fun p hp => (r.news p hp).2.1
    have sub : ∀ p ∈ whole mt' cs imm' fr fo, p ∈ whole mt' cs' imm' (cs ++ fr) ((f.L, oL) :: fo) := fun p hp => by
      simp only [List.mem_append, List.mem_cons] at hp ⊢
      rcases hp with hp | hp | hp | hp | hp
      · exact .inl hp
      · exact .inr (.inr (.inr (.inl (.inl hp))))
      · exact .inr (.inr (.inl hp))
      · exact .inr (.inr (.inr (.inl (.inr hp))))
      · exact .inr (.inr (.inr (.inr (.inr hp))))
    refine ⟨oC, m', r.frm.ns, ⟨esC, epC, hCd⟩, hr, m, mt', cs, fo, ⟨⟨oL, es, ep, hw.1, n1, n2, n3⟩, r.frm.keep, F.above⟩, fun p hp => ?_, nodup_count fun a => ?_, r.sto, fos, (hl.mono hi).more⟩
    · have hp' : p = (f'.L, oC) ∨ p ∈ whole mt' cs imm' fr fo := by
        simp only [List.mem_append, List.mem_cons] at hp ⊢
        rcases hp with hp | hp | hp | (hp | hp) | hp
        · exact .inr (.inl hp)
        · exact .inr (.inr (.inl hp))
        · exact .inr (.inr (.inr (.inl hp)))
        · exact .inl hp
        · exact .inr (.inr (.inr (.inr (.inl hp))))
        · exact .inr (.inr (.inr (.inr (.inr hp))))
      rcases hp' with rfl | hp'
      · exact ⟨hC, fun e => hC0 (f.L, oL) (by simp) e.symm, Heap.get?_none_of_le r.frm.above⟩
      · refine ⟨(r.news p (sub p hp')).1, fun e => ?_, (r.news p (sub p hp')).2.2⟩
        have q := nd f.L
        simp only [beq_self_eq_true, if_true] at q
        have hin : p.1 ∈ (mt' ++ (cs ++ (imm' ++ (fr ++ fo)))).map (·.1) := List.mem_map_of_mem hp'
        rw [e] at hin
        have := List.count_pos_iff.mpr hin
        simp only [List.map_append, List.count_append] at this
        (first | lia | omega)
    · have q := nd a
      simp only [List.map_append, List.map_cons, List.count_append, List.count_cons]
      by_cases e : f'.L = a
      · subst e
        have : (List.map (fun x => x.fst) (whole mt' cs imm' fr fo)).count f'.L = 0 := List.count_eq_zero.mpr fun hm => by
          obtain ⟨p, hp, e⟩ := List.mem_map.mp hm
          exact hC0 p (sub p hp) e
        simp only [List.map_append, List.count_append] at this
        simp only [beq_self_eq_true, if_true]
        (first | lia | omega)
      · have : (f'.L == a) = false := by simpa using e
        simp only [this, Bool.false_eq_true, if_false]
        (first | lia | omega)
end
end Mine
namespace Mine
section
variable {c : Cx} {k : Nat} {sc : Scope} {ρ : Loc} {st : St} {Q : V → St → Prop} {S : Fl → Loc → St → Prop} {X : Xp} {f : Fm} {imm fr : Led} {s : Shared} {tk : Nat}

/-- the tests of a comprehension: none or one -/
noncomputable def TST (c : Cx) (k : Nat) (sc : Scope) (ρ : Loc) (st : St) (B : Bool → St → Prop) (X : Xp) : List Expr → Prop
  | [] => B true st
  | [t] => WPB c k sc ρ st t B X
  | _ => False
/-- the turns that are left -/
noncomputable def COMP (c : Cx) (k : Nat) (sc : Scope) (x : Str) (ρ : Loc) (ifs : List Expr) (elt : Expr) (v : V) (vs : List V) (P : List V → St → Prop) (X : Xp) : List V → List V → St → Prop
  | [], acc, st => P acc st
  | u :: us, acc, st => TST c k sc ((x, u) :: ρ) st (fun b st₁ => cnd b
      (WPE c k sc ((x, u) :: ρ) st₁ elt (fun y st₂ => Src st₂ v vs ∧ COMP c k sc x ρ ifs elt v vs P X us (acc ++ [y]) st₂) X)
      (Src st₁ v vs ∧ COMP c k sc x ρ ifs elt v vs P X us acc st₁)) X ifs

theorem wpTests {ifs : List Expr} {B : Bool → St → Prop} {E : Value → Shared → Prop} (ok : f.Ok c k) (hsc : f.env.scope = sc) (R : Rel c f ρ st imm fr s) (h : TST c k sc ρ st B X ifs) (hE : ∀ e s, Thrown c f imm fr X e s → E e s) :
    wpAny c.M f.A (forIn ifs true fun c r => if r = true then do let ok ← isTrue c f.env (eval c f.env); pure (ForInStep.yield ok) else pure (ForInStep.yield r)) (PostB c f ρ imm fr B) E s := by
  match ifs, h with
  | [], h => exact wpAny_tests_nil ⟨st, imm, fun _ h => h, R, h⟩
  | [t], h => exact wpAny_tests_one (wpAny_mono ((show WPB c k sc ρ st t B X from h).go f imm fr s ok hsc R) (fun _ _ p => p) hE)

theorem RVs.snoc {base : Heap} {imm : Led} {us : List V} {vals : List Value} {y : V} {yv : Value} (h : RVs base imm us vals) (hy : RV base imm y yv) : RVs base imm (us ++ [y]) (vals ++ [yv]) := h.append (.one hy)

theorem comp_core {elt iter : Expr} {x : Str} {px : Pos} {ifs : List Expr} {scope : Scope} {pos : Pos} {v : V} {vs : List V} {y : Value} {I : Addr} {o : Obj} {P : List V → St → Prop} {E : Value → Shared → Prop} {RR : Value → Addr → Result → Shared → Prop}
    (hq : c.q = true) (ok : f.Ok c k) (hk : compOk scope f.env.scope x = true) (R : Rel c f ρ st imm ((I, o) :: fr) s) (rv : RV c.base imm v y) (hi : ItO y v 0 o) (hsrc : Src st v vs) (hlen : vs.length ≤ sizeLine)
    (h : COMP c k (relabelS scope f.env.scope) x (inner scope ρ) ifs elt v vs P never vs [] st)
    (hRR : ∀ D C oC m' n us vals st' imm' s', (∀ p ∈ imm, p ∈ imm') → P us st' → RVs c.base imm' us vals → s'.heap.Ns C m' → (∀ w, oC.data ≠ .cell w) → Rel c f ρ st' imm' ((C, oC) :: (D, listOf vals.toArray n) :: fr) s' → RR (.ref D) C (.ok .next) s') :
    wpAny c.M f.A (newList []) (fun acc s₃ => wpAny c.M f.A (newFunctionEnv scope f.env.globals (clF f.env.cells scope.names []) [] f.env.qual none .none (some f.env)) (fun cenv s₄ =>
      codeAny c.M f.A (.compStart (.ListComp elt [⟨.Name x px, iter, ifs, 0⟩] scope pos) 0 (.ref I) acc { cenv with scope := relabel scope f.env }) (RR acc cenv.locals) s₄) E s₃) E s := by
  have hk' := hk
  simp only [compOk, Bool.and_eq_true, List.all_eq_true, bne_iff_ne, Bool.or_eq_true, beq_iff_eq] at hk'
  refine wpAny_newObj_type ?_
  have R₁ := R.pushFr (o := listOf (#[] : Array Value) 0) (tk := s.toks)
  generalize hD : s.heap.objs.size = D at R₁ ⊢
  refine wpAny_newFunctionEnv (fun p hp => (hk'.1.1.2 p hp).1.1) (by intro y hy; cases hy) (fun h₁ hns hsb => ?_) hk'.1.1.1
  obtain ⟨m, cs, F, hl, hL, R₂⟩ := enterComp (tk := s.toks + ([] : List (Str × Value)).length) ok hk R₁ hns hsb
  generalize hC : ((s.heap.push (listOf (#[] : Array Value) 0)).objs.size) = C at R₂
  have ok' := okComp (m := m) (C := C) ok hk
  generalize hf' : f.comp m C (compEnvC scope (clF f.env.cells scope.names []) C f.env) = f' at R₂ ok'
  have hfrs : f'.frs = (f.L, m) :: f.frs := by rw [← hf']
  have hA : f'.A = f.A := by rw [← hf']
  have henv : f'.env = compEnvC scope (clF f.env.cells scope.names []) C f.env := by rw [← hf']
  have hfl : f'.env.locals = f'.L := by rw [← hf']; rfl
  have hfL : f'.L = C := by rw [← hf']
  have hsc : f'.env.scope = relabelS scope f.env.scope := by rw [← hf']; rfl
  have hl0 : LocR c.base imm f ρ m cs fr := by
    have := LocR.other (l₁ := []) hl (by intro w e; cases e) (l₃ := (I, o) :: fr) fun p hp => hp
    exact LocR.other (l₁ := []) this hi.fields fun p hp => hp
  have hx : f'.env.kindOf x = some .local := by rw [henv]; exact lookup_relabel_local hk'.1.2
  have hinn : ∀ (u : V) z w, getL (inner scope ρ) z = some w → getL ((x, u) :: inner scope ρ) z = some w := fun u z w e => by
    rw [getL_cons]
    by_cases q : x = z
    · subst q
      have := (inner_get e).1
      rw [hk'.1.2] at this; cases this
    · rw [if_neg q]; exact e
  have hset : ∀ (u : V) z w, getL ((x, u) :: inner scope ρ) z = some w → getL (setL (inner scope ρ) x u) z = some w := fun u z w e => by
    rw [getL_cons] at e
    rw [getL_setL]
    by_cases q : x = z
    · subst q; rw [if_pos rfl] at e ⊢; exact e
    · rw [if_neg q] at e; rw [if_neg (fun z => q z.symm)]; exact e
  have R₃ := R₂.permFr (fr' := (I, o) :: (D, listOf ([] : List Value).toArray 0) :: (cs ++ fr)) (by
    refine List.Perm.trans List.perm_middle ?_
    refine List.Perm.trans (List.Perm.cons _ List.perm_middle) ?_
    exact List.Perm.swap _ _ _)
  have loop : codeAny c.M f.A (.compLoop (.ListComp elt [⟨.Name x px, iter, ifs, 0⟩] scope pos) 0 (.ref I) (.ref D) (compEnvC scope (clF f.env.cells scope.names []) C f.env)) (RR (.ref D) C) { s with heap := h₁, toks := s.toks + ([] : List (Str × Value)).length } := by
    rw [← henv, ← hA]
    refine codeAny_compLoop_tests (fun n s' => ∃ us i acc vals nn st' imm' o, n = us.length ∧ vs.drop i = us ∧ (∀ p ∈ imm, p ∈ imm') ∧ ItO y v i o ∧ RVs c.base imm' acc vals ∧ acc.length ≤ i ∧
        Rel c f' (inner scope ρ) st' imm' ((I, o) :: (D, listOf vals.toArray nn) :: (cs ++ fr)) s' ∧ Src st' v vs ∧ COMP c k (relabelS scope f.env.scope) x (inner scope ρ) ifs elt v vs P never us acc st') ?_ vs.length
      ⟨vs, 0, [], [], 0, st, imm, o, rfl, rfl, fun _ h => h, hi, .nil, Nat.zero_le _, R₃, hsrc, h⟩
    rintro n s' ⟨us, i, acc, vals, nn, st', imm', o', rfl, hus, i', hi', hacc, hai, R', hsrc', hC'⟩
    cases us with
    | nil =>
      have hle : vs.length ≤ i := by simpa using hus
      refine wpAny_mono (it_end (ok'.hnd hq) R' (rv.mono i') hsrc' hi' hle) (fun r s₃ p => ?_) fun _ _ t => t
      obtain ⟨rfl, R₄⟩ := p
      have R₅ := R₄.permFr (fr' := cs ++ (D, listOf vals.toArray nn) :: fr) List.perm_middle.symm
      obtain ⟨oC, m', hnsC, ⟨es, ep, hoC⟩, R₆⟩ := backC hfrs R₅ F hl0.more i' (fun p hp => by
        rcases List.mem_append.mp hp with hp | hp
        · exact hL p (List.mem_append_left _ hp)
        · rcases List.mem_cons.mp hp with rfl | hp
          · exact hL (D, listOf (#[] : Array Value) 0) (List.mem_append_right _ (.head _))
          · exact hL p (List.mem_append_right _ (.tail _ (.tail _ hp))))
      rw [hfL] at hnsC R₆
      exact hRR D C oC m' nn acc vals st' imm' _ i' hC' hacc hnsC (by rw [hoC]; intro w e; cases e) R₆
    | cons u us =>
      have hu : vs[i]? = some u := by
        have := congrArg List.head? hus
        rw [List.head?_drop] at this
        simpa using this
      have hdr : vs.drop (i + 1) = us := by
        have := congrArg List.tail hus
        rwa [List.tail_drop] at this
      have hil : i < vs.length := by
        rcases Nat.lt_or_ge i vs.length with q | q
        · exact q
        · rw [List.getElem?_eq_none q] at hu; cases hu
      refine wpAny_mono (it_next R' (rv.mono i') hsrc' hi' hu) (fun r s₃ p => ?_) fun _ _ t => t
      obtain ⟨w, o₂, rfl, rw', hi₂, R₄⟩ := p
      refine wpAny_assign_Name (store_local ok' hfl R₄ hx rw' fun s₄ R₅ => ?_)
      have R₆ := R₅.locs (hset u)
      refine wpAny_mono (wpTests ok' hsc R₆ hC' fun e s t => t.never.elim) (fun b s₅ p => ?_) fun _ _ t => t
      obtain ⟨st₅, imm₅, i₅, R₇, h₇⟩ := p
      have i05 : ∀ p ∈ imm, p ∈ imm₅ := fun p hp => i₅ p (i' p hp)
      cases b with
      | false =>
        rw [if_neg (by decide)]
        exact ⟨us.length, by simp, us, i + 1, acc, vals, nn, st₅, imm₅, o₂, rfl, hdr, i05, hi₂, hacc.mono i₅, Nat.le_succ_of_le hai, R₇.locs (hinn u), (of_f h₇).1, (of_f h₇).2⟩
      | true =>
        rw [if_pos rfl]
        refine wpAny_mono ((of_t h₇).go f' imm₅ _ s₅ ok' hsc R₇) (fun z s₆ p => ?_) fun _ _ t => t.never.elim
        obtain ⟨zv, st₆, imm₆, i₆, rz, R₈, hsrc₆, h₈⟩ := p
        have ho := R₈.inFr (.tail _ (.head _))
        have hvl : vals.length ≤ sizeLine := by rw [hacc.length]; (first | lia | omega)
        refine append_at (hsz := by simpa using hvl) ho fun h' hsb' hg' => ?_
        refine ⟨us.length, by simp, us, i + 1, acc ++ [zv], vals ++ [z], nn + 1, st₆, imm₆, o₂, rfl, hdr, fun p hp => i₆ p (i05 p hp), hi₂, ((hacc.mono i₅).mono i₆).snoc rz, by simp; (first | lia | omega), ?_, hsrc₆, h₈⟩
        have := (Rel.frSetAt [(I, o₂)] R₈ (tk := s₆.toks) hsb' hg' (by intro w e; cases e)).locs (hinn u)
        simpa using this
  subst hD
  refine codeAny_compStart_list ?_ ?_
  · exact loop
  · have hI := it_self (E := notedBy c.M f.A (compEnvC scope (clF f.env.cells scope.names []) C f.env) fun x s' => RR (.ref s.heap.objs.size) C (.error x) s') (P := fun it' s' => codeAny c.M f.A (.compLoop (.ListComp elt [⟨.Name x px, iter, ifs, 0⟩] scope pos) 0 it' (.ref s.heap.objs.size) (compEnvC scope (clF f.env.cells scope.names []) C f.env)) (RR (.ref s.heap.objs.size) C) s') R₃ hi loop
    rw [hA] at hI
    exact hI

theorem WPE.comp {elt iter : Expr} {x : Str} {px : Pos} {ifs : List Expr} {scope : Scope} {pos : Pos} (hq : c.q = true) (hk : compOk scope sc x = true)
    (h : WPE c k sc ρ st iter (fun v st₁ => ∃ vs, Src st₁ v vs ∧ vs.length ≤ sizeLine ∧ COMP c k (relabelS scope sc) x (inner scope ρ) ifs elt v vs (fun us st₂ => ∀ a, get st₂ a = none → Q (.ref a) ((a, .list us) :: st₂)) never vs [] st₁) X)
    (hs : ∀ env x, foldedSetIterable iter env x = pure x := by intro _ _; rfl) : WPE c k sc ρ st (.ListComp elt [⟨.Name x px, iter, ifs, 0⟩] scope pos) Q X := by
  refine ⟨fun f imm fr s ok hsc R => ?_⟩
  subst hsc
  have hk' := hk
  simp only [compOk, Bool.and_eq_true, List.all_eq_true, bne_iff_ne, Bool.or_eq_true, beq_iff_eq] at hk'
  rw [eval_ListComp]
  refine wpAny_comprehension_free (use := none) rfl (hs _) (closure_is (ok.cells hk)) hk'.1.1.1 (fun p hp e => ?_) (wpAny_mono (h.go f imm fr s ok rfl R) (fun y s₁ p => ?_) fun _ _ t => t)
  · rcases (hk'.1.1.2 p hp).2 with q | q
    · exact absurd e q
    · exact q
  · obtain ⟨v, st₁, imm₁, i₁, rv, R₁, vs, hsrc, hlen, hC⟩ := p
    refine wpAny_mono (it_start (E := Thrown c f imm fr X) R₁ rv hsrc) (fun it s₂ p => ?_) fun _ _ t => t
    obtain ⟨I, o, rfl, hi, R₂⟩ := p
    refine comp_core (RR := fun acc C => compPost c.M f.A (Thrown c f imm fr X) none (PostE c f ρ imm fr Q) acc C) hq ok hk R₂ rv hi hsrc hlen hC ?_
    intro D C oC m' n us vals st' imm' s' i' hP rus hns hoC R'
    refine ⟨m', hns, fun h' hsb => ?_⟩
    have R₃ := R'.frEnd (tk := s'.toks) hsb.extBut hoC
    obtain ⟨R₄, hnone⟩ := R₃.frSt (by intro w e; cases e) (.list rus)
    exact ⟨.ref D, _, imm', fun p hp => i' p (i₁ p hp), .ref D, R₄, hP D hnone⟩

end
end Mine
namespace Mine
section
variable {c : Cx} {k : Nat} {sc : Scope} {ρ : Loc} {st : St} {Q : V → St → Prop} {S : Fl → Loc → St → Prop} {X : Xp} {f : Fm} {imm fr : Led} {s : Shared} {tk : Nat}

/-! range -/
theorem PostE.pushImm {v : V} {x : Value} {o : Obj} (R : Rel c f ρ st imm fr s) (hv : RV c.base ((s.heap.objs.size, o) :: imm) v x) (h : Q v st) (ho : o.isFreed = false := by rfl) : PostE c f ρ imm fr Q x { s with heap := s.heap.push o, toks := tk } :=
  ⟨v, st, _, fun _ h => .tail _ h, hv, R.pushImm (tk := tk) ho, h⟩
theorem WL.range1 {n : Int} (h : Q (.rng 0 n 1) st) : WL c k (fun xs => call (.type "range") xs) [.int n] ρ st Q X := by
  refine ⟨fun f imm fr s xs ok R rvs => ?_⟩
  obtain ⟨_, rfl, rx0⟩ := rvs.inv1
  obtain ⟨t, rfl⟩ := rx0.intI
  exact call_range_1 (.pushImm R (.rng (.head _)) h)
theorem WL.range2 {a b : Int} (h : Q (.rng a b 1) st) : WL c k (fun xs => call (.type "range") xs) [.int a, .int b] ρ st Q X := by
  refine ⟨fun f imm fr s xs ok R rvs => ?_⟩
  obtain ⟨_, _, rfl, rx0, rx1⟩ := rvs.inv2
  obtain ⟨t, rfl⟩ := rx0.intI
  obtain ⟨u, rfl⟩ := rx1.intI
  exact call_range_2 (.pushImm R (.rng (.head _)) h)
theorem small_up {a n : Nat} (h : a + n < 1000000) : Builtin.Range.small (a : Int) ((a : Int) + n) 1 = true := by
  have e : Builtin.Range.rangeSize (a : Int) ((a : Int) + n) 1 = n := by
    unfold Builtin.Range.rangeSize
    rw [if_pos (by decide), Int.ediv_one]
    split <;> (first | lia | omega)
  unfold Builtin.Range.small Builtin.Range.rangeFitsLong
  rw [e]
  simp
  (first | lia | omega)
/-! numbers of a list -/
theorem RVs.ints {base : Heap} {imm : Led} : ∀ {ns : List Int} {xs : List Value}, RVs base imm (ns.map V.int) xs → IntsAre xs ns := by
  intro ns
  induction ns with
  | nil => intro xs h; cases h; exact .nil
  | cons y ys ih => intro xs h; cases h with | cons a r => obtain ⟨t, rfl⟩ := a.intI; exact .cons y t (ih r)
theorem RVs.bools {base : Heap} {imm : Led} : ∀ {bs : List Bool} {xs : List Value}, RVs base imm (bs.map V.bool) xs → LSm.BoolsAre xs bs := by
  intro ns
  induction ns with
  | nil => intro xs h; cases h; exact .nil
  | cons y ys ih => intro xs h; cases h with | cons a r => obtain rfl := a.boolI; exact .cons y (ih r)
theorem RVs.ofInts {base : Heap} {imm : Led} {ns : List Int} {xs : List Value} (h : IntsAre xs ns) : RVs base imm (ns.map V.int) xs := by
  induction h with
  | nil => exact .nil
  | cons n t _ ih => exact .cons (.int n t) ih
theorem Rel.same {h' : Heap} {m : Str → Option Value} {mt cs fo : Led} (hs : ∃ h tk, s = { c.s₀ with heap := h, toks := tk }) (r : RelAt c f ρ st imm fr s.heap m mt cs fo) (F : Fr c.base f.L h' m) (N : News c.base f.L h' (whole mt cs imm fr fo)) : Rel c f ρ st imm fr { s with heap := h', toks := tk } := by
  obtain ⟨h0, tk0, rfl⟩ := hs
  exact ⟨⟨h', tk, rfl⟩, m, mt, cs, fo, F, N, r.nodup, r.sto, r.fos, r.loc⟩
theorem WL.allBools {a : Addr} {bs : List Bool} (hq : c.q = true) (hg : get st a = some (.list (bs.map .bool))) (h : Q (.bool (bs.all id)) st) : WL c k (fun xs => call (.builtin "all") xs) [.ref a] ρ st Q X := by
  refine ⟨fun f imm fr s xs ok R rvs => ?_⟩
  obtain ⟨_, rfl, rx0⟩ := rvs.inv1
  obtain rfl := rx0.refI
  obtain ⟨vals, n, r, ho⟩ := R.isList hg
  obtain ⟨hs, m, mt, cs, fo, rr⟩ := id R
  exact LSm.all_bools rr.frm rr.news (ok.hnd hq) ⟨_, ho, rfl, _, rfl⟩ r.bools fun h' tk F N => .of (.bool _) (Rel.same hs rr F N) h
theorem WL.sortedInts {a : Addr} {ns : List Int} (hg : get st a = some (.list (ns.map .int))) (hl : ns.length < 64) (h : ∀ ns' : List Int, ns'.Perm ns → ns'.Pairwise (· ≤ ·) → ∀ d, get st d = none → Q (.ref d) ((d, .list (ns'.map .int)) :: st)) : WL c k (fun xs => call (.builtin "sorted") xs) [.ref a] ρ st Q X := by
  refine ⟨fun f imm fr s xs ok R rvs => ?_⟩
  obtain ⟨_, rfl, rx0⟩ := rvs.inv1
  obtain rfl := rx0.refI
  obtain ⟨vals, n, r, ho⟩ := R.isList hg
  obtain ⟨⟨h0, tk0, rfl⟩, m, mt, cs, fo, rr⟩ := id R
  refine kso_sorted rr.frm rr.news ⟨_, ho, rfl, _, rfl⟩ r.ints hl fun D vs' ns' e h' F N hlt hi _ hp ho _ => ?_
  have hn : get st D = none := by
    cases q : get st D with
    | none => rfl
    | some y =>
      obtain ⟨co, hm, _⟩ := rr.sto.get q
      exact absurd (hlt (D, co) (List.mem_append_left _ hm)) (Nat.lt_irrefl _)
  refine ⟨.ref D, _, imm, fun _ h => h, .ref D, ⟨⟨h', tk0, rfl⟩, m, (D, listOf vs'.toArray e) :: mt, cs, fo, F, N, ?_, .cons (.list (RVs.ofInts hi)) rr.sto, rr.fos, rr.loc⟩, h ns' hp ho D hn⟩
  rw [show whole ((D, listOf vs'.toArray e) :: mt) cs imm fr fo = (D, listOf vs'.toArray e) :: whole mt cs imm fr fo from rfl, List.map_cons, List.nodup_cons]
  refine ⟨fun hm => ?_, rr.nodup⟩
  obtain ⟨p, hp, e⟩ := List.mem_map.mp hm
  have := hlt p hp
  rw [e] at this
  exact Nat.lt_irrefl _ this
theorem WL.min2 {a b : Int} (hq : c.q = true) (h : Q (.int (min a b)) st) : WL c k (fun xs => call (.builtin "min") xs) [.int a, .int b] ρ st Q X := by
  refine ⟨fun f imm fr s xs ok R rvs => ?_⟩
  obtain ⟨_, _, rfl, rx0, rx1⟩ := rvs.inv2
  obtain ⟨t, rfl⟩ := rx0.intI
  obtain ⟨u, rfl⟩ := rx1.intI
  refine min_two_ints (ok.hnd hq) fun h' tk hk => ?_
  have e : min a b = if b < a then b else a := by rw [Int.min_def]; split <;> split <;> (first | lia | omega)
  rw [e] at h
  split <;> rename_i q <;> simp only [q, if_true, if_false] at h <;> exact .of (.int _ _) (R.keeps hk) h
theorem WL.intBool {b : Bool} (h : Q (.int (if b then 1 else 0)) st) : WL c k (fun xs => call (.type "int") xs) [.bool b] ρ st Q X := by
  refine ⟨fun f imm fr s xs ok R rvs => ?_⟩
  obtain ⟨_, rfl, rx0⟩ := rvs.inv1
  obtain rfl := rx0.boolI
  exact call_int_bool (.int R h)

/-! methods of lists -/
theorem Rel.noneAt {D : Addr} {m : Str → Option Value} {mt cs fo : Led} {h : Heap} (rr : RelAt c f ρ st imm fr h m mt cs fo) (hlt : ∀ p ∈ whole mt cs imm fr fo, p.1 < D) : Mine.get st D = Option.none := by
  cases q : Mine.get st D with
  | none => rfl
  | some y =>
    obtain ⟨co, hm, _⟩ := rr.sto.get q
    exact absurd (hlt (D, co) (List.mem_append_left _ hm)) (Nat.lt_irrefl _)
theorem RelAt.newSt {D : Addr} {o : Obj} {x : O} {m : Str → Option Value} {mt cs fo : Led} {h h' : Heap} (rr : RelAt c f ρ st imm fr h m mt cs fo) (F : Fr c.base f.L h' m) (N : News c.base f.L h' ((D, o) :: whole mt cs imm fr fo)) (hlt : ∀ p ∈ whole mt cs imm fr fo, p.1 < D) (hr : RO c imm x o) :
    RelAt c f ρ ((D, x) :: st) imm fr h' m ((D, o) :: mt) cs fo := by
  refine ⟨F, N, ?_, .cons hr rr.sto, rr.fos, rr.loc⟩
  rw [show whole ((D, o) :: mt) cs imm fr fo = (D, o) :: whole mt cs imm fr fo from rfl, List.map_cons, List.nodup_cons]
  refine ⟨fun hm => ?_, rr.nodup⟩
  obtain ⟨p, hp, e⟩ := List.mem_map.mp hm
  have := hlt p hp
  rw [e] at this
  exact Nat.lt_irrefl _ this
theorem Rel.mapSeq {a : Addr} {vs vs' : List V} {vals vals' : List Value} {n : Nat} (g : Array Value → Array Value) (R : Rel c f ρ st imm fr s) (hg : Mine.get st a = some (.list vs)) (ho : s.heap.get? a = some (listOf vals.toArray n)) (e : g vals.toArray = vals'.toArray) (r' : RVs c.base imm vs' vals') :
    Rel c f ρ (Mine.upd st a (.list vs')) imm fr { s with heap := s.heap.update a (Obj.mapSeq g), toks := tk } := by
  have hm : Obj.mapSeq g (listOf vals.toArray n) = listOf vals'.toArray (if vals'.toArray.size == vals.toArray.size then n else n + 1) := by
    show Obj.mk _ _ _ _ = _
    rw [e]
  refine R.upd (o := listOf vals'.toArray (if vals'.toArray.size == vals.toArray.size then n else n + 1)) hg (Heap.SameBut.update ..) ?_ (.list r')
  rw [Heap.get?_update_self _ ho (by rw [hm]; rfl), hm]
theorem WL.append {a : Addr} {vs : List V} {v : V} (hg : get st a = some (.list vs)) (hl : vs.length ≤ 1000000) (h : Q .none (upd st a (.list (vs ++ [v])))) : WL c k (fun xs => call (.builtin "list.append") xs) [.ref a, v] ρ st Q X := by
  refine ⟨fun f imm fr s xs ok R rvs => ?_⟩
  obtain ⟨_, _, rfl, rx0, rx1⟩ := rvs.inv2
  obtain rfl := rx0.refI
  have rv := rx1
  obtain ⟨vals, n, r, ho⟩ := R.isList hg
  have hl' : vals.length ≤ 1000000 := by rw [r.length]; exact hl
  refine append_at (hsz := by rw [PySem.sizeLine_eq]; simp; (first | lia | omega)) ho fun h' hsb hg' => ?_
  exact .none (R.upd (tk := s.toks) hg hsb hg' (by simpa using RO.list (r.snoc rv))) h
theorem WPE.meth {e : Expr} {name : Str} {ap pos : Pos} {args : List Expr} {id : String} (slot : Slot "list" name id) (hty : typeOf (.builtin id) = pure (.type "method_descriptor"))
    (h : WPE c k sc ρ st e (fun v st₁ => ∃ a vs, v = .ref a ∧ get st₁ a = some (.list vs) ∧ WPEs c k sc ρ st₁ args (fun us st₂ => WL c k (fun xs => PySem.call (.builtin id) xs) (.ref a :: us) ρ st₂ Q X) X) X)
    (hp : args.any isStar = false := by rfl)
    (he : ∀ env, ∃ pl, eval (.Call (.Attribute e name ap) args [] pos) env = (do
      let ov ← eval e env
      standAt ap.atName
      let (f, first) ← holding [ov] (getMethod ov name pl)
      callWith pos f first (backTo pos (starEach args env)) []) := by intro _; exact ⟨_, rfl⟩) : WPE c k sc ρ st (.Call (.Attribute e name ap) args [] pos) Q X := by
  refine ⟨fun f imm fr s ok hsc R => ?_⟩
  obtain ⟨pl, he⟩ := he f.env
  refine MethodCall_ (pl := pl) (wpAny_mono (h.go f imm fr s ok hsc R) (fun x s₁ p => ?_) fun _ _ t => t) he
  obtain ⟨v, st₁, imm₁, i₁, rv, R₁, a, vs, rfl, hg, h₁⟩ := p
  cases rv with
  | ref =>
    obtain ⟨vals, n, r, ho⟩ := R₁.isList hg
    refine getMethod_list_of slot hty ⟨_, ho, rfl, _, rfl⟩ ⟨_, ho, rfl⟩ ?_
    refine wpAny_mono (callWithW (f := f) (val := .builtin id) (first := [.ref a]) (vs₀ := [.ref a]) rfl hp ok hsc R₁ (.one (.ref a)) (.inr fun T e => by cases e) (by simpa using h₁)) (fun _ _ p => p.mono i₁) fun _ _ t => t.mono i₁

theorem WPE.mAppend {e : Expr} {ap pos : Pos} {args : List Expr}
    (h : WPE c k sc ρ st e (fun v st₁ => ∃ a vs, v = .ref a ∧ get st₁ a = some (.list vs) ∧ WPEs c k sc ρ st₁ args (fun us st₂ => WL c k (fun xs => PySem.call (.builtin "list.append") xs) (.ref a :: us) ρ st₂ Q X) X) X)
    (hp : args.any isStar = false := by rfl)
    (he : ∀ env, ∃ pl, eval (.Call (.Attribute e "append" ap) args [] pos) env = (do
      let ov ← eval e env
      standAt ap.atName
      let (f, first) ← holding [ov] (getMethod ov "append" pl)
      callWith pos f first (backTo pos (starEach args env)) []) := by intro _; exact ⟨_, rfl⟩) : WPE c k sc ρ st (.Call (.Attribute e "append" ap) args [] pos) Q X := WPE.meth slot_list_append PySem.F.type_list_append h hp he

theorem FOR.inv {x : Str} {body : List Stmt} {v : V} {vs : List V} (J : Nat → Loc → St → Prop) (h0 : J 0 ρ st)
    (step : ∀ i u ρ₁ st₁, vs[i]? = some u → J i ρ₁ st₁ → WPS c k sc (setL ρ₁ x u) st₁ body (fun fl ρ' st' => lp fl (∃ ρ₂, Sub ρ₂ ρ' ∧ Src st' v vs ∧ J (i + 1) ρ₂ st') (fun fl => S fl ρ' st')) X)
    (fin : ∀ ρ₁ st₁, J vs.length ρ₁ st₁ → S .next ρ₁ st₁) : FOR c k sc x body v vs S X vs ρ st := by
  have go : ∀ us i ρ st, vs.drop i = us → i ≤ vs.length → J i ρ st → FOR c k sc x body v vs S X us ρ st := by
    intro us
    induction us with
    | nil =>
      intro i ρ st hd hi hJ
      have : i = vs.length := by have : vs.length ≤ i := by simpa using hd
                                 (first | lia | omega)
      subst this
      exact fin ρ st hJ
    | cons u us ih =>
      intro i ρ st hd hi hJ
      have hu : vs[i]? = some u := by
        have := congrArg List.head? hd
        rw [List.head?_drop] at this
        simpa using this
      have hdr : vs.drop (i + 1) = us := by
        have := congrArg List.tail hd
        rwa [List.tail_drop] at this
      have hil : i < vs.length := by
        rcases Nat.lt_or_ge i vs.length with q | q
        · exact q
        · rw [List.getElem?_eq_none q] at hu; cases hu
      have H := step i u ρ st hu hJ
      refine ⟨fun f imm fr s ok hsc own R => wpAny_mono (H.go f imm fr s ok hsc own R) (fun fl s' p => ?_) fun _ _ t => t⟩
      obtain ⟨fl', ρ', st', imm', i', rf, R', h'⟩ := p
      refine ⟨fl', ρ', st', imm', i', rf, R', ?_⟩
      cases fl' with
      | next => obtain ⟨ρ₂, a, b, d⟩ := h'; exact ⟨ρ₂, a, b, ih (i + 1) ρ₂ st' hdr hil d⟩
      | cont => obtain ⟨ρ₂, a, b, d⟩ := h'; exact ⟨ρ₂, a, b, ih (i + 1) ρ₂ st' hdr hil d⟩
      | brk => exact h'
      | ret => exact h'
  exact go vs 0 ρ st rfl (Nat.zero_le _) h0
theorem WPE.mono {e : Expr} {Q' : V → St → Prop} (h : WPE c k sc ρ st e Q X) (hq : ∀ v st', Q v st' → Q' v st') : WPE c k sc ρ st e Q' X :=
  ⟨fun f imm fr s ok hsc R => wpAny_mono (h.go f imm fr s ok hsc R) (fun _ _ ⟨v, st, imm', a, b, r, q⟩ => ⟨v, st, imm', a, b, r, hq _ _ q⟩) fun _ _ t => t⟩
theorem WPB.mono {e : Expr} {B B' : Bool → St → Prop} (h : WPB c k sc ρ st e B X) (hq : ∀ v st', B v st' → B' v st') : WPB c k sc ρ st e B' X :=
  ⟨fun f imm fr s ok hsc R => wpAny_mono (h.go f imm fr s ok hsc R) (fun _ _ ⟨st, imm', a, r, q⟩ => ⟨st, imm', a, r, hq _ _ q⟩) fun _ _ t => t⟩
theorem COMP.inv {x : Str} {elt : Expr} {v : V} {vs : List V} {P : List V → St → Prop} (J : Nat → List V → St → Prop) (h0 : J 0 [] st)
    (step : ∀ i u acc st₁, vs[i]? = some u → J i acc st₁ → WPE c k sc ((x, u) :: ρ) st₁ elt (fun y st₂ => Src st₂ v vs ∧ J (i + 1) (acc ++ [y]) st₂) X)
    (fin : ∀ acc st₁, J vs.length acc st₁ → P acc st₁) : COMP c k sc x ρ [] elt v vs P X vs [] st := by
  have go : ∀ us i acc st, vs.drop i = us → i ≤ vs.length → J i acc st → COMP c k sc x ρ [] elt v vs P X us acc st := by
    intro us
    induction us with
    | nil =>
      intro i acc st hd hi hJ
      have : i = vs.length := by have : vs.length ≤ i := by simpa using hd
                                 (first | lia | omega)
      subst this
      exact fin acc st hJ
    | cons u us ih =>
      intro i acc st hd hi hJ
      have hu : vs[i]? = some u := by
        have := congrArg List.head? hd
        rw [List.head?_drop] at this
        simpa using this
      have hdr : vs.drop (i + 1) = us := by
        have := congrArg List.tail hd
        rwa [List.tail_drop] at this
      have hil : i < vs.length := by
        rcases Nat.lt_or_ge i vs.length with q | q
        · exact q
        · rw [List.getElem?_eq_none q] at hu; cases hu
      exact WPE.mono (step i u acc st hu hJ) fun y st₂ h => ⟨h.1, ih (i + 1) _ st₂ hdr hil h.2⟩
  exact go vs 0 [] st rfl (Nat.zero_le _) h0
/-- each thing by itself, the store as it is -/
theorem COMP.pure {x : Str} {elt : Expr} {v : V} {vs : List V} {P : List V → St → Prop} (g : Nat → V) (hs : Src st v vs)
    (step : ∀ i u, vs[i]? = some u → WPE c k sc ((x, u) :: ρ) st elt (fun y st₂ => y = g i ∧ st₂ = st) X) (fin : P ((List.range vs.length).map g) st) : COMP c k sc x ρ [] elt v vs P X vs [] st := by
  refine COMP.inv (fun i acc st₁ => st₁ = st ∧ acc = (List.range i).map g) ⟨rfl, rfl⟩ (fun i u acc st₁ hu hJ => ?_) (fun acc st₁ hJ => ?_)
  · obtain ⟨rfl, rfl⟩ := hJ
    refine WPE.mono (step i u hu) fun y st₂ h => ?_
    obtain ⟨rfl, rfl⟩ := h
    exact ⟨hs, rfl, by rw [List.range_succ, List.map_append]; rfl⟩
  · obtain ⟨rfl, rfl⟩ := hJ; exact fin
/-- with a test: those that pass -/
theorem COMP.filt {x : Str} {elt tst : Expr} {v : V} {vs : List V} {P : List V → St → Prop} (p : V → Bool) (g : V → V) (hs : Src st v vs)
    (step : ∀ u ∈ vs, WPB c k sc ((x, u) :: ρ) st tst (fun b st₂ => b = p u ∧ st₂ = st) X ∧ (p u = true → WPE c k sc ((x, u) :: ρ) st elt (fun y st₂ => y = g u ∧ st₂ = st) X)) (fin : P ((vs.filter p).map g) st) : COMP c k sc x ρ [tst] elt v vs P X vs [] st := by
  have go : ∀ us pre acc, pre ++ us = vs → acc = (pre.filter p).map g → COMP c k sc x ρ [tst] elt v vs P X us acc st := by
    intro us
    induction us with
    | nil =>
      intro pre acc h1 h2
      subst h2
      rw [List.append_nil] at h1
      subst h1
      exact fin
    | cons u us ih =>
      intro pre acc h1 h2
      have hu : u ∈ vs := by rw [← h1]; simp
      obtain ⟨s1, s2⟩ := step u hu
      refine WPB.mono s1 fun b st₂ h => ?_
      obtain ⟨rfl, rfl⟩ := h
      refine cnd_cases (fun hb => ?_) (fun hb => ?_)
      · refine WPE.mono (s2 hb) fun y st₃ h => ?_
        obtain ⟨rfl, rfl⟩ := h
        refine ⟨hs, ih (pre ++ [u]) _ (by rw [← h1]; simp) ?_⟩
        rw [List.filter_append, List.map_append, h2]
        simp [hb]
      · refine ⟨hs, ih (pre ++ [u]) _ (by rw [← h1]; simp) ?_⟩
        rw [List.filter_append, List.map_append, h2]
        simp [hb]
  exact go vs [] [] rfl rfl

/-! ranges that rise by one -/
theorem rng_up {A B : Int} {a n : Nat} (hA : A = a) (hB : B = a + n) : rngItems A B 1 = (List.range' a n).map (fun (i : Nat) => V.int i) := by
  subst hA hB
  unfold rngItems
  have e : (Builtin.Range.rangeSize (a : Int) (a + n) 1).toNat = n := by
    unfold Builtin.Range.rangeSize
    rw [if_pos (by decide), Int.ediv_one]
    split <;> (first | lia | omega)
  rw [e, List.range'_eq_map_range, List.map_map]
  refine List.map_congr_left fun i _ => ?_
  simp
theorem Sub.nil : Sub [] ρ := fun _ _ h => by cases h
theorem Sub.cons {x : Str} {v : V} {ρ₂ : Loc} (h : getL ρ x = some v) (t : Sub ρ₂ ρ) : Sub ((x, v) :: ρ₂) ρ := fun y w e => by
  rw [getL_cons] at e
  by_cases q : x = y
  · subst q; rw [if_pos rfl] at e; cases e; exact h
  · rw [if_neg q] at e; exact t y w e
noncomputable def upTo (a n : Nat) : List V := (List.range' a n).map fun (i : Nat) => V.int i
theorem Src.up {A B : Int} (a n : Nat) (hA : A = a) (hB : B = a + n) (hb : a + n < 1000000) : Src st (.rng A B 1) (upTo a n) := by
  unfold upTo
  rw [← rng_up hA hB]
  exact .rng (by subst hA hB; exact small_up hb)
theorem upTo_len {a n : Nat} : (upTo a n).length = n := by simp [upTo]
theorem upTo_get {a n i : Nat} {u : V} (h : (upTo a n)[i]? = some u) : i < n ∧ u = .int ((a + i : Nat) : Int) := by
  unfold upTo at h
  rw [List.getElem?_map] at h
  obtain ⟨j, hj, rfl⟩ := Option.map_eq_some_iff.mp h
  have hi : i < n := by
    rcases Nat.lt_or_ge i n with q | q
    · exact q
    · rw [List.getElem?_eq_none (by simpa using q)] at hj; cases hj
  rw [List.getElem?_range' hi] at hj
  simp at hj
  subst hj
  exact ⟨hi, rfl⟩
theorem Le.upd {st' : St} {a : Addr} {o : O} (h : Le st st') (hn : get st a = none) : Le st (upd st' a o) := fun b x e => by
  have : b ≠ a := fun q => by rw [q, hn] at e; cases e
  rw [get_upd_ne this]; exact h b x e
theorem Le.cons {st' : St} {a : Addr} {o : O} (h : Le st st') (hn : get st' a = none) : Le st ((a, o) :: st') := h.trans (Le.alloc hn)
theorem Le.none {st' : St} {a : Addr} (h : Le st st') (hn : get st' a = Option.none) : get st a = Option.none := by
  cases e : get st a with
  | none => rfl
  | some o => rw [h a o e] at hn; cases hn
end
end Mine
namespace Mine
section
variable {c : Cx} {k : Nat} {sc : Scope} {ρ : Loc} {st : St} {Q : V → St → Prop} {S : Fl → Loc → St → Prop} {X : Xp} {f : Fm} {imm fr : Led} {s : Shared} {tk : Nat}

theorem Dats.ints {ns : List Int} : Dats st (ns.map V.int) (ns.map PyData.int) := by
  induction ns with
  | nil => exact .nil
  | cons n ns ih => exact .cons (.int n) ih
theorem lay_ints {ns : List Int} : PyData.canLayAll0 (ns.map PyData.int) = true := by
  induction ns with
  | nil => rfl
  | cons n ns ih => simp [PyData.canLayAll0, PyData.canLay0, ih]
theorem depth_ints {ns : List Int} : PyData.depthAll (ns.map PyData.int) ≤ 1 := by
  induction ns with
  | nil => simp [PyData.depthAll]
  | cons n ns ih => simp [PyData.depthAll, PyData.depth]; (first | lia | omega)
theorem shaped_ints {ns : List Int} : SeqAt.shaped (.list (ns.map PyData.int)) = true := by
  unfold SeqAt.shaped
  have := depth_ints (ns := ns)
  simp [PyData.canLay0, lay_ints, PyData.depth]
  (first | lia | omega)
theorem W2.neInts {a b : Addr} {ns ms : List Int} (ha : get st a = some (.list (ns.map V.int))) (hb : get st b = some (.list (ms.map V.int))) (h : Q (.bool (!decide (ns = ms))) st) : W2 c k (compareOp .NotEq) (.ref a) (.ref b) ρ st Q X := by
  refine W2.ne (.list ha Dats.ints) (.list hb Dats.ints) shaped_ints shaped_ints ?_
  rw [show PyData.eqv (.list (ns.map PyData.int)) (.list (ms.map PyData.int)) = decide (ns = ms) by rw [PyData.eqv]; exact ked_eqvAll ns ms]
  exact h
theorem any_ints {ns : List Int} {x : Int} : ((ns.map PyData.int).any fun y => PyData.eqv y (.int x)) = decide (x ∈ ns) := by
  induction ns with
  | nil => rfl
  | cons n ns ih =>
    rw [List.map_cons, List.any_cons, ih, PyData.eqv]
    by_cases h : n = x
    · subst h; simp
    · have : (n == x) = false := by simpa using h
      rw [this, Bool.false_or]
      simp [Ne.symm h]
theorem W2.inInts {a : Addr} {ns : List Int} {x : Int} (ha : get st a = some (.list (ns.map V.int))) (h : Q (.bool (decide (x ∈ ns))) st) : W2 c k (compareOp .In) (.int x) (.ref a) ρ st Q X := by
  refine W2.inList ha (.int x) Dats.ints rfl lay_ints (by simp [PyData.depth]) ?_
  rw [any_ints]; exact h
theorem W2.notInInts {a : Addr} {ns : List Int} {x : Int} (ha : get st a = some (.list (ns.map V.int))) (h : Q (.bool (!decide (x ∈ ns))) st) : W2 c k (compareOp .NotIn) (.int x) (.ref a) ρ st Q X := by
  refine W2.notInList ha (.int x) Dats.ints rfl lay_ints (by simp [PyData.depth]) ?_
  rw [any_ints]; exact h
end
end Mine
namespace Mine
section
variable {c : Cx} {k : Nat} {sc : Scope} {ρ : Loc} {st : St} {Q : V → St → Prop} {S : Fl → Loc → St → Prop} {X : Xp} {f : Fm} {imm fr : Led} {s : Shared} {tk : Nat}

/-- one more of the frame's own -/
theorem Rel.madeFr {e : Addr} {o : Obj} {h' : Heap} (R : Rel c f ρ st imm fr s) (hk : ∀ b o, s.heap.get? b = some o → h'.get? b = some o) (hn : s.heap.get? e = Option.none) (he : h'.get? e = some o) : Rel c f ρ st imm ((e, o) :: fr) { s with heap := h', toks := tk } := by
  obtain ⟨⟨h0, tk0, rfl⟩, m, mt, cs, fo, r⟩ := R
  dsimp only at hk hn r
  have r' := r.keeps (h' := h') hk
  have e1 : whole mt cs imm ((e, o) :: fr) fo = (mt ++ cs ++ imm) ++ (e, o) :: (fr ++ fo) := by simp
  have e2 : whole mt cs imm fr fo = (mt ++ cs ++ imm) ++ (fr ++ fo) := by simp
  refine ⟨⟨h', tk, rfl⟩, m, mt, cs, fo, r'.frm, ?_, ?_, r.sto, r.fos, r.loc.more⟩
  · rw [e1]
    intro p hp
    have hp' : p = (e, o) ∨ p ∈ whole mt cs imm fr fo := by
      rw [e2]
      rcases List.mem_append.mp hp with hp | hp
      · exact .inr (List.mem_append_left _ hp)
      · rcases List.mem_cons.mp hp with hp | hp
        · exact .inl hp
        · exact .inr (List.mem_append_right _ hp)
    rcases hp' with rfl | hp'
    · refine ⟨he, fun q => ?_, ?_⟩
      · obtain ⟨oL, _, _, hL, _⟩ := r.frm.ns
        rw [show e = f.L from q, hL] at hn; cases hn
      · cases hq : c.base.get? e with
        | none => rfl
        | some o' => have := r.frm.keep _ _ hq; rw [hn] at this; cases this
    · exact r'.news p hp'
  · rw [e1]
    refine nodup_ins (by rw [← e2]; exact r.nodup) fun q hq z => ?_
    have := (r.news q (by rw [e2]; exact hq)).1
    rw [show q.1 = e from z, hn] at this; cases this

noncomputable abbrev vbm : List Value := [.type "ValueError", .type "Exception", .type "BaseException", .type "object"]

theorem WPs.raise {x : Str} {np cpos pos : Pos} {e₀ : Expr} {args : List Expr} {C : Addr} (hq : c.q = true) (hx : sc.names.lookup x = some .globalImplicit) (e : nsIn c.K mainGlobals x = some (some (.ref C))) (hC : excIn c.K C vbm "ValueError.__new__" = true)
    (h : WPEs c k sc ρ st (e₀ :: args) (fun _ st₁ => X C ρ st₁) X) (hp : (e₀ :: args).any isStar = false := by rfl) (hlen : (e₀ :: args).length ≤ sizeLine := by decide) (hd : (x == ("__debug__" : Str)) = false := by decide) : WPs c k sc ρ st (.Raise (some (.Call (.Name x np) (e₀ :: args) [] cpos)) none pos) S X := by
  refine ⟨fun f imm fr s ok hsc own R => ?_⟩
  have T := topRead_of ok.top
  have O := own_of_in ok.kin T e hC
  obtain ⟨tl, N, nm, q, bs, hdct, sn, sub, ab, col, dd, k0, k1, k2, k3, k5, mN, hCo, hN, hni, TL⟩ := O.obj
  have FB := PySem.F.excBase_ValueError
  refine wpAny_Raise_call_subU (C := C) (nm := nm) (q := q) (N := N) (bs := bs) (bm := tl) (hdct := hdct) (sn := sn) (sub := sub) (ab := ab) (col := col) (dd := dd) (k0 := k0) (k1 := k1) (k2 := k2) (k3 := k3) (k5 := k5) (newId := "ValueError.__new__") (bmB := vbm)
    FB (by decide) FB (mN := mN) (TL.hasType FB.hasBase) (ok.hnd hq) (star_plain hp) hni ?_
  refine wpAny_mono ((WPE.globR (Q := fun v st₁ => v = .stat (.ref C) ∧ st₁ = st) (X := X) hx e ⟨rfl, rfl⟩ hd).go f imm fr s ok hsc R) (fun y s₁ p => ?_) fun _ _ t => t
  obtain ⟨v, st₁, imm₁, i₁, rv, R₁, rfl, rfl⟩ := p
  cases rv
  refine ⟨rfl, ?_⟩
  have H := h.go f imm₁ fr s₁ cpos ok hsc R₁
  simp only [List.any_cons, Bool.or_eq_false_iff] at hp
  rw [star_cons hp.1] at H ⊢
  refine Calls.evalArgs_plain (wpAny_mono H (fun xs s₂ p => ?_) fun _ _ t => t.mono i₁)
  obtain ⟨vs, st₂, imm₂, i₂, rvs, R₂, hn, hX⟩ := p
  have hk : ∀ b o, c.base.get? b = some o → s₂.heap.get? b = some o := fun b o q => R₂.keep b o q
  refine ⟨rfl, by rw [rvs.length, hn]; exact hlen, hk _ _ hCo, hN.keeps hk, TL.keeps hk, fun h' e' hm => ?_⟩
  obtain ⟨t, ht, _, _⟩ := hm.there
  exact ⟨e', C, none, [(e', _)], ρ, st₂, imm₂, rfl, .made rfl rfl rfl rfl, .inl rfl, fun q hq => i₂ q (i₁ q hq), R₂.madeFr (tk := s₂.toks) hm.keeps hm.new ht, hX⟩

/-! under a handler -/
noncomputable abbrev Cx.off (c : Cx) : Cx := { c with q := false }
noncomputable abbrev Fm.under (f : Fm) (v : Option Value) : Fm := { f with A := f.A.mark v }
theorem RO.off {o : O} {co : Obj} (h : RO c imm o co) : RO c.off imm o co := by
  cases h with
  | list r => exact .list r
  | dictI r d => exact .dictI r d
  | dictS r d => exact .dictS r d
  | inst C d => exact .inst C d
  | exc a b => exact .exc a b
  | attr a => exact .attr a
  | any a => exact .any a
theorem RO.on {o : O} {co : Obj} (h : RO c.off imm o co) : RO c imm o co := by
  cases h with
  | list r => exact .list r
  | dictI r d => exact .dictI r d
  | dictS r d => exact .dictS r d
  | inst C d => exact .inst C d
  | exc a b => exact .exc a b
  | attr a => exact .attr a
  | any a => exact .any a
theorem StR.off {mt : Led} (h : StR c imm st mt) : StR c.off imm st mt := by
  induction h with
  | nil => exact .nil
  | cons a _ ih => exact .cons a.off ih
theorem StR.on {mt : Led} (h : StR c.off imm st mt) : StR c imm st mt := by
  induction h with
  | nil => exact .nil
  | cons a _ ih => exact .cons a.on ih
theorem Rel.off {v : Option Value} (R : Rel c f ρ st imm fr s) : Rel c.off (f.under v) ρ st imm fr s := by
  obtain ⟨hs, m, mt, cs, fo, r⟩ := R
  exact ⟨hs, m, mt, cs, fo, r.frm, r.news, r.nodup, r.sto.off, r.fos, ⟨r.loc.reads, r.loc.cells, r.loc.inj⟩⟩
theorem Rel.on {v : Option Value} (R : Rel c.off (f.under v) ρ st imm fr s) : Rel c f ρ st imm fr s := by
  obtain ⟨hs, m, mt, cs, fo, r⟩ := R
  exact ⟨hs, m, mt, cs, fo, r.frm, r.news, r.nodup, r.sto.on, r.fos, ⟨r.loc.reads, r.loc.cells, r.loc.inj⟩⟩
theorem Fm.Ok.off {v : Option Value} (ok : f.Ok c k) : (f.under v).Ok c.off k :=
  ⟨ok.kin, ok.top, ok.envs, ok.frames, ok.eframe, ok.ekind, ok.eglob, ok.ebi, ok.ecell, fun q => (by cases q), ok.depth, ok.units⟩

theorem WPs.tryE {body suite : List Stmt} {b₀ : Stmt} {T n : Str} {tp hpos pos : Pos} {Mx : Addr} (hT : sc.names.lookup T = some .globalImplicit) (eT : nsIn c.K mainGlobals T = some (some (.ref Mx))) (hn : sc.names.lookup n = some .local)
    (h : WPS c k sc ρ st body S (fun C ρ' st' => exmOne c.K (.ref C) (.ref Mx) = some true ∧ ∀ e, get st' e = none → WPS c.off k sc (setL ρ' n (.ref e)) ((e, .exc C) :: st') (b₀ :: suite) (fun fl _ st₂ => S fl [] st₂) never))
    (hd : (T == ("__debug__" : Str)) = false := by decide) :
    WPs c k sc ρ st (.Try body [.ExceptHandler (some (.Name T tp)) (some n) (b₀ :: suite) hpos] [] [] pos) S X := by
  refine ⟨fun f imm fr s ok hsc own R => ?_⟩
  refine wpAny_Try_except (wpAny_mono (h.go f imm fr s ok hsc own R) (fun fl s₁ p => ?_) fun ev s₁ t => ?_)
  · obtain ⟨fl', ρ₁, st₁, imm₁, i₁, rf, R₁, h₁⟩ := p
    cases rf with
    | next => exact wpAny_execs_nil ⟨.next, ρ₁, st₁, imm₁, i₁, .next, R₁, h₁⟩
    | brk => exact ⟨.brk, ρ₁, st₁, imm₁, i₁, .brk, R₁, h₁⟩
    | cont => exact ⟨.cont, ρ₁, st₁, imm₁, i₁, .cont, R₁, h₁⟩
    | ret r => exact ⟨_, ρ₁, st₁, imm₁, i₁, .ret r, R₁, h₁⟩
  · obtain ⟨e, C, mk, E, ρ', st', imm', rfl, x, hm, i', R', hmx, hW⟩ := t
    obtain ⟨L, hL⟩ := ok.frm
    have ok' := ok.off (v := some (.ref e))
    have hkind : f.env.kindOf n = some .local := by show f.env.scope.names.lookup n = _; rw [hsc]; exact hn
    rw [show noteFrame (.ref e) f.env = noteFrame (.ref e) f.fenv by rw [own.same]]
    refine noted ok hL x hm R' fun E₂ s₂ x₂ R₂ => ?_
    refine flight none x₂ R₂ fun E₃ s₃ x₃ R₃ => ?_
    refine wpAny_handleBy_cons (codeAny_handlers_test ?_) (by intro q; cases q)
    have R₃' := R₃.off (v := some (.ref e))
    refine wpAny_mono ((WPE.globR (c := c.off) (Q := fun v st₁ => v = .stat (.ref Mx) ∧ st₁ = st') (X := never) hT eT ⟨rfl, rfl⟩ hd).go (f.under (some (.ref e))) imm' (E₃ ++ fr) s₃ ok' hsc R₃') (fun y s₄ p => ?_) fun _ _ t => t.never.elim
    obtain ⟨v, st₄, imm₄, i₄, rv, R₄, rfl, rfl⟩ := p
    cases rv
    have he : ∃ oe, s₄.heap.get? e = some oe ∧ oe.cls = .ref C := by
      cases x₃ with
      | @traced oe oT vs ts a0 fl T' h1 h2 h3 h4 h5 h6 => exact ⟨oe, R₄.inFr (a := e) (o := oe) (by simp), h1⟩
    obtain ⟨oe, he, hec⟩ := he
    refine exm_one (M := c.M) (R₄.kin ok') (show Looks c.M s₄.heap (typeOf (.ref e)) (.ref C) from hec ▸ (Looks.ld he).andThen .now) hmx _ _ _ _ (fun _ _ q => q) ?_
    refine codeAny_handlers_suite_as ?_
    refine flight (c := c.off) (f := f.under (some (.ref e))) none x₃ R₄ fun E₅ s₅ x₅ R₅ => ?_
    cases x₅ with
    | @traced oe oT vs ts a0 fl T' h1 h2 h3 h4 h5 h6 =>
    have R₆ : Rel c.off (f.under (some (.ref e))) ρ' st₄ imm₄ ((e, oe) :: fr) s₅ := by
      have hR := R₅
      obtain ⟨⟨h0, tk0, rfl⟩, _⟩ := hR
      have zz := Rel.frEndAt [(e, oe)] R₅ (h' := h0) (tk := tk0) (fun _ _ _ e => e) (by rw [h5]; intro w q; cases q)
      exact zz
    obtain ⟨R₇, hnone⟩ := R₆.frSt (x := .exc C) (by rw [h2]; intro w q; cases q) (.exc h1 ⟨_, h2⟩)
    refine store_local (c := c.off) (f := f.under (some (.ref e))) (v := .ref e) ok' own.locals R₇ hkind (.ref e) fun s₈ R₈ => ?_
    refine wpAny_mono ((hW e hnone).go (f.under (some (.ref e))) imm₄ fr s₈ ok' hsc ⟨own.same, own.locals, own.cmp⟩ R₈) (fun fl s₉ p => ?_) fun _ _ t => t.never.elim
    obtain ⟨fl', ρ₉, st₉, imm₉, i₉, rf, R₉, h₉⟩ := p
    have R₁₀ := R₉.on
    obtain ⟨⟨h0, tk0, rfl⟩, m, mt, cs, fo, r⟩ := R₁₀
    refine wpAny_nameGoes hkind (own.locals ▸ r.frm.ns) (by rw [ok.ekind]; rfl) fun h' m' hn' hs' => ?_
    rw [own.locals] at hn' hs'
    exact ⟨fl', [], st₉, imm₉, fun q hq => i₉ q (i₄ q (i' q hq)), rf, ⟨⟨h', _, rfl⟩, m', mt, cs, fo, r.frm.set hn' hs', r.news.set hs', r.nodup, r.sto, r.fos, ⟨fun x v q => (by cases q), r.loc.cells, r.loc.inj⟩⟩, h₉⟩
end

/-! the class of an exception -/
structure ExcK (K : Frag) (C : Addr) : Prop where
  ga : findIn K (.ref C) "__getattribute__" = some (some (.builtin "BaseException.__getattribute__"))
  gh : findIn K (.ref C) "__getattr__" = some none
  cl : findIn K (.ref C) "__class__" = some (some (.builtin "object.__class__"))
  gt : specialIn K (.builtin "object.__class__") "__get__" = some (some (.builtin "getset_descriptor.__get__"))
  tk : takesIn K (.builtin "object.__class__") = some true
  ob : mroIn K C (.type "object") = some true
  be : mroIn K C (.type "BaseException") = some true
  is : (clsIn K C).isSome = true

section
variable {prog : Program} {w : World} {A : Around} {E : Value → Shared → Prop} {K : Frag} {e C : Addr} {h : Heap} {g : Array GenState} {d : Drawn} {t : Nat} {os : OsState}
open Builtin Builtin.ObjectAttr Builtin.Getset_descriptor
theorem exc_get {R : Result → Shared → Prop} {tp : Value} (F : ExcK K C) (X : K.In h) (L0 : Looks (model prog w) h (typeOf (.ref e)) (.ref C))
    (hq : R (.ok (.ret (.ref C))) ⟨h, g, d, t, os⟩) : codeAny (model prog w) A (.call (.builtin "getset_descriptor.__get__") ⟨[.builtin "object.__class__", .ref e, tp], []⟩) R ⟨h, g, d, t, os⟩ := by
  have L1 := looks_mroIn (M := model prog w) X F.ob
  refine codeAny_call_builtin KF.slot_gs.plain KF.entry_gs (KF.slot_gs.check _ _ _ _ _ _ _ _ KF.type_class (KF.args_gs _ _ _) ?_)
  unfold Builtin.«getset_descriptor.__get__» descrGet
  rw [dga_obj]
  refine wpAny_bind (wpAny_pure ?_)
  unfold descrGetter descrCheckInstance descrNameAndClass isInstance
  simp only [KF.owner_class]
  repeat lk
  refine ⟨Code.quiet_builtin _ (by decide +kernel), codeAny_builtin KF.entry_class ?_⟩
  unfold Builtin.«object.__class__» shownTypeOf
  repeat lk
  exact hq
theorem exc_find {M : Model} (F : ExcK K C) (X : K.In h) : Looks M h (find (.ref e) (.ref C) "__class__") (.bind (.builtin "getset_descriptor.__get__") (.builtin "object.__class__")) := by
  have L1 := looks_findIn (M := M) X F.cl
  have L2 : Looks M h (getOf (some (.builtin "object.__class__"))) (some (.builtin "getset_descriptor.__get__")) := looks_specialIn X F.gt
  have L3 := looks_takesIn (M := M) X F.tk
  refine L1.andThen (L2.andThen ?_)
  exact (show Looks M h (dataDescriptor? (some (.builtin "object.__class__")) (some (.builtin "getset_descriptor.__get__"))) (some (.builtin "getset_descriptor.__get__", .builtin "object.__class__")) from L3.andThen .now).andThen (Looks.tag .now)
theorem exc_check {M : Model} {nameV : Value} {Q : Unit → Shared → Prop} (F : ExcK K C) (X : K.In h) (L0 : Looks M h (typeOf (.ref e)) (.ref C)) (hq : Q () ⟨h, g, d, t, os⟩) :
    wpAny M A (checkBuiltinCall "BaseException.__getattribute__" ⟨[.ref e, nameV], []⟩) Q E ⟨h, g, d, t, os⟩ := by
  have hk : builtinKind "BaseException.__getattribute__" = some .slot := by decide +kernel
  have hsplit : splitId "BaseException.__getattribute__" = some ("BaseException", "__getattribute__") := by decide +kernel
  have ha := PySem.F.args_bexc_ga (.ref e) nameV
  have L1 := looks_mroIn (M := M) X F.be
  simp only [checkBuiltinCall, hk, hsplit]
  refine wpAny_bind ?_
  unfold isInstance
  repeat (first | with_reducible refine Looks.at (by assumption) ?_ | wp_step)
  exact hq
theorem exc_class {Q : Option Value → Shared → Prop} (F : ExcK K C) (X : K.In h) (L0 : Looks (model prog w) h (typeOf (.ref e)) (.ref C)) (hq : Q (some (.ref C)) ⟨h, g, d, t + 1, os⟩) :
    wpAny (model prog w) A (getAttr? (.ref e) "__class__") Q E ⟨h, g, d, t, os⟩ := by
  have L1 := looks_findIn (M := model prog w) X F.ga
  have L2 := looks_findIn (M := model prog w) X F.gh
  have L3 := exc_find (e := e) (M := model prog w) F X
  have FB := PySem.F.attr_ValueError
  unfold getAttr? getAttrBy? getAttrBy
  refine wpAny_bind (wpAny_mkText (wpAny_bind (wpAny_attempt (wpAny_holding (wpAny_bind (L0.at (wpAny_bind (L1.at ?_))))))))
  show wpAny _ _ (getAttrByItsOwn _ _ _ _ _ _) _ _ _
  unfold getAttrByItsOwn
  refine wpAny_bind ?_
  show wpAny _ _ (typeLookup (.ref C) "__getattr__") _ _ _
  refine L2.at ?_
  refine wpAny_bind (wpAny_attempt (wpAny_holding ?_))
  show wpAny _ _ (boundAndCalled (.builtin "BaseException.__getattribute__") (.ref e) _) _ _ _
  unfold boundAndCalled
  refine wpAny_bind (wpAny_of_eq (FB.ga.bind (.ref e)) ?_)
  refine wpAny_call (codeAny_call_builtin FB.ga.plain PySem.F.entry_bexc_ga (exc_check F X L0 ?_))
  unfold Builtin.«object.__getattribute__»
  refine wpAny_bind (wpAny_pure ?_)
  refine wpAny_bind (wpAny_pure ?_)
  refine wpAny_bind (L0.at (wpAny_bind (L3.at ?_)))
  refine wpAny_bind (wpAny_holding (wpAny_call (exc_get F X L0 ?_)))
  refine wpAny_pure ?_
  exact wpAny_pure (wpAny_pure hq)
theorem exc_kit (F : ExcK K C) : KitX K (.ref e) (.ref C) (fun h => ∃ oe, h.get? e = some oe ∧ oe.cls = .ref C) where
  ty := fun M h _ ⟨oe, h1, h2⟩ => h2 ▸ (Looks.ld h1).andThen .now
  it := fun M h X _ => by
    obtain ⟨cd, hc⟩ := Option.isSome_iff_exists.mp F.is
    unfold clsIn at hc
    split at hc
    · rename_i c' d' cd' sl' ho
      intro A' Q' E' s' k q
      unfold isType loadHead
      exact wpAny_bind (wpAny_loadPart (k _ _ (X _ _ ho)) (wpAny_pure q))
    · cases hc
  ne := fun h tp dd its n sl X htp => by
    obtain ⟨cd, hc⟩ := Option.isSome_iff_exists.mp F.is
    refine Bool.eq_false_iff.mpr fun q => ?_
    have e : C = tp := Value.ref.inj (beq_iff_eq.mp q)
    subst e
    unfold clsIn at hc
    split at hc
    · rename_i c' d' cd' sl' ho
      have z := (X _ _ ho).symm.trans htp
      cases z
    · cases hc
  ca := fun {prog w A E Q s} X ⟨oe, h1, h2⟩ k => by
    obtain ⟨h, g, d, t, os⟩ := s
    exact exc_class F X (h2 ▸ (Looks.ld h1).andThen .now) k
end

section
variable {c : Cx} {k : Nat} {sc : Scope} {ρ : Loc} {st : St} {Q : V → St → Prop} {S : Fl → Loc → St → Prop} {X : Xp}
theorem WL.isExc {e C : Addr} {v : Value} {b : Bool} (hg : get st e = some (.exc C)) (F : ExcK c.K C) (hb : kitOne c.K (.ref C) v = some b) (h : Q (.bool b) st) : WL c k (fun xs => call (.builtin "isinstance") xs) [.ref e, .stat v] ρ st Q X := by
  refine ⟨fun f imm fr s xs ok R rvs => ?_⟩
  obtain ⟨_, _, rfl, rx0, rx1⟩ := rvs.inv2
  obtain rfl := rx0.refI
  obtain rfl := rx1.statI
  obtain ⟨co, hr, ho⟩ := R.get hg
  cases hr with
  | exc h1 h2 => exact kia_one (exc_kit F) (R.kin ok) ⟨co, ho, h1⟩ hb (by intro q; cases q) fun tk => .of (.bool b) R.toks h

/-! count, index -/
theorem RVs.boolsV {base : Heap} {imm : Led} : ∀ {bs : List Bool} {xs : List Value}, RVs base imm (bs.map V.bool) xs → xs = bs.map Value.bool := by
  intro ns
  induction ns with
  | nil => intro xs h; cases h; rfl
  | cons y ys ih => intro xs h; cases h with | cons a r => obtain rfl := a.boolI; rw [ih r]; rfl
theorem eq_bools (A : Around) (s : Shared) (k : Bool) {bs : List Bool} : ∀ y, y ∈ (bs.map Value.bool).toArray → SeqAt.EqAt A s y (.bool k) (isBoolOf k y) := by
  intro y hy
  have : y ∈ bs.map Value.bool := by simpa using hy
  obtain ⟨b, _, rfl⟩ := List.mem_map.mp this
  exact SeqAt.EqAt.bool_bool b k
theorem WL.countB {a : Addr} {bs : List Bool} {b : Bool} {vs : List V} (hv : vs = bs.map V.bool) (hg : get st a = some (.list vs)) (h : Q (.int (bs.count b : Nat)) st) : WL c k (fun xs => call (.builtin "list.count") xs) [.ref a, .bool b] ρ st Q X := by
  subst hv
  refine ⟨fun f imm fr s xs ok R rvs => ?_⟩
  obtain ⟨_, _, rfl, rx0, rx1⟩ := rvs.inv2
  obtain rfl := rx0.refI
  obtain rfl := rx1.boolI
  obtain ⟨vals, n, r, ho⟩ := R.isList hg
  have hvals := RVs.boolsV r
  subst hvals
  refine call_meets PySem.F.slot_list_count ⟨_, ho, rfl⟩ PySem.F.entry_list_count (PySem.F.args_list_count_2 _ _) (SeqAt.list_countAt a _ n none #[] (.bool b) (isBoolOf b)) ⟨ho, eq_bools _ _ b, ?_⟩
  have e : ((bs.map Value.bool).toArray.toList.countP (isBoolOf b) : Nat) = bs.count b := by
    simp only [List.countP_map, List.count]
    congr 1
  rw [e]
  exact .int R h
theorem WL.indexB {a : Addr} {bs : List Bool} {b : Bool} {j : Nat} {vs : List V} (hv : vs = bs.map V.bool) (hg : get st a = some (.list vs)) (hj : bs.findIdx? (· == b) = some j) (hs : bs.length < 1000) (h : Q (.int (j : Nat)) st) : WL c k (fun xs => call (.builtin "list.index") xs) [.ref a, .bool b] ρ st Q X := by
  subst hv
  refine ⟨fun f imm fr s xs ok R rvs => ?_⟩
  obtain ⟨_, _, rfl, rx0, rx1⟩ := rvs.inv2
  obtain rfl := rx0.refI
  obtain rfl := rx1.boolI
  obtain ⟨vals, n, r, ho⟩ := R.isList hg
  have hvals := RVs.boolsV r
  subst hvals
  obtain ⟨hlt, hit, hno⟩ := List.findIdx?_eq_some_iff_getElem.mp hj
  refine call_meets PySem.F.slot_list_index ⟨_, ho, rfl⟩ PySem.F.entry_list_index (PySem.F.args_list_index_2 _ _) (SeqAt.list_indexAt a _ n none #[] (.bool b) (isBoolOf b) j (by simpa using hlt) (by (first | lia | omega)) (by simpa [isBoolOf] using hit) ?_) ⟨ho, eq_bools _ _ b, ?_⟩
  · intro m hm hmj
    have := hno m hmj
    simpa [isBoolOf] using this
  · exact .int R h
end
end Mine
namespace Mine
section
variable {c : Cx} {k : Nat} {sc : Scope} {ρ : Loc} {st : St} {Q : V → St → Prop} {S : Fl → Loc → St → Prop} {X : Xp} {f : Fm} {imm fr : Led} {s : Shared} {tk : Nat}

/-! copies -/
theorem WL.listOf {a : Addr} {vs : List V} (hg : get st a = some (.list vs)) (hl : vs.length ≤ 1000000) (h : ∀ d, get st d = none → Q (.ref d) ((d, .list vs) :: st)) : WL c k (fun xs => call (.type "list") xs) [.ref a] ρ st Q X := by
  refine ⟨fun f imm fr s xs ok R rvs => ?_⟩
  obtain ⟨_, rfl, rx0⟩ := rvs.inv1
  obtain rfl := rx0.refI
  obtain ⟨vals, n, r, ho⟩ := R.isList hg
  have hl' : vals.length ≤ 1000000 := by rw [r.length]; exact hl
  obtain ⟨⟨h0, tk0, rfl⟩, m, mt, cs, fo, rr⟩ := id R
  refine list_copyK rr.frm rr.news ⟨_, ho, rfl, _, rfl⟩ (fun D e h' F N hlt => ?_) (by rw [PySem.sizeLine_eq]; simp; (first | lia | omega))
  exact ⟨.ref D, _, imm, fun _ h => h, .ref D, ⟨⟨h', tk0, rfl⟩, m, _, cs, fo, rr.newSt F N hlt (.list r)⟩, h D (Rel.noneAt rr hlt)⟩
theorem RVs.drop {base : Heap} {imm : Led} : ∀ (n : Nat) {vs : List V} {xs : List Value}, RVs base imm vs xs → RVs base imm (vs.drop n) (xs.drop n)
  | 0, _, _, h => h
  | n + 1, _, _, .nil => .nil
  | n + 1, _, _, .cons _ h => RVs.drop n h
theorem RVs.take {base : Heap} {imm : Led} : ∀ (n : Nat) {vs : List V} {xs : List Value}, RVs base imm vs xs → RVs base imm (vs.take n) (xs.take n)
  | 0, _, _, h => .nil
  | n + 1, _, _, .nil => .nil
  | n + 1, _, _, .cons a h => .cons a (RVs.take n h)

/-! slices -/
noncomputable def WPO (c : Cx) (k : Nat) (sc : Scope) (ρ : Loc) (st : St) (oe : Option Expr) (P : Option Int → St → Prop) (X : Xp) : Prop := match oe with
  | none => P none st
  | some e => WPE c k sc ρ st e (fun v st₁ => ∃ i, v = .int i ∧ P (some i) st₁) X
theorem WPO.no {P : Option Int → St → Prop} (h : P none st) : WPO c k sc ρ st none P X := h
theorem WPO.so {e : Expr} {P : Option Int → St → Prop} (h : WPE c k sc ρ st e (fun v st₁ => ∃ i, v = .int i ∧ P (some i) st₁) X) : WPO c k sc ρ st (some e) P X := h
theorem wpo {oe : Option Expr} {P : Option Int → St → Prop} (h : WPO c k sc ρ st oe P X) (ok : f.Ok c k) (hsc : f.env.scope = sc) (R : Rel c f ρ st imm fr s) :
    wpAny c.M f.A (evalPart oe f.env) (fun v s' => ∃ i st' imm', (∀ p ∈ imm, p ∈ imm') ∧ IsPart v i ∧ Rel c f ρ st' imm' fr s' ∧ P i st') (Thrown c f imm fr X) s := by
  cases oe with
  | none => exact wpAny_evalPart_none ⟨none, st, imm, fun _ h => h, .none, R, h⟩
  | some e =>
    refine wpAny_evalPart_some (wpAny_mono ((show WPE c k sc ρ st e _ X from h).go f imm fr s ok hsc R) (fun x s₁ p => ?_) fun _ _ t => t)
    obtain ⟨v, st₁, imm₁, i₁, rv, R₁, i, rfl, h₁⟩ := p
    cases rv
    exact ⟨some i, st₁, imm₁, i₁, .int _ _, R₁, h₁⟩
theorem WPE.slice {e : Expr} {lo hi : Option Expr} {p pos : Pos}
    (h : WPE c k sc ρ st e (fun v st₁ => WPO c k sc ρ st₁ lo (fun l st₂ => WPO c k sc ρ st₂ hi (fun u st₃ => ∃ a vs x y, v = .ref a ∧ get st₃ a = some (.list vs) ∧ vs.length ≤ 1000000 ∧ sliceBounds l u none vs.length = (((x : Nat) : Int), ((y : Nat) : Int), 1) ∧
      ∀ d, get st₃ d = none → Q (.ref d) ((d, .list ((vs.drop x).take (y - x))) :: st₃)) X) X) X) : WPE c k sc ρ st (.Subscript e (.Slice lo hi none p) pos) Q X := by
  refine ⟨fun f imm fr s ok hsc R => ?_⟩
  refine Subscript_ (wpAny_mono (h.go f imm fr s ok hsc R) (fun x s₁ p => ?_) fun _ _ t => t)
  obtain ⟨v, st₁, imm₁, i₁, rv, R₁, h₁⟩ := p
  refine wpAny_Slice (wpAny_mono (wpo h₁ ok hsc R₁) (fun vl s₂ p => ?_) fun _ _ t => t.mono i₁)
  obtain ⟨l, st₂, imm₂, i₂, pl, R₂, h₂⟩ := p
  refine wpAny_mono (wpo h₂ ok hsc R₂) (fun vu s₃ p => ?_) fun _ _ t => t.mono fun q hq => i₂ q (i₁ q hq)
  obtain ⟨u, st₃, imm₃, i₃, pu, R₃, a, vs, y1, y2, rfl, hg, hl, hb, h₃⟩ := p
  refine wpAny_evalPart_none ?_
  cases rv with
  | ref =>
    obtain ⟨vals, n, r, ho⟩ := R₃.isList hg
    have hl' : vals.length ≤ 1000000 := by rw [r.length]; exact hl
    obtain ⟨⟨h0, tk0, rfl⟩, m, mt, cs, fo, rr⟩ := id R₃
    refine kba_turn (value' := PySem.Expr.Name (PySem.Str.ofString "_") ⟨0, 0, 0, 0⟩) (fun _ => rfl) ?_
    refine kmk_slice rr.frm rr.news ⟨_, ho, rfl, _, rfl⟩ pl pu (fun D h' F N hlt => ?_) (by with_unfolding_all rfl) (fun _ => rfl) (by rw [PySem.sizeLine_eq]; simp; (first | lia | omega))
    rw [kmk_pick_nat _ (by simpa [r.length] using hb)] at N
    exact ⟨.ref D, _, imm₃, fun q hq => i₃ q (i₂ q (i₁ q hq)), .ref D, ⟨⟨h', tk0, rfl⟩, m, _, cs, fo, rr.newSt F N hlt (.list ((r.drop y1).take (y2 - y1)))⟩, h₃ D (Rel.noneAt rr hlt)⟩
theorem sb_upto {n y : Nat} (h : y ≤ n) : sliceBounds none (some (y : Int)) none n = (((0 : Nat) : Int), (y : Int), 1) := by
  unfold sliceBounds
  simp
  (first | lia | omega)
theorem sb_run {n x y : Nat} (h : x ≤ n) (h' : y ≤ n) : sliceBounds (some (x : Int)) (some (y : Int)) none n = ((x : Int), (y : Int), 1) := by
  unfold sliceBounds
  simp
  (first | lia | omega)
theorem WPE.mCount {e : Expr} {ap pos : Pos} {args : List Expr}
    (h : WPE c k sc ρ st e (fun v st₁ => ∃ a vs, v = .ref a ∧ get st₁ a = some (.list vs) ∧ WPEs c k sc ρ st₁ args (fun us st₂ => WL c k (fun xs => PySem.call (.builtin "list.count") xs) (.ref a :: us) ρ st₂ Q X) X) X)
    (hp : args.any isStar = false := by rfl)
    (he : ∀ env, ∃ pl, eval (.Call (.Attribute e "count" ap) args [] pos) env = (do
      let ov ← eval e env
      standAt ap.atName
      let (f, first) ← holding [ov] (getMethod ov "count" pl)
      callWith pos f first (backTo pos (starEach args env)) []) := by intro _; exact ⟨_, rfl⟩) : WPE c k sc ρ st (.Call (.Attribute e "count" ap) args [] pos) Q X := WPE.meth PySem.F.slot_list_count PySem.F.type_list_count h hp he
theorem WPE.mIndex {e : Expr} {ap pos : Pos} {args : List Expr}
    (h : WPE c k sc ρ st e (fun v st₁ => ∃ a vs, v = .ref a ∧ get st₁ a = some (.list vs) ∧ WPEs c k sc ρ st₁ args (fun us st₂ => WL c k (fun xs => PySem.call (.builtin "list.index") xs) (.ref a :: us) ρ st₂ Q X) X) X)
    (hp : args.any isStar = false := by rfl)
    (he : ∀ env, ∃ pl, eval (.Call (.Attribute e "index" ap) args [] pos) env = (do
      let ov ← eval e env
      standAt ap.atName
      let (f, first) ← holding [ov] (getMethod ov "index" pl)
      callWith pos f first (backTo pos (starEach args env)) []) := by intro _; exact ⟨_, rfl⟩) : WPE c k sc ρ st (.Call (.Attribute e "index" ap) args [] pos) Q X := WPE.meth PySem.F.slot_list_index PySem.F.type_list_index h hp he
theorem WPE.mClear {e : Expr} {ap pos : Pos} {args : List Expr}
    (h : WPE c k sc ρ st e (fun v st₁ => ∃ a vs, v = .ref a ∧ get st₁ a = some (.list vs) ∧ WPEs c k sc ρ st₁ args (fun us st₂ => WL c k (fun xs => PySem.call (.builtin "list.clear") xs) (.ref a :: us) ρ st₂ Q X) X) X)
    (hp : args.any isStar = false := by rfl)
    (he : ∀ env, ∃ pl, eval (.Call (.Attribute e "clear" ap) args [] pos) env = (do
      let ov ← eval e env
      standAt ap.atName
      let (f, first) ← holding [ov] (getMethod ov "clear" pl)
      callWith pos f first (backTo pos (starEach args env)) []) := by intro _; exact ⟨_, rfl⟩) : WPE c k sc ρ st (.Call (.Attribute e "clear" ap) args [] pos) Q X := WPE.meth PySem.F.slot_list_clear PySem.F.type_list_clear h hp he
/-! things that are equal to themselves -/
noncomputable def flatV : V → Bool
  | .none => true
  | .bool _ => true
  | .int _ => true
  | .str _ => true
  | .ref _ => true
  | _ => false
noncomputable def selfV : V → Bool
  | .tup us => us.all flatV
  | v => flatV v
theorem flat_eq {base : Heap} {A : Around} {v : V} {x y : Value} (h : flatV v = true) (rx : RV base imm v x) (ry : RV base imm v y) : SeqAt.EqAt A s x y true := by
  cases v with
  | none => obtain rfl := rx.noneI; obtain rfl := ry.noneI; exact SeqAt.EqAt.same _
  | bool b => obtain rfl := rx.boolI; obtain rfl := ry.boolI; exact SeqAt.EqAt.same _
  | int i => obtain ⟨t, rfl⟩ := rx.intI; obtain ⟨u, rfl⟩ := ry.intI; have := SeqAt.EqAt.int_int (A := A) (s := s) i t i u; rwa [beq_self_eq_true] at this
  | str i => obtain ⟨t, rfl⟩ := rx.strI; obtain ⟨u, rfl⟩ := ry.strI; have := SeqAt.EqAt.str_str (A := A) (s := s) i t i u; rwa [beq_self_eq_true] at this
  | ref a => obtain rfl := rx.refI; obtain rfl := ry.refI; exact SeqAt.EqAt.same _
  | tup _ => cases h
  | rng _ _ _ => cases h
  | stat _ => cases h
  | scr _ => cases h
theorem RVs.pair {base : Heap} {vs : List V} {xs ys : List Value} (h : RVs base imm vs xs) (h' : RVs base imm vs ys) : xs.length = ys.length ∧ ∀ j (h1 : j < xs.length) (h2 : j < ys.length), ∃ v ∈ vs, RV base imm v xs[j] ∧ RV base imm v ys[j] := by
  refine ⟨h.length.trans h'.length.symm, fun j h1 h2 => ?_⟩
  obtain ⟨v, hv, r⟩ := h.get' (List.getElem?_eq_getElem h1)
  obtain ⟨y, hy, r'⟩ := h'.get hv
  rw [List.getElem?_eq_getElem h2] at hy
  cases hy
  exact ⟨v, List.mem_of_getElem? hv, r, r'⟩
theorem all_true {n : Nat} : (List.range n).all (fun _ => true) = true := by simp
theorem self_eq {A : Around} {v : V} {x y : Value} (R : Rel c f ρ st imm fr s) (hu : A.units < cLine) (h : selfV v = true) (rx : RV c.base imm v x) (ry : RV c.base imm v y) : SeqAt.EqAt A s x y true := by
  cases v with
  | tup us =>
    obtain ⟨a, vals, n, rfl, hm, r⟩ := rx.tupI
    obtain ⟨b, vals2, n2, rfl, hm2, r2⟩ := ry.tupI
    · by_cases e : a = b
      · subst e; exact SeqAt.EqAt.same _
      · refine SeqAt.EqAt.of_refs e ?_
        obtain ⟨hl, hp⟩ := RVs.pair r r2
        have := SeqAt.RcAt.tuples (A := A) (s := s) (e := fun _ => true) (items := vals.toArray) (items2 := vals2.toArray) ⟨_, R.inImm hm, rfl, _, rfl⟩ ⟨_, R.inImm hm2, rfl, _, rfl⟩ hu (fun j h1 h2 => by
          obtain ⟨v, hv, q1, q2⟩ := hp j (by simpa using h1) (by simpa using h2)
          have := flat_eq (A := A.in1) (s := s) (List.all_eq_true.mp h v hv) q1 q2
          simpa using this)
        rw [all_true, show (vals.toArray.size == vals2.toArray.size) = true from by simpa using hl] at this
        exact this
  | none => exact flat_eq rfl rx ry
  | bool b => exact flat_eq rfl rx ry
  | int i => exact flat_eq rfl rx ry
  | str i => exact flat_eq rfl rx ry
  | ref a => exact flat_eq rfl rx ry
  | rng _ _ _ => cases h
  | stat _ => cases h
  | scr _ => cases h
theorem W2.neSelfL {a b : Addr} {vs : List V} (ha : get st a = some (.list vs)) (hb : get st b = some (.list vs)) (he : ∀ u ∈ vs, selfV u = true) (h : Q (.bool false) st) : W2 c k (compareOp .NotEq) (.ref a) (.ref b) ρ st Q X := by
  refine ⟨fun f imm fr s x y ok R ra rb => ?_⟩
  obtain rfl := ra.refI
  obtain rfl := rb.refI
  obtain ⟨va, na, r1, h1⟩ := R.isList ha
  obtain ⟨vb, nb, r2, h2⟩ := R.isList hb
  obtain ⟨hl, hp⟩ := RVs.pair r1 r2
  have hu := ok.units
  have := SeqAt.RcNeAt.lists (A := f.A) (s := s) (e := fun _ => true) (items := va.toArray) (items2 := vb.toArray) ⟨_, h1, rfl, _, rfl⟩ ⟨_, h2, rfl, _, rfl⟩ (by simpa using hl) (by (first | lia | omega)) (fun j l1 l2 => by
    obtain ⟨v, hv, q1, q2⟩ := hp j (by simpa using l1) (by simpa using l2)
    have := self_eq (A := f.A.in1) R (by show f.A.units + 1 < _; (first | lia | omega)) (he v hv) q1 q2
    simpa using this)
  rw [all_true] at this
  exact this _ _ _ _ (.of (.bool _) R h)
theorem W2.neNone (h : Q (.bool false) st) : W2 c k (compareOp .NotEq) .none .none ρ st Q X := by
  refine ⟨fun f imm fr s x y ok R ra rb => ?_⟩
  obtain rfl := ra.noneI
  obtain rfl := rb.noneI
  exact SeqAt.RcNeAt.none_none _ _ _ _ (.of (.bool _) R h)
end
end Mine
namespace Mine
section
variable {base : Heap} {imm : Led} {fs : List (Str × V)} {es : List DictEntry} {x : Str} {v : V} {val : Value} {t : Tok} {hsh : Int}
theorem isStr_str {x y : Str} {t : Tok} : (Value.str y t).isStr x = (y == x) := rfl
theorem AtR.get (h : AtR base imm fs es) (e : Mine.getL fs x = some v) : ∃ val, RV base imm v val ∧ PySem.W.getL x es = some (some val) := by
  induction h with
  | nil => cases e
  | @cons y u t hsh val fs es r _ ih =>
    rw [Mine.getL_cons] at e
    unfold PySem.W.getL at ih ⊢
    rw [List.find?_cons]
    by_cases q : y = x
    · subst q
      rw [if_pos rfl] at e
      cases e
      exact ⟨val, r, by simp [isStr_str]⟩
    · rw [if_neg q] at e
      obtain ⟨val', r', h'⟩ := ih e
      refine ⟨val', r', ?_⟩
      have : (y == x) = false := by simpa using q
      simp only [isStr_str, this]
      split at h' <;> rename_i z <;> simp only [z] <;> first | exact h' | (split at h' <;> cases h')
theorem AtR.no (h : AtR base imm fs es) (e : Mine.getL fs x = none) : PySem.W.getL x es = some none := by
  have h1 : es.find? (·.key.isStr x) = none ∧ es.any (·.refKey) = false := by
    induction h with
    | nil => exact ⟨rfl, rfl⟩
    | @cons y u t hsh val fs es r _ ih =>
      rw [Mine.getL_cons] at e
      by_cases q : y = x
      · rw [if_pos q] at e; cases e
      · rw [if_neg q] at e
        obtain ⟨a, b⟩ := ih e
        have : (y == x) = false := by simpa using q
        refine ⟨by rw [List.find?_cons]; simp only [isStr_str, this]; exact a, by rw [List.any_cons, b]; rfl⟩
  unfold PySem.W.getL
  rw [h1.1]
  simp [h1.2]
theorem AtR.put (h : AtR base imm fs es) (r : RV base imm v val) : AtR base imm (setL fs x v) (putL x hsh (.str x t) val es) := by
  induction h with
  | nil => exact .cons r .nil
  | @cons y u t hsh val fs es r' h' ih =>
    unfold setL putL
    by_cases q : y = x
    · subst q
      simp only [isStr_str, beq_self_eq_true, if_true]
      exact .cons r h'
    · have : (y == x) = false := by simpa using q
      simp only [isStr_str, this, q, if_false, Bool.false_eq_true]
      exact .cons r' ih
theorem AtR.length (h : AtR base imm fs es) : es.length = fs.length := by
  induction h with
  | nil => rfl
  | cons _ _ ih => simp [ih]
theorem AtR.some (h : AtR base imm fs es) : (PySem.W.getL x es).isSome = true := by
  cases e : Mine.getL fs x with
  | none => rw [h.no e]; rfl
  | some v => obtain ⟨val, _, q⟩ := h.get e; rw [q]; rfl
end

/-- a class of the text, and a name of what is made of it -/
structure ClsK (K : Frag) (C : Addr) (name : Str) : Prop where
  get : plainGet K C name = true
  dict : hasDictIn K C = true
  no : findIn K (.ref C) name = some none
  set : findIn K (.ref C) "__setattr__" = some (some (.builtin "object.__setattr__"))
  over : plainOver K C = true
  taker : takerIn K C name = some none
structure MethK (K : Frag) (C : Addr) (name : Str) (fA : Addr) : Prop where
  get : plainGet K C name = true
  at_ : findIn K (.ref C) name = some (some (.ref fA))
  fn : isFn K (.ref fA) = true
  keep : keepIn K (.ref fA) = true
structure MakeK (K : Frag) (C fI : Addr) : Prop where
  make : makesIn K C = true
  init : findIn K (.ref C) "__init__" = some (some (.ref fI))
  fn : isFn K (.ref fI) = true
noncomputable def plainV : V → Bool
  | .stat _ => false
  | _ => true
theorem handed_of {base : Heap} {imm : Led} {v : V} {val : Value} (r : RV base imm v val) (h : plainV v = true) : handedIn val = true := by
  cases r <;> first | rfl | cases h

section
variable {c : Cx} {k : Nat} {sc : Scope} {ρ : Loc} {st : St} {Q : V → St → Prop} {S : Fl → Loc → St → Prop} {X : Xp} {f : Fm} {imm fr : Led} {s : Shared} {tk : Nat}

theorem RelAt.inst {x C d : Addr} {fs : List (Str × V)} {m : Str → Option Value} {mt cs fo : Led} {h : Heap} (R : RelAt c f ρ st imm fr h m mt cs fo) (hx : Mine.get st x = some (.inst C d)) (hd : Mine.get st d = some (.attr fs)) :
    ∃ es n, AtR c.base imm fs es ∧ (d, dictOf es n) ∈ mt ∧ InstAt h x (instObj C d) C (some (dictOf es n)) := by
  obtain ⟨co, h1, h2, h3⟩ := R.get hx
  obtain ⟨co', h4, h5, h6⟩ := R.get hd
  cases h2 with
  | inst =>
  cases h5 with
  | attr a => exact ⟨_, _, a, h4, h3, rfl, rfl, h6⟩

theorem WPE.attr {e : Expr} {name : Str} {pos : Pos} (h : WPE c k sc ρ st e (fun v st₁ => ∃ x C d fs u, v = .ref x ∧ get st₁ x = some (.inst C d) ∧ get st₁ d = some (.attr fs) ∧ ClsK c.K C name ∧ getL fs name = some u ∧ plainV u = true ∧ Q u st₁) X)
    (hb : ∀ env whole, attributeBase e name env whole = whole := by intro _ _; rfl) (ht : ∀ o r, letTemporaryGo e o r = pure () := by intro _ _; rfl) : WPE c k sc ρ st (.Attribute e name pos) Q X := by
  refine ⟨fun f imm fr s ok hsc R => ?_⟩
  rw [arm_eval_Attribute, hb]
  refine wpAny_bind (wpAny_mono (h.go f imm fr s ok hsc R) (fun y s₁ p => ?_) fun _ _ t => t)
  obtain ⟨v, st₁, imm₁, i₁, rv, R₁, x, C, d, fs, u, rfl, hx, hd, hK, hu, hp, h₁⟩ := p
  cases rv with
  | ref =>
    refine wpAny_bind (wpAny_standAt (wpAny_bind (wpAny_holding ?_)))
    obtain ⟨hs, m, mt, cs, fo, r⟩ := id R₁
    obtain ⟨es, n, a, _, I⟩ := r.inst hx hd
    obtain ⟨val, rval, hl⟩ := a.get hu
    refine get_own r.frm ok.kin I hK.get hK.dict hK.no rfl hl (handed_of rval hp) ?_
    refine wpAny_bind (wpAny_of_eq (ht _ _) (wpAny_pure ?_))
    exact ⟨u, st₁, imm₁, i₁, rval, R₁.toks, h₁⟩

theorem upd_led {d : Addr} {o o' : Obj} : ∀ {l : Led}, (d, o) ∈ l → (l.map (·.1)).Nodup → Upd d o o' l (l.map fun p => if p.1 = d then (d, o') else p)
  | [], h, _ => by cases h
  | p :: l, h, nd => by
    rw [List.map_cons, List.nodup_cons] at nd
    rcases List.mem_cons.mp h with rfl | h
    · have : l.map (fun p => if p.1 = d then (d, o') else p) = l := by
        have : ∀ p ∈ l, (if p.1 = d then (d, o') else p) = p := fun p hp => if_neg fun q => nd.1 (List.mem_map.mpr ⟨p, hp, q⟩)
        rw [List.map_congr_left this, List.map_id'']
        intro _; rfl
      rw [List.map_cons, if_pos rfl, this]
      exact .head fun q hq z => nd.1 (List.mem_map.mpr ⟨q, hq, z⟩)
    · have hne : p.1 ≠ d := fun q => nd.1 (List.mem_map.mpr ⟨_, h, q.symm⟩)
      rw [List.map_cons, if_neg hne]
      exact .tail hne (upd_led h nd.2)
theorem map_other {d : Addr} {o' : Obj} {l : Led} (h : ∀ p ∈ l, p.1 ≠ d) : l.map (fun p => if p.1 = d then (d, o') else p) = l := by
  have : ∀ p ∈ l, (if p.1 = d then (d, o') else p) = p := fun p hp => if_neg (h p hp)
  rw [List.map_congr_left this, List.map_id'']
  intro _; rfl
theorem RelAt.changed {d : Addr} {o o' : Obj} {x : O} {m : Str → Option Value} {mt cs fo : Led} {h h' : Heap} (R : RelAt c f ρ st imm fr h m mt cs fo) (hm : (d, o) ∈ mt) (F : Fr c.base f.L h' m)
    (N : News c.base f.L h' ((whole mt cs imm fr fo).map fun p => if p.1 = d then (d, o') else p)) (hr : RO c imm x o') : RelAt c f ρ (Mine.upd st d x) imm fr h' m (mt.map fun p => if p.1 = d then (d, o') else p) cs fo := by
  have ne : ∀ p ∈ cs ++ (imm ++ (fr ++ fo)), p.1 ≠ d := fun p hp q => by
    have := R.nodup
    rw [List.map_append, List.nodup_append] at this
    exact this.2.2 d (List.mem_map_of_mem hm) p.1 (List.mem_map_of_mem hp) q.symm
  have e : ((whole mt cs imm fr fo).map fun p => if p.1 = d then (d, o') else p) = whole (mt.map fun p => if p.1 = d then (d, o') else p) cs imm fr fo := by
    show (mt ++ (cs ++ (imm ++ (fr ++ fo)))).map _ = _
    rw [List.map_append, map_other ne]
  rw [e] at N
  refine ⟨F, N, ?_, R.sto.upd hr, R.fos, R.loc⟩
  have e1 : (mt.map fun p => if p.1 = d then (d, o') else p).map (·.1) = mt.map (·.1) := by
    rw [List.map_map]
    refine List.map_congr_left fun p _ => ?_
    simp only [Function.comp]
    split
    · rename_i q; exact q.symm
    · rfl
  have := R.nodup
  simp only [whole, List.map_append] at this ⊢
  rw [e1]; exact this

theorem WPs.setAttr {o value : Expr} {name : Str} {p' pos : Pos}
    (h : WPE c k sc ρ st value (fun u st₁ => WPE c k sc ρ st₁ o (fun v st₂ => ∃ x C d fs, v = .ref x ∧ get st₂ x = some (.inst C d) ∧ get st₂ d = some (.attr fs) ∧ ClsK c.K C name ∧ fs.length ≤ 900 ∧ S .next ρ (upd st₂ d (.attr (setL fs name u)))) X) X)
    (hs : ∀ env, swapsWith value (some (.Attribute o name p')) pos.line env = pure false := by intro _; rfl) : WPs c k sc ρ st (.Assign [.Attribute o name p'] value pos) S X := by
  refine ⟨fun f imm fr s ok hsc own R => ?_⟩
  refine plainObj_wpAny_Assign_Attribute (wpAny_mono (h.go f imm fr s ok hsc R) (fun y s₁ p => ?_) fun _ _ t => t) (hs _)
  obtain ⟨u, st₁, imm₁, i₁, ru, R₁, h₁⟩ := p
  refine wpAny_mono (h₁.go f imm₁ fr s₁ ok hsc R₁) (fun z s₂ p => ?_) fun _ _ t => t.mono i₁
  obtain ⟨v, st₂, imm₂, i₂, rv, R₂, x, C, d, fs, rfl, hx, hd, hK, hlen, h₂⟩ := p
  cases rv with
  | ref =>
    obtain ⟨⟨h0, tk0, rfl⟩, m, mt, cs, fo, r⟩ := R₂
    obtain ⟨es, n, a, hm, I⟩ := r.inst hx hd
    have hlen' : (putL name (PyData.keyHash c.w.params name) (.str name (tk0 + 1)) y es).length ≤ 1000 := by
      have z := (a.put (x := name) (hsh := PyData.keyHash c.w.params name) (t := tk0 + 1) (ru.mono i₂)).length
      have : (setL fs name u).length ≤ fs.length + 1 := by
        clear h₂ hd a z I hlen
        induction fs with
        | nil => simp [setL]
        | cons p fs ih => obtain ⟨y, w⟩ := p; unfold setL; split <;> simp <;> (first | lia | omega)
      (first | lia | omega)
    refine set_dict r.frm ok.kin r.news I rfl hK.set hK.over hK.taker hK.dict a.some rfl (upd_led (List.mem_append_left _ hm) r.nodup) hlen' fun h' F' N' => ?_
    exact ⟨.next, ρ, _, imm₂, fun q hq => i₂ q (i₁ q hq), .next, ⟨⟨h', _, rfl⟩, m, _, cs, fo, r.changed hm F' N' (.attr (a.put (ru.mono i₂)))⟩, h₂⟩

theorem WPE.methI {e : Expr} {name : Str} {ap pos : Pos} {args : List Expr}
    (h : WPE c k sc ρ st e (fun v st₁ => ∃ x C d fs fA, v = .ref x ∧ get st₁ x = some (.inst C d) ∧ get st₁ d = some (.attr fs) ∧ getL fs name = none ∧ MethK c.K C name fA ∧ WPEs c k sc ρ st₁ args (fun us st₂ => WL c k (fun xs => PySem.call (.ref fA) xs) (.ref x :: us) ρ st₂ Q X) X) X)
    (hp : args.any isStar = false := by rfl)
    (he : ∀ env, ∃ pl, eval (.Call (.Attribute e name ap) args [] pos) env = (do
      let ov ← eval e env
      standAt ap.atName
      let (f, first) ← holding [ov] (getMethod ov name pl)
      callWith pos f first (backTo pos (starEach args env)) []) := by intro _; exact ⟨_, rfl⟩) : WPE c k sc ρ st (.Call (.Attribute e name ap) args [] pos) Q X := by
  refine ⟨fun f imm fr s ok hsc R => ?_⟩
  obtain ⟨pl, he⟩ := he f.env
  refine MethodCall_ (pl := pl) (wpAny_mono (h.go f imm fr s ok hsc R) (fun y s₁ p => ?_) fun _ _ t => t) he
  obtain ⟨v, st₁, imm₁, i₁, rv, R₁, x, C, d, fs, fA, rfl, hx, hd, hno, hM, h₁⟩ := p
  cases rv with
  | ref =>
    obtain ⟨hs, m, mt, cs, fo, r⟩ := id R₁
    obtain ⟨es, n, a, _, I⟩ := r.inst hx hd
    refine method_inst r.frm ok.kin I hM.get hM.at_ hM.fn (a.no hno) ?_
    exact wpAny_mono (callWithW (f := f) (val := .ref fA) (first := [.ref x]) (vs₀ := [.ref x]) hM.keep hp ok hsc R₁ (.one (.ref x)) (.inr fun T e => by cases e) (by simpa using h₁)) (fun _ _ p => p.mono i₁) fun _ _ t => t.mono i₁

noncomputable abbrev Fm.reA (f : Fm) (A : Around) : Fm := { f with A := A }
theorem Rel.reA {A : Around} (R : Rel c f ρ st imm fr s) : Rel c (f.reA A) ρ st imm fr s := by
  obtain ⟨hs, m, mt, cs, fo, r⟩ := R
  exact ⟨hs, m, mt, cs, fo, r.frm, r.news, r.nodup, r.sto, r.fos, ⟨r.loc.reads, r.loc.cells, r.loc.inj⟩⟩
theorem Rel.unA {A : Around} (R : Rel c (f.reA A) ρ st imm fr s) : Rel c f ρ st imm fr s := by
  obtain ⟨hs, m, mt, cs, fo, r⟩ := R
  exact ⟨hs, m, mt, cs, fo, r.frm, r.news, r.nodup, r.sto, r.fos, ⟨r.loc.reads, r.loc.cells, r.loc.inj⟩⟩
theorem WL.make {C fI : Addr} {names : List Str} {sc : Scope} {body : List Stmt} {vs : List V} (hM : MakeK c.K C fI) (H : FnAt c.K fI names sc body) (hn : (vs.length + 1) = names.length)
    (h : ∀ x d, get st x = none → get st d = none → x ≠ d → WPS c k sc (names.zip (.ref x :: vs)) ((x, .inst C d) :: (d, .attr []) :: st) body (fun fl ρ' st' => retV fl = .none ∧ Q (.ref x) st') (fun E _ st' => X E ρ st')) :
    WL c (k + 2) (fun xs => call (.ref C) xs) vs ρ st Q X := by
  refine ⟨fun f imm fr s xs ok R rvs => ?_⟩
  obtain ⟨⟨h0, tk0, rfl⟩, m, mt, cs, fo, r⟩ := id R
  refine call_cls r.frm ok.kin r.news hM.make hM.init hM.fn fun x dx h' F N hlt hlx => ?_
  generalize hA' : f.A.under (.builtin "type.__call__" ⟨.ref C :: xs, []⟩) = A'
  have hdep : A'.depth = f.A.depth + 1 := by rw [← hA']; rfl
  have z0 : (Code.builtin "type.__call__" ⟨.ref C :: xs, []⟩).frames = 0 := rfl
  have hun : A'.units ≤ f.A.units + 4 := by rw [← hA']; show f.A.units + (1 + 3 * (Code.builtin "type.__call__" ⟨.ref C :: xs, []⟩).frames) ≤ _; rw [z0]; (first | lia | omega)
  have hfr' : A'.frames = f.A.frames := by rw [← hA']; rfl
  have hha' : A'.handled = f.A.handled := by rw [← hA']; rfl
  have ok' : (f.reA A').Ok c (k + 1) := ⟨ok.kin, ok.top, ok.envs, hfr'.trans ok.frames, ok.eframe, ok.ekind, ok.eglob, ok.ebi, ok.ecell, fun q => hha'.trans (ok.hnd q), by show A'.depth + (k + 1) + 200 < _; have := ok.depth; (first | lia | omega), by show A'.units + 8 * (k + 1) + 200 < _; have := ok.units; (first | lia | omega)⟩
  have r1 : RelAt c f ρ ((dx, .attr []) :: st) imm fr h' m ((dx, dictOf [] 0) :: mt) cs fo := r.newSt F (fun p hp => N p (.tail _ hp)) hlt (.attr .nil)
  have r2 : RelAt c f ρ ((x, .inst C dx) :: (dx, .attr []) :: st) imm fr h' m ((x, instObj C dx) :: (dx, dictOf [] 0) :: mt) cs fo := r1.newSt F N (by
    intro p hp
    rcases List.mem_cons.mp hp with rfl | hp
    · exact hlx
    · exact Nat.lt_trans (hlt p hp) hlx) (.inst C dx)
  have hdn : get st dx = none := Rel.noneAt r hlt
  have hxn : get st x = none := Rel.noneAt r fun p hp => Nat.lt_trans (hlt p hp) hlx
  have R2 : Rel c (f.reA A') ρ ((x, .inst C dx) :: (dx, .attr []) :: st) imm fr { c.s₀ with heap := h', toks := tk0 } := Rel.reA ⟨⟨h', tk0, rfl⟩, m, _, cs, fo, r2⟩
  refine codeAny_mono (CodeW.fn (Q := fun v st' => v = .none ∧ Q (.ref x) st') (vs := .ref x :: vs) H (by simpa using hn) (h x dx hxn hdn (Nat.ne_of_gt hlx)) ok' R2 (.cons (.ref x) rvs)) fun rr s' z => ?_
  rcases rr with e | (_ | _ | _ | v)
  all_goals first | exact z.elim | skip
  · obtain ⟨e1, C1, mk, E1, ρ1, st1, imm1, q1, q2, q3, q4, q5, q6⟩ := z
    exact ⟨e1, C1, mk, E1, ρ1, st1, imm1, q1, q2, q3, q4, q5.unA, q6⟩
  · obtain ⟨u, st1, imm1, i1, ru, R1, rfl, hQ⟩ := z
    cases ru
    exact ⟨rfl, .ref x, st1, imm1, i1, .ref x, R1.unA, hQ⟩
end
end Mine
namespace Mine
/-! dicts with ints as keys -/
noncomputable def valA {α : Type} [DecidableEq α] (kvs : List (α × V)) (k : α) : Option V := (kvs.find? fun kv => kv.1 = k).map (·.2)
noncomputable def putA {α : Type} [DecidableEq α] (kvs : List (α × V)) (k : α) (v : V) : List (α × V) := if kvs.any (fun kv => kv.1 = k) then kvs.map (fun kv => if kv.1 = k then (kv.1, v) else kv) else kvs ++ [(k, v)]
noncomputable def delA {α : Type} [DecidableEq α] (kvs : List (α × V)) (k : α) : List (α × V) := kvs.filter fun kv => !decide (kv.1 = k)
section
variable {α : Type} [DecidableEq α] {base : Heap} {imm : Led} {l : List (α × V)} {r : List (α × Value)} {k : α} {v : V} {x : Value}
theorem RKs.len (h : RKs base imm l r) : r.length = l.length := by
  induction h with
  | nil => rfl
  | cons _ _ ih => simp [ih]
theorem RKs.val (h : RKs base imm l r) : (valA l k = none ∧ valueAt r k = none) ∨ ∃ v x, valA l k = some v ∧ valueAt r k = some x ∧ RV base imm v x := by
  induction h with
  | nil => exact .inl ⟨rfl, rfl⟩
  | @cons j w y l r a _ ih =>
    unfold valA valueAt at ih ⊢
    rw [List.find?_cons, List.find?_cons]
    by_cases q : j = k
    · simp only [q, decide_true]; exact .inr ⟨w, y, rfl, rfl, a⟩
    · simp only [q, decide_false]; exact ih
theorem RKs.any (h : RKs base imm l r) : (l.any fun kv => kv.1 = k) = r.any fun kv => kv.1 = k := by
  induction h with
  | nil => rfl
  | cons _ _ ih => rw [List.any_cons, List.any_cons, ih]
theorem RKs.mapSet (h : RKs base imm l r) (a : RV base imm v x) : RKs base imm (l.map fun kv => if kv.1 = k then (kv.1, v) else kv) (r.map fun kv => if kv.1 = k then (kv.1, x) else kv) := by
  induction h with
  | nil => exact .nil
  | @cons j w y l r b _ ih =>
    rw [List.map_cons, List.map_cons]
    by_cases q : j = k
    · simp only [q, if_true]; exact .cons a ih
    · simp only [q, if_false]; exact .cons b ih
theorem RKs.snoc (h : RKs base imm l r) (a : RV base imm v x) : RKs base imm (l ++ [(k, v)]) (r ++ [(k, x)]) := by
  induction h with
  | nil => exact .cons a .nil
  | cons b _ ih => exact .cons b ih
theorem RKs.put (h : RKs base imm l r) (a : RV base imm v x) : RKs base imm (putA l k v) (stored r k x) := by
  unfold putA stored
  rw [h.any (k := k)]
  split
  · exact h.mapSet a
  · exact h.snoc a
theorem RKs.del (h : RKs base imm l r) : RKs base imm (delA l k) (without r k) := by
  induction h with
  | nil => exact .nil
  | @cons j w y l r b _ ih =>
    unfold delA without at ih ⊢
    rw [List.filter_cons, List.filter_cons]
    by_cases q : j = k
    · simp only [q, decide_true, Bool.not_true, Bool.false_eq_true, if_false]; first | exact ih | (simp; simpa using ih)
    · simp only [q, decide_false, Bool.not_false, if_true]; first | exact .cons b ih | (simp [q]; exact .cons b (by simpa using ih))
theorem IsDict.of {prog : Program} {w : World} {knd : KeyKind prog w α} {h : Heap} {d : Addr} {o : Obj} {kvs : List (α × Value)} (ho : h.get? d = some o) (hd : IsDict knd o kvs) : h.DictOf knd d kvs :=
  let ⟨a, es, ep, b, e, f, g⟩ := hd; ⟨o, es, ep, ho, a, b, e, f, g⟩
theorem IsDict.to {prog : Program} {w : World} {knd : KeyKind prog w α} {h : Heap} {d : Addr} {kvs : List (α × Value)} (hd : h.DictOf knd d kvs) : ∃ o, h.get? d = some o ∧ IsDict knd o kvs :=
  let ⟨o, es, ep, ho, a, b, e, f, g⟩ := hd; ⟨o, ho, a, es, ep, b, e, f, g⟩
end

section
variable {c : Cx} {k : Nat} {sc : Scope} {ρ : Loc} {st : St} {Q : V → St → Prop} {S : Fl → Loc → St → Prop} {X : Xp} {f : Fm} {imm fr : Led} {s : Shared} {tk : Nat}

theorem Rel.isDict {d : Addr} {kvs : List (Int × V)} (R : Rel c f ρ st imm fr s) (hg : Mine.get st d = some (.dictI kvs)) : ∃ kvals, RKs c.base imm kvs kvals ∧ s.heap.DictOf (intKind c.prog c.w) d kvals := by
  obtain ⟨co, hr, ho⟩ := R.get hg
  cases hr with
  | dictI r d => exact ⟨_, r, IsDict.of ho d⟩
theorem W2.inDict {d : Addr} {kvs : List (Int × V)} {i : Int} (hs : (d == sysModules) = false) (hg : get st d = some (.dictI kvs)) (h : Q (.bool (valA kvs i).isSome) st) : W2 c k (compareOp .In) (.int i) (.ref d) ρ st Q X := by
  refine ⟨fun f imm fr s x y ok R ra rb => ?_⟩
  cases ra with
  | int =>
  cases rb with
  | ref =>
    obtain ⟨kvals, r, hd⟩ := R.isDict hg
    refine wpAny_in_of (intKind_is _ _ _ _) hs hd.mapOf ?_
    rcases r.val (k := i) with ⟨e1, e2⟩ | ⟨v, x, e1, e2, _⟩ <;> (rw [e1] at h; rw [e2]; exact .of (.bool _) R.toks h)
theorem W2.notInDict {d : Addr} {kvs : List (Int × V)} {i : Int} (hs : (d == sysModules) = false) (hg : get st d = some (.dictI kvs)) (h : Q (.bool (!(valA kvs i).isSome)) st) : W2 c k (compareOp .NotIn) (.int i) (.ref d) ρ st Q X := by
  refine ⟨fun f imm fr s x y ok R ra rb => ?_⟩
  cases ra with
  | int =>
  cases rb with
  | ref =>
    obtain ⟨kvals, r, hd⟩ := R.isDict hg
    refine wpAny_notIn_of (intKind_is _ _ _ _) hs hd.mapOf ?_
    rcases r.val (k := i) with ⟨e1, e2⟩ | ⟨v, x, e1, e2, _⟩ <;> (rw [e1] at h; rw [e2]; exact .of (.bool _) R.toks h)
theorem WL.lenDict {d : Addr} {kvs : List (Int × V)} (hs : (d == sysModules) = false) (hg : get st d = some (.dictI kvs)) (hl : (kvs.length : Int) < 2 ^ 63) (h : Q (.int kvs.length) st) : WL c k (fun xs => call (.builtin "len") xs) [.ref d] ρ st Q X := by
  refine ⟨fun f imm fr s xs ok R rvs => ?_⟩
  obtain ⟨_, rfl, rx0⟩ := rvs.inv1
  obtain rfl := rx0.refI
  obtain ⟨kvals, r, hd⟩ := R.isDict hg
  refine call_len_dict hs hd (by rw [r.len]; exact hl) ?_
  rw [r.len]
  exact .of (.int _ _) R.toks h
/-! dicts with texts as keys -/
theorem Rel.isDictS {d : Addr} {kvs : List (Str × V)} (R : Rel c f ρ st imm fr s) (hg : Mine.get st d = some (.dictS kvs)) : ∃ kvals, RKs c.base imm kvs kvals ∧ s.heap.DictOf (strKind c.prog c.w) d kvals := by
  obtain ⟨co, hr, ho⟩ := R.get hg
  cases hr with
  | dictS r d => exact ⟨_, r, IsDict.of ho d⟩
theorem W2.getI {e ie : Expr} {d : Addr} {kvs : List (Int × V)} {i : Int} {v : V} (hg : get st d = some (.dictI kvs)) (hs : isSl ie = false) (hv : valA kvs i = some v) (h : Q v st) : W2 c k (subscriptTail e ie) (.ref d) (.int i) ρ st Q X := by
  refine ⟨fun f imm fr s x y ok R ra rb => ?_⟩
  obtain ⟨_, rfl⟩ := rb.intI
  obtain rfl := ra.refI
  obtain ⟨kvals, r, hd⟩ := R.isDict hg
  rcases r.val (k := i) with ⟨e1, _⟩ | ⟨v', x', e1, e2, rv⟩
  · rw [e1] at hv; cases hv
  · obtain rfl : v' = v := by rw [e1] at hv; exact Option.some.inj hv
    exact tail_any hd.typeIs slot_dict_getitem.lookup (wpAny_getItem_of (intKind_is _ _ _ _) hd.mapOf e2 (.of rv R.toks h)) (sub_plain hs _ _)
theorem W2.getS {e ie : Expr} {d : Addr} {kvs : List (Str × V)} {i : Str} {v : V} (hg : get st d = some (.dictS kvs)) (hs : isSl ie = false) (hv : valA kvs i = some v) (h : Q v st) : W2 c k (subscriptTail e ie) (.ref d) (.str i) ρ st Q X := by
  refine ⟨fun f imm fr s x y ok R ra rb => ?_⟩
  obtain ⟨_, rfl⟩ := rb.strI
  obtain rfl := ra.refI
  obtain ⟨kvals, r, hd⟩ := R.isDictS hg
  rcases r.val (k := i) with ⟨e1, _⟩ | ⟨v', x', e1, e2, rv⟩
  · rw [e1] at hv; cases hv
  · obtain rfl : v' = v := by rw [e1] at hv; exact Option.some.inj hv
    exact tail_any hd.typeIs slot_dict_getitem.lookup (wpAny_getItem_of (strKind_is _ _ _ _) hd.mapOf e2 (.of rv R.toks h)) (sub_plain hs _ _)
end
/-- three values in, none out -/
structure W3 (c : Cx) (k : Nat) (t : Value → Value → Value → Sem Unit) (a b v : V) (ρ : Loc) (st : St) (P : St → Prop) (X : Xp) : Prop where
  go : ∀ f imm fr s x y z, f.Ok c k → Rel c f ρ st imm fr s → RV c.base imm a x → RV c.base imm b y → RV c.base imm v z →
    wpAny c.M f.A (t x y z) (fun _ s' => ∃ st' imm', (∀ p ∈ imm, p ∈ imm') ∧ Rel c f ρ st' imm' fr s' ∧ P st') (Thrown c f imm fr X) s
section
variable {c : Cx} {k : Nat} {sc : Scope} {ρ : Loc} {st : St} {Q : V → St → Prop} {S : Fl → Loc → St → Prop} {X : Xp} {f : Fm} {imm fr : Led} {s : Shared} {tk : Nat} {P : St → Prop}
theorem WPs.setItem {o i value : Expr} {p' pos : Pos}
    (h : WPE c k sc ρ st value (fun u st₁ => WPE c k sc ρ st₁ o (fun v st₂ => WPE c k sc ρ st₂ i (fun w st₃ => W3 c k setItem v w u ρ st₃ (fun st' => S .next ρ st') X) X) X) X)
    (hs : ∀ env, swapsWith value (some (.Subscript o i p')) pos.line env = pure false := by intro _; rfl) : WPs c k sc ρ st (.Assign [.Subscript o i p'] value pos) S X := by
  refine ⟨fun f imm fr s ok hsc own R => ?_⟩
  refine wpAny_Assign_Subscript (wpAny_mono (h.go f imm fr s ok hsc R) (fun y s₁ p => ?_) fun _ _ t => t) (hs _)
  obtain ⟨u, st₁, imm₁, i₁, ru, R₁, h₁⟩ := p
  refine wpAny_mono (h₁.go f imm₁ fr s₁ ok hsc R₁) (fun z s₂ p => ?_) fun _ _ t => t.mono i₁
  obtain ⟨v, st₂, imm₂, i₂, rv, R₂, h₂⟩ := p
  refine wpAny_mono (h₂.go f imm₂ fr s₂ ok hsc R₂) (fun x s₃ p => ?_) fun _ _ t => (t.mono i₂).mono i₁
  obtain ⟨w, st₃, imm₃, i₃, rw, R₃, h₃⟩ := p
  refine wpAny_mono (h₃.go f imm₃ fr s₃ _ _ _ ok R₃ (rv.mono i₃) rw ((ru.mono i₂).mono i₃)) (fun _ s₄ p => ?_) fun _ _ t => ((t.mono i₃).mono i₂).mono i₁
  obtain ⟨st₄, imm₄, i₄, R₄, h₄⟩ := p
  exact ⟨.next, ρ, st₄, imm₄, fun q hq => i₄ q (i₃ q (i₂ q (i₁ q hq))), .next, R₄, h₄⟩
theorem W3.putI {d : Addr} {kvs : List (Int × V)} {i : Int} {v : V} (hg : get st d = some (.dictI kvs)) (hl : kvs.length ≤ 1000000) (h : P (upd st d (.dictI (putA kvs i v)))) : W3 c k setItem (.ref d) (.int i) v ρ st P X := by
  refine ⟨fun f imm fr s x y z ok R ra rb rv => ?_⟩
  obtain rfl := ra.refI
  obtain ⟨_, rfl⟩ := rb.intI
  obtain ⟨kvals, r, hd⟩ := R.isDict hg
  refine wpAny_setItem_pairs (intKind_is _ _ _ _) hd (fun h' hd' hs' => ?_) (by rw [r.len, sizeLine_eq]; (first | lia | omega))
  obtain ⟨o, ho, hD⟩ := IsDict.to hd'
  exact ⟨_, imm, fun _ h => h, R.upd hg hs' ho (.dictI (r.put rv) hD), h⟩
theorem W3.putS {d : Addr} {kvs : List (Str × V)} {i : Str} {v : V} (hg : get st d = some (.dictS kvs)) (hl : kvs.length ≤ 1000000) (h : P (upd st d (.dictS (putA kvs i v)))) : W3 c k setItem (.ref d) (.str i) v ρ st P X := by
  refine ⟨fun f imm fr s x y z ok R ra rb rv => ?_⟩
  obtain rfl := ra.refI
  obtain ⟨_, rfl⟩ := rb.strI
  obtain ⟨kvals, r, hd⟩ := R.isDictS hg
  refine wpAny_setItem_pairs (strKind_is _ _ _ _) hd (fun h' hd' hs' => ?_) (by rw [r.len, sizeLine_eq]; (first | lia | omega))
  obtain ⟨o, ho, hD⟩ := IsDict.to hd'
  exact ⟨_, imm, fun _ h => h, R.upd hg hs' ho (.dictS (r.put rv) hD), h⟩
theorem WL.popI {d : Addr} {kvs : List (Int × V)} {i : Int} {v : V} (hg : get st d = some (.dictI kvs)) (hv : valA kvs i = some v) (hl : kvs.length ≤ 1000000) (h : Q v (upd st d (.dictI (delA kvs i)))) : WL c k (fun xs => call (.builtin "dict.pop") xs) [.ref d, .int i] ρ st Q X := by
  refine ⟨fun f imm fr s xs ok R rvs => ?_⟩
  obtain ⟨_, _, rfl, rx0, rx1⟩ := rvs.inv2
  obtain rfl := rx0.refI
  obtain ⟨_, rfl⟩ := rx1.intI
  obtain ⟨kvals, r, hd⟩ := R.isDict hg
  rcases r.val (k := i) with ⟨e1, _⟩ | ⟨v', x', e1, e2, rv⟩
  · rw [e1] at hv; cases hv
  · obtain rfl : v' = v := by rw [e1] at hv; exact Option.some.inj hv
    refine call_meetsIn PySem.F.slot_dict_pop hd.typeIs PySem.F.entry_dict_pop (PySem.F.args_dict_pop_2 _ _) (meets_dict_pop_there (k := i) (intKind c.prog c.w) d (intKind_is _ _ _ _) [] (.inl rfl) (by rfl)) ⟨kvals, x', hd, by rw [r.len, sizeLine_eq]; (first | lia | omega), e2, fun h' hd' hs' => ?_⟩
    obtain ⟨o, ho, hD⟩ := IsDict.to hd'
    exact ⟨_, _, imm, fun _ h => h, rv, R.upd hg hs' ho (.dictI r.del hD), h⟩
theorem WPE.methD {e : Expr} {name : Str} {ap pos : Pos} {args : List Expr} {id : String} (slot : Slot "dict" name id) (hty : typeOf (.builtin id) = pure (.type "method_descriptor"))
    (h : WPE c k sc ρ st e (fun v st₁ => ∃ a kvs, v = .ref a ∧ get st₁ a = some (.dictI kvs) ∧ WPEs c k sc ρ st₁ args (fun us st₂ => WL c k (fun xs => PySem.call (.builtin id) xs) (.ref a :: us) ρ st₂ Q X) X) X)
    (hp : args.any isStar = false := by rfl)
    (he : ∀ env, ∃ pl, eval (.Call (.Attribute e name ap) args [] pos) env = (do
      let ov ← eval e env
      standAt ap.atName
      let (f, first) ← holding [ov] (getMethod ov name pl)
      callWith pos f first (backTo pos (starEach args env)) []) := by intro _; exact ⟨_, rfl⟩) : WPE c k sc ρ st (.Call (.Attribute e name ap) args [] pos) Q X := by
  refine ⟨fun f imm fr s ok hsc R => ?_⟩
  obtain ⟨pl, he⟩ := he f.env
  refine MethodCall_ (pl := pl) (wpAny_mono (h.go f imm fr s ok hsc R) (fun x s₁ p => ?_) fun _ _ t => t) he
  obtain ⟨v, st₁, imm₁, i₁, rv, R₁, a, kvs, rfl, hg, h₁⟩ := p
  cases rv with
  | ref =>
    obtain ⟨kvals, r, hd⟩ := R₁.isDict hg
    obtain ⟨o, ho, hD⟩ := IsDict.to hd
    refine getMethod_builtin hd.typeIs PySem.F.plainAttrs_dict slot hty (fun a e => by cases e; exact ⟨o, ho, hD.1.2.1⟩) ?_
    refine wpAny_mono (callWithW (f := f) (val := .builtin id) (first := [.ref a]) (vs₀ := [.ref a]) rfl hp ok hsc R₁ (.one (.ref a)) (.inr fun T e => by cases e) (by simpa using h₁)) (fun _ _ p => p.mono i₁) fun _ _ t => t.mono i₁
theorem WPE.mPopD {e : Expr} {ap pos : Pos} {args : List Expr}
    (h : WPE c k sc ρ st e (fun v st₁ => ∃ a kvs, v = .ref a ∧ get st₁ a = some (.dictI kvs) ∧ WPEs c k sc ρ st₁ args (fun us st₂ => WL c k (fun xs => PySem.call (.builtin "dict.pop") xs) (.ref a :: us) ρ st₂ Q X) X) X)
    (hp : args.any isStar = false := by rfl)
    (he : ∀ env, ∃ pl, eval (.Call (.Attribute e "pop" ap) args [] pos) env = (do
      let ov ← eval e env
      standAt ap.atName
      let (f, first) ← holding [ov] (getMethod ov "pop" pl)
      callWith pos f first (backTo pos (starEach args env)) []) := by intro _; exact ⟨_, rfl⟩) : WPE c k sc ρ st (.Call (.Attribute e "pop" ap) args [] pos) Q X :=
  WPE.methD PySem.F.slot_dict_pop PySem.F.type_dict_pop h hp he
theorem RKs.keys {α : Type} {base : Heap} {imm : Led} {l : List (α × V)} {r : List (α × Value)} (h : RKs base imm l r) : r.map (·.1) = l.map (·.1) := by
  induction h with
  | nil => rfl
  | cons _ _ ih => simp [ih]
theorem WL.sortedDict {d : Addr} {kvs : List (Int × V)} (hq : c.q = true) (hs : (d == sysModules) = false) (hg : get st d = some (.dictI kvs)) (hl : kvs.length < 64) (h : ∀ ns' : List Int, ns'.Perm (kvs.map (·.1)) → ns'.Pairwise (· ≤ ·) → ∀ b, get st b = none → Q (.ref b) ((b, .list (ns'.map .int)) :: st)) : WL c k (fun xs => call (.builtin "sorted") xs) [.ref d] ρ st Q X := by
  refine ⟨fun f imm fr s xs ok R rvs => ?_⟩
  obtain ⟨_, rfl, rx0⟩ := rvs.inv1
  obtain rfl := rx0.refI
  obtain ⟨kvals, r, hd⟩ := R.isDict hg
  obtain ⟨ep, hat⟩ := hd.dictAt
  obtain ⟨⟨h0, tk0, rfl⟩, m, mt, cs, fo, rr⟩ := id R
  refine kdu_sorted (kdl_dict (knd := intKind c.prog c.w) (kvs := kvals) (ep := ep) hs) (ok.hnd hq) rr.frm rr.news hat (by rw [r.len, sizeLine_eq]; (first | lia | omega)) fun D h' tk vs F N hlt hlen hv => ?_
  have hD := N _ (.head _)
  have hI : IntsAre vs (kvals.map (·.1)) := by
    clear N F hD
    have key : ∀ (vs : List Value) (l : List (Int × Value)), vs.length = l.length → (∀ (j : Nat) (v : Value), vs[j]? = some v → ∃ k x, l[j]? = some (k, x) ∧ (intKind c.prog c.w).is k v = true) → IntsAre vs (l.map (·.1)) := by
      intro vs
      induction vs with
      | nil => intro l hl _; cases l with
        | nil => exact .nil
        | cons _ _ => cases hl
      | cons v vs ih => intro l hl hv; cases l with
        | nil => cases hl
        | cons p l =>
          obtain ⟨k, x, e, hk⟩ := hv 0 v rfl
          cases e
          obtain ⟨t, rfl⟩ := Value.isInt_shape hk
          exact .cons _ _ (ih l (Nat.succ.inj hl) fun j v e => hv (j + 1) v e)
    exact key vs kvals hlen hv
  have hlen' : vs.length < 64 := by rw [hlen, r.len]; exact hl
  refine wpAny_call_entry slot_list_sort ⟨_, hD.1, rfl⟩ entry_list_sort (list_sort_tree hD.1 hI hlen' fun out ns' a1 a2 a3 => ⟨_, rfl, ?_⟩) (args_list_sort _)
  obtain ⟨e, he⟩ := sortedHeap_at (out := out) hD.1
  have old : ∀ b o, b ≠ D → h'.get? b = some o → (sortedHeap h' D vs out).get? b = some o := fun b o hb q => (sortedHeap_old hb (Heap.lt_size q)).trans q
  have F₂ : Fr c.base f.L (sortedHeap h' D vs out) m := ⟨F.ns.at' fun ob q => old _ _ (Ne.symm hD.2.1) q, fun b o q => old b o (fun e => by rw [e, hD.2.2] at q; cases q) (F.keep b o q), F.above⟩
  have N₂ : News c.base f.L (sortedHeap h' D vs out) ((D, PySem.W.listOf out e) :: whole mt cs imm fr fo) := by
    intro p hp
    rcases List.mem_cons.mp hp with rfl | hp
    · exact ⟨he, hD.2⟩
    · have z := N p (.tail _ hp)
      exact ⟨old _ _ (Nat.ne_of_lt (hlt p hp)) z.1, z.2⟩
  refine ⟨.ref D, _, imm, fun _ h => h, .ref _, ⟨⟨_, tk, rfl⟩, m, _, cs, fo, rr.newSt F₂ N₂ hlt (.list (vals := out.toList) (RVs.ofInts a1))⟩, h ns' (by rw [← r.keys]; exact a2) a3 _ (Rel.noneAt rr hlt)⟩
end
end Mine
namespace Mine
section
variable {c : Cx} {k : Nat} {sc : Scope} {ρ : Loc} {st : St} {Q : V → St → Prop} {S : Fl → Loc → St → Prop} {X : Xp} {f : Fm} {imm fr : Led} {s : Shared} {tk : Nat}

end
end Mine
namespace Mine
/-! pairs of ints in order; the least of a list of them -/
section
variable {prog : Program} {w : World} {A : Around} {E : Value → Shared → Prop} {s : Shared}

end
end Mine
namespace Mine
section
variable {c : Cx} {k : Nat} {sc : Scope} {ρ : Loc} {st : St} {Q : V → St → Prop} {X : Xp} {f : Fm} {imm fr : Led} {s : Shared}

theorem W2.neNil {a b : Addr} {vs : List V} (ha : get st a = some (.list vs)) (hb : get st b = some (.list [])) (h : Q (.bool (!vs.isEmpty)) st) : W2 c k (compareOp .NotEq) (.ref a) (.ref b) ρ st Q X := by
  refine ⟨fun f imm fr s x y ok R ra rb => ?_⟩
  obtain rfl := ra.refI
  obtain rfl := rb.refI
  obtain ⟨va, na, r1, h1⟩ := R.isList ha
  obtain ⟨vb, nb, r2, h2⟩ := R.isList hb
  cases r2
  have hu := ok.units
  cases r1 with
  | nil =>
    have := SeqAt.RcNeAt.lists (A := f.A) (s := s) (e := fun _ => true) (items := #[]) (items2 := #[]) ⟨_, h1, rfl, _, rfl⟩ ⟨_, h2, rfl, _, rfl⟩ rfl (by (first | lia | omega)) (fun j l1 _ => absurd l1 (Nat.not_lt_zero _))
    exact this _ _ _ _ (.of (.bool _) R h)
  | cons _ _ => exact SeqAt.RcNeAt.lists_lengths (A := f.A) (s := s) ⟨_, h1, rfl, _, rfl⟩ ⟨_, h2, rfl, _, rfl⟩ (by simp) (by (first | lia | omega)) _ _ _ _ (.of (.bool _) R h)

end
end Mine
namespace Mine
section
variable (prog : Program) (w : World)
end
section
variable {prog : Program} {w : World} {A : Around} {E : Value → Shared → Prop} {s : Shared} {n m : Nd} {a b : Addr}
end
section
variable {c : Cx} {k : Nat} {sc : Scope} {ρ : Loc} {st : St} {Q : V → St → Prop} {S : Fl → Loc → St → Prop} {X : Xp} {f : Fm} {imm fr : Led} {s : Shared} {tk : Nat}
end
end Mine
namespace Mine
/-! dicts that are written out, with texts as keys -/
noncomputable def mergeA (kvs more : List (Str × V)) : List (Str × V) := more.foldl (fun acc kv => putA acc kv.1 kv.2) kvs
theorem RKs.merge {base : Heap} {imm : Led} : ∀ {ws : List (Str × V)} {kvals : List (Str × Value)} {l : List (Str × V)} {r : List (Str × Value)}, RKs base imm ws kvals → RKs base imm l r → RKs base imm (mergeA l ws) (merged r kvals)
  | [], _, _, _, h, k => by cases h; exact k
  | (x, v) :: ws, _, _, _, h, k => by
    cases h with
    | @cons _ _ y _ r' a h' =>
      show RKs base imm (mergeA (putA _ x v) ws) (merged (stored _ x y) r')
      exact RKs.merge h' (k.put a)
structure WPDs (c : Cx) (k : Nat) (sc : Scope) (ρ : Loc) (st : St) (keys : List (Option Expr)) (values : List Expr) (P : List (Str × V) → St → Prop) (X : Xp) : Prop where
  go : ∀ f imm fr s pos, f.Ok c k → f.env.scope = sc → Rel c f ρ st imm fr s →
    wpAny c.M f.A (evalPairs (pairTrees keys values f.env pos)) (fun vs s' => ∃ ws kvals st' imm', (∀ p ∈ imm, p ∈ imm') ∧ Carries (strKind c.prog c.w) vs kvals ∧ RKs c.base imm' ws kvals ∧ Rel c f ρ st' imm' fr s' ∧ P ws st') (Thrown c f imm fr X) s
section
variable {c : Cx} {k : Nat} {sc : Scope} {ρ : Loc} {st : St} {Q : V → St → Prop} {S : Fl → Loc → St → Prop} {X : Xp} {f : Fm} {imm fr : Led} {s : Shared} {tk : Nat} {P : List (Str × V) → St → Prop} {keys : List (Option Expr)} {values : List Expr}
theorem WPDs.nil (h : P [] st) : WPDs c k sc ρ st [] [] P X :=
  ⟨fun f imm fr s pos ok hsc R => wpAny_pure ⟨[], [], st, imm, fun _ h => h, trivial, .nil, R, h⟩⟩
theorem WPDs.cons {x : Str} {n : Nat} {p : Pos} {v : Expr} (h : WPE c k sc ρ st v (fun u st₁ => WPDs c k sc ρ st₁ keys values (fun ws st₂ => P ((x, u) :: ws) st₂) X) X) : WPDs c k sc ρ st (some (.Constant (.str x) n p) :: keys) (v :: values) P X := by
  refine ⟨fun f imm fr s pos ok hsc R => ?_⟩
  show wpAny _ _ (eval (.Constant (.str x) n p) f.env >>= _) _ _ s
  refine wpAny_bind (wpAny_mono ((WPE.cstr (c := c) (k := k) (sc := sc) (ρ := ρ) (st := st) (Q := fun u st₁ => u = .str x ∧ st₁ = st) (X := X) ⟨rfl, rfl⟩).go f imm fr s ok hsc R) (fun kv s₁ q => ?_) fun _ _ t => t)
  obtain ⟨u, st₁, imm₁, i₁, ru, R₁, rfl, rfl⟩ := q
  obtain ⟨t, rfl⟩ := ru.strI
  refine wpAny_bind (wpAny_holding (wpAny_bind (wpAny_mono (h.go f imm₁ fr s₁ ok hsc R₁) (fun y s₂ q => ?_) fun _ _ t => t.mono i₁)))
  obtain ⟨u, st₂, imm₂, i₂, ru', R₂, h₂⟩ := q
  refine wpAny_bind (wpAny_standAt (wpAny_pure ?_))
  refine wpAny_bind (wpAny_holding (wpAny_mono (h₂.go f imm₂ fr s₂ pos ok hsc R₂) (fun vs s₃ q => ?_) fun _ _ t => (t.mono i₂).mono i₁))
  obtain ⟨ws, kvals, st₃, imm₃, i₃, hc, hr, R₃, h₃⟩ := q
  exact wpAny_pure ⟨(x, u) :: ws, (x, y) :: kvals, st₃, imm₃, fun q hq => i₃ q (i₂ q (i₁ q hq)), ⟨strKind_is _ _ _ _, rfl, hc⟩, .cons (ru'.mono i₃) hr, R₃, h₃⟩
theorem WPE.dictS {pos : Pos} (h : WPDs c k sc ρ st keys values (fun ws st₁ => ∀ a, get st₁ a = none → (a == sysModules) = false → Q (.ref a) ((a, .dictS (mergeA [] ws)) :: st₁)) X)
    (hall : keys.all (·.isSome) = true := by rfl) (hl : keys.length = values.length := by rfl) (h0 : keys ≠ [] := by exact List.cons_ne_nil _ _) (hlen : keys.length ≤ 15 := by decide) : WPE c k sc ρ st (.Dict keys values pos) Q X := by
  refine ⟨fun f imm fr s ok hsc R => ?_⟩
  refine wpAny_Dict_walk (knd := strKind c.prog c.w) hall hl h0 hlen ?_
  have lo := R.fresh ok
  have R₀ := R.pushFr (tk := s.toks) (o := { cls := .type "dict", data := .dict #[] })
  refine wpAny_mono (h.go f imm _ _ pos ok hsc R₀) (fun vs s₁ q => ?_) fun _ _ t => t.drop (by intro w e; cases e) fun _ hp => hp
  obtain ⟨ws, kvals, st₁, imm₁, i₁, hc, hr, R₁, h₁⟩ := q
  refine ⟨kvals, hc, IsDict.of (R₁.inFr (.head _)) isDict_nil, fun h' hD hs => ?_⟩
  obtain ⟨o', ho', hI⟩ := IsDict.to hD
  have R₂ := (R₁.frSet (tk := s₁.toks + vs.length) hs ho' (by intro w e; cases e))
  obtain ⟨R₃, hn⟩ := R₂.frSt (x := .dictS (mergeA [] ws)) (by obtain ⟨_, es, ep, e, _⟩ := hI; intro w q; rw [e] at q; cases q) (.dictS (RKs.merge hr .nil) hI)
  exact ⟨.ref _, _, imm₁, i₁, .ref _, R₃, h₁ _ hn lo⟩
theorem WL.clear {a : Addr} {vs : List V} (hg : get st a = some (.list vs)) (hl : vs.length ≤ 1000000) (h : Q .none (upd st a (.list []))) : WL c k (fun xs => call (.builtin "list.clear") xs) [.ref a] ρ st Q X := by
  refine ⟨fun f imm fr s xs ok R rvs => ?_⟩
  obtain ⟨_, rfl, rx0⟩ := rvs.inv1
  obtain rfl := rx0.refI
  obtain ⟨vals, n, r, ho⟩ := R.isList hg
  refine call_meets PySem.F.slot_list_clear ⟨_, ho, rfl⟩ PySem.F.entry_list_clear (PySem.F.args_list_clear_1 _) (AutoSeq1.list_clear_list_0 a vals.toArray n (by have := r.length; rw [PySem.sizeLine_eq]; simp; (first | lia | omega))) ⟨ho, ?_⟩
  exact .none (R.mapSeq (tk := s.toks) (vals' := []) _ hg ho (by simp) .nil) h
end
end Mine
namespace Mine
/-! a list, backwards -/
section
variable {prog : Program} {w : World} {A : Around} {E : Value → Shared → Prop} {s : Shared} {I l : Addr} {items : Array Value}
end
section
variable {c : Cx} {k : Nat} {sc : Scope} {ρ : Loc} {st : St} {Q : V → St → Prop} {S : Fl → Loc → St → Prop} {X : Xp} {f : Fm} {imm fr : Led} {s : Shared} {tk : Nat} {h h' : Heap} {m : Str → Option Value} {mt cs fo : Led} {r : Addr}
end
end Mine
namespace Mine
/-! texts -/
section
variable {c : Cx} {k : Nat} {sc : Scope} {ρ : Loc} {st : St} {Q : V → St → Prop} {S : Fl → Loc → St → Prop} {X : Xp} {f : Fm} {imm fr : Led} {s : Shared} {tk : Nat}
end
end Mine
namespace Mine
set_option genInjectivity false
set_option genSizeOfSpec false
noncomputable def nthS : List Stmt → Nat → Option Stmt
  | [], _ => none
  | x :: _, 0 => some x
  | _ :: l, n + 1 => nthS l n
noncomputable def bodyI : Option Stmt → List Stmt
  | some (.FunctionDef _ _ b _ _ _ _ _ _ _) => b
  | _ => []
noncomputable def scI : Option Stmt → Scope
  | some (.FunctionDef _ _ _ _ _ _ s _ _ _) => s
  | _ => { kind := .module, names := [], isGenerator := false, isCoroutine := false, more := [] }
noncomputable def memI : Option Stmt → Nat → Option Stmt
  | some (.ClassDef _ _ _ b _ _ _ _ _ _ _), j => nthS b j
  | _, _ => none
noncomputable def stI (i : Nat) : Option Stmt := nthS PySem.Challenge.pw_uf040029_05.main.body i
noncomputable abbrev A_between : Addr := 130
noncomputable def S_between : Scope := scI (stI 13)
noncomputable def B_between : List Stmt := bodyI (stI 13)
noncomputable abbrev A_is_state : Addr := 137
noncomputable def S_is_state : Scope := scI (stI 14)
noncomputable def B_is_state : List Stmt := bodyI (stI 14)
noncomputable abbrev A_is_rule : Addr := 144
noncomputable def S_is_rule : Scope := scI (stI 15)
noncomputable def B_is_rule : List Stmt := bodyI (stI 15)
noncomputable abbrev A_forth : Addr := 151
noncomputable def S_forth : Scope := scI (stI 16)
noncomputable def B_forth : List Stmt := bodyI (stI 16)
noncomputable abbrev A_need_row : Addr := 158
noncomputable def S_need_row : Scope := scI (stI 17)
noncomputable def B_need_row : List Stmt := bodyI (stI 17)
noncomputable abbrev A_is_deed : Addr := 165
noncomputable def S_is_deed : Scope := scI (stI 20)
noncomputable def B_is_deed : List Stmt := bodyI (stI 20)
noncomputable abbrev A_law_cell_at : Addr := 240
noncomputable def S_law_cell_at : Scope := scI (stI 25)
noncomputable def B_law_cell_at : List Stmt := bodyI (stI 25)
noncomputable abbrev A_law_number : Addr := 247
noncomputable def S_law_number : Scope := scI (stI 26)
noncomputable def B_law_number : List Stmt := bodyI (stI 26)
noncomputable abbrev A_law_whole : Addr := 254
noncomputable def S_law_whole : Scope := scI (stI 27)
noncomputable def B_law_whole : List Stmt := bodyI (stI 27)
noncomputable abbrev A_law_rule : Addr := 261
noncomputable def S_law_rule : Scope := scI (stI 28)
noncomputable def B_law_rule : List Stmt := bodyI (stI 28)
noncomputable abbrev A_law_forth : Addr := 268
noncomputable def S_law_forth : Scope := scI (stI 29)
noncomputable def B_law_forth : List Stmt := bodyI (stI 29)
noncomputable abbrev A_law_row : Addr := 273
noncomputable def S_law_row : Scope := scI (stI 30)
noncomputable def B_law_row : List Stmt := bodyI (stI 30)
noncomputable abbrev A_law_states : Addr := 280
noncomputable def S_law_states : Scope := scI (stI 31)
noncomputable def B_law_states : List Stmt := bodyI (stI 31)
noncomputable abbrev A_law_class : Addr := 287
noncomputable def S_law_class : Scope := scI (stI 32)
noncomputable def B_law_class : List Stmt := bodyI (stI 32)
noncomputable abbrev A_law_new : Addr := 294
noncomputable def S_law_new : Scope := scI (stI 33)
noncomputable def B_law_new : List Stmt := bodyI (stI 33)
noncomputable abbrev A_law_do : Addr := 299
noncomputable def S_law_do : Scope := scI (stI 34)
noncomputable def B_law_do : List Stmt := bodyI (stI 34)
noncomputable abbrev A_law_deed : Addr := 306
noncomputable def S_law_deed : Scope := scI (stI 35)
noncomputable def B_law_deed : List Stmt := bodyI (stI 35)
noncomputable abbrev A_law_told : Addr := 313
noncomputable def S_law_told : Scope := scI (stI 36)
noncomputable def B_law_told : List Stmt := bodyI (stI 36)
noncomputable abbrev A_law_right : Addr := 318
noncomputable def S_law_right : Scope := scI (stI 37)
noncomputable def B_law_right : List Stmt := bodyI (stI 37)
noncomputable abbrev A_law_room : Addr := 325
noncomputable def S_law_room : Scope := scI (stI 38)
noncomputable def B_law_room : List Stmt := bodyI (stI 38)
noncomputable abbrev A_law_ahead : Addr := 332
noncomputable def S_law_ahead : Scope := scI (stI 39)
noncomputable def B_law_ahead : List Stmt := bodyI (stI 39)
noncomputable def S_law : Scope := scI (stI 40)
noncomputable def B_law : List Stmt := bodyI (stI 40)
noncomputable def S_Walker_init : Scope := scI (memI (stI 23) 0)
noncomputable def B_Walker_init : List Stmt := bodyI (memI (stI 23) 0)
noncomputable abbrev A_Walker_kept : Addr := 184
noncomputable def S_Walker_kept : Scope := scI (memI (stI 23) 1)
noncomputable def B_Walker_kept : List Stmt := bodyI (memI (stI 23) 1)
noncomputable abbrev A_Walker_met : Addr := 191
noncomputable def S_Walker_met : Scope := scI (memI (stI 23) 2)
noncomputable def B_Walker_met : List Stmt := bodyI (memI (stI 23) 2)
noncomputable abbrev A_Walker_do : Addr := 198
noncomputable def S_Walker_do : Scope := scI (memI (stI 23) 3)
noncomputable def B_Walker_do : List Stmt := bodyI (memI (stI 23) 3)
noncomputable abbrev A_Walker_keep_it : Addr := 205
noncomputable def S_Walker_keep_it : Scope := scI (memI (stI 23) 4)
noncomputable def B_Walker_keep_it : List Stmt := bodyI (memI (stI 23) 4)
noncomputable abbrev A_Walker_handle : Addr := 212
noncomputable def S_Walker_handle : Scope := scI (memI (stI 23) 5)
noncomputable def B_Walker_handle : List Stmt := bodyI (memI (stI 23) 5)
noncomputable abbrev A_Walker_go_on : Addr := 219
noncomputable def S_Walker_go_on : Scope := scI (memI (stI 23) 6)
noncomputable def B_Walker_go_on : List Stmt := bodyI (memI (stI 23) 6)
noncomputable abbrev A_Walker_meet_it : Addr := 226
noncomputable def S_Walker_meet_it : Scope := scI (memI (stI 23) 7)
noncomputable def B_Walker_meet_it : List Stmt := bodyI (memI (stI 23) 7)
noncomputable abbrev A_MarkError : Addr := 24
noncomputable abbrev A_BadCount : Addr := 37
noncomputable abbrev A_BadRule : Addr := 49
noncomputable abbrev A_BadDeed : Addr := 61
noncomputable abbrev A_Full : Addr := 73
noncomputable abbrev A_Twice : Addr := 85
noncomputable abbrev A_NotKept : Addr := 97
noncomputable abbrev A_AtEnd : Addr := 109
noncomputable abbrev A_NotWanted : Addr := 121
noncomputable abbrev A_Walker : Addr := 229
/-- what the walk asks of the text's globals -/
structure Facts (K : Frag) : Prop where
  fn_between : FnAt K 130 ["thing", "low", "high"] S_between B_between
  g_between : nsIn K mainGlobals "between" = some (some (.ref 130))
  k_between : keepIn K (.ref 130) = true
  fn_is_state : FnAt K 137 ["thing"] S_is_state B_is_state
  g_is_state : nsIn K mainGlobals "is_state" = some (some (.ref 137))
  k_is_state : keepIn K (.ref 137) = true
  fn_is_rule : FnAt K 144 ["thing"] S_is_rule B_is_rule
  g_is_rule : nsIn K mainGlobals "is_rule" = some (some (.ref 144))
  k_is_rule : keepIn K (.ref 144) = true
  fn_forth : FnAt K 151 ["rule", "state"] S_forth B_forth
  g_forth : nsIn K mainGlobals "forth" = some (some (.ref 151))
  k_forth : keepIn K (.ref 151) = true
  fn_need_row : FnAt K 158 ["first", "rules"] S_need_row B_need_row
  g_need_row : nsIn K mainGlobals "need_row" = some (some (.ref 158))
  k_need_row : keepIn K (.ref 158) = true
  fn_is_deed : FnAt K 165 ["thing"] S_is_deed B_is_deed
  g_is_deed : nsIn K mainGlobals "is_deed" = some (some (.ref 165))
  k_is_deed : keepIn K (.ref 165) = true
  fn_law_cell_at : FnAt K 240 ["_law_script", "_law_k"] S_law_cell_at B_law_cell_at
  g_law_cell_at : nsIn K mainGlobals "_law_cell_at" = some (some (.ref 240))
  k_law_cell_at : keepIn K (.ref 240) = true
  fn_law_number : FnAt K 247 ["_law_script", "_law_k"] S_law_number B_law_number
  g_law_number : nsIn K mainGlobals "_law_number" = some (some (.ref 247))
  k_law_number : keepIn K (.ref 247) = true
  fn_law_whole : FnAt K 254 ["_law_found"] S_law_whole B_law_whole
  g_law_whole : nsIn K mainGlobals "_law_whole" = some (some (.ref 254))
  k_law_whole : keepIn K (.ref 254) = true
  fn_law_rule : FnAt K 261 ["_law_number_here"] S_law_rule B_law_rule
  g_law_rule : nsIn K mainGlobals "_law_rule" = some (some (.ref 261))
  k_law_rule : keepIn K (.ref 261) = true
  fn_law_forth : FnAt K 268 ["_law_rule_here", "_law_state"] S_law_forth B_law_forth
  g_law_forth : nsIn K mainGlobals "_law_forth" = some (some (.ref 268))
  k_law_forth : keepIn K (.ref 268) = true
  fn_law_row : FnAt K 273 ["_law_script", "_law_start", "_law_most"] S_law_row B_law_row
  g_law_row : nsIn K mainGlobals "_law_row" = some (some (.ref 273))
  k_law_row : keepIn K (.ref 273) = true
  fn_law_states : FnAt K 280 ["_law_first", "_law_rules"] S_law_states B_law_states
  g_law_states : nsIn K mainGlobals "_law_states" = some (some (.ref 280))
  k_law_states : keepIn K (.ref 280) = true
  fn_law_class : FnAt K 287 ["_law_e"] S_law_class B_law_class
  g_law_class : nsIn K mainGlobals "_law_class" = some (some (.ref 287))
  k_law_class : keepIn K (.ref 287) = true
  fn_law_new : FnAt K 294 ["_law_first", "_law_rules", "_law_room_here"] S_law_new B_law_new
  g_law_new : nsIn K mainGlobals "_law_new" = some (some (.ref 294))
  k_law_new : keepIn K (.ref 294) = true
  fn_law_do : FnAt K 299 ["_law_m", "_law_deed_here"] S_law_do B_law_do
  g_law_do : nsIn K mainGlobals "_law_do" = some (some (.ref 299))
  k_law_do : keepIn K (.ref 299) = true
  fn_law_deed : FnAt K 306 ["_law_m", "_law_number_here"] S_law_deed B_law_deed
  g_law_deed : nsIn K mainGlobals "_law_deed" = some (some (.ref 306))
  k_law_deed : keepIn K (.ref 306) = true
  fn_law_told : FnAt K 313 ["_law_walker", "_law_deed_here"] S_law_told B_law_told
  g_law_told : nsIn K mainGlobals "_law_told" = some (some (.ref 313))
  k_law_told : keepIn K (.ref 313) = true
  fn_law_right : FnAt K 318 ["_law_walker", "_law_m", "_law_held"] S_law_right B_law_right
  g_law_right : nsIn K mainGlobals "_law_right" = some (some (.ref 318))
  k_law_right : keepIn K (.ref 318) = true
  fn_law_room : FnAt K 325 ["_law_script"] S_law_room B_law_room
  g_law_room : nsIn K mainGlobals "_law_room" = some (some (.ref 325))
  k_law_room : keepIn K (.ref 325) = true
  fn_law_ahead : FnAt K 332 ["_law_script", "_law_many"] S_law_ahead B_law_ahead
  g_law_ahead : nsIn K mainGlobals "_law_ahead" = some (some (.ref 332))
  k_law_ahead : keepIn K (.ref 332) = true
  fn_law : FnAt K 337 ["_law_script"] S_law B_law
  g_law : nsIn K mainGlobals "law" = some (some (.ref 337))
  k_law : keepIn K (.ref 337) = true
  fn_Walker_init : FnAt K 179 ["self", "first", "rules", "room"] S_Walker_init B_Walker_init
  mk_Walker : MakeK K 229 179
  fn_Walker_kept : FnAt K 184 ["self"] S_Walker_kept B_Walker_kept
  me_Walker_kept : MethK K 229 "kept" 184
  fn_Walker_met : FnAt K 191 ["self"] S_Walker_met B_Walker_met
  me_Walker_met : MethK K 229 "met" 191
  fn_Walker_do : FnAt K 198 ["self", "deed"] S_Walker_do B_Walker_do
  me_Walker_do : MethK K 229 "do" 198
  fn_Walker_keep_it : FnAt K 205 ["self"] S_Walker_keep_it B_Walker_keep_it
  me_Walker_keep_it : MethK K 229 "keep_it" 205
  fn_Walker_handle : FnAt K 212 ["self", "word", "place"] S_Walker_handle B_Walker_handle
  me_Walker_handle : MethK K 229 "handle" 212
  fn_Walker_go_on : FnAt K 219 ["self", "many"] S_Walker_go_on B_Walker_go_on
  me_Walker_go_on : MethK K 229 "go_on" 219
  fn_Walker_meet_it : FnAt K 226 ["self"] S_Walker_meet_it B_Walker_meet_it
  me_Walker_meet_it : MethK K 229 "meet_it" 226
  at_Walker_done : ClsK K 229 "done"
  at_Walker_place : ClsK K 229 "place"
  at_Walker_room : ClsK K 229 "room"
  at_Walker_rules : ClsK K 229 "rules"
  at_Walker_seen : ClsK K 229 "seen"
  at_Walker_shelf : ClsK K 229 "shelf"
  at_Walker_state : ClsK K 229 "state"
  at_Walker_wanted : ClsK K 229 "wanted"
  g_MarkError : nsIn K mainGlobals "MarkError" = some (some (.ref A_MarkError))
  k_MarkError : keepIn K (.ref A_MarkError) = true
  g_BadCount : nsIn K mainGlobals "BadCount" = some (some (.ref A_BadCount))
  k_BadCount : keepIn K (.ref A_BadCount) = true
  g_BadRule : nsIn K mainGlobals "BadRule" = some (some (.ref A_BadRule))
  k_BadRule : keepIn K (.ref A_BadRule) = true
  g_BadDeed : nsIn K mainGlobals "BadDeed" = some (some (.ref A_BadDeed))
  k_BadDeed : keepIn K (.ref A_BadDeed) = true
  g_Full : nsIn K mainGlobals "Full" = some (some (.ref A_Full))
  k_Full : keepIn K (.ref A_Full) = true
  g_Twice : nsIn K mainGlobals "Twice" = some (some (.ref A_Twice))
  k_Twice : keepIn K (.ref A_Twice) = true
  g_NotKept : nsIn K mainGlobals "NotKept" = some (some (.ref A_NotKept))
  k_NotKept : keepIn K (.ref A_NotKept) = true
  g_AtEnd : nsIn K mainGlobals "AtEnd" = some (some (.ref A_AtEnd))
  k_AtEnd : keepIn K (.ref A_AtEnd) = true
  g_NotWanted : nsIn K mainGlobals "NotWanted" = some (some (.ref A_NotWanted))
  k_NotWanted : keepIn K (.ref A_NotWanted) = true
  g_Walker : nsIn K mainGlobals "Walker" = some (some (.ref A_Walker))
  k_Walker : keepIn K (.ref A_Walker) = true
  ex_BadCount : excIn K A_BadCount vbm "ValueError.__new__" = true
  ek_BadCount : ExcK K A_BadCount
  em_BadCount : exmOne K (.ref A_BadCount) (.ref A_MarkError) = some true
  kit_BadCount : kitOne K (.ref A_BadCount) (.ref A_BadCount) = some true ∧ kitOne K (.ref A_BadCount) (.ref A_BadRule) = some false ∧ kitOne K (.ref A_BadCount) (.ref A_BadDeed) = some false ∧ kitOne K (.ref A_BadCount) (.ref A_Full) = some false ∧ kitOne K (.ref A_BadCount) (.ref A_Twice) = some false ∧ kitOne K (.ref A_BadCount) (.ref A_NotKept) = some false ∧ kitOne K (.ref A_BadCount) (.ref A_AtEnd) = some false ∧ kitOne K (.ref A_BadCount) (.ref A_NotWanted) = some false ∧ kitOne K (.ref A_BadCount) (.type "ValueError") = some true
  ex_BadRule : excIn K A_BadRule vbm "ValueError.__new__" = true
  ek_BadRule : ExcK K A_BadRule
  em_BadRule : exmOne K (.ref A_BadRule) (.ref A_MarkError) = some true
  kit_BadRule : kitOne K (.ref A_BadRule) (.ref A_BadCount) = some false ∧ kitOne K (.ref A_BadRule) (.ref A_BadRule) = some true ∧ kitOne K (.ref A_BadRule) (.ref A_BadDeed) = some false ∧ kitOne K (.ref A_BadRule) (.ref A_Full) = some false ∧ kitOne K (.ref A_BadRule) (.ref A_Twice) = some false ∧ kitOne K (.ref A_BadRule) (.ref A_NotKept) = some false ∧ kitOne K (.ref A_BadRule) (.ref A_AtEnd) = some false ∧ kitOne K (.ref A_BadRule) (.ref A_NotWanted) = some false ∧ kitOne K (.ref A_BadRule) (.type "ValueError") = some true
  ex_BadDeed : excIn K A_BadDeed vbm "ValueError.__new__" = true
  ek_BadDeed : ExcK K A_BadDeed
  em_BadDeed : exmOne K (.ref A_BadDeed) (.ref A_MarkError) = some true
  kit_BadDeed : kitOne K (.ref A_BadDeed) (.ref A_BadCount) = some false ∧ kitOne K (.ref A_BadDeed) (.ref A_BadRule) = some false ∧ kitOne K (.ref A_BadDeed) (.ref A_BadDeed) = some true ∧ kitOne K (.ref A_BadDeed) (.ref A_Full) = some false ∧ kitOne K (.ref A_BadDeed) (.ref A_Twice) = some false ∧ kitOne K (.ref A_BadDeed) (.ref A_NotKept) = some false ∧ kitOne K (.ref A_BadDeed) (.ref A_AtEnd) = some false ∧ kitOne K (.ref A_BadDeed) (.ref A_NotWanted) = some false ∧ kitOne K (.ref A_BadDeed) (.type "ValueError") = some true
  ex_Full : excIn K A_Full vbm "ValueError.__new__" = true
  ek_Full : ExcK K A_Full
  em_Full : exmOne K (.ref A_Full) (.ref A_MarkError) = some true
  kit_Full : kitOne K (.ref A_Full) (.ref A_BadCount) = some false ∧ kitOne K (.ref A_Full) (.ref A_BadRule) = some false ∧ kitOne K (.ref A_Full) (.ref A_BadDeed) = some false ∧ kitOne K (.ref A_Full) (.ref A_Full) = some true ∧ kitOne K (.ref A_Full) (.ref A_Twice) = some false ∧ kitOne K (.ref A_Full) (.ref A_NotKept) = some false ∧ kitOne K (.ref A_Full) (.ref A_AtEnd) = some false ∧ kitOne K (.ref A_Full) (.ref A_NotWanted) = some false ∧ kitOne K (.ref A_Full) (.type "ValueError") = some true
  ex_Twice : excIn K A_Twice vbm "ValueError.__new__" = true
  ek_Twice : ExcK K A_Twice
  em_Twice : exmOne K (.ref A_Twice) (.ref A_MarkError) = some true
  kit_Twice : kitOne K (.ref A_Twice) (.ref A_BadCount) = some false ∧ kitOne K (.ref A_Twice) (.ref A_BadRule) = some false ∧ kitOne K (.ref A_Twice) (.ref A_BadDeed) = some false ∧ kitOne K (.ref A_Twice) (.ref A_Full) = some false ∧ kitOne K (.ref A_Twice) (.ref A_Twice) = some true ∧ kitOne K (.ref A_Twice) (.ref A_NotKept) = some false ∧ kitOne K (.ref A_Twice) (.ref A_AtEnd) = some false ∧ kitOne K (.ref A_Twice) (.ref A_NotWanted) = some false ∧ kitOne K (.ref A_Twice) (.type "ValueError") = some true
  ex_NotKept : excIn K A_NotKept vbm "ValueError.__new__" = true
  ek_NotKept : ExcK K A_NotKept
  em_NotKept : exmOne K (.ref A_NotKept) (.ref A_MarkError) = some true
  kit_NotKept : kitOne K (.ref A_NotKept) (.ref A_BadCount) = some false ∧ kitOne K (.ref A_NotKept) (.ref A_BadRule) = some false ∧ kitOne K (.ref A_NotKept) (.ref A_BadDeed) = some false ∧ kitOne K (.ref A_NotKept) (.ref A_Full) = some false ∧ kitOne K (.ref A_NotKept) (.ref A_Twice) = some false ∧ kitOne K (.ref A_NotKept) (.ref A_NotKept) = some true ∧ kitOne K (.ref A_NotKept) (.ref A_AtEnd) = some false ∧ kitOne K (.ref A_NotKept) (.ref A_NotWanted) = some false ∧ kitOne K (.ref A_NotKept) (.type "ValueError") = some true
  ex_AtEnd : excIn K A_AtEnd vbm "ValueError.__new__" = true
  ek_AtEnd : ExcK K A_AtEnd
  em_AtEnd : exmOne K (.ref A_AtEnd) (.ref A_MarkError) = some true
  kit_AtEnd : kitOne K (.ref A_AtEnd) (.ref A_BadCount) = some false ∧ kitOne K (.ref A_AtEnd) (.ref A_BadRule) = some false ∧ kitOne K (.ref A_AtEnd) (.ref A_BadDeed) = some false ∧ kitOne K (.ref A_AtEnd) (.ref A_Full) = some false ∧ kitOne K (.ref A_AtEnd) (.ref A_Twice) = some false ∧ kitOne K (.ref A_AtEnd) (.ref A_NotKept) = some false ∧ kitOne K (.ref A_AtEnd) (.ref A_AtEnd) = some true ∧ kitOne K (.ref A_AtEnd) (.ref A_NotWanted) = some false ∧ kitOne K (.ref A_AtEnd) (.type "ValueError") = some true
  ex_NotWanted : excIn K A_NotWanted vbm "ValueError.__new__" = true
  ek_NotWanted : ExcK K A_NotWanted
  em_NotWanted : exmOne K (.ref A_NotWanted) (.ref A_MarkError) = some true
  kit_NotWanted : kitOne K (.ref A_NotWanted) (.ref A_BadCount) = some false ∧ kitOne K (.ref A_NotWanted) (.ref A_BadRule) = some false ∧ kitOne K (.ref A_NotWanted) (.ref A_BadDeed) = some false ∧ kitOne K (.ref A_NotWanted) (.ref A_Full) = some false ∧ kitOne K (.ref A_NotWanted) (.ref A_Twice) = some false ∧ kitOne K (.ref A_NotWanted) (.ref A_NotKept) = some false ∧ kitOne K (.ref A_NotWanted) (.ref A_AtEnd) = some false ∧ kitOne K (.ref A_NotWanted) (.ref A_NotWanted) = some true ∧ kitOne K (.ref A_NotWanted) (.type "ValueError") = some true
  g_ROUND : ∃ t, nsIn K mainGlobals "ROUND" = some (some (.int 999983 t))
  g_MOST_RULES : ∃ t, nsIn K mainGlobals "MOST_RULES" = some (some (.int 100 t))
  g_MOST : ∃ t, nsIn K mainGlobals "MOST" = some (some (.int 100 t))
  g_MOST_ROOM : ∃ t, nsIn K mainGlobals "MOST_ROOM" = some (some (.int 12 t))
  g_isinstance : nsIn K mainGlobals "isinstance" = some none
  g_len : nsIn K mainGlobals "len" = some none
  g_min : nsIn K mainGlobals "min" = some none
  g_sorted : nsIn K mainGlobals "sorted" = some none
  g_all : nsIn K mainGlobals "all" = some none
  g_list : nsIn K mainGlobals "list" = some none
  g_int : nsIn K mainGlobals "int" = some none
  g_str : nsIn K mainGlobals "str" = some none
  g_tuple : nsIn K mainGlobals "tuple" = some none
  g_range : nsIn K mainGlobals "range" = some none
  g_bool : nsIn K mainGlobals "bool" = some none
  g_ValueError : nsIn K mainGlobals "ValueError" = some none
noncomputable def Kc (c : Cx) : Prop := Facts c.K
theorem useK {K : Frag} {h : Heap} (X : K.In h) {P : Prop} (f : Facts K) (g : Facts K → P) : P := g f
section
variable {c : Cx} {k : Nat} {sc : Scope} {ρ : Loc} {st : St} {Q : V → St → Prop} {X : Xp} {p pos : Pos} {args : List Expr}
theorem c_between (hK : Kc c) (hx : sc.names.lookup ("between" : Str) = some .globalImplicit) (h : WPEs c k sc ρ st args (fun vs st₂ => WL c k (fun xs => PySem.call (.ref 130) xs) vs ρ st₂ Q X) X) (hp : args.any isStar = false := by rfl) : WPE c k sc ρ st (.Call (.Name "between" p) args [] pos) Q X :=
  WPE.callF hx (Facts.g_between hK) (Facts.k_between hK) h hp
theorem c_is_state (hK : Kc c) (hx : sc.names.lookup ("is_state" : Str) = some .globalImplicit) (h : WPEs c k sc ρ st args (fun vs st₂ => WL c k (fun xs => PySem.call (.ref 137) xs) vs ρ st₂ Q X) X) (hp : args.any isStar = false := by rfl) : WPE c k sc ρ st (.Call (.Name "is_state" p) args [] pos) Q X :=
  WPE.callF hx (Facts.g_is_state hK) (Facts.k_is_state hK) h hp
theorem c_is_rule (hK : Kc c) (hx : sc.names.lookup ("is_rule" : Str) = some .globalImplicit) (h : WPEs c k sc ρ st args (fun vs st₂ => WL c k (fun xs => PySem.call (.ref 144) xs) vs ρ st₂ Q X) X) (hp : args.any isStar = false := by rfl) : WPE c k sc ρ st (.Call (.Name "is_rule" p) args [] pos) Q X :=
  WPE.callF hx (Facts.g_is_rule hK) (Facts.k_is_rule hK) h hp
theorem c_forth (hK : Kc c) (hx : sc.names.lookup ("forth" : Str) = some .globalImplicit) (h : WPEs c k sc ρ st args (fun vs st₂ => WL c k (fun xs => PySem.call (.ref 151) xs) vs ρ st₂ Q X) X) (hp : args.any isStar = false := by rfl) : WPE c k sc ρ st (.Call (.Name "forth" p) args [] pos) Q X :=
  WPE.callF hx (Facts.g_forth hK) (Facts.k_forth hK) h hp
theorem c_need_row (hK : Kc c) (hx : sc.names.lookup ("need_row" : Str) = some .globalImplicit) (h : WPEs c k sc ρ st args (fun vs st₂ => WL c k (fun xs => PySem.call (.ref 158) xs) vs ρ st₂ Q X) X) (hp : args.any isStar = false := by rfl) : WPE c k sc ρ st (.Call (.Name "need_row" p) args [] pos) Q X :=
  WPE.callF hx (Facts.g_need_row hK) (Facts.k_need_row hK) h hp
theorem c_is_deed (hK : Kc c) (hx : sc.names.lookup ("is_deed" : Str) = some .globalImplicit) (h : WPEs c k sc ρ st args (fun vs st₂ => WL c k (fun xs => PySem.call (.ref 165) xs) vs ρ st₂ Q X) X) (hp : args.any isStar = false := by rfl) : WPE c k sc ρ st (.Call (.Name "is_deed" p) args [] pos) Q X :=
  WPE.callF hx (Facts.g_is_deed hK) (Facts.k_is_deed hK) h hp
theorem c_law_cell_at (hK : Kc c) (hx : sc.names.lookup ("_law_cell_at" : Str) = some .globalImplicit) (h : WPEs c k sc ρ st args (fun vs st₂ => WL c k (fun xs => PySem.call (.ref 240) xs) vs ρ st₂ Q X) X) (hp : args.any isStar = false := by rfl) : WPE c k sc ρ st (.Call (.Name "_law_cell_at" p) args [] pos) Q X :=
  WPE.callF hx (Facts.g_law_cell_at hK) (Facts.k_law_cell_at hK) h hp
theorem c_law_number (hK : Kc c) (hx : sc.names.lookup ("_law_number" : Str) = some .globalImplicit) (h : WPEs c k sc ρ st args (fun vs st₂ => WL c k (fun xs => PySem.call (.ref 247) xs) vs ρ st₂ Q X) X) (hp : args.any isStar = false := by rfl) : WPE c k sc ρ st (.Call (.Name "_law_number" p) args [] pos) Q X :=
  WPE.callF hx (Facts.g_law_number hK) (Facts.k_law_number hK) h hp
theorem c_law_whole (hK : Kc c) (hx : sc.names.lookup ("_law_whole" : Str) = some .globalImplicit) (h : WPEs c k sc ρ st args (fun vs st₂ => WL c k (fun xs => PySem.call (.ref 254) xs) vs ρ st₂ Q X) X) (hp : args.any isStar = false := by rfl) : WPE c k sc ρ st (.Call (.Name "_law_whole" p) args [] pos) Q X :=
  WPE.callF hx (Facts.g_law_whole hK) (Facts.k_law_whole hK) h hp
theorem c_law_rule (hK : Kc c) (hx : sc.names.lookup ("_law_rule" : Str) = some .globalImplicit) (h : WPEs c k sc ρ st args (fun vs st₂ => WL c k (fun xs => PySem.call (.ref 261) xs) vs ρ st₂ Q X) X) (hp : args.any isStar = false := by rfl) : WPE c k sc ρ st (.Call (.Name "_law_rule" p) args [] pos) Q X :=
  WPE.callF hx (Facts.g_law_rule hK) (Facts.k_law_rule hK) h hp
theorem c_law_forth (hK : Kc c) (hx : sc.names.lookup ("_law_forth" : Str) = some .globalImplicit) (h : WPEs c k sc ρ st args (fun vs st₂ => WL c k (fun xs => PySem.call (.ref 268) xs) vs ρ st₂ Q X) X) (hp : args.any isStar = false := by rfl) : WPE c k sc ρ st (.Call (.Name "_law_forth" p) args [] pos) Q X :=
  WPE.callF hx (Facts.g_law_forth hK) (Facts.k_law_forth hK) h hp
theorem c_law_row (hK : Kc c) (hx : sc.names.lookup ("_law_row" : Str) = some .globalImplicit) (h : WPEs c k sc ρ st args (fun vs st₂ => WL c k (fun xs => PySem.call (.ref 273) xs) vs ρ st₂ Q X) X) (hp : args.any isStar = false := by rfl) : WPE c k sc ρ st (.Call (.Name "_law_row" p) args [] pos) Q X :=
  WPE.callF hx (Facts.g_law_row hK) (Facts.k_law_row hK) h hp
theorem c_law_states (hK : Kc c) (hx : sc.names.lookup ("_law_states" : Str) = some .globalImplicit) (h : WPEs c k sc ρ st args (fun vs st₂ => WL c k (fun xs => PySem.call (.ref 280) xs) vs ρ st₂ Q X) X) (hp : args.any isStar = false := by rfl) : WPE c k sc ρ st (.Call (.Name "_law_states" p) args [] pos) Q X :=
  WPE.callF hx (Facts.g_law_states hK) (Facts.k_law_states hK) h hp
theorem c_law_class (hK : Kc c) (hx : sc.names.lookup ("_law_class" : Str) = some .globalImplicit) (h : WPEs c k sc ρ st args (fun vs st₂ => WL c k (fun xs => PySem.call (.ref 287) xs) vs ρ st₂ Q X) X) (hp : args.any isStar = false := by rfl) : WPE c k sc ρ st (.Call (.Name "_law_class" p) args [] pos) Q X :=
  WPE.callF hx (Facts.g_law_class hK) (Facts.k_law_class hK) h hp
theorem c_law_new (hK : Kc c) (hx : sc.names.lookup ("_law_new" : Str) = some .globalImplicit) (h : WPEs c k sc ρ st args (fun vs st₂ => WL c k (fun xs => PySem.call (.ref 294) xs) vs ρ st₂ Q X) X) (hp : args.any isStar = false := by rfl) : WPE c k sc ρ st (.Call (.Name "_law_new" p) args [] pos) Q X :=
  WPE.callF hx (Facts.g_law_new hK) (Facts.k_law_new hK) h hp
theorem c_law_do (hK : Kc c) (hx : sc.names.lookup ("_law_do" : Str) = some .globalImplicit) (h : WPEs c k sc ρ st args (fun vs st₂ => WL c k (fun xs => PySem.call (.ref 299) xs) vs ρ st₂ Q X) X) (hp : args.any isStar = false := by rfl) : WPE c k sc ρ st (.Call (.Name "_law_do" p) args [] pos) Q X :=
  WPE.callF hx (Facts.g_law_do hK) (Facts.k_law_do hK) h hp
theorem c_law_deed (hK : Kc c) (hx : sc.names.lookup ("_law_deed" : Str) = some .globalImplicit) (h : WPEs c k sc ρ st args (fun vs st₂ => WL c k (fun xs => PySem.call (.ref 306) xs) vs ρ st₂ Q X) X) (hp : args.any isStar = false := by rfl) : WPE c k sc ρ st (.Call (.Name "_law_deed" p) args [] pos) Q X :=
  WPE.callF hx (Facts.g_law_deed hK) (Facts.k_law_deed hK) h hp
theorem c_law_told (hK : Kc c) (hx : sc.names.lookup ("_law_told" : Str) = some .globalImplicit) (h : WPEs c k sc ρ st args (fun vs st₂ => WL c k (fun xs => PySem.call (.ref 313) xs) vs ρ st₂ Q X) X) (hp : args.any isStar = false := by rfl) : WPE c k sc ρ st (.Call (.Name "_law_told" p) args [] pos) Q X :=
  WPE.callF hx (Facts.g_law_told hK) (Facts.k_law_told hK) h hp
theorem c_law_right (hK : Kc c) (hx : sc.names.lookup ("_law_right" : Str) = some .globalImplicit) (h : WPEs c k sc ρ st args (fun vs st₂ => WL c k (fun xs => PySem.call (.ref 318) xs) vs ρ st₂ Q X) X) (hp : args.any isStar = false := by rfl) : WPE c k sc ρ st (.Call (.Name "_law_right" p) args [] pos) Q X :=
  WPE.callF hx (Facts.g_law_right hK) (Facts.k_law_right hK) h hp
theorem c_law_room (hK : Kc c) (hx : sc.names.lookup ("_law_room" : Str) = some .globalImplicit) (h : WPEs c k sc ρ st args (fun vs st₂ => WL c k (fun xs => PySem.call (.ref 325) xs) vs ρ st₂ Q X) X) (hp : args.any isStar = false := by rfl) : WPE c k sc ρ st (.Call (.Name "_law_room" p) args [] pos) Q X :=
  WPE.callF hx (Facts.g_law_room hK) (Facts.k_law_room hK) h hp
theorem c_law_ahead (hK : Kc c) (hx : sc.names.lookup ("_law_ahead" : Str) = some .globalImplicit) (h : WPEs c k sc ρ st args (fun vs st₂ => WL c k (fun xs => PySem.call (.ref 332) xs) vs ρ st₂ Q X) X) (hp : args.any isStar = false := by rfl) : WPE c k sc ρ st (.Call (.Name "_law_ahead" p) args [] pos) Q X :=
  WPE.callF hx (Facts.g_law_ahead hK) (Facts.k_law_ahead hK) h hp
theorem n_BadCount (hK : Kc c) (hx : sc.names.lookup ("BadCount" : Str) = some .globalImplicit) (h : Q (.stat (.ref 37)) st) : WPE c k sc ρ st (.Name "BadCount" p) Q X := WPE.globR hx (Facts.g_BadCount hK) h
theorem n_BadRule (hK : Kc c) (hx : sc.names.lookup ("BadRule" : Str) = some .globalImplicit) (h : Q (.stat (.ref 49)) st) : WPE c k sc ρ st (.Name "BadRule" p) Q X := WPE.globR hx (Facts.g_BadRule hK) h
theorem n_BadDeed (hK : Kc c) (hx : sc.names.lookup ("BadDeed" : Str) = some .globalImplicit) (h : Q (.stat (.ref 61)) st) : WPE c k sc ρ st (.Name "BadDeed" p) Q X := WPE.globR hx (Facts.g_BadDeed hK) h
theorem n_Full (hK : Kc c) (hx : sc.names.lookup ("Full" : Str) = some .globalImplicit) (h : Q (.stat (.ref 73)) st) : WPE c k sc ρ st (.Name "Full" p) Q X := WPE.globR hx (Facts.g_Full hK) h
theorem n_Twice (hK : Kc c) (hx : sc.names.lookup ("Twice" : Str) = some .globalImplicit) (h : Q (.stat (.ref 85)) st) : WPE c k sc ρ st (.Name "Twice" p) Q X := WPE.globR hx (Facts.g_Twice hK) h
theorem n_NotKept (hK : Kc c) (hx : sc.names.lookup ("NotKept" : Str) = some .globalImplicit) (h : Q (.stat (.ref 97)) st) : WPE c k sc ρ st (.Name "NotKept" p) Q X := WPE.globR hx (Facts.g_NotKept hK) h
theorem n_AtEnd (hK : Kc c) (hx : sc.names.lookup ("AtEnd" : Str) = some .globalImplicit) (h : Q (.stat (.ref 109)) st) : WPE c k sc ρ st (.Name "AtEnd" p) Q X := WPE.globR hx (Facts.g_AtEnd hK) h
theorem n_NotWanted (hK : Kc c) (hx : sc.names.lookup ("NotWanted" : Str) = some .globalImplicit) (h : Q (.stat (.ref 121)) st) : WPE c k sc ρ st (.Name "NotWanted" p) Q X := WPE.globR hx (Facts.g_NotWanted hK) h
theorem c_Walker (hK : Kc c) (hx : sc.names.lookup ("Walker" : Str) = some .globalImplicit) (h : WPEs c k sc ρ st args (fun vs st₂ => WL c k (fun xs => PySem.call (.ref 229) xs) vs ρ st₂ Q X) X) (hp : args.any isStar = false := by rfl) : WPE c k sc ρ st (.Call (.Name "Walker" p) args [] pos) Q X :=
  WPE.callF hx (Facts.g_Walker hK) (Facts.k_Walker hK) h hp
theorem n_ROUND (hK : Kc c) (hx : sc.names.lookup ("ROUND" : Str) = some .globalImplicit) (h : Q (.int 999983) st) : WPE c k sc ρ st (.Name "ROUND" p) Q X := let ⟨_, e⟩ := Facts.g_ROUND hK; WPE.globI hx e h
theorem n_MOST_RULES (hK : Kc c) (hx : sc.names.lookup ("MOST_RULES" : Str) = some .globalImplicit) (h : Q (.int 100) st) : WPE c k sc ρ st (.Name "MOST_RULES" p) Q X := let ⟨_, e⟩ := Facts.g_MOST_RULES hK; WPE.globI hx e h
theorem n_MOST (hK : Kc c) (hx : sc.names.lookup ("MOST" : Str) = some .globalImplicit) (h : Q (.int 100) st) : WPE c k sc ρ st (.Name "MOST" p) Q X := let ⟨_, e⟩ := Facts.g_MOST hK; WPE.globI hx e h
theorem n_MOST_ROOM (hK : Kc c) (hx : sc.names.lookup ("MOST_ROOM" : Str) = some .globalImplicit) (h : Q (.int 12) st) : WPE c k sc ρ st (.Name "MOST_ROOM" p) Q X := let ⟨_, e⟩ := Facts.g_MOST_ROOM hK; WPE.globI hx e h
theorem c_isinstance (hK : Kc c) (hx : sc.names.lookup ("isinstance" : Str) = some .globalImplicit) (h : WPEs c k sc ρ st args (fun vs st₂ => WL c k (fun xs => PySem.call (.builtin "isinstance") xs) vs ρ st₂ Q X) X) (hp : args.any isStar = false := by rfl) : WPE c k sc ρ st (.Call (.Name "isinstance" p) args [] pos) Q X :=
  WPE.callB hx (Facts.g_isinstance hK) (by boot_by_name) h hp
theorem c_len (hK : Kc c) (hx : sc.names.lookup ("len" : Str) = some .globalImplicit) (h : WPEs c k sc ρ st args (fun vs st₂ => WL c k (fun xs => PySem.call (.builtin "len") xs) vs ρ st₂ Q X) X) (hp : args.any isStar = false := by rfl) : WPE c k sc ρ st (.Call (.Name "len" p) args [] pos) Q X :=
  WPE.callB hx (Facts.g_len hK) (by boot_by_name) h hp
theorem c_min (hK : Kc c) (hx : sc.names.lookup ("min" : Str) = some .globalImplicit) (h : WPEs c k sc ρ st args (fun vs st₂ => WL c k (fun xs => PySem.call (.builtin "min") xs) vs ρ st₂ Q X) X) (hp : args.any isStar = false := by rfl) : WPE c k sc ρ st (.Call (.Name "min" p) args [] pos) Q X :=
  WPE.callB hx (Facts.g_min hK) (by boot_by_name) h hp
theorem c_sorted (hK : Kc c) (hx : sc.names.lookup ("sorted" : Str) = some .globalImplicit) (h : WPEs c k sc ρ st args (fun vs st₂ => WL c k (fun xs => PySem.call (.builtin "sorted") xs) vs ρ st₂ Q X) X) (hp : args.any isStar = false := by rfl) : WPE c k sc ρ st (.Call (.Name "sorted" p) args [] pos) Q X :=
  WPE.callB hx (Facts.g_sorted hK) (by boot_by_name) h hp
theorem c_all (hK : Kc c) (hx : sc.names.lookup ("all" : Str) = some .globalImplicit) (h : WPEs c k sc ρ st args (fun vs st₂ => WL c k (fun xs => PySem.call (.builtin "all") xs) vs ρ st₂ Q X) X) (hp : args.any isStar = false := by rfl) : WPE c k sc ρ st (.Call (.Name "all" p) args [] pos) Q X :=
  WPE.callB hx (Facts.g_all hK) (by boot_by_name) h hp
theorem c_list (hK : Kc c) (hx : sc.names.lookup ("list" : Str) = some .globalImplicit) (h : WPEs c k sc ρ st args (fun vs st₂ => WL c k (fun xs => PySem.call (.type "list") xs) vs ρ st₂ Q X) X) (hp : args.any isStar = false := by rfl) : WPE c k sc ρ st (.Call (.Name "list" p) args [] pos) Q X :=
  WPE.callT hx (Facts.g_list hK) (by boot_by_name) h hp
theorem n_list (hK : Kc c) (hx : sc.names.lookup ("list" : Str) = some .globalImplicit) (h : Q (.stat (.type "list")) st) : WPE c k sc ρ st (.Name "list" p) Q X := WPE.bltT hx (Facts.g_list hK) (by boot_by_name) h
theorem c_int (hK : Kc c) (hx : sc.names.lookup ("int" : Str) = some .globalImplicit) (h : WPEs c k sc ρ st args (fun vs st₂ => WL c k (fun xs => PySem.call (.type "int") xs) vs ρ st₂ Q X) X) (hp : args.any isStar = false := by rfl) : WPE c k sc ρ st (.Call (.Name "int" p) args [] pos) Q X :=
  WPE.callT hx (Facts.g_int hK) (by boot_by_name) h hp
theorem n_int (hK : Kc c) (hx : sc.names.lookup ("int" : Str) = some .globalImplicit) (h : Q (.stat (.type "int")) st) : WPE c k sc ρ st (.Name "int" p) Q X := WPE.bltT hx (Facts.g_int hK) (by boot_by_name) h
theorem n_str (hK : Kc c) (hx : sc.names.lookup ("str" : Str) = some .globalImplicit) (h : Q (.stat (.type "str")) st) : WPE c k sc ρ st (.Name "str" p) Q X := WPE.bltT hx (Facts.g_str hK) (by boot_by_name) h
theorem n_tuple (hK : Kc c) (hx : sc.names.lookup ("tuple" : Str) = some .globalImplicit) (h : Q (.stat (.type "tuple")) st) : WPE c k sc ρ st (.Name "tuple" p) Q X := WPE.bltT hx (Facts.g_tuple hK) (by boot_by_name) h
theorem c_range (hK : Kc c) (hx : sc.names.lookup ("range" : Str) = some .globalImplicit) (h : WPEs c k sc ρ st args (fun vs st₂ => WL c k (fun xs => PySem.call (.type "range") xs) vs ρ st₂ Q X) X) (hp : args.any isStar = false := by rfl) : WPE c k sc ρ st (.Call (.Name "range" p) args [] pos) Q X :=
  WPE.callT hx (Facts.g_range hK) (by boot_by_name) h hp
theorem n_bool (hK : Kc c) (hx : sc.names.lookup ("bool" : Str) = some .globalImplicit) (h : Q (.stat (.type "bool")) st) : WPE c k sc ρ st (.Name "bool" p) Q X := WPE.bltT hx (Facts.g_bool hK) (by boot_by_name) h
theorem n_ValueError (hK : Kc c) (hx : sc.names.lookup ("ValueError" : Str) = some .globalImplicit) (h : Q (.stat (.type "ValueError")) st) : WPE c k sc ρ st (.Name "ValueError" p) Q X := WPE.bltT hx (Facts.g_ValueError hK) (by boot_by_name) h
end
end Mine
namespace Mine
set_option genInjectivity false
set_option genSizeOfSpec false
section
variable {c : Cx} {k : Nat} {ρ : Loc} {st : St} {Q : V → St → Prop} {X : Xp}
/-- a cell of the script, 0 behind its end -/
noncomputable def cellV (ns : List Int) (i : Int) : Int := ns.getD i.toNat 0
noncomputable def numV (ns : List Int) (i : Int) : Int := if ns.length = 0 then 5003 * i else ((ns.getD (i.fmod ns.length).toNat 0 + 7919 * i.fdiv ns.length + 101 * i) * 48271).fmod 2147483647
theorem fmod_lt {a b : Int} (h : 0 < b) : 0 ≤ a.fmod b ∧ a.fmod b < b := by
  rw [Int.fmod_eq_emod_of_nonneg _ (Int.le_of_lt h)]
  exact ⟨Int.emod_nonneg _ (by lia), Int.emod_lt_of_pos _ h⟩
theorem mulOk_right {a b : Int} (h : b.natAbs < 2 ^ 63) : IntMulOk a b := by
  refine IntMulOk.of_right ?_
  unfold Builtin.Int.intBits
  split
  · ((with_reducible apply zB); exact rfl)
  · rename_i hb
    have h0 : b.natAbs ≠ 0 := by simpa using hb
    have : b.natAbs.log2 < 63 := (Nat.log2_lt h0).mpr h
    lia

theorem s_cell_at (hK : Kc c) {ns : List Int} {i : Int} (h0 : 0 ≤ i) (hl : ns.length < 1000) (h : Q (.int (cellV ns i)) st) : CF c (k + 1) A_law_cell_at [.scr ns, .int i] ρ st Q X := by
  refine CallW.fn (Facts.fn_law_cell_at hK) rfl ?_
  ((refine WPS.cons ?_); (repeat' (first | (with_reducible first | refine WPEs.nil ?_ | refine WPs.ifs ?_) | ((with_reducible refine WPEs.cons ?_ ?_); (case refine_2 => intros; rfl)) | ((with_reducible refine WPB.cmp ?_ ?_); (case refine_2 => rfl)) | ((with_reducible refine c_len ‹_› ?_ ?_ ?_); (case refine_1 => rfl); (case refine_3 => intros; rfl)) | ((with_reducible refine' WPE.nm ?_ ?_ ?_ ?_); (case refine'_2 => rfl); (case refine'_4 => decide); (case refine'_5 => decide)) | fail)))
  skip
  refine WL.lenScr (by ((with_reducible apply zJ); (with_reducible assumption); exact rfl)) ?_
  (repeat' (first | (with_reducible first | refine W2.ltI ?_ | refine ⟨_, rfl, ?_⟩) | fail))
  refine cnd_cases (fun hb => ?_) (fun hb => ?_)
  · have hb' : i < (ns.length : Int) := by simpa using hb
    (repeat' (first | (with_reducible first | refine WPS.cons ?_ | refine WPs.ret ?_ | refine WPE.sub ?_) | ((with_reducible refine' WPE.nm ?_ ?_ ?_ ?_); (case refine'_2 => rfl); (case refine'_4 => decide); (case refine'_5 => decide)) | fail))
    refine W2.subScr rfl (by ((with_reducible apply zJ); (with_reducible assumption); exact rfl)) (seqIndex_pos h0 hb') (List.getElem?_eq_getElem (by lia)) ?_
    have : cellV ns i = ns[i.toNat] := by unfold cellV; rw [List.getD_eq_getElem?_getD, List.getElem?_eq_getElem (by lia)]; rfl
    rw [this] at h; exact h
  · have hb' : ¬ i < (ns.length : Int) := by simpa using hb
    (repeat' (first | (with_reducible first | refine WPE.cint ?_ | refine nxt_next ?_ | refine nxt_ret ?_ | refine WPS.cons ?_ | refine WPS.nil ?_ | refine WPs.ret ?_) | fail))
    have : cellV ns i = 0 := by unfold cellV; rw [List.getD_eq_getElem?_getD, List.getElem?_eq_none (by lia)]; rfl
    rw [this] at h; exact h
theorem s_number (hK : Kc c) {ns : List Int} {i : Int} (h0 : 0 ≤ i) (hi : i < 1000000) (hl : ns.length < 1000) (h : Q (.int (numV ns i)) st) : CF c (k + 1) A_law_number [.scr ns, .int i] ρ st Q X := by
  refine CallW.fn (Facts.fn_law_number hK) rfl ?_
  ((refine WPS.cons ?_); (repeat' (first | (with_reducible first | refine WPEs.nil ?_ | refine WPs.ifs ?_) | ((with_reducible refine WPEs.cons ?_ ?_); (case refine_2 => intros; rfl)) | ((with_reducible refine WPB.cmp ?_ ?_); (case refine_2 => rfl)) | ((with_reducible refine c_len ‹_› ?_ ?_ ?_); (case refine_1 => rfl); (case refine_3 => intros; rfl)) | ((with_reducible refine' WPE.nm ?_ ?_ ?_ ?_); (case refine'_2 => rfl); (case refine'_4 => decide); (case refine'_5 => decide)) | fail)))
  skip
  refine WL.lenScr (by ((with_reducible apply zJ); (with_reducible assumption); exact rfl)) ?_
  (repeat' (first | (with_reducible first | refine WPE.cint ?_ | refine W2.eqI ?_ | refine ⟨_, rfl, ?_⟩) | fail))
  refine cnd_cases (fun hb => ?_) (fun hb => ?_)
  · have hb' : ns.length = 0 := by simpa using hb
    (repeat' (first | (with_reducible first | refine WPE.cint ?_ | refine WPE.bin ?_ | refine WPS.cons ?_ | refine WPs.ret ?_) | ((with_reducible refine' WPE.nm ?_ ?_ ?_ ?_); (case refine'_2 => rfl); (case refine'_4 => decide); (case refine'_5 => decide)) | fail))
    refine W2.mulI (mulOk_right (by lia)) ?_
    unfold numV at h; rw [if_pos hb'] at h; exact h
  · have hb' : ¬ ns.length = 0 := by simpa using hb
    have hm := fmod_lt (a := i) (b := ns.length) (by lia)
    unfold numV at h; rw [if_neg hb'] at h
    (repeat' (first | (with_reducible first | refine WPE.bin ?_ | refine nxt_next ?_ | refine WPS.cons ?_ | refine WPS.nil ?_ | refine WPEs.nil ?_) | ((with_reducible refine WPEs.cons ?_ ?_); (case refine_2 => intros; rfl)) | ((with_reducible refine WPs.asg ?_ ?_ ?_); (case refine_2 => rfl); (case refine_3 => intros; rfl)) | ((with_reducible refine c_len ‹_› ?_ ?_ ?_); (case refine_1 => rfl); (case refine_3 => intros; rfl)) | (with_reducible refine WPE.sub ?_) | ((with_reducible refine' WPE.nm ?_ ?_ ?_ ?_); (case refine'_2 => rfl); (case refine'_4 => decide); (case refine'_5 => decide)) | fail))
    refine WL.lenScr (by ((with_reducible apply zJ); (with_reducible assumption); exact rfl)) ?_
    refine W2.modI (by lia) ?_
    refine W2.subScr rfl (by ((with_reducible apply zJ); (with_reducible assumption); exact rfl)) (seqIndex_pos hm.1 hm.2) (List.getElem?_eq_getElem (by lia)) ?_
    (repeat' (first | (with_reducible first | refine WPE.cint ?_ | refine WPE.bin ?_ | refine WPEs.nil ?_) | ((with_reducible refine WPEs.cons ?_ ?_); (case refine_2 => intros; rfl)) | ((with_reducible refine c_len ‹_› ?_ ?_ ?_); (case refine_1 => rfl); (case refine_3 => intros; rfl)) | ((with_reducible refine' WPE.nm ?_ ?_ ?_ ?_); (case refine'_2 => rfl); (case refine'_4 => decide); (case refine'_5 => decide)) | fail))
    refine WL.lenScr (by ((with_reducible apply zJ); (with_reducible assumption); exact rfl)) ?_
    refine W2.divI (by lia) (by lia) ?_
    refine W2.mulI (IntMulOk.of_left (by decide)) ?_
    (repeat' (first | (with_reducible first | refine WPE.cint ?_ | refine WPE.bin ?_ | refine W2.addI ?_) | ((with_reducible refine' WPE.nm ?_ ?_ ?_ ?_); (case refine'_2 => rfl); (case refine'_4 => decide); (case refine'_5 => decide)) | fail))
    refine W2.mulI (IntMulOk.of_left (by decide)) ?_
    (repeat' (first | (with_reducible first | refine WPE.cint ?_ | refine WPE.bin ?_ | refine W2.addI ?_ | refine nxt_next ?_ | refine WPS.cons ?_ | refine WPs.ret ?_) | ((with_reducible refine' WPE.nm ?_ ?_ ?_ ?_); (case refine'_2 => rfl); (case refine'_4 => decide); (case refine'_5 => decide)) | fail))
    refine W2.mulI (mulOk_right (by decide)) ?_
    (repeat' (first | (with_reducible refine WPE.cint ?_) | fail))
    refine W2.modI (by decide) ?_
    rw [List.getD_eq_getElem?_getD, List.getElem?_eq_getElem (by lia)] at h
    exact h
end

section
variable {c : Cx} {k : Nat} {ρ : Loc} {st : St} {Q : V → St → Prop} {X : Xp}
noncomputable def btwV (lo hi : Int) : V → Bool
  | .int i => decide (lo ≤ i) && decide (i ≤ hi)
  | _ => false
theorem typ_int {v : V} (h : typV st v = some "int") : ∃ i, v = .int i := by
  cases v <;> simp [typV] at h
  · exact ⟨_, rfl⟩
  · split at h <;> simp at h
theorem s_between (hK : Kc c) {v : V} {T : String} {lo hi : Int} (ht : typV st v = some T) (h : Q (.bool (btwV lo hi v)) st) : CF c (k + 1) A_between [v, .int lo, .int hi] ρ st Q X := by
  refine CallW.fn (Facts.fn_between hK) rfl ?_
  ((refine WPS.cons ?_); (repeat' (first | (with_reducible first | refine WPAll.or ?_ | refine WPEs.nil ?_ | refine WPs.ifs ?_ | refine WPB.op ?_ | refine WPB.not ?_) | ((with_reducible refine WPEs.cons ?_ ?_); (case refine_2 => intros; rfl)) | ((with_reducible refine n_int ‹_› ?_ ?_); (case refine_1 => rfl)) | ((with_reducible refine c_isinstance ‹_› ?_ ?_ ?_); (case refine_1 => rfl); (case refine_3 => intros; rfl)) | ((with_reducible refine' WPE.nm ?_ ?_ ?_ ?_); (case refine'_2 => rfl); (case refine'_4 => decide); (case refine'_5 => decide)) | ((with_reducible refine WPB.val ?_ ?_); (case refine_2 => intros; rfl)) | fail)))
  skip
  refine WL.isinstance ht rfl ⟨_, rfl, ?_⟩
  by_cases hT : T = "int"
  · subst hT
    obtain ⟨i, rfl⟩ := typ_int ht
    (repeat' (first | (with_reducible first | refine W2.leI ?_ | refine WPAll.or ?_ | refine WPAll.orNil ?_ | refine nxt_next ?_ | refine cnd_t ?_ | refine cnd_f ?_ | refine WPS.cons ?_ | refine WPS.nil ?_ | refine WPEs.nil ?_ | refine WPs.ret ?_) | ((with_reducible refine WPEs.cons ?_ ?_); (case refine_2 => intros; rfl)) | ((with_reducible refine WPE.cmp2 ?_ ?_); (case refine_2 => rfl)) | ((with_reducible refine n_bool ‹_› ?_ ?_); (case refine_1 => rfl)) | ((with_reducible refine c_isinstance ‹_› ?_ ?_ ?_); (case refine_1 => rfl); (case refine_3 => intros; rfl)) | ((with_reducible refine' WPE.nm ?_ ?_ ?_ ?_); (case refine'_2 => rfl); (case refine'_4 => decide); (case refine'_5 => decide)) | ((with_reducible refine WPB.val ?_ ?_); (case refine_2 => intros; rfl)) | ((with_reducible refine cnd_is true ?_ ?_); (case refine_1 => rfl)) | ((with_reducible refine cnd_is false ?_ ?_); (case refine_1 => rfl)) | (with_reducible refine ⟨_, rfl, ?_⟩) | ((with_reducible refine' WL.isinstance ?_ ?_ ?_); (case refine'_2 => rfl); (case refine'_3 => rfl)) | fail))
    simp only [btwV] at h
    refine cnd_cases (fun hb => ?_) (fun hb => ?_)
    · (repeat' (first | (with_reducible first | refine W2.leI ?_ | refine nxt_ret ?_) | ((with_reducible refine' WPE.nm ?_ ?_ ?_ ?_); (case refine'_2 => rfl); (case refine'_4 => decide); (case refine'_5 => decide)) | fail))
      rw [hb, Bool.true_and] at h; exact h
    · rw [hb, Bool.false_and] at h; exact h
  · have hf : btwV lo hi v = false := by
      cases v <;> first | rfl | (exact absurd (Option.some.inj ht).symm hT)
    rw [hf] at h
    by_cases hB : T = "bool"
    · subst hB
      (repeat' (first | (with_reducible first | refine WPAll.or ?_ | refine cnd_t ?_ | refine cnd_f ?_ | refine WPEs.nil ?_) | ((with_reducible refine WPEs.cons ?_ ?_); (case refine_2 => intros; rfl)) | ((with_reducible refine n_bool ‹_› ?_ ?_); (case refine_1 => rfl)) | ((with_reducible refine c_isinstance ‹_› ?_ ?_ ?_); (case refine_1 => rfl); (case refine_3 => intros; rfl)) | ((with_reducible refine' WPE.nm ?_ ?_ ?_ ?_); (case refine'_2 => rfl); (case refine'_4 => decide); (case refine'_5 => decide)) | ((with_reducible refine WPB.val ?_ ?_); (case refine_2 => intros; rfl)) | ((with_reducible refine cnd_is true ?_ ?_); (case refine_1 => rfl)) | fail))
      refine WL.isinstance ht rfl ⟨_, rfl, ?_⟩
      (repeat' (first | (with_reducible first | refine WPE.cbool ?_ | refine nxt_ret ?_ | refine cnd_t ?_ | refine WPS.cons ?_ | refine WPs.ret ?_) | ((with_reducible refine cnd_is true ?_ ?_); (case refine_1 => rfl)) | fail))
      exact h
    · have : isi T "int" = false := by simp [isi, hT, hB]
      rw [this]
      (repeat' (first | (with_reducible first | refine WPE.cbool ?_ | refine nxt_ret ?_ | refine cnd_t ?_ | refine cnd_f ?_ | refine WPS.cons ?_ | refine WPs.ret ?_) | fail))
      exact h
end

section
variable {c : Cx} {k : Nat} {ρ : Loc} {st : St} {Q : V → St → Prop} {X : Xp}
theorem s_whole (hK : Kc c) {i : Int} (h : Q (.bool true) st) : CF c (k + 1) A_law_whole [.int i] ρ st Q X := by
  refine CallW.fn (Facts.fn_law_whole hK) rfl ?_
  ((refine WPS.cons ?_); (repeat' (first | (with_reducible first | refine WPE.opOne ?_ | refine WPE.and ?_ | refine WPE.not ?_ | refine nxt_ret ?_ | refine cnd_t ?_ | refine cnd_f ?_ | refine WPEs.nil ?_ | refine WPs.ret ?_) | ((with_reducible refine WPEs.cons ?_ ?_); (case refine_2 => intros; rfl)) | ((with_reducible refine n_int ‹_› ?_ ?_); (case refine_1 => rfl)) | ((with_reducible refine n_bool ‹_› ?_ ?_); (case refine_1 => rfl)) | ((with_reducible refine c_isinstance ‹_› ?_ ?_ ?_); (case refine_1 => rfl); (case refine_3 => intros; rfl)) | ((with_reducible refine' WPE.nm ?_ ?_ ?_ ?_); (case refine'_2 => rfl); (case refine'_4 => decide); (case refine'_5 => decide)) | ((with_reducible refine cnd_is true ?_ ?_); (case refine_1 => rfl)) | ((with_reducible refine cnd_is false ?_ ?_); (case refine_1 => rfl)) | (with_reducible refine ⟨_, rfl, ?_⟩) | ((with_reducible refine' WL.isinstance ?_ ?_ ?_); (case refine'_2 => rfl); (case refine'_3 => rfl)) | fail)))
  skip
  exact h
end

section
variable {c : Cx} {k : Nat} {ρ : Loc} {st : St} {Q : V → St → Prop} {X : Xp}
theorem s_is_state (hK : Kc c) {v : V} {T : String} (ht : typV st v = some T) (h : Q (.bool (btwV 0 999982 v)) st) : CF c (k + 2) A_is_state [v] ρ st Q X := by
  refine CallW.fn (Facts.fn_is_state hK) rfl ?_
  ((refine WPS.cons ?_); (repeat' (first | (with_reducible first | refine WPE.cint ?_ | refine WPE.bin ?_ | refine W2.subI ?_ | refine WPEs.nil ?_ | refine WPs.ret ?_) | ((with_reducible refine WPEs.cons ?_ ?_); (case refine_2 => intros; rfl)) | ((with_reducible refine n_ROUND ‹_› ?_ ?_); (case refine_1 => rfl)) | ((with_reducible refine c_between ‹_› ?_ ?_ ?_); (case refine_1 => rfl); (case refine_3 => intros; rfl)) | ((with_reducible refine' WPE.nm ?_ ?_ ?_ ?_); (case refine'_2 => rfl); (case refine'_4 => decide); (case refine'_5 => decide)) | fail)))
  skip
  exact s_between hK ht h
noncomputable def ruleV : V → Bool
  | .tup (.str x :: r) => if (["square", "half"] : List Str).any (· == x) then ((r.length + 1 : Nat) : Int) == 1 else (["add", "times"] : List Str).any (· == x) && (((r.length + 1 : Nat) : Int) == 2 && (match r with | v :: _ => btwV 0 999982 v | [] => false))
  | _ => false
theorem typ_tup {v : V} (h : typV st v = some "tuple") : ∃ vs, v = .tup vs := by
  cases v <;> simp [typV] at h
  · exact ⟨_, rfl⟩
  · split at h <;> simp at h
theorem typ_str {v : V} (h : typV st v = some "str") : ∃ x, v = .str x := by
  cases v <;> simp [typV] at h
  · exact ⟨_, rfl⟩
  · split at h <;> simp at h
theorem s_is_rule (hK : Kc c) {v : V} {T : String} (ht : typV st v = some T) (hs : ∀ vs, v = .tup vs → (vs.length < 1000 ∧ ∀ u ∈ vs, (typV st u).isSome = true)) (h : Q (.bool (ruleV v)) st) : CF c (k + 3) A_is_rule [v] ρ st Q X := by
  refine CallW.fn (Facts.fn_is_rule hK) rfl ?_
  ((refine WPS.cons ?_); (repeat' (first | (with_reducible first | refine WPAll.or ?_ | refine WPEs.nil ?_ | refine WPs.ifs ?_ | refine WPB.op ?_ | refine WPB.not ?_) | ((with_reducible refine WPEs.cons ?_ ?_); (case refine_2 => intros; rfl)) | ((with_reducible refine n_tuple ‹_› ?_ ?_); (case refine_1 => rfl)) | ((with_reducible refine c_isinstance ‹_› ?_ ?_ ?_); (case refine_1 => rfl); (case refine_3 => intros; rfl)) | ((with_reducible refine' WPE.nm ?_ ?_ ?_ ?_); (case refine'_2 => rfl); (case refine'_4 => decide); (case refine'_5 => decide)) | ((with_reducible refine WPB.val ?_ ?_); (case refine_2 => intros; rfl)) | fail)))
  skip
  refine WL.isinstance ht rfl ⟨_, rfl, ?_⟩
  by_cases hT : T = "tuple"
  · subst hT
    obtain ⟨vs, rfl⟩ := typ_tup ht
    obtain ⟨hl, hs⟩ := hs vs rfl
    (repeat' (first | (with_reducible first | refine WPAll.or ?_ | refine cnd_t ?_ | refine cnd_f ?_ | refine WPEs.nil ?_) | ((with_reducible refine WPEs.cons ?_ ?_); (case refine_2 => intros; rfl)) | ((with_reducible refine WPB.cmp ?_ ?_); (case refine_2 => rfl)) | ((with_reducible refine c_len ‹_› ?_ ?_ ?_); (case refine_1 => rfl); (case refine_3 => intros; rfl)) | ((with_reducible refine' WPE.nm ?_ ?_ ?_ ?_); (case refine'_2 => rfl); (case refine'_4 => decide); (case refine'_5 => decide)) | ((with_reducible refine cnd_is true ?_ ?_); (case refine_1 => rfl)) | fail))
    refine WL.lenTup (by ((with_reducible apply zJ); (with_reducible assumption); exact rfl)) ?_
    (repeat' (first | (with_reducible first | refine WPE.cint ?_ | refine W2.eqI ?_ | refine ⟨_, rfl, ?_⟩) | fail))
    cases vs with
    | nil =>
      (repeat' (first | (with_reducible first | refine WPE.cbool ?_ | refine nxt_ret ?_ | refine cnd_t ?_ | refine WPS.cons ?_ | refine WPs.ret ?_) | ((with_reducible refine cnd_is true ?_ ?_); (case refine_1 => rfl)) | fail))
      exact h
    | cons u r =>
      have hl' : ((u :: r).length : Int) < 2 ^ 63 := by ((with_reducible apply zJ); (with_reducible assumption); exact rfl)
      (repeat' (first | (with_reducible first | refine WPE.cint ?_ | refine WPAll.or ?_ | refine cnd_f ?_ | refine WPB.not ?_) | ((with_reducible refine WPEs.cons ?_ ?_); (case refine_2 => intros; rfl)) | ((with_reducible refine c_isinstance ‹_› ?_ ?_ ?_); (case refine_1 => rfl); (case refine_3 => intros; rfl)) | (with_reducible refine WPE.sub ?_) | ((with_reducible refine' WPE.nm ?_ ?_ ?_ ?_); (case refine'_2 => rfl); (case refine'_4 => decide); (case refine'_5 => decide)) | ((with_reducible refine WPB.val ?_ ?_); (case refine_2 => intros; rfl)) | ((with_reducible refine cnd_is false ?_ ?_); (case refine_1 => rfl)) | fail))
      refine W2.subTup rfl hl' seqIndex_0 rfl ?_
      obtain ⟨U, hU⟩ := Option.isSome_iff_exists.mp (hs u (by simp))
      (repeat' (first | (with_reducible refine WPEs.nil ?_) | ((with_reducible refine WPEs.cons ?_ ?_); (case refine_2 => intros; rfl)) | ((with_reducible refine n_str ‹_› ?_ ?_); (case refine_1 => rfl)) | fail))
      refine WL.isinstance hU rfl ⟨_, rfl, ?_⟩
      by_cases hS : U = "str"
      · subst hS
        obtain ⟨x, rfl⟩ := typ_str hU
        (repeat' (first | (with_reducible first | refine WPE.cint ?_ | refine WPAll.orNil ?_ | refine nxt_next ?_ | refine cnd_t ?_ | refine cnd_f ?_ | refine WPS.cons ?_ | refine WPS.nil ?_ | refine WPs.ifs ?_) | ((with_reducible refine WPB.cmp ?_ ?_); (case refine_2 => rfl)) | (with_reducible refine WPE.sub ?_) | ((with_reducible refine' WPE.nm ?_ ?_ ?_ ?_); (case refine'_2 => rfl); (case refine'_4 => decide); (case refine'_5 => decide)) | ((with_reducible refine cnd_is true ?_ ?_); (case refine_1 => rfl)) | fail))
        refine W2.subTup rfl hl' seqIndex_0 rfl ?_
        (repeat' (first | (with_reducible first | refine WPE.cstr ?_ | refine WPEs.nil ?_) | ((with_reducible refine WPEs.cons ?_ ?_); (case refine_2 => intros; rfl)) | ((with_reducible refine WPE.tup ?_ ?_); (case refine_2 => decide)) | fail))
        refine W2.inStrs (ys := ["square", "half"]) rfl ⟨_, rfl, ?_⟩
        simp only [ruleV] at h
        refine cnd_cases (fun hb => ?_) (fun hb => ?_)
        · rw [if_pos hb] at h
          (repeat' (first | (with_reducible first | refine WPS.cons ?_ | refine WPEs.nil ?_ | refine WPs.ret ?_) | ((with_reducible refine WPEs.cons ?_ ?_); (case refine_2 => intros; rfl)) | ((with_reducible refine WPE.cmp ?_ ?_); (case refine_2 => rfl)) | ((with_reducible refine c_len ‹_› ?_ ?_ ?_); (case refine_1 => rfl); (case refine_3 => intros; rfl)) | ((with_reducible refine' WPE.nm ?_ ?_ ?_ ?_); (case refine'_2 => rfl); (case refine'_4 => decide); (case refine'_5 => decide)) | fail))
          refine WL.lenTup hl' ?_
          (repeat' (first | (with_reducible first | refine WPE.cint ?_ | refine W2.eqI ?_ | refine nxt_ret ?_) | fail))
          exact h
        · rw [if_neg (by rw [hb]; decide)] at h
          (repeat' (first | (with_reducible first | refine WPE.cint ?_ | refine WPE.and ?_ | refine nxt_next ?_ | refine WPS.cons ?_ | refine WPS.nil ?_ | refine WPs.ret ?_) | ((with_reducible refine WPE.cmp ?_ ?_); (case refine_2 => rfl)) | (with_reducible refine WPE.sub ?_) | ((with_reducible refine' WPE.nm ?_ ?_ ?_ ?_); (case refine'_2 => rfl); (case refine'_4 => decide); (case refine'_5 => decide)) | fail))
          refine W2.subTup rfl hl' seqIndex_0 rfl ?_
          (repeat' (first | (with_reducible first | refine WPE.cstr ?_ | refine WPEs.nil ?_) | ((with_reducible refine WPEs.cons ?_ ?_); (case refine_2 => intros; rfl)) | ((with_reducible refine WPE.tup ?_ ?_); (case refine_2 => decide)) | fail))
          refine W2.inStrs (ys := ["add", "times"]) rfl ⟨_, rfl, ?_⟩
          refine cnd_cases (fun hb2 => ?_) (fun hb2 => ?_)
          · rw [hb2, Bool.true_and] at h
            (repeat' (first | (with_reducible first | refine WPE.and ?_ | refine WPEs.nil ?_) | ((with_reducible refine WPEs.cons ?_ ?_); (case refine_2 => intros; rfl)) | ((with_reducible refine WPE.cmp ?_ ?_); (case refine_2 => rfl)) | ((with_reducible refine c_len ‹_› ?_ ?_ ?_); (case refine_1 => rfl); (case refine_3 => intros; rfl)) | ((with_reducible refine' WPE.nm ?_ ?_ ?_ ?_); (case refine'_2 => rfl); (case refine'_4 => decide); (case refine'_5 => decide)) | fail))
            refine WL.lenTup hl' ?_
            (repeat' (first | (with_reducible first | refine WPE.cint ?_ | refine W2.eqI ?_ | refine ⟨_, rfl, ?_⟩) | fail))
            refine cnd_cases (fun hb3 => ?_) (fun hb3 => ?_)
            · have e3 : ((r.length + 1 : Nat) : Int) == 2 := hb3
              rw [e3, Bool.true_and] at h
              cases r with
              | nil => simp at e3
              | cons w r =>
                (repeat' (first | (with_reducible first | refine WPE.cint ?_ | refine WPE.opOne ?_) | ((with_reducible refine WPEs.cons ?_ ?_); (case refine_2 => intros; rfl)) | ((with_reducible refine c_is_state ‹_› ?_ ?_ ?_); (case refine_1 => rfl); (case refine_3 => intros; rfl)) | (with_reducible refine WPE.sub ?_) | ((with_reducible refine' WPE.nm ?_ ?_ ?_ ?_); (case refine'_2 => rfl); (case refine'_4 => decide); (case refine'_5 => decide)) | fail))
                refine W2.subTup rfl hl' seqIndex_1 rfl ?_
                obtain ⟨W, hW⟩ := Option.isSome_iff_exists.mp (hs w (by simp))
                (repeat' (first | (with_reducible refine WPEs.nil ?_) | fail))
                exact s_is_state hK hW h
            · have e3 : (((r.length + 1 : Nat) : Int) == 2) = false := hb3
              rw [e3, Bool.false_and] at h
              exact h
          · rw [hb2, Bool.false_and] at h
            exact h
      · have : isi U "str" = false := by simp [isi, hS]
        rw [this]
        (repeat' (first | (with_reducible first | refine WPE.cbool ?_ | refine nxt_ret ?_ | refine cnd_t ?_ | refine cnd_f ?_ | refine WPS.cons ?_ | refine WPs.ret ?_) | fail))
        have hf : ruleV (.tup (u :: r)) = false := by
          cases u <;> first | rfl | (exact absurd (Option.some.inj hU).symm hS)
        rw [hf] at h; exact h
  · have : isi T "tuple" = false := by simp [isi, hT]
    rw [this]
    (repeat' (first | (with_reducible first | refine WPE.cbool ?_ | refine nxt_ret ?_ | refine cnd_t ?_ | refine cnd_f ?_ | refine WPS.cons ?_ | refine WPs.ret ?_) | fail))
    have hf : ruleV v = false := by
      cases v <;> first | rfl | (exact absurd (Option.some.inj ht).symm hT)
    rw [hf] at h; exact h
end

section
variable {c : Cx} {k : Nat} {ρ : Loc} {st : St} {Q : V → St → Prop} {X : Xp}
/-- the rules that are -/
inductive Ru where
  | add (i : Int) | times (i : Int) | square | half
noncomputable def Ru.v : Ru → V
  | .add i => .tup [.str "add", .int i]
  | .times i => .tup [.str "times", .int i]
  | .square => .tup [.str "square"]
  | .half => .tup [.str "half"]
noncomputable def Ru.Ok : Ru → Prop
  | .add i => 0 ≤ i ∧ i ≤ 999982
  | .times i => 0 ≤ i ∧ i ≤ 999982
  | _ => True
noncomputable def Ru.fwd : Ru → Int → Int
  | .add i, s => (s + i).fmod 999983
  | .times i, s => (s * i).fmod 999983
  | .square, s => (s * s).fmod 999983
  | .half, s => s.fdiv 2
theorem s_rule (hK : Kc c) {n : Int} (h : ∀ (r : Ru) st', r.Ok → Le st st' → Q r.v st') : CF c (k + 1) A_law_rule [.int n] ρ st Q X := by
  refine CallW.fn (Facts.fn_law_rule hK) rfl ?_
  ((refine WPS.cons ?_); (repeat' (first | (with_reducible first | refine WPE.cint ?_ | refine WPE.bin ?_) | ((with_reducible refine WPs.asg ?_ ?_ ?_); (case refine_2 => rfl); (case refine_3 => intros; rfl)) | ((with_reducible refine' WPE.nm ?_ ?_ ?_ ?_); (case refine'_2 => rfl); (case refine'_4 => decide); (case refine'_5 => decide)) | fail)))
  refine W2.divI (by decide) (by decide) ?_
  (repeat' (first | (with_reducible refine WPE.cint ?_) | fail))
  refine W2.modI (by decide) ?_
  (repeat' (first | (with_reducible first | refine WPE.cint ?_ | refine WPE.bin ?_ | refine nxt_next ?_ | refine WPS.cons ?_ | refine WPs.ifs ?_) | ((with_reducible refine WPB.cmp ?_ ?_); (case refine_2 => rfl)) | ((with_reducible refine' WPE.nm ?_ ?_ ?_ ?_); (case refine'_2 => rfl); (case refine'_4 => decide); (case refine'_5 => decide)) | fail))
  refine W2.divI (by decide) (by decide) ?_
  (repeat' (first | (with_reducible refine WPE.cint ?_) | fail))
  refine W2.modI (by decide) ?_
  (repeat' (first | (with_reducible first | refine WPE.cint ?_ | refine W2.eqI ?_ | refine ⟨_, rfl, ?_⟩) | fail))
  have rest : ∀ (i : Int) (st₁ : St), 0 ≤ i → i ≤ 999982 → Le st st₁ → WPS c k (S_law_rule) [("_law_number_here", .int n), ("_law_k", .int i)] st₁ (B_law_rule.drop 2) (fun fl _ st' => Q (retV fl) st') (fun C _ st' => X C ρ st') := by
    intro i st₁ i0 i1 hle
    ((refine WPS.cons ?_); (repeat' (first | (with_reducible first | refine WPE.cint ?_ | refine WPE.bin ?_ | refine WPs.ifs ?_) | ((with_reducible refine WPB.cmp ?_ ?_); (case refine_2 => rfl)) | ((with_reducible refine' WPE.nm ?_ ?_ ?_ ?_); (case refine'_2 => rfl); (case refine'_4 => decide); (case refine'_5 => decide)) | fail)))
    refine W2.modI (by decide) ?_
    (repeat' (first | (with_reducible first | refine WPE.cint ?_ | refine W2.ltI ?_ | refine ⟨_, rfl, ?_⟩) | fail))
    refine cnd_cases (fun hb => ?_) (fun hb => ?_)
    · (repeat' (first | (with_reducible first | refine WPE.cstr ?_ | refine nxt_ret ?_ | refine WPS.cons ?_ | refine WPEs.nil ?_ | refine WPs.ret ?_) | ((with_reducible refine WPEs.cons ?_ ?_); (case refine_2 => intros; rfl)) | ((with_reducible refine WPE.tup ?_ ?_); (case refine_2 => decide)) | ((with_reducible refine' WPE.nm ?_ ?_ ?_ ?_); (case refine'_2 => rfl); (case refine'_4 => decide); (case refine'_5 => decide)) | fail))
      exact h (.add i) _ ⟨i0, i1⟩ hle
    · (repeat' (first | (with_reducible first | refine WPE.cint ?_ | refine WPE.bin ?_ | refine nxt_next ?_ | refine WPS.cons ?_ | refine WPS.nil ?_ | refine WPs.ifs ?_) | ((with_reducible refine WPB.cmp ?_ ?_); (case refine_2 => rfl)) | ((with_reducible refine' WPE.nm ?_ ?_ ?_ ?_); (case refine'_2 => rfl); (case refine'_4 => decide); (case refine'_5 => decide)) | fail))
      refine W2.modI (by decide) ?_
      (repeat' (first | (with_reducible first | refine WPE.cint ?_ | refine W2.eqI ?_ | refine ⟨_, rfl, ?_⟩) | fail))
      refine cnd_cases (fun hb2 => ?_) (fun hb2 => ?_)
      · (repeat' (first | (with_reducible first | refine WPE.cstr ?_ | refine nxt_ret ?_ | refine WPS.cons ?_ | refine WPEs.nil ?_ | refine WPs.ret ?_) | ((with_reducible refine WPEs.cons ?_ ?_); (case refine_2 => intros; rfl)) | ((with_reducible refine WPE.tup ?_ ?_); (case refine_2 => decide)) | ((with_reducible refine' WPE.nm ?_ ?_ ?_ ?_); (case refine'_2 => rfl); (case refine'_4 => decide); (case refine'_5 => decide)) | fail))
        exact h (.times i) _ ⟨i0, i1⟩ hle
      · (repeat' (first | (with_reducible first | refine WPE.cstr ?_ | refine nxt_next ?_ | refine WPS.cons ?_ | refine WPS.nil ?_ | refine WPEs.nil ?_ | refine WPs.ret ?_) | ((with_reducible refine WPEs.cons ?_ ?_); (case refine_2 => intros; rfl)) | (with_reducible refine WPE.sub ?_) | ((with_reducible refine WPE.tup ?_ ?_); (case refine_2 => decide)) | ((with_reducible refine WPE.lst ?_ ?_); (case refine_2 => decide)) | fail))
        intro a ha
        (repeat' (first | (with_reducible first | refine WPE.cint ?_ | refine WPE.bin ?_) | ((with_reducible refine' WPE.nm ?_ ?_ ?_ ?_); (case refine'_2 => rfl); (case refine'_4 => decide); (case refine'_5 => decide)) | fail))
        refine W2.modI (by decide) ?_
        (repeat' (first | (with_reducible first | refine WPE.cint ?_ | refine W2.subI ?_) | fail))
        have hm := fmod_lt (a := n) (b := 5) (by decide)
        have e1 : ¬ n.fmod 5 < 2 := by simpa using hb
        have e2 : ¬ n.fmod 5 = 2 := by simpa using hb2
        have e3 : n.fmod 5 = 3 ∨ n.fmod 5 = 4 := by lia
        rcases e3 with e3 | e3
        · rw [e3]
          refine W2.subList get_head rfl (by decide) (by rfl) (by rfl) ?_
          (repeat' (first | (with_reducible first | refine nxt_ret ?_ | refine WPEs.nil ?_) | fail))
          exact h .square _ trivial (hle.trans (.alloc ha))
        · rw [e3]
          refine W2.subList get_head rfl (by decide) (by rfl) (by rfl) ?_
          (repeat' (first | (with_reducible first | refine nxt_ret ?_ | refine WPEs.nil ?_) | fail))
          exact h .half _ trivial (hle.trans (.alloc ha))
  refine cnd_cases (fun hb => ?_) (fun hb => ?_)
  · refine WPS.cons ?_
    (repeat' (first | ((fail_if_success (with_reducible show WPS _ _ _ _ _ _ _ _)); (first | (with_reducible first | refine WPE.cint ?_ | refine WPEs.nil ?_) | ((with_reducible refine WPEs.cons ?_ ?_); (case refine_2 => intros; rfl)) | ((with_reducible refine WPs.asg ?_ ?_ ?_); (case refine_2 => rfl); (case refine_3 => intros; rfl)) | (with_reducible refine WPE.sub ?_) | ((with_reducible refine WPE.lst ?_ ?_); (case refine_2 => decide)) | fail)) | fail))
    intro a ha
    (repeat' (first | ((fail_if_success (with_reducible show WPS _ _ _ _ _ _ _ _)); (first | (with_reducible first | refine WPE.cint ?_ | refine WPE.bin ?_) | ((with_reducible refine' WPE.nm ?_ ?_ ?_ ?_); (case refine'_2 => rfl); (case refine'_4 => decide); (case refine'_5 => decide)) | fail)) | fail))
    refine W2.divI (by decide) (by decide) ?_
    (repeat' (first | ((fail_if_success (with_reducible show WPS _ _ _ _ _ _ _ _)); (first | (with_reducible refine WPE.cint ?_) | fail)) | fail))
    refine W2.modI (by decide) ?_
    have hm := fmod_lt (a := n.fdiv 15) (b := 5) (by decide)
    generalize (n.fdiv 15).fmod 5 = j at hm
    have e3 : j = 0 ∨ j = 1 ∨ j = 2 ∨ j = 3 ∨ j = 4 := by with_reducible exact z5 (by with_reducible assumption)
    rcases e3 with rfl | rfl | rfl | rfl | rfl <;>
    · refine W2.subList get_head rfl (by decide) (by rfl) (by rfl) ?_
      (repeat' (first | (with_reducible refine WPS.nil ?_) | ((fail_if_success (with_reducible show WPS _ _ _ _ _ _ _ _)); (first | (with_reducible refine nxt_next ?_) | fail)) | fail))
      exact rest _ _ (by decide) (by decide) (.alloc ha)
  · (repeat' (first | (with_reducible refine WPS.nil ?_) | ((fail_if_success (with_reducible show WPS _ _ _ _ _ _ _ _)); (first | (with_reducible refine nxt_next ?_) | fail)) | fail))
    have hm := fmod_lt (a := n.fdiv 5) (b := 999983) (by decide)
    exact rest _ _ hm.1 (by lia) .refl
end

section
variable {c : Cx} {k : Nat} {ρ : Loc} {st : St} {Q : V → St → Prop} {X : Xp}
theorem Ru.fwd_ok {r : Ru} {s : Int} (hr : r.Ok) (h0 : 0 ≤ s) (h1 : s ≤ 999982) : 0 ≤ r.fwd s ∧ r.fwd s ≤ 999982 := by
  cases r with
  | half =>
    simp only [Ru.fwd]
    rw [Int.fdiv_eq_ediv_of_nonneg _ (by decide)]
    lia
  | add i => have := fmod_lt (a := s + i) (b := 999983) (by decide); simp only [Ru.fwd]; lia
  | times i => have := fmod_lt (a := s * i) (b := 999983) (by decide); simp only [Ru.fwd]; lia
  | square => have := fmod_lt (a := s * s) (b := 999983) (by decide); simp only [Ru.fwd]; lia
theorem s_forth (hK : Kc c) {r : Ru} {s : Int} (hr : r.Ok) (h0 : 0 ≤ s) (h1 : s ≤ 999982) (h : Q (.int (r.fwd s)) st) : CF c (k + 1) A_forth [r.v, .int s] ρ st Q X := by
  refine CallW.fn (Facts.fn_forth hK) rfl ?_
  cases r with
  | add i =>
    simp only [Ru.v, Ru.fwd, Ru.Ok] at *
    ((refine WPS.cons ?_); (repeat' (first | (with_reducible first | refine WPE.cint ?_ | refine WPE.cstr ?_ | refine WPE.bin ?_ | refine W2.addI ?_ | refine W2.eqS ?_ | refine cnd_t ?_ | refine WPS.cons ?_ | refine WPs.ret ?_ | refine WPs.ifs ?_) | ((with_reducible refine WPB.cmp ?_ ?_); (case refine_2 => rfl)) | ((with_reducible refine n_ROUND ‹_› ?_ ?_); (case refine_1 => rfl)) | (with_reducible refine WPE.sub ?_) | ((with_reducible refine' WPE.nm ?_ ?_ ?_ ?_); (case refine'_2 => rfl); (case refine'_4 => decide); (case refine'_5 => decide)) | ((with_reducible refine cnd_is true ?_ ?_); (case refine_1 => rfl)) | ((with_reducible refine' W2.tupAt ?_ ?_ ?_ ?_); (case refine'_2 => rfl); (case refine'_3 => rfl); (case refine'_4 => rfl)) | (with_reducible refine ⟨_, rfl, ?_⟩) | fail)))
    refine W2.modI (by decide) ?_
    (repeat' (first | (with_reducible refine nxt_ret ?_) | fail))
    exact h
  | times i =>
    simp only [Ru.v, Ru.fwd, Ru.Ok] at *
    ((refine WPS.cons ?_); (repeat' (first | (with_reducible first | refine WPE.cint ?_ | refine WPE.cstr ?_ | refine WPE.bin ?_ | refine W2.eqS ?_ | refine nxt_next ?_ | refine cnd_t ?_ | refine cnd_f ?_ | refine WPS.cons ?_ | refine WPS.nil ?_ | refine WPs.ret ?_ | refine WPs.ifs ?_) | ((with_reducible refine WPB.cmp ?_ ?_); (case refine_2 => rfl)) | (with_reducible refine WPE.sub ?_) | ((with_reducible refine' WPE.nm ?_ ?_ ?_ ?_); (case refine'_2 => rfl); (case refine'_4 => decide); (case refine'_5 => decide)) | ((with_reducible refine cnd_is true ?_ ?_); (case refine_1 => rfl)) | ((with_reducible refine cnd_is false ?_ ?_); (case refine_1 => rfl)) | ((with_reducible refine' W2.tupAt ?_ ?_ ?_ ?_); (case refine'_2 => rfl); (case refine'_3 => rfl); (case refine'_4 => rfl)) | (with_reducible refine ⟨_, rfl, ?_⟩) | fail)))
    refine W2.mulI (mulOk_right (by lia)) ?_
    (repeat' (first | ((with_reducible refine n_ROUND ‹_› ?_ ?_); (case refine_1 => rfl)) | fail))
    refine W2.modI (by decide) ?_
    (repeat' (first | (with_reducible refine nxt_ret ?_) | fail))
    exact h
  | square =>
    simp only [Ru.v, Ru.fwd, Ru.Ok] at *
    ((refine WPS.cons ?_); (repeat' (first | (with_reducible first | refine WPE.cint ?_ | refine WPE.cstr ?_ | refine WPE.bin ?_ | refine W2.eqS ?_ | refine nxt_next ?_ | refine cnd_t ?_ | refine cnd_f ?_ | refine WPS.cons ?_ | refine WPS.nil ?_ | refine WPs.ret ?_ | refine WPs.ifs ?_) | ((with_reducible refine WPB.cmp ?_ ?_); (case refine_2 => rfl)) | (with_reducible refine WPE.sub ?_) | ((with_reducible refine' WPE.nm ?_ ?_ ?_ ?_); (case refine'_2 => rfl); (case refine'_4 => decide); (case refine'_5 => decide)) | ((with_reducible refine cnd_is true ?_ ?_); (case refine_1 => rfl)) | ((with_reducible refine cnd_is false ?_ ?_); (case refine_1 => rfl)) | ((with_reducible refine' W2.tupAt ?_ ?_ ?_ ?_); (case refine'_2 => rfl); (case refine'_3 => rfl); (case refine'_4 => rfl)) | (with_reducible refine ⟨_, rfl, ?_⟩) | fail)))
    refine W2.mulI (mulOk_right (by lia)) ?_
    (repeat' (first | ((with_reducible refine n_ROUND ‹_› ?_ ?_); (case refine_1 => rfl)) | fail))
    refine W2.modI (by decide) ?_
    (repeat' (first | (with_reducible refine nxt_ret ?_) | fail))
    exact h
  | half =>
    simp only [Ru.v, Ru.fwd, Ru.Ok] at *
    ((refine WPS.cons ?_); (repeat' (first | (with_reducible first | refine WPE.cint ?_ | refine WPE.cstr ?_ | refine WPE.bin ?_ | refine W2.eqS ?_ | refine nxt_next ?_ | refine cnd_f ?_ | refine WPS.cons ?_ | refine WPS.nil ?_ | refine WPs.ret ?_ | refine WPs.ifs ?_) | ((with_reducible refine WPB.cmp ?_ ?_); (case refine_2 => rfl)) | (with_reducible refine WPE.sub ?_) | ((with_reducible refine' WPE.nm ?_ ?_ ?_ ?_); (case refine'_2 => rfl); (case refine'_4 => decide); (case refine'_5 => decide)) | ((with_reducible refine cnd_is false ?_ ?_); (case refine_1 => rfl)) | ((with_reducible refine' W2.tupAt ?_ ?_ ?_ ?_); (case refine'_2 => rfl); (case refine'_3 => rfl); (case refine'_4 => rfl)) | (with_reducible refine ⟨_, rfl, ?_⟩) | fail)))
    refine W2.divI (by decide) (by decide) ?_
    (repeat' (first | (with_reducible refine nxt_ret ?_) | fail))
    exact h
theorem s_law_forth (hK : Kc c) {r : Ru} {s : Int} (hr : r.Ok) (h0 : 0 ≤ s) (h1 : s ≤ 999982) (h : Q (.int (r.fwd s)) st) : CF c (k + 1) A_law_forth [r.v, .int s] ρ st Q X := by
  refine CallW.fn (Facts.fn_law_forth hK) rfl ?_
  cases r with
  | add i =>
    simp only [Ru.v, Ru.fwd, Ru.Ok] at *
    ((refine WPS.cons ?_); (repeat' (first | (with_reducible first | refine WPE.cint ?_ | refine WPE.cstr ?_ | refine WPE.bin ?_ | refine W2.addI ?_ | refine W2.eqS ?_ | refine cnd_t ?_ | refine WPS.cons ?_ | refine WPs.ret ?_ | refine WPs.ifs ?_) | ((with_reducible refine WPB.cmp ?_ ?_); (case refine_2 => rfl)) | (with_reducible refine WPE.sub ?_) | ((with_reducible refine' WPE.nm ?_ ?_ ?_ ?_); (case refine'_2 => rfl); (case refine'_4 => decide); (case refine'_5 => decide)) | ((with_reducible refine cnd_is true ?_ ?_); (case refine_1 => rfl)) | ((with_reducible refine' W2.tupAt ?_ ?_ ?_ ?_); (case refine'_2 => rfl); (case refine'_3 => rfl); (case refine'_4 => rfl)) | (with_reducible refine ⟨_, rfl, ?_⟩) | fail)))
    refine W2.modI (by decide) ?_
    (repeat' (first | (with_reducible refine nxt_ret ?_) | fail))
    exact h
  | times i =>
    simp only [Ru.v, Ru.fwd, Ru.Ok] at *
    ((refine WPS.cons ?_); (repeat' (first | (with_reducible first | refine WPE.cint ?_ | refine WPE.cstr ?_ | refine WPE.bin ?_ | refine W2.eqS ?_ | refine nxt_next ?_ | refine cnd_t ?_ | refine cnd_f ?_ | refine WPS.cons ?_ | refine WPS.nil ?_ | refine WPs.ret ?_ | refine WPs.ifs ?_) | ((with_reducible refine WPB.cmp ?_ ?_); (case refine_2 => rfl)) | (with_reducible refine WPE.sub ?_) | ((with_reducible refine' WPE.nm ?_ ?_ ?_ ?_); (case refine'_2 => rfl); (case refine'_4 => decide); (case refine'_5 => decide)) | ((with_reducible refine cnd_is true ?_ ?_); (case refine_1 => rfl)) | ((with_reducible refine cnd_is false ?_ ?_); (case refine_1 => rfl)) | ((with_reducible refine' W2.tupAt ?_ ?_ ?_ ?_); (case refine'_2 => rfl); (case refine'_3 => rfl); (case refine'_4 => rfl)) | (with_reducible refine ⟨_, rfl, ?_⟩) | fail)))
    refine W2.mulI (mulOk_right (by lia)) ?_
    (repeat' (first | (with_reducible refine WPE.cint ?_) | fail))
    refine W2.modI (by decide) ?_
    (repeat' (first | (with_reducible refine nxt_ret ?_) | fail))
    exact h
  | square =>
    simp only [Ru.v, Ru.fwd, Ru.Ok] at *
    ((refine WPS.cons ?_); (repeat' (first | (with_reducible first | refine WPE.cint ?_ | refine WPE.cstr ?_ | refine WPE.bin ?_ | refine W2.eqS ?_ | refine nxt_next ?_ | refine cnd_t ?_ | refine cnd_f ?_ | refine WPS.cons ?_ | refine WPS.nil ?_ | refine WPs.ret ?_ | refine WPs.ifs ?_) | ((with_reducible refine WPB.cmp ?_ ?_); (case refine_2 => rfl)) | (with_reducible refine WPE.sub ?_) | ((with_reducible refine' WPE.nm ?_ ?_ ?_ ?_); (case refine'_2 => rfl); (case refine'_4 => decide); (case refine'_5 => decide)) | ((with_reducible refine cnd_is true ?_ ?_); (case refine_1 => rfl)) | ((with_reducible refine cnd_is false ?_ ?_); (case refine_1 => rfl)) | ((with_reducible refine' W2.tupAt ?_ ?_ ?_ ?_); (case refine'_2 => rfl); (case refine'_3 => rfl); (case refine'_4 => rfl)) | (with_reducible refine ⟨_, rfl, ?_⟩) | fail)))
    refine W2.mulI (mulOk_right (by lia)) ?_
    (repeat' (first | (with_reducible refine WPE.cint ?_) | fail))
    refine W2.modI (by decide) ?_
    (repeat' (first | (with_reducible refine nxt_ret ?_) | fail))
    exact h
  | half =>
    simp only [Ru.v, Ru.fwd, Ru.Ok] at *
    ((refine WPS.cons ?_); (repeat' (first | (with_reducible first | refine WPE.cint ?_ | refine WPE.cstr ?_ | refine WPE.bin ?_ | refine W2.eqS ?_ | refine nxt_next ?_ | refine cnd_f ?_ | refine WPS.cons ?_ | refine WPS.nil ?_ | refine WPs.ret ?_ | refine WPs.ifs ?_) | ((with_reducible refine WPB.cmp ?_ ?_); (case refine_2 => rfl)) | (with_reducible refine WPE.sub ?_) | ((with_reducible refine' WPE.nm ?_ ?_ ?_ ?_); (case refine'_2 => rfl); (case refine'_4 => decide); (case refine'_5 => decide)) | ((with_reducible refine cnd_is false ?_ ?_); (case refine_1 => rfl)) | ((with_reducible refine' W2.tupAt ?_ ?_ ?_ ?_); (case refine'_2 => rfl); (case refine'_3 => rfl); (case refine'_4 => rfl)) | (with_reducible refine ⟨_, rfl, ?_⟩) | fail)))
    refine W2.divI (by decide) (by decide) ?_
    (repeat' (first | (with_reducible refine nxt_ret ?_) | fail))
    exact h
end

section
variable {c : Cx} {k : Nat} {ρ : Loc} {st : St} {Q : V → St → Prop} {X : Xp}
theorem s_class (hK : Kc c) {e C : Addr} {b0 b1 b2 b3 b4 b5 b6 b7 : Bool} {j : Nat} {w : Str} (hg : get st e = some (.exc C)) (F : ExcK c.K C) (h0 : kitOne c.K (.ref C) (.ref A_BadCount) = some b0) (h1 : kitOne c.K (.ref C) (.ref A_BadRule) = some b1) (h2 : kitOne c.K (.ref C) (.ref A_BadDeed) = some b2) (h3 : kitOne c.K (.ref C) (.ref A_Full) = some b3) (h4 : kitOne c.K (.ref C) (.ref A_Twice) = some b4) (h5 : kitOne c.K (.ref C) (.ref A_NotKept) = some b5) (h6 : kitOne c.K (.ref C) (.ref A_AtEnd) = some b6) (h7 : kitOne c.K (.ref C) (.ref A_NotWanted) = some b7) (hv : kitOne c.K (.ref C) (.type "ValueError") = some true)
    (hc : ([b0, b1, b2, b3, b4, b5, b6, b7] : List Bool).count true = 1) (hj : ([b0, b1, b2, b3, b4, b5, b6, b7] : List Bool).findIdx? (· == true) = some j) (hw : (["count", "rule", "deed", "full", "twice", "notkept", "atend", "notwanted"] : List Str)[j]? = some w) (h : ∀ st', Le st st' → Q (.tup [.str "refused", .str w]) st') : CF c (k + 1) A_law_class [.ref e] ρ st Q X := by
  refine CallW.fn (Facts.fn_law_class hK) rfl ?_
  refine WPS.cons ?_
  repeat' (first | (first | ((fail_if_success (with_reducible show WPS _ _ _ _ _ _ _ _)); (first | (with_reducible refine WPEs.nil ?_) | ((with_reducible refine WPEs.cons ?_ ?_); (case refine_2 => intros; rfl)) | ((with_reducible refine WPs.asg ?_ ?_ ?_); (case refine_2 => rfl); (case refine_3 => intros; rfl)) | ((with_reducible refine n_BadCount ‹_› ?_ ?_); (case refine_1 => rfl)) | ((with_reducible refine n_BadRule ‹_› ?_ ?_); (case refine_1 => rfl)) | ((with_reducible refine n_BadDeed ‹_› ?_ ?_); (case refine_1 => rfl)) | ((with_reducible refine n_Full ‹_› ?_ ?_); (case refine_1 => rfl)) | ((with_reducible refine c_isinstance ‹_› ?_ ?_ ?_); (case refine_1 => rfl); (case refine_3 => intros; rfl)) | ((with_reducible refine WPE.lst ?_ ?_); (case refine_2 => decide)) | ((with_reducible refine' WPE.nm ?_ ?_ ?_ ?_); (case refine'_2 => rfl); (case refine'_4 => decide); (case refine'_5 => decide)) | fail)) | fail) | (refine WL.isExc hg F (by assumption) ?_))
  intro a ha
  (repeat' (first | ((fail_if_success (with_reducible show WPS _ _ _ _ _ _ _ _)); (first | (with_reducible refine nxt_next ?_) | fail)) | fail))
  have hg1 := (Le.alloc (o := .list [.bool b0, .bool b1, .bool b2, .bool b3]) ha) _ _ hg
  refine WPS.cons ?_
  repeat' (first | (first | ((fail_if_success (with_reducible show WPS _ _ _ _ _ _ _ _)); (first | (with_reducible first | refine WPE.bin ?_ | refine WPEs.nil ?_) | ((with_reducible refine WPEs.cons ?_ ?_); (case refine_2 => intros; rfl)) | ((with_reducible refine WPs.asg ?_ ?_ ?_); (case refine_2 => rfl); (case refine_3 => intros; rfl)) | ((with_reducible refine n_Twice ‹_› ?_ ?_); (case refine_1 => rfl)) | ((with_reducible refine n_NotKept ‹_› ?_ ?_); (case refine_1 => rfl)) | ((with_reducible refine n_AtEnd ‹_› ?_ ?_); (case refine_1 => rfl)) | ((with_reducible refine n_NotWanted ‹_› ?_ ?_); (case refine_1 => rfl)) | ((with_reducible refine c_isinstance ‹_› ?_ ?_ ?_); (case refine_1 => rfl); (case refine_3 => intros; rfl)) | ((with_reducible refine WPE.lst ?_ ?_); (case refine_2 => decide)) | ((with_reducible refine' WPE.nm ?_ ?_ ?_ ?_); (case refine'_2 => rfl); (case refine'_4 => decide); (case refine'_5 => decide)) | fail)) | fail) | (refine WL.isExc hg1 F (by assumption) ?_))
  intro a2 ha2
  have hg2 := (Le.alloc (o := .list [.bool b4, .bool b5, .bool b6, .bool b7]) ha2) _ _ hg1
  refine W2.cat (by (first | exact get_head | ((refine Le.alloc ?_ _ _ ?_); (first | assumption | skip); (first | exact get_head | ((refine Le.alloc ?_ _ _ ?_); (first | assumption | skip); (first | exact get_head | ((refine Le.alloc ?_ _ _ ?_); (first | assumption | skip); (first | exact get_head | ((refine Le.alloc ?_ _ _ ?_); (first | assumption | skip); (first | exact get_head | ((refine Le.alloc ?_ _ _ ?_); (first | assumption | skip); (first | exact get_head | ((refine Le.alloc ?_ _ _ ?_); (first | assumption | skip); (first | exact get_head | ((refine Le.alloc ?_ _ _ ?_); (first | assumption | skip); (first | exact get_head | ((refine Le.alloc ?_ _ _ ?_); (first | assumption | skip); (first | exact get_head | assumption)) | assumption)) | assumption)) | assumption)) | assumption)) | assumption)) | assumption)) | assumption)) | assumption)) (by (first | exact get_head | ((refine Le.alloc ?_ _ _ ?_); (first | assumption | skip); (first | exact get_head | ((refine Le.alloc ?_ _ _ ?_); (first | assumption | skip); (first | exact get_head | ((refine Le.alloc ?_ _ _ ?_); (first | assumption | skip); (first | exact get_head | ((refine Le.alloc ?_ _ _ ?_); (first | assumption | skip); (first | exact get_head | ((refine Le.alloc ?_ _ _ ?_); (first | assumption | skip); (first | exact get_head | ((refine Le.alloc ?_ _ _ ?_); (first | assumption | skip); (first | exact get_head | ((refine Le.alloc ?_ _ _ ?_); (first | assumption | skip); (first | exact get_head | ((refine Le.alloc ?_ _ _ ?_); (first | assumption | skip); (first | exact get_head | assumption)) | assumption)) | assumption)) | assumption)) | assumption)) | assumption)) | assumption)) | assumption)) | assumption)) rfl ?_
  intro a3 ha3
  have hg3 := (Le.alloc (o := .list ([.bool b0, .bool b1, .bool b2, .bool b3] ++ [.bool b4, .bool b5, .bool b6, .bool b7])) ha3) _ _ hg2
  (repeat' (first | ((fail_if_success (with_reducible show WPS _ _ _ _ _ _ _ _)); (first | (with_reducible refine nxt_next ?_) | fail)) | fail))
  refine WPS.cons ?_
  (repeat' (first | ((fail_if_success (with_reducible show WPS _ _ _ _ _ _ _ _)); (first | (with_reducible first | refine WPAll.or ?_ | refine WPs.ifs ?_ | refine WPB.op ?_) | ((with_reducible refine WPB.cmp ?_ ?_); (case refine_2 => rfl)) | ((with_reducible refine' WPE.nm ?_ ?_ ?_ ?_); (case refine'_2 => rfl); (case refine'_4 => decide); (case refine'_5 => decide)) | ((with_reducible refine WPE.mCount ?_ ?_ ?_); (case refine_2 => rfl); (case refine_3 => intros; exact ⟨_, rfl⟩)) | fail)) | fail))
  refine ⟨_, _, rfl, get_head, ?_⟩
  (repeat' (first | ((fail_if_success (with_reducible show WPS _ _ _ _ _ _ _ _)); (first | (with_reducible first | refine WPE.cbool ?_ | refine WPEs.nil ?_) | ((with_reducible refine WPEs.cons ?_ ?_); (case refine_2 => intros; rfl)) | fail)) | fail))
  refine WL.countB (bs := [b0, b1, b2, b3, b4, b5, b6, b7]) rfl get_head ?_
  (repeat' (first | ((fail_if_success (with_reducible show WPS _ _ _ _ _ _ _ _)); (first | (with_reducible first | refine WPE.cint ?_ | refine W2.neI ?_ | refine ⟨_, rfl, ?_⟩) | fail)) | fail))
  rw [hc]
  (repeat' (first | ((fail_if_success (with_reducible show WPS _ _ _ _ _ _ _ _)); (first | (with_reducible first | refine WPAll.or ?_ | refine cnd_f ?_ | refine WPEs.nil ?_ | refine WPB.not ?_) | ((with_reducible refine WPEs.cons ?_ ?_); (case refine_2 => intros; rfl)) | ((with_reducible refine n_ValueError ‹_› ?_ ?_); (case refine_1 => rfl)) | ((with_reducible refine c_isinstance ‹_› ?_ ?_ ?_); (case refine_1 => rfl); (case refine_3 => intros; rfl)) | ((with_reducible refine' WPE.nm ?_ ?_ ?_ ?_); (case refine'_2 => rfl); (case refine'_4 => decide); (case refine'_5 => decide)) | ((with_reducible refine WPB.val ?_ ?_); (case refine_2 => intros; rfl)) | ((with_reducible refine cnd_is false ?_ ?_); (case refine_1 => rfl)) | fail)) | fail))
  refine WL.isExc hg3 F hv ?_
  (repeat' (first | (with_reducible refine WPS.nil ?_) | ((fail_if_success (with_reducible show WPS _ _ _ _ _ _ _ _)); (first | (with_reducible first | refine WPAll.orNil ?_ | refine nxt_next ?_ | refine cnd_t ?_ | refine cnd_f ?_ | refine ⟨_, rfl, ?_⟩) | fail)) | fail))
  refine WPS.cons ?_
  (repeat' (first | ((fail_if_success (with_reducible show WPS _ _ _ _ _ _ _ _)); (first | (with_reducible first | refine WPE.cstr ?_ | refine WPEs.nil ?_) | ((with_reducible refine WPEs.cons ?_ ?_); (case refine_2 => intros; rfl)) | ((with_reducible refine WPs.asg ?_ ?_ ?_); (case refine_2 => rfl); (case refine_3 => intros; rfl)) | ((with_reducible refine WPE.lst ?_ ?_); (case refine_2 => decide)) | fail)) | fail))
  intro a4 ha4
  (repeat' (first | ((fail_if_success (with_reducible show WPS _ _ _ _ _ _ _ _)); (first | (with_reducible refine nxt_next ?_) | fail)) | fail))
  refine WPS.cons ?_
  (repeat' (first | ((fail_if_success (with_reducible show WPS _ _ _ _ _ _ _ _)); (first | (with_reducible first | refine WPE.cstr ?_ | refine WPs.ret ?_) | ((with_reducible refine WPEs.cons ?_ ?_); (case refine_2 => intros; rfl)) | (with_reducible refine WPE.sub ?_) | ((with_reducible refine WPE.tup ?_ ?_); (case refine_2 => decide)) | ((with_reducible refine' WPE.nm ?_ ?_ ?_ ?_); (case refine'_2 => rfl); (case refine'_4 => decide); (case refine'_5 => decide)) | ((with_reducible refine WPE.mIndex ?_ ?_ ?_); (case refine_2 => rfl); (case refine_3 => intros; exact ⟨_, rfl⟩)) | fail)) | fail))
  refine ⟨_, _, rfl, (Le.alloc ha4) _ _ get_head, ?_⟩
  (repeat' (first | ((fail_if_success (with_reducible show WPS _ _ _ _ _ _ _ _)); (first | (with_reducible first | refine WPE.cbool ?_ | refine WPEs.nil ?_) | ((with_reducible refine WPEs.cons ?_ ?_); (case refine_2 => intros; rfl)) | fail)) | fail))
  refine WL.indexB (bs := [b0, b1, b2, b3, b4, b5, b6, b7]) rfl ((Le.alloc ha4) _ _ get_head) hj (by simp) ?_
  have hjl : j < 8 := by
    obtain ⟨h1, _⟩ := List.findIdx?_eq_some_iff_getElem.mp hj
    exact h1
  skip
  refine W2.subList (vs := [.str "count", .str "rule", .str "deed", .str "full", .str "twice", .str "notkept", .str "atend", .str "notwanted"]) (v := .str w) get_head rfl (by decide) (seqIndex_pos (by with_reducible exact zC) (by simp; lia)) ?_ ?_
  · have : (((["count", "rule", "deed", "full", "twice", "notkept", "atend", "notwanted"] : List Str).map V.str)[j]?) = some (.str w) := by rw [List.getElem?_map, hw]; rfl
    simpa using this
  (repeat' (first | ((fail_if_success (with_reducible show WPS _ _ _ _ _ _ _ _)); (first | (with_reducible first | refine nxt_ret ?_ | refine WPEs.nil ?_) | fail)) | fail))
  exact h _ (((Le.alloc ha).cons ha2).cons ha3 |>.cons ha4)
end

section
variable {c : Cx} {k : Nat} {ρ : Loc} {st : St} {Q : V → St → Prop} {X : Xp}
theorem small_ok'' {a : Nat} (h : a ≤ 1000) : a ≤ sizeLine := by rw [PySem.sizeLine_eq]; ((with_reducible apply zD); (with_reducible assumption); exact rfl)
theorem s_row (hK : Kc c) (hq : c.q = true) {ns : List Int} {a m : Nat} (ha : a < 1000) (hm : m ≤ 100) (hl : ns.length < 1000)
    (h : ∀ (fs : Int) (rs : List Ru) d st', 0 ≤ fs → fs ≤ 999982 → (∀ r ∈ rs, r.Ok) → rs.length ≤ m → Le st st' → get st d = none → get st' d = some (.list (rs.map Ru.v)) → Q (.tup [.int fs, .ref d]) st') : CF c (k + 2) A_law_row [.scr ns, .int a, .int m] ρ st Q X := by
  refine CallW.fn (Facts.fn_law_row hK) rfl ?_
  have rest : ∀ (fs : Int) (st₁ : St), 0 ≤ fs → fs ≤ 999982 → Le st st₁ → WPS c (k + 1) (S_law_row) [("_law_script", .scr ns), ("_law_start", .int a), ("_law_most", .int m), ("_law_first", .int fs)] st₁ (B_law_row.drop 1) (fun fl _ st' => Q (retV fl) st') (fun C _ st' => X C ρ st') := by
    intro fs st₁ f0 f1 hle
    ((refine WPS.cons ?_); (repeat' (first | (with_reducible first | refine WPE.cint ?_ | refine WPE.bin ?_ | refine W2.addI ?_ | refine WPEs.nil ?_) | ((with_reducible refine WPEs.cons ?_ ?_); (case refine_2 => intros; rfl)) | ((with_reducible refine WPs.asg ?_ ?_ ?_); (case refine_2 => rfl); (case refine_3 => intros; rfl)) | ((with_reducible refine c_law_number ‹_› ?_ ?_ ?_); (case refine_1 => rfl); (case refine_3 => intros; rfl)) | ((with_reducible refine' WPE.nm ?_ ?_ ?_ ?_); (case refine'_2 => rfl); (case refine'_4 => decide); (case refine'_5 => decide)) | fail)))
    refine s_number hK (by lia) (by lia) hl ?_
    (repeat' (first | (with_reducible first | refine WPE.cint ?_ | refine WPE.bin ?_ | refine W2.addI ?_) | ((with_reducible refine' WPE.nm ?_ ?_ ?_ ?_); (case refine'_2 => rfl); (case refine'_4 => decide); (case refine'_5 => decide)) | fail))
    refine W2.modI (by lia) ?_
    have hm' := fmod_lt (a := numV ns ((a : Int) + 1)) (b := (m : Int) + 1) (by lia)
    generalize (numV ns ((a : Int) + 1)).fmod ((m : Int) + 1) = n at hm'
    obtain ⟨n, rfl⟩ : ∃ n' : Nat, n = n' := ⟨n.toNat, by with_reducible exact zG (by with_reducible assumption)⟩
    (repeat' (first | (with_reducible first | refine nxt_next ?_ | refine WPS.cons ?_ | refine WPEs.nil ?_ | refine WPs.ret ?_) | ((with_reducible refine WPEs.cons ?_ ?_); (case refine_2 => intros; rfl)) | ((with_reducible refine WPE.comp ‹_› ?_ ?_ ?_); (case refine_1 => rfl); (case refine_3 => intros; rfl)) | ((with_reducible refine c_range ‹_› ?_ ?_ ?_); (case refine_1 => rfl); (case refine_3 => intros; rfl)) | ((with_reducible refine WPE.tup ?_ ?_); (case refine_2 => decide)) | ((with_reducible refine' WPE.nm ?_ ?_ ?_ ?_); (case refine'_2 => rfl); (case refine'_4 => decide); (case refine'_5 => decide)) | fail))
    have hsrc : ∀ st', Src st' (.rng 0 (n : Int) 1) (upTo 0 n) := fun st' => Src.up 0 n rfl (by lia) (by lia)
    refine WL.range1 ⟨_, hsrc _, by rw [upTo_len]; exact small_ok'' (by lia), ?_⟩
    refine COMP.inv (fun i acc st₂ => Le st₁ st₂ ∧ ∃ rs : List Ru, acc = rs.map Ru.v ∧ rs.length = i ∧ ∀ r ∈ rs, r.Ok) ⟨Le.refl, [], rfl, rfl, by intro r hr; cases hr⟩ ?_ ?_
    · rintro i u acc st₂ hu ⟨hle₂, rs, rfl, hrl, hrs⟩
      obtain ⟨hi, rfl⟩ := upTo_get hu
      (repeat' (first | (with_reducible first | refine WPE.cint ?_ | refine WPE.bin ?_ | refine W2.addI ?_ | refine WPEs.nil ?_) | ((with_reducible refine WPEs.cons ?_ ?_); (case refine_2 => intros; rfl)) | ((with_reducible refine c_law_number ‹_› ?_ ?_ ?_); (case refine_1 => rfl); (case refine_3 => intros; rfl)) | ((with_reducible refine c_law_rule ‹_› ?_ ?_ ?_); (case refine_1 => rfl); (case refine_3 => intros; rfl)) | ((with_reducible refine' WPE.nm ?_ ?_ ?_ ?_); (case refine'_2 => rfl); (case refine'_4 => decide); (case refine'_5 => decide)) | fail))
      refine s_number hK (by lia) (by lia) hl ?_
      (repeat' (first | (with_reducible refine WPEs.nil ?_) | fail))
      refine s_rule hK fun r st₃ hr hle₃ => ⟨hsrc _, hle₂.trans hle₃, rs ++ [r], by simp, by simp [hrl], ?_⟩
      intro r' hr'
      rcases List.mem_append.mp hr' with q | q
      · exact hrs r' q
      · simp at q; subst q; exact hr
    · rintro acc st₂ ⟨hle₂, rs, rfl, hrl, hrs⟩
      intro d hd
      (repeat' (first | (with_reducible first | refine nxt_ret ?_ | refine WPEs.nil ?_) | fail))
      rw [upTo_len] at hrl
      exact h fs rs d _ f0 f1 hrs (by lia) ((hle.trans hle₂).cons hd) ((hle.trans hle₂).none hd) get_head
  refine WPS.cons ?_
  (repeat' (first | ((fail_if_success (with_reducible show WPS _ _ _ _ _ _ _ _)); (first | (with_reducible first | refine WPE.cint ?_ | refine WPE.bin ?_ | refine WPEs.nil ?_) | ((with_reducible refine WPEs.cons ?_ ?_); (case refine_2 => intros; rfl)) | ((with_reducible refine WPs.asg ?_ ?_ ?_); (case refine_2 => rfl); (case refine_3 => intros; rfl)) | ((with_reducible refine c_law_number ‹_› ?_ ?_ ?_); (case refine_1 => rfl); (case refine_3 => intros; rfl)) | (with_reducible refine WPE.sub ?_) | ((with_reducible refine WPE.lst ?_ ?_); (case refine_2 => decide)) | ((with_reducible refine' WPE.nm ?_ ?_ ?_ ?_); (case refine'_2 => rfl); (case refine'_4 => decide); (case refine'_5 => decide)) | fail)) | fail))
  refine s_number hK (by with_reducible exact zC) (by lia) hl ?_
  (repeat' (first | ((fail_if_success (with_reducible show WPS _ _ _ _ _ _ _ _)); (first | (with_reducible refine WPE.cint ?_) | fail)) | fail))
  refine W2.divI (by decide) (by decide) ?_
  (repeat' (first | ((fail_if_success (with_reducible show WPS _ _ _ _ _ _ _ _)); (first | (with_reducible refine WPE.cint ?_) | fail)) | fail))
  refine W2.modI (by decide) ?_
  (repeat' (first | ((fail_if_success (with_reducible show WPS _ _ _ _ _ _ _ _)); (first | (with_reducible refine WPEs.nil ?_) | fail)) | fail))
  intro al hal
  (repeat' (first | ((fail_if_success (with_reducible show WPS _ _ _ _ _ _ _ _)); (first | (with_reducible first | refine WPE.bin ?_ | refine WPEs.nil ?_) | ((with_reducible refine WPEs.cons ?_ ?_); (case refine_2 => intros; rfl)) | ((with_reducible refine c_law_number ‹_› ?_ ?_ ?_); (case refine_1 => rfl); (case refine_3 => intros; rfl)) | ((with_reducible refine' WPE.nm ?_ ?_ ?_ ?_); (case refine'_2 => rfl); (case refine'_4 => decide); (case refine'_5 => decide)) | fail)) | fail))
  refine s_number hK (by with_reducible exact zC) (by lia) hl ?_
  (repeat' (first | ((fail_if_success (with_reducible show WPS _ _ _ _ _ _ _ _)); (first | (with_reducible refine WPE.cint ?_) | fail)) | fail))
  refine W2.modI (by decide) ?_
  have h4 := fmod_lt (a := numV ns (a : Int)) (b := 4) (by decide)
  have h9 := fmod_lt (a := (numV ns (a : Int)).fdiv 4) (b := 999983) (by decide)
  generalize (numV ns (a : Int)).fmod 4 = j at h4
  have e3 : j = 0 ∨ j = 1 ∨ j = 2 ∨ j = 3 := by with_reducible exact z4 (by with_reducible assumption)
  rcases e3 with rfl | rfl | rfl | rfl <;>
  · refine W2.listAt get_head rfl rfl (by rfl) ?_
    (repeat' (first | ((fail_if_success (with_reducible show WPS _ _ _ _ _ _ _ _)); (first | (with_reducible refine nxt_next ?_) | fail)) | fail))
    exact rest _ _ (by first | decide | with_reducible exact And.left (by with_reducible assumption)) (by first | decide | lia) (.alloc hal)
end

section
variable {c : Cx} {k : Nat} {ρ : Loc} {st : St} {Q : V → St → Prop} {X : Xp}
theorem typ_mono {st st' : St} (hle : Le st st') {v : V} {T : String} (h : typV st v = some T) : typV st' v = some T := by
  cases v <;> first | exact h | skip
  rename_i a
  simp only [typV] at h ⊢
  cases e : get st a with
  | none => rw [e] at h; cases h
  | some o => rw [hle a o e]; rw [e] at h; exact h
/-- a thing that may lie among the rules -/
structure El (st : St) (v : V) : Prop where
  typ : ∃ T, typV st v = some T
  tup : ∀ vs, v = .tup vs → (vs.length < 1000 ∧ ∀ u ∈ vs, (typV st u).isSome = true)
  self : selfV v = true
theorem Ru.el (r : Ru) : El st r.v := by
  cases r with
  | add i => exact ⟨⟨_, rfl⟩, fun vs e => by cases e; exact ⟨by simp, by intro u hu; simp at hu; rcases hu with rfl | rfl <;> rfl⟩, rfl⟩
  | times i => exact ⟨⟨_, rfl⟩, fun vs e => by cases e; exact ⟨by simp, by intro u hu; simp at hu; rcases hu with rfl | rfl <;> rfl⟩, rfl⟩
  | square => exact ⟨⟨_, rfl⟩, fun vs e => by cases e; exact ⟨by simp, by intro u hu; simp at hu; subst hu; rfl⟩, rfl⟩
  | half => exact ⟨⟨_, rfl⟩, fun vs e => by cases e; exact ⟨by simp, by intro u hu; simp at hu; subst hu; rfl⟩, rfl⟩
theorem Ru.is {r : Ru} (h : r.Ok) : ruleV r.v = true := by
  cases r with
  | add i => obtain ⟨h1, h2⟩ := h; show (decide (0 ≤ i) && decide (i ≤ 999982)) = true; simp [h1, h2]
  | times i => obtain ⟨h1, h2⟩ := h; show (decide (0 ≤ i) && decide (i ≤ 999982)) = true; simp [h1, h2]
  | square => rfl
  | half => rfl
theorem s_need_good (hK : Kc c) (hq : c.q = true) {fs : Int} {a : Addr} {vs : List V} (h0 : 0 ≤ fs) (h1 : fs ≤ 999982) (hg : get st a = some (.list vs)) (hle : vs.length ≤ 100) (he : ∀ u ∈ vs, El st u) (hr : ∀ u ∈ vs, ruleV u = true) (h : Q .none st) : CF c (k + 4) A_need_row [.int fs, .ref a] ρ st Q X := by
  refine CallW.fn (Facts.fn_need_row hK) rfl ?_
  ((refine WPS.cons ?_); (repeat' (first | (with_reducible first | refine WPEs.nil ?_ | refine WPs.ifs ?_ | refine WPB.not ?_) | ((with_reducible refine WPEs.cons ?_ ?_); (case refine_2 => intros; rfl)) | ((with_reducible refine c_is_state ‹_› ?_ ?_ ?_); (case refine_1 => rfl); (case refine_3 => intros; rfl)) | ((with_reducible refine' WPE.nm ?_ ?_ ?_ ?_); (case refine'_2 => rfl); (case refine'_4 => decide); (case refine'_5 => decide)) | ((with_reducible refine WPB.val ?_ ?_); (case refine_2 => intros; rfl)) | fail)))
  refine s_is_state hK (T := "int") rfl ?_
  rw [show btwV 0 999982 (.int fs) = true by simp [btwV, h0, h1]]
  (repeat' (first | (with_reducible first | refine WPAll.or ?_ | refine nxt_next ?_ | refine cnd_t ?_ | refine cnd_f ?_ | refine WPS.cons ?_ | refine WPS.nil ?_ | refine WPEs.nil ?_ | refine WPs.ifs ?_ | refine WPB.op ?_ | refine WPB.not ?_) | ((with_reducible refine WPEs.cons ?_ ?_); (case refine_2 => intros; rfl)) | ((with_reducible refine n_list ‹_› ?_ ?_); (case refine_1 => rfl)) | ((with_reducible refine c_isinstance ‹_› ?_ ?_ ?_); (case refine_1 => rfl); (case refine_3 => intros; rfl)) | ((with_reducible refine' WPE.nm ?_ ?_ ?_ ?_); (case refine'_2 => rfl); (case refine'_4 => decide); (case refine'_5 => decide)) | ((with_reducible refine WPB.val ?_ ?_); (case refine_2 => intros; rfl)) | (with_reducible refine ⟨_, rfl, ?_⟩) | fail))
  refine WL.isinstance (T := "list") (by simp [typV, hg]) rfl ?_
  (repeat' (first | (with_reducible first | refine WPAll.or ?_ | refine cnd_t ?_ | refine cnd_f ?_ | refine WPEs.nil ?_) | ((with_reducible refine WPEs.cons ?_ ?_); (case refine_2 => intros; rfl)) | ((with_reducible refine WPB.cmp ?_ ?_); (case refine_2 => rfl)) | ((with_reducible refine c_len ‹_› ?_ ?_ ?_); (case refine_1 => rfl); (case refine_3 => intros; rfl)) | ((with_reducible refine' WPE.nm ?_ ?_ ?_ ?_); (case refine'_2 => rfl); (case refine'_4 => decide); (case refine'_5 => decide)) | ((with_reducible refine cnd_is true ?_ ?_); (case refine_1 => rfl)) | (with_reducible refine ⟨_, rfl, ?_⟩) | fail))
  refine WL.lenList hg (by ((with_reducible apply zI); (with_reducible assumption); exact rfl)) ?_
  (repeat' (first | (with_reducible refine W2.gtI ?_) | ((with_reducible refine n_MOST_RULES ‹_› ?_ ?_); (case refine_1 => rfl)) | (with_reducible refine ⟨_, rfl, ?_⟩) | fail))
  refine cnd_is false (by simp; lia) ?_
  (repeat' (first | (with_reducible first | refine WPAll.orNil ?_ | refine nxt_next ?_ | refine cnd_f ?_ | refine WPS.cons ?_ | refine WPS.nil ?_) | ((with_reducible refine WPs.for ‹_› ?_ ?_ ?_); (case refine_2 => rfl); (case refine_3 => intros; rfl)) | ((with_reducible refine' WPE.nm ?_ ?_ ?_ ?_); (case refine'_2 => rfl); (case refine'_4 => decide); (case refine'_5 => decide)) | fail))
  refine ⟨_, .list hg, ?_⟩
  refine FOR.inv (fun i ρ₁ st₁ => st₁ = st ∧ ρ₁ = ([("first", .int fs), ("rules", .ref a)] : Loc)) ⟨rfl, rfl⟩ ?_ ?_
  · rintro i y ρ₁ st₁ hy ⟨rfl, rfl⟩
    have hm : y ∈ vs := List.mem_of_getElem? hy
    obtain ⟨⟨U, hU⟩, htup, _⟩ := he y hm
    ((refine WPS.cons ?_); (repeat' (first | (with_reducible first | refine WPEs.nil ?_ | refine WPs.ifs ?_ | refine WPB.not ?_) | ((with_reducible refine WPEs.cons ?_ ?_); (case refine_2 => intros; rfl)) | ((with_reducible refine c_is_rule ‹_› ?_ ?_ ?_); (case refine_1 => rfl); (case refine_3 => intros; rfl)) | ((with_reducible refine' WPE.nm ?_ ?_ ?_ ?_); (case refine'_2 => rfl); (case refine'_4 => decide); (case refine'_5 => decide)) | ((with_reducible refine WPB.val ?_ ?_); (case refine_2 => intros; rfl)) | fail)))
    refine s_is_rule hK hU htup ?_
    rw [hr y hm]
    (repeat' (first | (with_reducible first | refine nxt_next ?_ | refine cnd_t ?_ | refine cnd_f ?_ | refine WPS.nil ?_ | refine ⟨_, rfl, ?_⟩) | fail))
    exact lp_next ⟨_, (.cons rfl (.cons rfl .nil)), .list hg, rfl, rfl⟩
  · rintro ρ₁ st₁ ⟨rfl, rfl⟩
    (repeat' (first | (with_reducible first | refine nxt_next ?_ | refine WPS.nil ?_) | fail))
    exact h
end

section
variable {c : Cx} {k : Nat} {ρ : Loc} {st : St} {Q : V → St → Prop} {X : Xp}
/-- the states of a row -/
noncomputable def stN (fs : Int) (rs : List Ru) (i : Nat) : Int := (rs.take i).foldl (fun s r => r.fwd s) fs
noncomputable def stL (fs : Int) (rs : List Ru) (n : Nat) : List Int := (List.range n).map (stN fs rs)
theorem stN_succ {fs : Int} {rs : List Ru} {i : Nat} {r : Ru} (h : rs[i]? = some r) : stN fs rs (i + 1) = r.fwd (stN fs rs i) := by
  unfold stN
  have : i < rs.length := by
    rcases Nat.lt_or_ge i rs.length with q | q
    · exact q
    · rw [List.getElem?_eq_none q] at h; cases h
  rw [List.take_add_one, h]
  simp
theorem stN_ok {fs : Int} {rs : List Ru} (h0 : 0 ≤ fs) (h1 : fs ≤ 999982) (hr : ∀ r ∈ rs, r.Ok) : ∀ i, 0 ≤ stN fs rs i ∧ stN fs rs i ≤ 999982
  | 0 => ⟨h0, h1⟩
  | i + 1 => by
    obtain ⟨a, b⟩ := stN_ok h0 h1 hr i
    cases e : rs[i]? with
    | none =>
      have : stN fs rs (i + 1) = stN fs rs i := by
        unfold stN
        have hl : rs.length ≤ i := by simpa using e
        rw [List.take_of_length_le hl, List.take_of_length_le (by lia)]
      rw [this]; exact ⟨a, b⟩
    | some r =>
      rw [stN_succ e]
      exact Ru.fwd_ok (hr r (List.mem_of_getElem? e)) a b
theorem stL_succ {fs : Int} {rs : List Ru} {n : Nat} : stL fs rs (n + 1) = stL fs rs n ++ [stN fs rs n] := by simp [stL, List.range_succ]
theorem stL_len {fs : Int} {rs : List Ru} {n : Nat} : (stL fs rs n).length = n := by simp [stL]
theorem stL_last {fs : Int} {rs : List Ru} {n : Nat} : ((stL fs rs (n + 1)).map V.int)[n]? = some (.int (stN fs rs n)) := by
  rw [stL_succ, List.map_append, List.getElem?_append_right (by simp [stL_len])]
  simp [stL_len]
theorem s_law_states (hK : Kc c) (hq : c.q = true) {fs : Int} {a : Addr} {rs : List Ru} (h0 : 0 ≤ fs) (h1 : fs ≤ 999982) (hr : ∀ r ∈ rs, r.Ok) (hl : rs.length ≤ 1000) (hg : get st a = some (.list (rs.map Ru.v)))
    (h : ∀ d st', Le st st' → get st d = none → get st' d = some (.list ((stL fs rs (rs.length + 1)).map .int)) → Q (.ref d) st') : CF c (k + 2) A_law_states [.int fs, .ref a] ρ st Q X := by
  refine CallW.fn (Facts.fn_law_states hK) rfl ?_
  ((refine WPS.cons ?_); (repeat' (first | (with_reducible refine WPEs.nil ?_) | ((with_reducible refine WPEs.cons ?_ ?_); (case refine_2 => intros; rfl)) | ((with_reducible refine WPs.asg ?_ ?_ ?_); (case refine_2 => rfl); (case refine_3 => intros; rfl)) | ((with_reducible refine WPE.lst ?_ ?_); (case refine_2 => decide)) | ((with_reducible refine' WPE.nm ?_ ?_ ?_ ?_); (case refine'_2 => rfl); (case refine'_4 => decide); (case refine'_5 => decide)) | fail)))
  intro d hd
  (repeat' (first | (with_reducible first | refine nxt_next ?_ | refine WPS.cons ?_) | ((with_reducible refine WPs.for ‹_› ?_ ?_ ?_); (case refine_2 => rfl); (case refine_3 => intros; rfl)) | ((with_reducible refine' WPE.nm ?_ ?_ ?_ ?_); (case refine'_2 => rfl); (case refine'_4 => decide); (case refine'_5 => decide)) | fail))
  refine ⟨_, .list ((Le.alloc hd) _ _ hg), ?_⟩
  refine FOR.inv (fun i ρ₁ st₁ => Le st st₁ ∧ get st₁ d = some (.list ((stL fs rs (i + 1)).map .int)) ∧ ρ₁ = ([("_law_first", .int fs), ("_law_rules", .ref a), ("_law_found", .ref d)] : Loc)) ⟨Le.alloc hd, get_head, rfl⟩ ?_ ?_
  · rintro i y ρ₁ st₁ hy ⟨hle, hgd, rfl⟩
    rw [List.getElem?_map] at hy
    obtain ⟨r, hri, rfl⟩ := Option.map_eq_some_iff.mp hy
    have hil : i < rs.length := by
      rcases Nat.lt_or_ge i rs.length with q | q
      · exact q
      · rw [List.getElem?_eq_none q] at hri; cases hri
    obtain ⟨a0, a1⟩ := stN_ok h0 h1 hr i
    ((refine WPS.cons ?_); (repeat' (first | ((with_reducible refine WPs.expr ?_ ?_); (case refine_2 => intros; rfl)) | ((with_reducible refine' WPE.nm ?_ ?_ ?_ ?_); (case refine'_2 => rfl); (case refine'_4 => decide); (case refine'_5 => decide)) | ((with_reducible refine WPE.mAppend ?_ ?_ ?_); (case refine_2 => rfl); (case refine_3 => intros; exact ⟨_, rfl⟩)) | fail)))
    refine ⟨_, _, rfl, hgd, ?_⟩
    (repeat' (first | (with_reducible first | refine WPE.cint ?_ | refine WPE.un ?_ | refine W1.negI ?_) | ((with_reducible refine WPEs.cons ?_ ?_); (case refine_2 => intros; rfl)) | ((with_reducible refine c_law_forth ‹_› ?_ ?_ ?_); (case refine_1 => rfl); (case refine_3 => intros; rfl)) | (with_reducible refine WPE.sub ?_) | ((with_reducible refine' WPE.nm ?_ ?_ ?_ ?_); (case refine'_2 => rfl); (case refine'_4 => decide); (case refine'_5 => decide)) | fail))
    refine W2.subList hgd rfl (by simp [stL_len]; lia) (seqIndex_neg (by decide) (by simp [stL_len]; lia)) (v := .int (stN fs rs i)) (by rw [show ((-1 + (((stL fs rs (i + 1)).map V.int).length : Int)).toNat) = i by simp [stL_len]; lia]; exact stL_last) ?_
    (repeat' (first | (with_reducible refine WPEs.nil ?_) | fail))
    refine s_law_forth hK (hr r (List.mem_of_getElem? hri)) a0 a1 ?_
    (repeat' (first | (with_reducible refine WPEs.nil ?_) | fail))
    refine WL.append hgd (by simp [stL_len]; lia) ?_
    (repeat' (first | (with_reducible first | refine nxt_next ?_ | refine WPS.nil ?_) | fail))
    refine lp_next ⟨_, Sub.of (by intro p hp; simp at hp; rcases hp with rfl | rfl | rfl <;> rfl), ?_, hle.upd hd, ?_, rfl⟩
    · exact .list ((hle.upd hd) _ _ hg)
    · rw [get_upd_self hgd, stL_succ (n := i + 1), stN_succ hri]; simp
  · rintro ρ₁ st₁ ⟨hle, hgd, rfl⟩
    (repeat' (first | (with_reducible first | refine nxt_next ?_ | refine nxt_ret ?_ | refine WPS.cons ?_ | refine WPs.ret ?_) | ((with_reducible refine' WPE.nm ?_ ?_ ?_ ?_); (case refine'_2 => rfl); (case refine'_4 => decide); (case refine'_5 => decide)) | fail))
    rw [List.length_map] at hgd
    exact h d st₁ hle hd hgd
end

theorem small_ok' {a : Nat} (h : a ≤ 1000) : a ≤ sizeLine := Nat.le_trans h (by decide)
/-- deeds -/
inductive Dd where
  | keep
  | meet
  | take (n : Nat)
  | drop (n : Nat)
  | go (n : Nat)
/-- a walk -/
structure Sg where
  place : Nat
  marks : List Nat
  want : Nat
  cost : Nat
noncomputable def stp (room steps : Nat) (g : Sg) : Dd → Option Sg
  | .keep => if g.place ∉ g.marks ∧ g.marks.length < room then some { g with marks := g.marks ++ [g.place] } else none
  | .meet => if g.want = g.place + 1 then some { g with want := g.place } else none
  | .take n => if n ∈ g.marks then some { g with place := n } else none
  | .drop n => if n ∈ g.marks then some { g with marks := g.marks.filter fun x => !decide (x = n) } else none
  | .go n => if 0 < n ∧ g.place + n ≤ steps then some { g with place := g.place + n, cost := g.cost + n } else none
theorem stp_keep {room steps : Nat} {g : Sg} (h1 : g.place ∉ g.marks) (h2 : g.marks.length < room) : stp room steps g .keep = some { g with marks := g.marks ++ [g.place] } := if_pos ⟨h1, h2⟩
theorem stp_meet {room steps : Nat} {g : Sg} (h1 : g.want = g.place + 1) : stp room steps g .meet = some { g with want := g.place } := if_pos h1
theorem stp_take {room steps n : Nat} {g : Sg} (h1 : n ∈ g.marks) : stp room steps g (.take n) = some { g with place := n } := if_pos h1
theorem stp_drop {room steps n : Nat} {g : Sg} (h1 : n ∈ g.marks) : stp room steps g (.drop n) = some { g with marks := g.marks.filter fun x => !decide (x = n) } := if_pos h1
theorem stp_go {room steps n : Nat} {g : Sg} (h1 : 0 < n) (h2 : g.place + n ≤ steps) : stp room steps g (.go n) = some { g with place := g.place + n, cost := g.cost + n } := if_pos ⟨h1, h2⟩
/-- deeds as they lie -/
noncomputable def deedV : Dd → V
  | .keep => .tup [.str "keep"]
  | .meet => .tup [.str "meet"]
  | .take n => .tup [.str "take", .int n]
  | .drop n => .tup [.str "drop", .int n]
  | .go n => .tup [.str "go", .int n]

section
variable {c : Cx} {k : Nat} {ρ : Loc} {st : St} {Q : V → St → Prop} {X : Xp}
noncomputable def sndOk (lo : Int) (r : List V) : Bool := ((r.length + 1 : Nat) : Int) == 2 && (match r with | v :: _ => btwV lo 100 v | [] => false)
noncomputable def deedB : V → Bool
  | .tup (.str x :: r) => if (["keep", "meet"] : List Str).any (· == x) then ((r.length + 1 : Nat) : Int) == 1 else if (["take", "drop"] : List Str).any (· == x) then sndOk 0 r else (x == Str.ofString "go" && sndOk 1 r)
  | _ => false
theorem s_is_any (hK : Kc c) {v : V} {T : String} (ht : typV st v = some T) (hs : ∀ vs, v = .tup vs → (vs.length < 1000 ∧ ∀ u ∈ vs, (typV st u).isSome = true)) (h : Q (.bool (deedB v)) st) : CF c (k + 2) A_is_deed [v] ρ st Q X := by
  refine CallW.fn (Facts.fn_is_deed hK) rfl ?_
  ((refine WPS.cons ?_); (repeat' (first | (with_reducible first | refine WPAll.or ?_ | refine WPEs.nil ?_ | refine WPs.ifs ?_ | refine WPB.op ?_ | refine WPB.not ?_) | ((with_reducible refine WPEs.cons ?_ ?_); (case refine_2 => intros; rfl)) | ((with_reducible refine n_tuple ‹_› ?_ ?_); (case refine_1 => rfl)) | ((with_reducible refine c_isinstance ‹_› ?_ ?_ ?_); (case refine_1 => rfl); (case refine_3 => intros; rfl)) | ((with_reducible refine' WPE.nm ?_ ?_ ?_ ?_); (case refine'_2 => rfl); (case refine'_4 => decide); (case refine'_5 => decide)) | ((with_reducible refine WPB.val ?_ ?_); (case refine_2 => intros; rfl)) | fail)))
  refine WL.isinstance ht rfl ⟨_, rfl, ?_⟩
  by_cases hT : T = "tuple"
  · subst hT
    obtain ⟨vs, rfl⟩ := typ_tup ht
    obtain ⟨hl, hs⟩ := hs vs rfl
    (repeat' (first | (with_reducible first | refine WPAll.or ?_ | refine cnd_t ?_ | refine cnd_f ?_ | refine WPEs.nil ?_) | ((with_reducible refine WPEs.cons ?_ ?_); (case refine_2 => intros; rfl)) | ((with_reducible refine WPB.cmp ?_ ?_); (case refine_2 => rfl)) | ((with_reducible refine c_len ‹_› ?_ ?_ ?_); (case refine_1 => rfl); (case refine_3 => intros; rfl)) | ((with_reducible refine' WPE.nm ?_ ?_ ?_ ?_); (case refine'_2 => rfl); (case refine'_4 => decide); (case refine'_5 => decide)) | ((with_reducible refine cnd_is true ?_ ?_); (case refine_1 => rfl)) | fail))
    refine WL.lenTup (by ((with_reducible apply zJ); (with_reducible assumption); exact rfl)) ?_
    (repeat' (first | (with_reducible first | refine WPE.cint ?_ | refine W2.eqI ?_ | refine ⟨_, rfl, ?_⟩) | fail))
    cases vs with
    | nil =>
      (repeat' (first | (with_reducible first | refine WPE.cbool ?_ | refine nxt_ret ?_ | refine cnd_t ?_ | refine WPS.cons ?_ | refine WPs.ret ?_) | ((with_reducible refine cnd_is true ?_ ?_); (case refine_1 => rfl)) | fail))
      exact h
    | cons u r =>
      have hl' : ((u :: r).length : Int) < 2 ^ 63 := by ((with_reducible apply zJ); (with_reducible assumption); exact rfl)
      (repeat' (first | (with_reducible first | refine WPE.cint ?_ | refine WPAll.or ?_ | refine cnd_f ?_ | refine WPB.not ?_) | ((with_reducible refine WPEs.cons ?_ ?_); (case refine_2 => intros; rfl)) | ((with_reducible refine c_isinstance ‹_› ?_ ?_ ?_); (case refine_1 => rfl); (case refine_3 => intros; rfl)) | (with_reducible refine WPE.sub ?_) | ((with_reducible refine' WPE.nm ?_ ?_ ?_ ?_); (case refine'_2 => rfl); (case refine'_4 => decide); (case refine'_5 => decide)) | ((with_reducible refine WPB.val ?_ ?_); (case refine_2 => intros; rfl)) | ((with_reducible refine cnd_is false ?_ ?_); (case refine_1 => rfl)) | fail))
      refine W2.subTup rfl hl' seqIndex_0 rfl ?_
      obtain ⟨U, hU⟩ := Option.isSome_iff_exists.mp (hs u (by simp))
      (repeat' (first | (with_reducible refine WPEs.nil ?_) | ((with_reducible refine WPEs.cons ?_ ?_); (case refine_2 => intros; rfl)) | ((with_reducible refine n_str ‹_› ?_ ?_); (case refine_1 => rfl)) | fail))
      refine WL.isinstance hU rfl ⟨_, rfl, ?_⟩
      by_cases hS : U = "str"
      · subst hS
        obtain ⟨x, rfl⟩ := typ_str hU
        (repeat' (first | (with_reducible first | refine WPE.cint ?_ | refine WPAll.orNil ?_ | refine nxt_next ?_ | refine cnd_t ?_ | refine cnd_f ?_ | refine WPS.cons ?_ | refine WPS.nil ?_ | refine WPs.ifs ?_) | ((with_reducible refine WPB.cmp ?_ ?_); (case refine_2 => rfl)) | (with_reducible refine WPE.sub ?_) | ((with_reducible refine' WPE.nm ?_ ?_ ?_ ?_); (case refine'_2 => rfl); (case refine'_4 => decide); (case refine'_5 => decide)) | ((with_reducible refine cnd_is true ?_ ?_); (case refine_1 => rfl)) | fail))
        refine W2.subTup rfl hl' seqIndex_0 rfl ?_
        (repeat' (first | (with_reducible first | refine WPE.cstr ?_ | refine WPEs.nil ?_) | ((with_reducible refine WPEs.cons ?_ ?_); (case refine_2 => intros; rfl)) | ((with_reducible refine WPE.tup ?_ ?_); (case refine_2 => decide)) | fail))
        refine W2.inStrs (ys := ["keep", "meet"]) rfl ⟨_, rfl, ?_⟩
        simp only [deedB] at h
        refine cnd_cases (fun hb => ?_) (fun hb => ?_)
        · rw [if_pos hb] at h
          (repeat' (first | (with_reducible first | refine WPS.cons ?_ | refine WPEs.nil ?_ | refine WPs.ret ?_) | ((with_reducible refine WPEs.cons ?_ ?_); (case refine_2 => intros; rfl)) | ((with_reducible refine WPE.cmp ?_ ?_); (case refine_2 => rfl)) | ((with_reducible refine c_len ‹_› ?_ ?_ ?_); (case refine_1 => rfl); (case refine_3 => intros; rfl)) | ((with_reducible refine' WPE.nm ?_ ?_ ?_ ?_); (case refine'_2 => rfl); (case refine'_4 => decide); (case refine'_5 => decide)) | fail))
          refine WL.lenTup hl' ?_
          (repeat' (first | (with_reducible first | refine WPE.cint ?_ | refine W2.eqI ?_ | refine nxt_ret ?_) | fail))
          exact h
        · rw [if_neg (by rw [hb]; decide)] at h
          (repeat' (first | (with_reducible first | refine WPE.cint ?_ | refine nxt_next ?_ | refine WPS.cons ?_ | refine WPS.nil ?_ | refine WPs.ifs ?_) | ((with_reducible refine WPB.cmp ?_ ?_); (case refine_2 => rfl)) | (with_reducible refine WPE.sub ?_) | ((with_reducible refine' WPE.nm ?_ ?_ ?_ ?_); (case refine'_2 => rfl); (case refine'_4 => decide); (case refine'_5 => decide)) | fail))
          refine W2.subTup rfl hl' seqIndex_0 rfl ?_
          (repeat' (first | (with_reducible first | refine WPE.cstr ?_ | refine WPEs.nil ?_) | ((with_reducible refine WPEs.cons ?_ ?_); (case refine_2 => intros; rfl)) | ((with_reducible refine WPE.tup ?_ ?_); (case refine_2 => decide)) | fail))
          refine W2.inStrs (ys := ["take", "drop"]) rfl ⟨_, rfl, ?_⟩
          refine cnd_cases (fun hb2 => ?_) (fun hb2 => ?_)
          · rw [if_pos hb2] at h
            (repeat' (first | (with_reducible first | refine WPE.and ?_ | refine WPS.cons ?_ | refine WPEs.nil ?_ | refine WPs.ret ?_) | ((with_reducible refine WPEs.cons ?_ ?_); (case refine_2 => intros; rfl)) | ((with_reducible refine WPE.cmp ?_ ?_); (case refine_2 => rfl)) | ((with_reducible refine c_len ‹_› ?_ ?_ ?_); (case refine_1 => rfl); (case refine_3 => intros; rfl)) | ((with_reducible refine' WPE.nm ?_ ?_ ?_ ?_); (case refine'_2 => rfl); (case refine'_4 => decide); (case refine'_5 => decide)) | fail))
            refine WL.lenTup hl' ?_
            (repeat' (first | (with_reducible first | refine WPE.cint ?_ | refine W2.eqI ?_ | refine ⟨_, rfl, ?_⟩) | fail))
            unfold sndOk at h
            refine cnd_cases (fun hb3 => ?_) (fun hb3 => ?_)
            · have e3 : ((r.length + 1 : Nat) : Int) == 2 := hb3
              rw [e3, Bool.true_and] at h
              cases r with
              | nil => simp at e3
              | cons w r =>
                (repeat' (first | (with_reducible first | refine WPE.cint ?_ | refine WPE.opOne ?_) | ((with_reducible refine WPEs.cons ?_ ?_); (case refine_2 => intros; rfl)) | ((with_reducible refine c_between ‹_› ?_ ?_ ?_); (case refine_1 => rfl); (case refine_3 => intros; rfl)) | (with_reducible refine WPE.sub ?_) | ((with_reducible refine' WPE.nm ?_ ?_ ?_ ?_); (case refine'_2 => rfl); (case refine'_4 => decide); (case refine'_5 => decide)) | fail))
                refine W2.subTup rfl hl' seqIndex_1 rfl ?_
                obtain ⟨W, hW⟩ := Option.isSome_iff_exists.mp (hs w (by simp))
                (repeat' (first | (with_reducible first | refine WPE.cint ?_ | refine WPEs.nil ?_) | ((with_reducible refine WPEs.cons ?_ ?_); (case refine_2 => intros; rfl)) | ((with_reducible refine n_MOST ‹_› ?_ ?_); (case refine_1 => rfl)) | fail))
                exact s_between hK hW h
            · have e3 : (((r.length + 1 : Nat) : Int) == 2) = false := hb3
              rw [e3, Bool.false_and] at h
              exact h
          · rw [if_neg (by rw [hb2]; decide)] at h
            (repeat' (first | (with_reducible first | refine WPE.cint ?_ | refine WPE.and ?_ | refine nxt_next ?_ | refine WPS.cons ?_ | refine WPS.nil ?_ | refine WPs.ret ?_) | ((with_reducible refine WPE.cmp ?_ ?_); (case refine_2 => rfl)) | (with_reducible refine WPE.sub ?_) | ((with_reducible refine' WPE.nm ?_ ?_ ?_ ?_); (case refine'_2 => rfl); (case refine'_4 => decide); (case refine'_5 => decide)) | fail))
            refine W2.subTup rfl hl' seqIndex_0 rfl ?_
            (repeat' (first | (with_reducible first | refine WPE.cstr ?_ | refine W2.eqS ?_ | refine ⟨_, rfl, ?_⟩) | fail))
            refine cnd_cases (fun hb4 => ?_) (fun hb4 => ?_)
            · have e4 : (x == Str.ofString "go") = true := hb4
              rw [e4, Bool.true_and] at h
              (repeat' (first | (with_reducible first | refine WPE.and ?_ | refine WPEs.nil ?_) | ((with_reducible refine WPEs.cons ?_ ?_); (case refine_2 => intros; rfl)) | ((with_reducible refine WPE.cmp ?_ ?_); (case refine_2 => rfl)) | ((with_reducible refine c_len ‹_› ?_ ?_ ?_); (case refine_1 => rfl); (case refine_3 => intros; rfl)) | ((with_reducible refine' WPE.nm ?_ ?_ ?_ ?_); (case refine'_2 => rfl); (case refine'_4 => decide); (case refine'_5 => decide)) | fail))
              refine WL.lenTup hl' ?_
              (repeat' (first | (with_reducible first | refine WPE.cint ?_ | refine W2.eqI ?_ | refine ⟨_, rfl, ?_⟩) | fail))
              unfold sndOk at h
              refine cnd_cases (fun hb3 => ?_) (fun hb3 => ?_)
              · have e3 : ((r.length + 1 : Nat) : Int) == 2 := hb3
                rw [e3, Bool.true_and] at h
                cases r with
                | nil => simp at e3
                | cons w r =>
                  (repeat' (first | (with_reducible first | refine WPE.cint ?_ | refine WPE.opOne ?_) | ((with_reducible refine WPEs.cons ?_ ?_); (case refine_2 => intros; rfl)) | ((with_reducible refine c_between ‹_› ?_ ?_ ?_); (case refine_1 => rfl); (case refine_3 => intros; rfl)) | (with_reducible refine WPE.sub ?_) | ((with_reducible refine' WPE.nm ?_ ?_ ?_ ?_); (case refine'_2 => rfl); (case refine'_4 => decide); (case refine'_5 => decide)) | fail))
                  refine W2.subTup rfl hl' seqIndex_1 rfl ?_
                  obtain ⟨W, hW⟩ := Option.isSome_iff_exists.mp (hs w (by simp))
                  (repeat' (first | (with_reducible first | refine WPE.cint ?_ | refine WPEs.nil ?_) | ((with_reducible refine WPEs.cons ?_ ?_); (case refine_2 => intros; rfl)) | ((with_reducible refine n_MOST ‹_› ?_ ?_); (case refine_1 => rfl)) | fail))
                  exact s_between hK hW h
              · have e3 : (((r.length + 1 : Nat) : Int) == 2) = false := hb3
                rw [e3, Bool.false_and] at h
                exact h
            · have e4 : (x == Str.ofString "go") = false := hb4
              rw [e4, Bool.false_and] at h
              exact h
      · have : isi U "str" = false := by simp [isi, hS]
        rw [this]
        (repeat' (first | (with_reducible first | refine WPE.cbool ?_ | refine nxt_ret ?_ | refine cnd_t ?_ | refine cnd_f ?_ | refine WPS.cons ?_ | refine WPs.ret ?_) | fail))
        have hf : deedB (.tup (u :: r)) = false := by
          cases u <;> first | rfl | (exact absurd (Option.some.inj hU).symm hS)
        rw [hf] at h; exact h
  · have : isi T "tuple" = false := by simp [isi, hT]
    rw [this]
    (repeat' (first | (with_reducible first | refine WPE.cbool ?_ | refine nxt_ret ?_ | refine cnd_t ?_ | refine cnd_f ?_ | refine WPS.cons ?_ | refine WPs.ret ?_) | fail))
    have hf : deedB v = false := by
      cases v <;> first | rfl | (exact absurd (Option.some.inj ht).symm hT)
    rw [hf] at h; exact h
noncomputable def deedOk : Dd → Prop
  | .take n => n ≤ 100
  | .drop n => n ≤ 100
  | .go n => 1 ≤ n ∧ n ≤ 100
  | _ => True
theorem deedB_ok {d : Dd} (hd : deedOk d) : deedB (deedV d) = true := by
  have kd : ∀ x : Str, x ∈ (["keep", "meet"] : List Str) → deedB (.tup [.str x]) = true := by decide +kernel
  have t1 : ((["keep", "meet"] : List Str).any (· == Str.ofString "take")) = false ∧ ((["keep", "meet"] : List Str).any (· == Str.ofString "drop")) = false ∧ ((["keep", "meet"] : List Str).any (· == Str.ofString "go")) = false ∧ ((["take", "drop"] : List Str).any (· == Str.ofString "take")) = true ∧ ((["take", "drop"] : List Str).any (· == Str.ofString "drop")) = true ∧ ((["take", "drop"] : List Str).any (· == Str.ofString "go")) = false := by decide +kernel
  obtain ⟨q1, q2, q3, q4, q5, q6⟩ := t1
  cases d with
  | keep => exact kd _ (by simp)
  | meet => exact kd _ (by simp)
  | take n => simp only [deedOk] at hd; simp only [deedV, deedB, q1, q4, sndOk, btwV]; simp; lia
  | drop n => simp only [deedOk] at hd; simp only [deedV, deedB, q2, q5, sndOk, btwV]; simp; lia
  | go n => simp only [deedOk] at hd; simp only [deedV, deedB, q3, q6, sndOk, btwV]; simp; lia
theorem s_is_deed (hK : Kc c) {d : Dd} (hd : deedOk d) (h : Q (.bool true) st) : CF c (k + 2) A_is_deed [deedV d] ρ st Q X := by
  refine s_is_any hK (T := "tuple") (by cases d <;> rfl) ?_ (by rw [deedB_ok hd]; exact h)
  intro vs e
  cases d <;> cases e <;> refine ⟨by simp, ?_⟩ <;> simp [typV]
end

section
variable {c : Cx} {k : Nat} {sc : Scope} {ρ : Loc} {st : St} {Q : V → St → Prop} {X : Xp}
/-- an attribute of self -/
theorem selfA {name x' : Str} {p pos : Pos} {x C d : Addr} {fs : List (Str × V)} {u : V} (hρ : getL ρ x' = some (.ref x)) (hd : (x' == ("__debug__" : Str)) = false) (hn : (x' == ("__classdict__" : Str)) = false) (hi : get st x = some (.inst C d)) (ha : get st d = some (.attr fs)) (hc : ClsK c.K C name) (hu : getL fs name = some u) (hp : plainV u = true) (h : Q u st) : WPE c k sc ρ st (.Attribute (.Name x' p) name pos) Q X :=
  WPE.attr (WPE.nm hρ ⟨x, C, d, fs, u, rfl, hi, ha, hc, hu, hp, h⟩ hd hn)
noncomputable def sKv (fs : Int) (rs : List Ru) (ms : List Nat) : List (Int × V) := ms.map fun (m : Nat) => ((m : Int), V.int (stN fs rs m))
noncomputable def wantV : Nat → V
  | 0 => .none
  | n + 1 => .int (n : Int)
noncomputable def seenL (fs : Int) (rs : List Ru) (n : Nat) : List Int := (List.range n).map fun i => stN fs rs (rs.length - i)
noncomputable abbrev AW (ru sh se : Addr) (room pl sv dn : Int) (wn : V) : List (Str × V) := [("rules", .ref ru), ("room", .int room), ("place", .int pl), ("state", .int sv), ("done", .int dn), ("wanted", wn), ("shelf", .ref sh), ("seen", .ref se)]
/-- a walker as it lies -/
structure Wk (st : St) (x d ru sh se : Addr) (fs : Int) (rs : List Ru) (room : Nat) (g : Sg) : Prop where
  i : get st x = some (.inst A_Walker d)
  a : get st d = some (.attr (AW ru sh se room g.place (stN fs rs g.place) g.cost (wantV g.want)))
  r : get st ru = some (.list (rs.map Ru.v))
  k : get st sh = some (.dictI (sKv fs rs g.marks))
  s : get st se = some (.list ((seenL fs rs (rs.length + 1 - g.want)).map .int))
  ne : ru ≠ se
  sys : (sh == sysModules) = false
  pl : g.place ≤ rs.length
  ml : ∀ m ∈ g.marks, m ≤ rs.length
  wl : g.want ≤ rs.length + 1
  nd : g.marks.Nodup
  rl : g.marks.length ≤ room
theorem sKv_val : ∀ {fs : Int} {rs : List Ru} {ms : List Nat} {n : Nat}, valA (sKv fs rs ms) (n : Int) = if n ∈ ms then some (.int (stN fs rs n)) else none
  | fs, rs, [], n => rfl
  | fs, rs, m :: ms, n => by
    have ih := sKv_val (fs := fs) (rs := rs) (ms := ms) (n := n)
    unfold sKv valA at ih ⊢
    rw [List.map_cons, List.find?_cons]
    by_cases e : m = n
    · subst e; simp
    · have : ¬ (m : Int) = (n : Int) := by lia
      have e' : ¬ n = m := fun q => e q.symm
      simp only [this, decide_false, List.mem_cons, e', false_or]
      exact ih
theorem sKv_put {fs : Int} {rs : List Ru} {ms : List Nat} {n : Nat} (h : n ∉ ms) : putA (sKv fs rs ms) (n : Int) (.int (stN fs rs n)) = sKv fs rs (ms ++ [n]) := by
  unfold putA
  rw [if_neg]
  · simp [sKv]
  · unfold sKv
    simp
    intro x hx e
    exact h ((by lia : x = n) ▸ hx)
theorem sKv_del {fs : Int} {rs : List Ru} {ms : List Nat} {n : Nat} : delA (sKv fs rs ms) (n : Int) = sKv fs rs (ms.filter fun x => !decide (x = n)) := by
  unfold delA sKv
  rw [List.filter_map]
  congr 1
  refine List.filter_congr fun x _ => ?_
  simp only [Function.comp]
  by_cases e : x = n
  · subst e; simp
  · have : ¬ (x : Int) = (n : Int) := by lia
    simp [e, this]
theorem sKv_len {fs : Int} {rs : List Ru} {ms : List Nat} : (sKv fs rs ms).length = ms.length := by simp [sKv]
noncomputable def KeepBut (st st' : St) (as : List Addr) : Prop := ∀ a o, a ∉ as → get st a = some o → get st' a = some o
theorem KeepBut.refl {as : List Addr} : KeepBut st st as := fun _ _ _ h => h
theorem KeepBut.trans {st₁ st₂ st₃ : St} {as : List Addr} (h : KeepBut st₁ st₂ as) (h' : KeepBut st₂ st₃ as) : KeepBut st₁ st₃ as := fun a o ha hg => h' a o ha (h a o ha hg)
theorem KeepBut.upd {st' : St} {as : List Addr} {x : Addr} {o : O} (h : KeepBut st st' as) (hx : x ∈ as) : KeepBut st (upd st' x o) as := fun a o' ha hg => (get_upd_ne fun e => ha (by rw [e]; exact hx)).trans (h a o' ha hg)
theorem KeepBut.of {st' : St} {as : List Addr} (h : Le st st') : KeepBut st st' as := fun a o _ hg => h a o hg
theorem Wk.le {st' : St} {x d ru sh se : Addr} {fs : Int} {rs : List Ru} {room : Nat} {g : Sg} (W : Wk st x d ru sh se fs rs room g) (hle : Le st st') : Wk st' x d ru sh se fs rs room g :=
  { W with i := hle _ _ W.i, a := hle _ _ W.a, r := hle _ _ W.r, k := hle _ _ W.k, s := hle _ _ W.s }
theorem Wk.dn {x d ru sh se : Addr} {fs : Int} {rs : List Ru} {room : Nat} {g : Sg} (W : Wk st x d ru sh se fs rs room g) : x ≠ d ∧ ru ≠ d ∧ sh ≠ d ∧ se ≠ d ∧ x ≠ sh ∧ ru ≠ sh ∧ se ≠ sh ∧ x ≠ se ∧ x ≠ ru := by
  have i := W.i; have a := W.a; have r := W.r; have k := W.k; have s := W.s
  refine ⟨?_, ?_, ?_, ?_, ?_, ?_, ?_, ?_, ?_⟩ <;> (intro e; subst e; simp_all)
variable {x d ru sh se : Addr} {fs : Int} {rs : List Ru} {room : Nat} {g g' : Sg}
theorem s_keep_it (hK : Kc c) (hq : c.q = true) (W : Wk st x d ru sh se fs rs room g) (hr : room ≤ 1000) (hs : stp room rs.length g .keep = some g') (h : ∀ st', KeepBut st st' [d, sh, se] → Wk st' x d ru sh se fs rs room g' → Q .none st') : CF c (k + 1) A_Walker_keep_it [.ref x] ρ st Q X := by
  simp only [stp] at hs
  split at hs
  · rename_i hc
    obtain ⟨hc1, hc2⟩ := hc
    cases hs
    obtain ⟨n1, n2, n3, n4, n5, n6, n7, n8, n9⟩ := W.dn
    refine CallW.fn (Facts.fn_Walker_keep_it hK) rfl ?_
    ((refine WPS.cons ?_); (repeat' (first | (with_reducible refine WPs.ifs ?_) | ((with_reducible refine WPB.cmp ?_ ?_); (case refine_2 => rfl)) | fail)))
    refine selfA rfl (by decide) (by decide) W.i W.a (Facts.at_Walker_place hK) rfl rfl ?_
    refine selfA rfl (by decide) (by decide) W.i W.a (Facts.at_Walker_shelf hK) rfl rfl ?_
    refine W2.inDict W.sys W.k ?_
    rw [sKv_val, if_neg hc1]
    (repeat' (first | (with_reducible first | refine nxt_next ?_ | refine cnd_f ?_ | refine WPS.cons ?_ | refine WPS.nil ?_ | refine WPs.ifs ?_) | ((with_reducible refine WPEs.cons ?_ ?_); (case refine_2 => intros; rfl)) | ((with_reducible refine WPB.cmp ?_ ?_); (case refine_2 => rfl)) | ((with_reducible refine c_len ‹_› ?_ ?_ ?_); (case refine_1 => rfl); (case refine_3 => intros; rfl)) | ((with_reducible refine cnd_is false ?_ ?_); (case refine_1 => rfl)) | (with_reducible refine ⟨_, rfl, ?_⟩) | fail))
    refine selfA rfl (by decide) (by decide) W.i W.a (Facts.at_Walker_shelf hK) rfl rfl ?_
    (repeat' (first | (with_reducible refine WPEs.nil ?_) | fail))
    refine WL.lenDict W.sys W.k (by rw [sKv_len]; lia) ?_
    refine selfA rfl (by decide) (by decide) W.i W.a (Facts.at_Walker_room hK) rfl rfl ?_
    (repeat' (first | (with_reducible first | refine W2.eqI ?_ | refine ⟨_, rfl, ?_⟩) | fail))
    rw [sKv_len]
    refine cnd_is false (by simp; lia) ?_
    (repeat' (first | (with_reducible refine WPS.nil ?_) | ((fail_if_success (with_reducible show WPS _ _ _ _ _ _ _ _)); (first | (with_reducible first | refine nxt_next ?_ | refine cnd_f ?_) | fail)) | fail))
    refine WPS.cons ?_
    refine WPs.setItem ?_
    refine selfA rfl (by decide) (by decide) W.i W.a (Facts.at_Walker_state hK) rfl rfl ?_
    refine selfA rfl (by decide) (by decide) W.i W.a (Facts.at_Walker_shelf hK) rfl rfl ?_
    refine selfA rfl (by decide) (by decide) W.i W.a (Facts.at_Walker_place hK) rfl rfl ?_
    refine W3.putI W.k (by rw [sKv_len]; lia) ?_
    (repeat' (first | (with_reducible refine WPS.nil ?_) | ((fail_if_success (with_reducible show WPS _ _ _ _ _ _ _ _)); (first | (with_reducible refine nxt_next ?_) | fail)) | fail))
    rw [sKv_put hc1]
    refine h _ (KeepBut.refl.upd (by simp)) { W with i := (get_upd_ne n5).trans W.i, a := (get_upd_ne (Ne.symm n3)).trans W.a, r := (get_upd_ne n6).trans W.r, k := get_upd_self W.k, s := (get_upd_ne n7).trans W.s, ml := ?_, nd := ?_, rl := ?_ }
    · intro m hm
      rcases List.mem_append.mp hm with q | q
      · exact W.ml m q
      · simp at q; subst q; exact W.pl
    · rw [List.nodup_append]
      refine ⟨W.nd, by simp, ?_⟩
      intro a ha b hb e
      simp at hb
      subst hb
      exact hc1 (e ▸ ha)
    · simp; lia
  · cases hs
theorem s_meet_it (hK : Kc c) (hq : c.q = true) (W : Wk st x d ru sh se fs rs room g) (hr : rs.length ≤ 1000) (hs : stp room rs.length g .meet = some g') (h : ∀ st', KeepBut st st' [d, sh, se] → Wk st' x d ru sh se fs rs room g' → Q .none st') : CF c (k + 1) A_Walker_meet_it [.ref x] ρ st Q X := by
  simp only [stp] at hs
  split at hs
  · rename_i hc
    cases hs
    obtain ⟨n1, n2, n3, n4, n5, n6, n7, n8, n9⟩ := W.dn
    have hwv : wantV g.want = .int (g.place : Int) := by rw [hc]; rfl
    have A := W.a
    rw [hwv] at A
    have hpl := W.pl
    refine CallW.fn (Facts.fn_Walker_meet_it hK) rfl ?_
    ((refine WPS.cons ?_); (repeat' (first | (with_reducible first | refine WPAll.or ?_ | refine WPs.ifs ?_ | refine WPB.op ?_) | ((with_reducible refine WPB.cmp ?_ ?_); (case refine_2 => rfl)) | fail)))
    refine selfA rfl (by decide) (by decide) W.i A (Facts.at_Walker_wanted hK) rfl rfl ?_
    (repeat' (first | (with_reducible first | refine WPE.cnone ?_ | refine WPAll.or ?_ | refine cnd_f ?_) | ((with_reducible refine WPB.cmp ?_ ?_); (case refine_2 => rfl)) | ((with_reducible refine W2.isN ?_ ?_); (case refine_1 => rfl)) | ((with_reducible refine cnd_is false ?_ ?_); (case refine_1 => rfl)) | (with_reducible refine ⟨_, rfl, ?_⟩) | fail))
    refine selfA rfl (by decide) (by decide) W.i A (Facts.at_Walker_place hK) rfl rfl ?_
    refine selfA rfl (by decide) (by decide) W.i A (Facts.at_Walker_wanted hK) rfl rfl ?_
    (repeat' (first | (with_reducible first | refine W2.neI ?_ | refine ⟨_, rfl, ?_⟩) | fail))
    refine cnd_is false (by simp) ?_
    (repeat' (first | (with_reducible first | refine WPAll.orNil ?_ | refine nxt_next ?_ | refine cnd_f ?_ | refine WPS.cons ?_ | refine WPS.nil ?_) | ((with_reducible refine WPs.expr ?_ ?_); (case refine_2 => intros; rfl)) | ((with_reducible refine WPE.mAppend ?_ ?_ ?_); (case refine_2 => rfl); (case refine_3 => intros; exact ⟨_, rfl⟩)) | fail))
    refine selfA rfl (by decide) (by decide) W.i A (Facts.at_Walker_seen hK) rfl rfl ?_
    refine ⟨_, _, rfl, W.s, ?_⟩
    (repeat' (first | ((with_reducible refine WPEs.cons ?_ ?_); (case refine_2 => intros; rfl)) | fail))
    refine selfA rfl (by decide) (by decide) W.i A (Facts.at_Walker_state hK) rfl rfl ?_
    (repeat' (first | (with_reducible refine WPEs.nil ?_) | fail))
    refine WL.append W.s (by simp [seenL]; lia) ?_
    have A1 := (get_upd_ne (o := .list ((seenL fs rs (rs.length + 1 - g.want)).map .int ++ [.int (stN fs rs g.place)])) (Ne.symm n4)).trans A
    have I1 := (get_upd_ne (o := .list ((seenL fs rs (rs.length + 1 - g.want)).map .int ++ [.int (stN fs rs g.place)])) n8).trans W.i
    have S1 := get_upd_self (o := .list ((seenL fs rs (rs.length + 1 - g.want)).map .int ++ [.int (stN fs rs g.place)])) W.s
    have R1 := (get_upd_ne (o := .list ((seenL fs rs (rs.length + 1 - g.want)).map .int ++ [.int (stN fs rs g.place)])) W.ne).trans W.r
    have K1 := (get_upd_ne (o := .list ((seenL fs rs (rs.length + 1 - g.want)).map .int ++ [.int (stN fs rs g.place)])) (Ne.symm n7)).trans W.k
    have B1 := (KeepBut.refl (st := st) (as := [d, sh, se])).upd (x := se) (o := .list ((seenL fs rs (rs.length + 1 - g.want)).map .int ++ [.int (stN fs rs g.place)])) (by simp)
    have hsn : (seenL fs rs (rs.length + 1 - g.want)).map V.int ++ [.int (stN fs rs g.place)] = (seenL fs rs (rs.length + 1 - g.place)).map V.int := by
      rw [hc, show rs.length + 1 - g.place = (rs.length + 1 - (g.place + 1)) + 1 by lia]
      unfold seenL
      rw [List.range_succ, List.map_append, List.map_append]
      simp only [List.map_cons, List.map_nil]
      rw [show rs.length - (rs.length + 1 - (g.place + 1)) = g.place by lia]
    generalize upd st se (.list ((seenL fs rs (rs.length + 1 - g.want)).map .int ++ [.int (stN fs rs g.place)])) = st₁ at A1 I1 S1 R1 K1 B1 ⊢
    rw [hsn] at S1
    (repeat' (first | ((fail_if_success (with_reducible show WPS _ _ _ _ _ _ _ _)); (first | (with_reducible refine nxt_next ?_) | fail)) | fail))
    refine WPS.cons ?_
    refine WPs.setAttr ?_
    (repeat' (first | ((fail_if_success (with_reducible show WPS _ _ _ _ _ _ _ _)); (first | (with_reducible refine WPE.ife ?_) | ((with_reducible refine WPB.cmp ?_ ?_); (case refine_2 => rfl)) | fail)) | fail))
    refine selfA rfl (by decide) (by decide) I1 A1 (Facts.at_Walker_place hK) rfl rfl ?_
    (repeat' (first | ((fail_if_success (with_reducible show WPS _ _ _ _ _ _ _ _)); (first | (with_reducible first | refine WPE.cint ?_ | refine W2.eqI ?_ | refine ⟨_, rfl, ?_⟩) | fail)) | fail))
    by_cases hz : g.place = 0
    · refine cnd_is true (by simp [hz]) ?_
      (repeat' (first | ((fail_if_success (with_reducible show WPS _ _ _ _ _ _ _ _)); (first | (with_reducible first | refine WPE.cnone ?_ | refine cnd_t ?_) | ((with_reducible refine' WPE.nm ?_ ?_ ?_ ?_); (case refine'_2 => rfl); (case refine'_4 => decide); (case refine'_5 => decide)) | fail)) | fail))
      refine ⟨_, _, _, _, rfl, I1, A1, Facts.at_Walker_wanted hK, by simp, ?_⟩
      (repeat' (first | (with_reducible refine WPS.nil ?_) | ((fail_if_success (with_reducible show WPS _ _ _ _ _ _ _ _)); (first | (with_reducible refine nxt_next ?_) | fail)) | fail))
      refine h _ (B1.upd (by simp)) { W with i := (get_upd_ne n1).trans I1, a := ?_, r := (get_upd_ne n2).trans R1, k := (get_upd_ne n3).trans K1, s := (get_upd_ne n4).trans S1, wl := by dsimp; lia }
      rw [get_upd_self A1]
      dsimp only
      rw [hz]; rfl
    · refine cnd_is false (by simp [hz]) ?_
      (repeat' (first | ((fail_if_success (with_reducible show WPS _ _ _ _ _ _ _ _)); (first | (with_reducible first | refine WPE.bin ?_ | refine cnd_f ?_) | fail)) | fail))
      refine selfA rfl (by decide) (by decide) I1 A1 (Facts.at_Walker_place hK) rfl rfl ?_
      (repeat' (first | ((fail_if_success (with_reducible show WPS _ _ _ _ _ _ _ _)); (first | (with_reducible first | refine WPE.cint ?_ | refine W2.subI ?_) | ((with_reducible refine' WPE.nm ?_ ?_ ?_ ?_); (case refine'_2 => rfl); (case refine'_4 => decide); (case refine'_5 => decide)) | fail)) | fail))
      refine ⟨_, _, _, _, rfl, I1, A1, Facts.at_Walker_wanted hK, by simp, ?_⟩
      (repeat' (first | (with_reducible refine WPS.nil ?_) | ((fail_if_success (with_reducible show WPS _ _ _ _ _ _ _ _)); (first | (with_reducible refine nxt_next ?_) | fail)) | fail))
      refine h _ (B1.upd (by simp)) { W with i := (get_upd_ne n1).trans I1, a := ?_, r := (get_upd_ne n2).trans R1, k := (get_upd_ne n3).trans K1, s := (get_upd_ne n4).trans S1, wl := by dsimp; lia }
      rw [get_upd_self A1]
      dsimp only
      obtain ⟨j, hj⟩ : ∃ j, g.place = j + 1 := ⟨g.place - 1, by lia⟩
      rw [hj, show wantV (j + 1) = .int (j : Int) from rfl, show ((j + 1 : Nat) : Int) - 1 = (j : Int) by with_reducible exact zT]
      rfl
  · cases hs
theorem s_handle (hK : Kc c) (hq : c.q = true) {n : Nat} {w : Str} {dd : Dd} (hw : (w = "take" ∧ dd = .take n) ∨ (w = "drop" ∧ dd = .drop n)) (W : Wk st x d ru sh se fs rs room g) (hr : room ≤ 1000) (hs : stp room rs.length g dd = some g') (h : ∀ st', KeepBut st st' [d, sh, se] → Wk st' x d ru sh se fs rs room g' → Q .none st') : CF c (k + 1) A_Walker_handle [.ref x, .str w, .int n] ρ st Q X := by
  have hml := W.rl
  obtain ⟨n1, n2, n3, n4, n5, n6, n7, n8, n9⟩ := W.dn
  refine CallW.fn (Facts.fn_Walker_handle hK) rfl ?_
  rcases hw with ⟨rfl, rfl⟩ | ⟨rfl, rfl⟩
  · simp only [stp] at hs
    split at hs
    · rename_i hc
      cases hs
      ((refine WPS.cons ?_); (repeat' (first | (with_reducible refine WPs.ifs ?_) | ((with_reducible refine WPB.cmp ?_ ?_); (case refine_2 => rfl)) | ((with_reducible refine' WPE.nm ?_ ?_ ?_ ?_); (case refine'_2 => rfl); (case refine'_4 => decide); (case refine'_5 => decide)) | fail)))
      refine selfA rfl (by decide) (by decide) W.i W.a (Facts.at_Walker_shelf hK) rfl rfl ?_
      refine W2.notInDict W.sys W.k ?_
      rw [sKv_val, if_pos hc]
      (repeat' (first | (with_reducible refine WPS.nil ?_) | ((fail_if_success (with_reducible show WPS _ _ _ _ _ _ _ _)); (first | (with_reducible first | refine nxt_next ?_ | refine cnd_f ?_) | ((with_reducible refine cnd_is false ?_ ?_); (case refine_1 => rfl)) | (with_reducible refine ⟨_, rfl, ?_⟩) | fail)) | fail))
      refine WPS.cons ?_
      (repeat' (first | ((fail_if_success (with_reducible show WPS _ _ _ _ _ _ _ _)); (first | (with_reducible first | refine WPE.cstr ?_ | refine W2.eqS ?_ | refine cnd_f ?_ | refine WPs.ifs ?_) | ((with_reducible refine WPB.cmp ?_ ?_); (case refine_2 => rfl)) | ((with_reducible refine' WPE.nm ?_ ?_ ?_ ?_); (case refine'_2 => rfl); (case refine'_4 => decide); (case refine'_5 => decide)) | ((with_reducible refine cnd_is false ?_ ?_); (case refine_1 => rfl)) | (with_reducible refine ⟨_, rfl, ?_⟩) | fail)) | fail))
      refine WPS.cons ?_
      refine WPs.setAttr ?_
      (repeat' (first | ((fail_if_success (with_reducible show WPS _ _ _ _ _ _ _ _)); (first | ((with_reducible refine' WPE.nm ?_ ?_ ?_ ?_); (case refine'_2 => rfl); (case refine'_4 => decide); (case refine'_5 => decide)) | fail)) | fail))
      refine ⟨_, _, _, _, rfl, W.i, W.a, Facts.at_Walker_place hK, by simp, ?_⟩
      have A1 := get_upd_self (o := .attr (setL (AW ru sh se room g.place (stN fs rs g.place) g.cost (wantV g.want)) "place" (.int (n : Int)))) W.a
      have I1 := (get_upd_ne (o := .attr (setL (AW ru sh se room g.place (stN fs rs g.place) g.cost (wantV g.want)) "place" (.int (n : Int)))) n1).trans W.i
      have R1 := (get_upd_ne (o := .attr (setL (AW ru sh se room g.place (stN fs rs g.place) g.cost (wantV g.want)) "place" (.int (n : Int)))) n2).trans W.r
      have K1 := (get_upd_ne (o := .attr (setL (AW ru sh se room g.place (stN fs rs g.place) g.cost (wantV g.want)) "place" (.int (n : Int)))) n3).trans W.k
      have S1 := (get_upd_ne (o := .attr (setL (AW ru sh se room g.place (stN fs rs g.place) g.cost (wantV g.want)) "place" (.int (n : Int)))) n4).trans W.s
      have B1 := (KeepBut.refl (st := st) (as := [d, sh, se])).upd (x := d) (o := .attr (setL (AW ru sh se room g.place (stN fs rs g.place) g.cost (wantV g.want)) "place" (.int (n : Int)))) (by simp)
      generalize upd st d (.attr (setL (AW ru sh se room g.place (stN fs rs g.place) g.cost (wantV g.want)) "place" (.int (n : Int)))) = st₁ at A1 I1 R1 K1 S1 B1
      (repeat' (first | ((fail_if_success (with_reducible show WPS _ _ _ _ _ _ _ _)); (first | (with_reducible refine nxt_next ?_) | fail)) | fail))
      refine WPS.cons ?_
      refine WPs.setAttr ?_
      (repeat' (first | ((fail_if_success (with_reducible show WPS _ _ _ _ _ _ _ _)); (first | (with_reducible refine WPE.sub ?_) | fail)) | fail))
      refine selfA rfl (by decide) (by decide) I1 A1 (Facts.at_Walker_shelf hK) rfl rfl ?_
      (repeat' (first | ((fail_if_success (with_reducible show WPS _ _ _ _ _ _ _ _)); (first | ((with_reducible refine' WPE.nm ?_ ?_ ?_ ?_); (case refine'_2 => rfl); (case refine'_4 => decide); (case refine'_5 => decide)) | fail)) | fail))
      refine W2.getI K1 rfl (by rw [sKv_val, if_pos hc]) ?_
      (repeat' (first | ((fail_if_success (with_reducible show WPS _ _ _ _ _ _ _ _)); (first | ((with_reducible refine' WPE.nm ?_ ?_ ?_ ?_); (case refine'_2 => rfl); (case refine'_4 => decide); (case refine'_5 => decide)) | fail)) | fail))
      refine ⟨_, _, _, _, rfl, I1, A1, Facts.at_Walker_state hK, Nat.le_of_ble_eq_true rfl, ?_⟩
      (repeat' (first | (with_reducible refine WPS.nil ?_) | ((fail_if_success (with_reducible show WPS _ _ _ _ _ _ _ _)); (first | (with_reducible refine nxt_next ?_) | fail)) | fail))
      exact h _ (B1.upd (by simp)) { W with i := (get_upd_ne n1).trans I1, a := get_upd_self A1, r := (get_upd_ne n2).trans R1, k := (get_upd_ne n3).trans K1, s := (get_upd_ne n4).trans S1, pl := W.ml n hc }
    · cases hs
  · simp only [stp] at hs
    split at hs
    · rename_i hc
      cases hs
      ((refine WPS.cons ?_); (repeat' (first | (with_reducible refine WPs.ifs ?_) | ((with_reducible refine WPB.cmp ?_ ?_); (case refine_2 => rfl)) | ((with_reducible refine' WPE.nm ?_ ?_ ?_ ?_); (case refine'_2 => rfl); (case refine'_4 => decide); (case refine'_5 => decide)) | fail)))
      refine selfA rfl (by decide) (by decide) W.i W.a (Facts.at_Walker_shelf hK) rfl rfl ?_
      refine W2.notInDict W.sys W.k ?_
      rw [sKv_val, if_pos hc]
      (repeat' (first | (with_reducible refine WPS.nil ?_) | ((fail_if_success (with_reducible show WPS _ _ _ _ _ _ _ _)); (first | (with_reducible first | refine nxt_next ?_ | refine cnd_f ?_) | ((with_reducible refine cnd_is false ?_ ?_); (case refine_1 => rfl)) | (with_reducible refine ⟨_, rfl, ?_⟩) | fail)) | fail))
      refine WPS.cons ?_
      (repeat' (first | ((fail_if_success (with_reducible show WPS _ _ _ _ _ _ _ _)); (first | (with_reducible first | refine WPE.cstr ?_ | refine W2.eqS ?_ | refine cnd_t ?_ | refine WPs.ifs ?_) | ((with_reducible refine WPB.cmp ?_ ?_); (case refine_2 => rfl)) | ((with_reducible refine' WPE.nm ?_ ?_ ?_ ?_); (case refine'_2 => rfl); (case refine'_4 => decide); (case refine'_5 => decide)) | ((with_reducible refine cnd_is true ?_ ?_); (case refine_1 => rfl)) | (with_reducible refine ⟨_, rfl, ?_⟩) | fail)) | fail))
      refine WPS.cons ?_
      refine WPs.expr ?_
      refine WPE.mPopD ?_
      refine selfA rfl (by decide) (by decide) W.i W.a (Facts.at_Walker_shelf hK) rfl rfl ?_
      refine ⟨_, _, rfl, W.k, ?_⟩
      (repeat' (first | ((fail_if_success (with_reducible show WPS _ _ _ _ _ _ _ _)); (first | (with_reducible refine WPEs.nil ?_) | ((with_reducible refine WPEs.cons ?_ ?_); (case refine_2 => intros; rfl)) | ((with_reducible refine' WPE.nm ?_ ?_ ?_ ?_); (case refine'_2 => rfl); (case refine'_4 => decide); (case refine'_5 => decide)) | fail)) | fail))
      refine WL.popI W.k (by rw [sKv_val, if_pos hc]) (by rw [sKv_len]; ((with_reducible apply zP); (with_reducible assumption); (with_reducible assumption); exact rfl)) ?_
      (repeat' (first | (with_reducible refine WPS.nil ?_) | ((fail_if_success (with_reducible show WPS _ _ _ _ _ _ _ _)); (first | (with_reducible refine nxt_next ?_) | fail)) | fail))
      rw [sKv_del]
      refine h _ (KeepBut.refl.upd (by simp)) { W with i := (get_upd_ne n5).trans W.i, a := (get_upd_ne (Ne.symm n3)).trans W.a, r := (get_upd_ne n6).trans W.r, k := get_upd_self W.k, s := (get_upd_ne n7).trans W.s, ml := fun m hm => W.ml m (List.mem_filter.mp hm).1, nd := W.nd.filter _, rl := Nat.le_trans (List.length_filter_le _ _) W.rl }
    · cases hs
end

section
variable {c : Cx} {k : Nat} {sc : Scope} {ρ : Loc} {st : St} {Q : V → St → Prop} {X : Xp} {x d ru sh se : Addr} {fs : Int} {rs : List Ru} {room : Nat} {g g' : Sg}
theorem s_go_on (hK : Kc c) (hq : c.q = true) {n : Nat} (W : Wk st x d ru sh se fs rs room g) (hf : 0 ≤ fs ∧ fs ≤ 999982) (hrs : ∀ r ∈ rs, r.Ok) (hl : rs.length ≤ 100) (hs : stp room rs.length g (.go n) = some g') (h : ∀ st', KeepBut st st' [d, sh, se] → Wk st' x d ru sh se fs rs room g' → Q .none st') : CF c (k + 2) A_Walker_go_on [.ref x, .int n] ρ st Q X := by
  simp only [stp] at hs
  split at hs
  · rename_i hc
    obtain ⟨hc1, hc2⟩ := hc
    cases hs
    obtain ⟨n1, n2, n3, n4, n5, n6, n7, n8, n9⟩ := W.dn
    refine CallW.fn (Facts.fn_Walker_go_on hK) rfl ?_
    ((refine WPS.cons ?_); (repeat' (first | (with_reducible first | refine WPE.bin ?_ | refine WPs.ifs ?_) | ((with_reducible refine WPB.cmp ?_ ?_); (case refine_2 => rfl)) | fail)))
    refine selfA rfl (by decide) (by decide) W.i W.a (Facts.at_Walker_place hK) rfl rfl ?_
    (repeat' (first | (with_reducible refine W2.addI ?_) | ((with_reducible refine WPEs.cons ?_ ?_); (case refine_2 => intros; rfl)) | ((with_reducible refine c_len ‹_› ?_ ?_ ?_); (case refine_1 => rfl); (case refine_3 => intros; rfl)) | ((with_reducible refine' WPE.nm ?_ ?_ ?_ ?_); (case refine'_2 => rfl); (case refine'_4 => decide); (case refine'_5 => decide)) | fail))
    refine selfA rfl (by decide) (by decide) W.i W.a (Facts.at_Walker_rules hK) rfl rfl ?_
    (repeat' (first | (with_reducible refine WPEs.nil ?_) | fail))
    refine WL.lenList W.r (by simp; ((with_reducible apply zF); (with_reducible assumption); exact rfl)) ?_
    (repeat' (first | (with_reducible first | refine W2.gtI ?_ | refine ⟨_, rfl, ?_⟩) | fail))
    refine cnd_is false (by simp; lia) ?_
    (repeat' (first | (with_reducible first | refine nxt_next ?_ | refine cnd_f ?_ | refine WPS.cons ?_ | refine WPS.nil ?_) | ((with_reducible refine WPs.for ‹_› ?_ ?_ ?_); (case refine_2 => rfl); (case refine_3 => intros; rfl)) | (with_reducible refine WPE.slice ?_) | fail))
    refine selfA rfl (by decide) (by decide) W.i W.a (Facts.at_Walker_rules hK) rfl rfl ?_
    (repeat' (first | (with_reducible refine WPO.so ?_) | fail))
    refine selfA rfl (by decide) (by decide) W.i W.a (Facts.at_Walker_place hK) rfl rfl ?_
    refine ⟨_, rfl, ?_⟩
    (repeat' (first | (with_reducible first | refine WPE.bin ?_ | refine WPO.so ?_) | fail))
    refine selfA rfl (by decide) (by decide) W.i W.a (Facts.at_Walker_place hK) rfl rfl ?_
    (repeat' (first | (with_reducible refine W2.addI ?_) | ((with_reducible refine' WPE.nm ?_ ?_ ?_ ?_); (case refine'_2 => rfl); (case refine'_4 => decide); (case refine'_5 => decide)) | (with_reducible refine ⟨_, rfl, ?_⟩) | fail))
    refine ⟨_, _, g.place, g.place + n, rfl, W.r, by simp; ((with_reducible apply zD); (with_reducible assumption); exact rfl), ?_, ?_⟩
    · have := sb_run (n := (rs.map Ru.v).length) (x := g.place) (y := g.place + n) (by simp; lia) (by simp; with_reducible assumption)
      rw [← this]
      congr 2
    intro d0 hd0
    have nd0 : d0 ≠ d := fun e => by rw [e, W.a] at hd0; cases hd0
    have nx0 : d0 ≠ x := fun e => by rw [e, W.i] at hd0; cases hd0
    rw [show g.place + n - g.place = n by lia]
    refine ⟨_, .list get_head, ?_⟩
    refine FOR.inv (fun i ρ₁ st₁ => ρ₁ = ([("self", .ref x), ("many", .int n)] : Loc) ∧ KeepBut ((d0, .list (((rs.map Ru.v).drop g.place).take n)) :: st) st₁ [d] ∧ get st₁ d = some (.attr (AW ru sh se room g.place (stN fs rs (g.place + i)) g.cost (wantV g.want)))) ⟨rfl, KeepBut.refl, (Le.alloc hd0) _ _ W.a⟩ ?_ ?_
    · rintro i u ρ₁ st₁ hu ⟨rfl, kb, A1⟩
      have hin : i < n := by
        have := (List.getElem?_eq_some_iff.mp hu).1
        simp at this
        lia
      rw [List.getElem?_take_of_lt hin, List.getElem?_drop, List.getElem?_map] at hu
      obtain ⟨r, hr, rfl⟩ := Option.map_eq_some_iff.mp hu
      obtain ⟨s0, s1⟩ := stN_ok hf.1 hf.2 hrs (g.place + i)
      have I1 := kb x _ (by simp [n1]) ((Le.alloc hd0) _ _ W.i)
      have D1 := kb d0 _ (by simp [nd0]) get_head
      refine WPS.cons ?_
      refine WPs.setAttr ?_
      (repeat' (first | ((fail_if_success (with_reducible show WPS _ _ _ _ _ _ _ _)); (first | ((with_reducible refine WPEs.cons ?_ ?_); (case refine_2 => intros; rfl)) | ((with_reducible refine c_forth ‹_› ?_ ?_ ?_); (case refine_1 => rfl); (case refine_3 => intros; rfl)) | ((with_reducible refine' WPE.nm ?_ ?_ ?_ ?_); (case refine'_2 => rfl); (case refine'_4 => decide); (case refine'_5 => decide)) | fail)) | fail))
      refine selfA rfl (by decide) (by decide) I1 A1 (Facts.at_Walker_state hK) rfl rfl ?_
      (repeat' (first | ((fail_if_success (with_reducible show WPS _ _ _ _ _ _ _ _)); (first | (with_reducible refine WPEs.nil ?_) | fail)) | fail))
      refine s_forth hK (hrs r (List.mem_of_getElem? hr)) s0 s1 ?_
      (repeat' (first | ((fail_if_success (with_reducible show WPS _ _ _ _ _ _ _ _)); (first | ((with_reducible refine' WPE.nm ?_ ?_ ?_ ?_); (case refine'_2 => rfl); (case refine'_4 => decide); (case refine'_5 => decide)) | fail)) | fail))
      refine ⟨_, _, _, _, rfl, I1, A1, Facts.at_Walker_state hK, by simp, ?_⟩
      (repeat' (first | (with_reducible refine WPS.nil ?_) | ((fail_if_success (with_reducible show WPS _ _ _ _ _ _ _ _)); (first | (with_reducible refine nxt_next ?_) | fail)) | fail))
      refine lp_next ⟨_, .cons rfl (.cons rfl .nil), .list ((get_upd_ne nd0).trans D1), rfl, kb.upd (by simp), ?_⟩
      rw [get_upd_self A1, ← Nat.add_assoc, stN_succ hr]
      rfl
    · rintro ρ₁ st₁ ⟨rfl, kb, A1⟩
      rw [show (((rs.map Ru.v).drop g.place).take n).length = n by simp; lia] at A1
      have I1 := kb x _ (by simp [n1]) ((Le.alloc hd0) _ _ W.i)
      have R1 := kb ru _ (by simp [n2]) ((Le.alloc hd0) _ _ W.r)
      have K1 := kb sh _ (by simp [n3]) ((Le.alloc hd0) _ _ W.k)
      have S1 := kb se _ (by simp [n4]) ((Le.alloc hd0) _ _ W.s)
      have B1 : KeepBut st st₁ [d, sh, se] := fun a o ha hg => kb a o (fun q => ha (by simp at q; simp [q])) ((Le.alloc hd0) _ _ hg)
      (repeat' (first | ((fail_if_success (with_reducible show WPS _ _ _ _ _ _ _ _)); (first | (with_reducible refine nxt_next ?_) | fail)) | fail))
      refine WPS.cons ?_
      refine WPs.setAttr ?_
      (repeat' (first | ((fail_if_success (with_reducible show WPS _ _ _ _ _ _ _ _)); (first | (with_reducible refine WPE.bin ?_) | fail)) | fail))
      refine selfA rfl (by decide) (by decide) I1 A1 (Facts.at_Walker_place hK) rfl rfl ?_
      (repeat' (first | ((fail_if_success (with_reducible show WPS _ _ _ _ _ _ _ _)); (first | (with_reducible refine W2.addI ?_) | ((with_reducible refine' WPE.nm ?_ ?_ ?_ ?_); (case refine'_2 => rfl); (case refine'_4 => decide); (case refine'_5 => decide)) | fail)) | fail))
      refine ⟨_, _, _, _, rfl, I1, A1, Facts.at_Walker_place hK, by simp, ?_⟩
      have A2 : get (upd st₁ d (.attr (setL (AW ru sh se room g.place (stN fs rs (g.place + n)) g.cost (wantV g.want)) "place" (.int ((g.place : Int) + (n : Int)))))) d = some (.attr (AW ru sh se room ((g.place : Int) + (n : Int)) (stN fs rs (g.place + n)) g.cost (wantV g.want))) := get_upd_self A1
      have I2 := (get_upd_ne (o := .attr (setL (AW ru sh se room g.place (stN fs rs (g.place + n)) g.cost (wantV g.want)) "place" (.int ((g.place : Int) + (n : Int))))) n1).trans I1
      have R2 := (get_upd_ne (o := .attr (setL (AW ru sh se room g.place (stN fs rs (g.place + n)) g.cost (wantV g.want)) "place" (.int ((g.place : Int) + (n : Int))))) n2).trans R1
      have K2 := (get_upd_ne (o := .attr (setL (AW ru sh se room g.place (stN fs rs (g.place + n)) g.cost (wantV g.want)) "place" (.int ((g.place : Int) + (n : Int))))) n3).trans K1
      have S2 := (get_upd_ne (o := .attr (setL (AW ru sh se room g.place (stN fs rs (g.place + n)) g.cost (wantV g.want)) "place" (.int ((g.place : Int) + (n : Int))))) n4).trans S1
      have B2 := B1.upd (x := d) (o := .attr (setL (AW ru sh se room g.place (stN fs rs (g.place + n)) g.cost (wantV g.want)) "place" (.int ((g.place : Int) + (n : Int))))) (by simp)
      generalize upd st₁ d (.attr (setL (AW ru sh se room g.place (stN fs rs (g.place + n)) g.cost (wantV g.want)) "place" (.int ((g.place : Int) + (n : Int))))) = st₂ at A2 I2 R2 K2 S2 B2
      (repeat' (first | ((fail_if_success (with_reducible show WPS _ _ _ _ _ _ _ _)); (first | (with_reducible refine nxt_next ?_) | fail)) | fail))
      refine WPS.cons ?_
      refine WPs.setAttr ?_
      (repeat' (first | ((fail_if_success (with_reducible show WPS _ _ _ _ _ _ _ _)); (first | (with_reducible refine WPE.bin ?_) | fail)) | fail))
      refine selfA rfl (by decide) (by decide) I2 A2 (Facts.at_Walker_done hK) rfl rfl ?_
      (repeat' (first | ((fail_if_success (with_reducible show WPS _ _ _ _ _ _ _ _)); (first | (with_reducible refine W2.addI ?_) | ((with_reducible refine' WPE.nm ?_ ?_ ?_ ?_); (case refine'_2 => rfl); (case refine'_4 => decide); (case refine'_5 => decide)) | fail)) | fail))
      refine ⟨_, _, _, _, rfl, I2, A2, Facts.at_Walker_done hK, by simp, ?_⟩
      (repeat' (first | (with_reducible refine WPS.nil ?_) | ((fail_if_success (with_reducible show WPS _ _ _ _ _ _ _ _)); (first | (with_reducible refine nxt_next ?_) | fail)) | fail))
      refine h _ (B2.upd (by simp)) { W with i := (get_upd_ne n1).trans I2, a := ?_, r := (get_upd_ne n2).trans R2, k := (get_upd_ne n3).trans K2, s := (get_upd_ne n4).trans S2, pl := hc2 }
      rw [get_upd_self A2]
      dsimp only
      rw [show ((g.place + n : Nat) : Int) = (g.place : Int) + (n : Int) by with_reducible exact zN, show ((g.cost + n : Nat) : Int) = (g.cost : Int) + (n : Int) by with_reducible exact zN]
      rfl
  · cases hs
theorem s_do (hK : Kc c) (hq : c.q = true) {dd : Dd} (W : Wk st x d ru sh se fs rs room g) (hf : 0 ≤ fs ∧ fs ≤ 999982) (hrs : ∀ r ∈ rs, r.Ok) (hl : rs.length ≤ 100) (hr : room ≤ 1000) (hs : stp room rs.length g dd = some g') (h : ∀ st', KeepBut st st' [d, sh, se] → Wk st' x d ru sh se fs rs room g' → Q .none st') : CF c (k + 3) A_Walker_do [.ref x, deedV dd] ρ st Q X := by
  have hok : deedOk dd := by
    cases dd with
    | keep => trivial
    | meet => trivial
    | take n => simp only [stp] at hs; split at hs <;> cases hs; rename_i hc; have := W.ml n hc; show n ≤ 100; ((with_reducible apply zP); (with_reducible assumption); (with_reducible assumption); exact rfl)
    | drop n => simp only [stp] at hs; split at hs <;> cases hs; rename_i hc; have := W.ml n hc; show n ≤ 100; ((with_reducible apply zP); (with_reducible assumption); (with_reducible assumption); exact rfl)
    | go n => simp only [stp] at hs; split at hs <;> cases hs; rename_i hc; show 1 ≤ n ∧ n ≤ 100; lia
  refine CallW.fn (Facts.fn_Walker_do hK) rfl ?_
  ((refine WPS.cons ?_); (repeat' (first | (with_reducible first | refine WPEs.nil ?_ | refine WPs.ifs ?_ | refine WPB.not ?_) | ((with_reducible refine WPEs.cons ?_ ?_); (case refine_2 => intros; rfl)) | ((with_reducible refine c_is_deed ‹_› ?_ ?_ ?_); (case refine_1 => rfl); (case refine_3 => intros; rfl)) | ((with_reducible refine' WPE.nm ?_ ?_ ?_ ?_); (case refine'_2 => rfl); (case refine'_4 => decide); (case refine'_5 => decide)) | ((with_reducible refine WPB.val ?_ ?_); (case refine_2 => intros; rfl)) | fail)))
  refine s_is_deed hK hok ?_
  cases dd with
  | keep =>
    simp only [deedV]
    (repeat' (first | (with_reducible refine WPS.nil ?_) | ((fail_if_success (with_reducible show WPS _ _ _ _ _ _ _ _)); (first | (with_reducible first | refine nxt_next ?_ | refine cnd_t ?_ | refine cnd_f ?_ | refine ⟨_, rfl, ?_⟩) | fail)) | fail))
    refine WPS.cons ?_
    (repeat' (first | ((fail_if_success (with_reducible show WPS _ _ _ _ _ _ _ _)); (first | (with_reducible first | refine WPE.cint ?_ | refine WPE.cstr ?_ | refine W2.eqS ?_ | refine cnd_t ?_ | refine WPs.ifs ?_) | ((with_reducible refine WPB.cmp ?_ ?_); (case refine_2 => rfl)) | (with_reducible refine WPE.sub ?_) | ((with_reducible refine' WPE.nm ?_ ?_ ?_ ?_); (case refine'_2 => rfl); (case refine'_4 => decide); (case refine'_5 => decide)) | ((with_reducible refine cnd_is true ?_ ?_); (case refine_1 => rfl)) | ((with_reducible refine' W2.tupAt ?_ ?_ ?_ ?_); (case refine'_2 => rfl); (case refine'_3 => rfl); (case refine'_4 => rfl)) | (with_reducible refine ⟨_, rfl, ?_⟩) | fail)) | fail))
    refine WPS.cons ?_
    refine WPs.expr ?_
    refine WPE.methI ?_
    (repeat' (first | ((fail_if_success (with_reducible show WPS _ _ _ _ _ _ _ _)); (first | ((with_reducible refine' WPE.nm ?_ ?_ ?_ ?_); (case refine'_2 => rfl); (case refine'_4 => decide); (case refine'_5 => decide)) | fail)) | fail))
    refine ⟨_, _, _, _, _, rfl, W.i, W.a, rfl, Facts.me_Walker_keep_it hK, ?_⟩
    (repeat' (first | ((fail_if_success (with_reducible show WPS _ _ _ _ _ _ _ _)); (first | (with_reducible refine WPEs.nil ?_) | fail)) | fail))
    refine WL.le (s_keep_it (k := k) hK hq W hr hs ?_) (by ((with_reducible apply zA); exact rfl))
    intro st' kb W'
    (repeat' (first | (with_reducible refine WPS.nil ?_) | ((fail_if_success (with_reducible show WPS _ _ _ _ _ _ _ _)); (first | (with_reducible refine nxt_next ?_) | fail)) | fail))
    exact h st' kb W'
  | go n =>
    simp only [deedV]
    (repeat' (first | (with_reducible refine WPS.nil ?_) | ((fail_if_success (with_reducible show WPS _ _ _ _ _ _ _ _)); (first | (with_reducible first | refine nxt_next ?_ | refine cnd_t ?_ | refine cnd_f ?_ | refine ⟨_, rfl, ?_⟩) | fail)) | fail))
    refine WPS.cons ?_
    (repeat' (first | ((fail_if_success (with_reducible show WPS _ _ _ _ _ _ _ _)); (first | (with_reducible first | refine WPE.cint ?_ | refine WPE.cstr ?_ | refine W2.eqS ?_ | refine cnd_f ?_ | refine WPs.ifs ?_) | ((with_reducible refine WPB.cmp ?_ ?_); (case refine_2 => rfl)) | (with_reducible refine WPE.sub ?_) | ((with_reducible refine' WPE.nm ?_ ?_ ?_ ?_); (case refine'_2 => rfl); (case refine'_4 => decide); (case refine'_5 => decide)) | ((with_reducible refine cnd_is false ?_ ?_); (case refine_1 => rfl)) | ((with_reducible refine' W2.tupAt ?_ ?_ ?_ ?_); (case refine'_2 => rfl); (case refine'_3 => rfl); (case refine'_4 => rfl)) | (with_reducible refine ⟨_, rfl, ?_⟩) | fail)) | fail))
    refine WPS.cons ?_
    (repeat' (first | ((fail_if_success (with_reducible show WPS _ _ _ _ _ _ _ _)); (first | (with_reducible first | refine WPE.cint ?_ | refine WPE.cstr ?_ | refine W2.eqS ?_ | refine cnd_t ?_ | refine WPs.ifs ?_) | ((with_reducible refine WPB.cmp ?_ ?_); (case refine_2 => rfl)) | (with_reducible refine WPE.sub ?_) | ((with_reducible refine' WPE.nm ?_ ?_ ?_ ?_); (case refine'_2 => rfl); (case refine'_4 => decide); (case refine'_5 => decide)) | ((with_reducible refine cnd_is true ?_ ?_); (case refine_1 => rfl)) | ((with_reducible refine' W2.tupAt ?_ ?_ ?_ ?_); (case refine'_2 => rfl); (case refine'_3 => rfl); (case refine'_4 => rfl)) | (with_reducible refine ⟨_, rfl, ?_⟩) | fail)) | fail))
    refine WPS.cons ?_
    refine WPs.expr ?_
    refine WPE.methI ?_
    (repeat' (first | ((fail_if_success (with_reducible show WPS _ _ _ _ _ _ _ _)); (first | ((with_reducible refine' WPE.nm ?_ ?_ ?_ ?_); (case refine'_2 => rfl); (case refine'_4 => decide); (case refine'_5 => decide)) | fail)) | fail))
    refine ⟨_, _, _, _, _, rfl, W.i, W.a, rfl, Facts.me_Walker_go_on hK, ?_⟩
    (repeat' (first | ((fail_if_success (with_reducible show WPS _ _ _ _ _ _ _ _)); (first | (with_reducible first | refine WPE.cint ?_ | refine WPEs.nil ?_) | ((with_reducible refine WPEs.cons ?_ ?_); (case refine_2 => intros; rfl)) | (with_reducible refine WPE.sub ?_) | ((with_reducible refine' WPE.nm ?_ ?_ ?_ ?_); (case refine'_2 => rfl); (case refine'_4 => decide); (case refine'_5 => decide)) | ((with_reducible refine' W2.tupAt ?_ ?_ ?_ ?_); (case refine'_2 => rfl); (case refine'_3 => rfl); (case refine'_4 => rfl)) | fail)) | fail))
    refine s_go_on hK hq W hf hrs hl hs ?_
    intro st' kb W'
    (repeat' (first | (with_reducible refine WPS.nil ?_) | ((fail_if_success (with_reducible show WPS _ _ _ _ _ _ _ _)); (first | (with_reducible refine nxt_next ?_) | fail)) | fail))
    exact h st' kb W'
  | meet =>
    simp only [deedV]
    (repeat' (first | (with_reducible refine WPS.nil ?_) | ((fail_if_success (with_reducible show WPS _ _ _ _ _ _ _ _)); (first | (with_reducible first | refine nxt_next ?_ | refine cnd_t ?_ | refine cnd_f ?_ | refine ⟨_, rfl, ?_⟩) | fail)) | fail))
    refine WPS.cons ?_
    (repeat' (first | ((fail_if_success (with_reducible show WPS _ _ _ _ _ _ _ _)); (first | (with_reducible first | refine WPE.cint ?_ | refine WPE.cstr ?_ | refine W2.eqS ?_ | refine cnd_f ?_ | refine WPs.ifs ?_) | ((with_reducible refine WPB.cmp ?_ ?_); (case refine_2 => rfl)) | (with_reducible refine WPE.sub ?_) | ((with_reducible refine' WPE.nm ?_ ?_ ?_ ?_); (case refine'_2 => rfl); (case refine'_4 => decide); (case refine'_5 => decide)) | ((with_reducible refine cnd_is false ?_ ?_); (case refine_1 => rfl)) | ((with_reducible refine' W2.tupAt ?_ ?_ ?_ ?_); (case refine'_2 => rfl); (case refine'_3 => rfl); (case refine'_4 => rfl)) | (with_reducible refine ⟨_, rfl, ?_⟩) | fail)) | fail))
    refine WPS.cons ?_
    (repeat' (first | ((fail_if_success (with_reducible show WPS _ _ _ _ _ _ _ _)); (first | (with_reducible first | refine WPE.cint ?_ | refine WPE.cstr ?_ | refine W2.eqS ?_ | refine cnd_f ?_ | refine WPs.ifs ?_) | ((with_reducible refine WPB.cmp ?_ ?_); (case refine_2 => rfl)) | (with_reducible refine WPE.sub ?_) | ((with_reducible refine' WPE.nm ?_ ?_ ?_ ?_); (case refine'_2 => rfl); (case refine'_4 => decide); (case refine'_5 => decide)) | ((with_reducible refine cnd_is false ?_ ?_); (case refine_1 => rfl)) | ((with_reducible refine' W2.tupAt ?_ ?_ ?_ ?_); (case refine'_2 => rfl); (case refine'_3 => rfl); (case refine'_4 => rfl)) | (with_reducible refine ⟨_, rfl, ?_⟩) | fail)) | fail))
    refine WPS.cons ?_
    (repeat' (first | ((fail_if_success (with_reducible show WPS _ _ _ _ _ _ _ _)); (first | (with_reducible first | refine WPE.cint ?_ | refine WPE.cstr ?_ | refine W2.eqS ?_ | refine cnd_t ?_ | refine WPs.ifs ?_) | ((with_reducible refine WPB.cmp ?_ ?_); (case refine_2 => rfl)) | (with_reducible refine WPE.sub ?_) | ((with_reducible refine' WPE.nm ?_ ?_ ?_ ?_); (case refine'_2 => rfl); (case refine'_4 => decide); (case refine'_5 => decide)) | ((with_reducible refine cnd_is true ?_ ?_); (case refine_1 => rfl)) | ((with_reducible refine' W2.tupAt ?_ ?_ ?_ ?_); (case refine'_2 => rfl); (case refine'_3 => rfl); (case refine'_4 => rfl)) | (with_reducible refine ⟨_, rfl, ?_⟩) | fail)) | fail))
    refine WPS.cons ?_
    refine WPs.expr ?_
    refine WPE.methI ?_
    (repeat' (first | ((fail_if_success (with_reducible show WPS _ _ _ _ _ _ _ _)); (first | ((with_reducible refine' WPE.nm ?_ ?_ ?_ ?_); (case refine'_2 => rfl); (case refine'_4 => decide); (case refine'_5 => decide)) | fail)) | fail))
    refine ⟨_, _, _, _, _, rfl, W.i, W.a, rfl, Facts.me_Walker_meet_it hK, ?_⟩
    (repeat' (first | ((fail_if_success (with_reducible show WPS _ _ _ _ _ _ _ _)); (first | (with_reducible refine WPEs.nil ?_) | fail)) | fail))
    refine WL.le (s_meet_it (k := k) hK hq W (by ((with_reducible apply zD); (with_reducible assumption); exact rfl)) hs ?_) (by ((with_reducible apply zA); exact rfl))
    intro st' kb W'
    (repeat' (first | (with_reducible refine WPS.nil ?_) | ((fail_if_success (with_reducible show WPS _ _ _ _ _ _ _ _)); (first | (with_reducible refine nxt_next ?_) | fail)) | fail))
    exact h st' kb W'
  | take n =>
    simp only [deedV]
    (repeat' (first | (with_reducible refine WPS.nil ?_) | ((fail_if_success (with_reducible show WPS _ _ _ _ _ _ _ _)); (first | (with_reducible first | refine nxt_next ?_ | refine cnd_t ?_ | refine cnd_f ?_ | refine ⟨_, rfl, ?_⟩) | fail)) | fail))
    refine WPS.cons ?_
    (repeat' (first | ((fail_if_success (with_reducible show WPS _ _ _ _ _ _ _ _)); (first | (with_reducible first | refine WPE.cint ?_ | refine WPE.cstr ?_ | refine W2.eqS ?_ | refine cnd_f ?_ | refine WPs.ifs ?_) | ((with_reducible refine WPB.cmp ?_ ?_); (case refine_2 => rfl)) | (with_reducible refine WPE.sub ?_) | ((with_reducible refine' WPE.nm ?_ ?_ ?_ ?_); (case refine'_2 => rfl); (case refine'_4 => decide); (case refine'_5 => decide)) | ((with_reducible refine cnd_is false ?_ ?_); (case refine_1 => rfl)) | ((with_reducible refine' W2.tupAt ?_ ?_ ?_ ?_); (case refine'_2 => rfl); (case refine'_3 => rfl); (case refine'_4 => rfl)) | (with_reducible refine ⟨_, rfl, ?_⟩) | fail)) | fail))
    refine WPS.cons ?_
    (repeat' (first | ((fail_if_success (with_reducible show WPS _ _ _ _ _ _ _ _)); (first | (with_reducible first | refine WPE.cint ?_ | refine WPE.cstr ?_ | refine W2.eqS ?_ | refine cnd_f ?_ | refine WPs.ifs ?_) | ((with_reducible refine WPB.cmp ?_ ?_); (case refine_2 => rfl)) | (with_reducible refine WPE.sub ?_) | ((with_reducible refine' WPE.nm ?_ ?_ ?_ ?_); (case refine'_2 => rfl); (case refine'_4 => decide); (case refine'_5 => decide)) | ((with_reducible refine cnd_is false ?_ ?_); (case refine_1 => rfl)) | ((with_reducible refine' W2.tupAt ?_ ?_ ?_ ?_); (case refine'_2 => rfl); (case refine'_3 => rfl); (case refine'_4 => rfl)) | (with_reducible refine ⟨_, rfl, ?_⟩) | fail)) | fail))
    refine WPS.cons ?_
    (repeat' (first | ((fail_if_success (with_reducible show WPS _ _ _ _ _ _ _ _)); (first | (with_reducible first | refine WPE.cint ?_ | refine WPE.cstr ?_ | refine W2.eqS ?_ | refine cnd_f ?_ | refine WPs.ifs ?_) | ((with_reducible refine WPB.cmp ?_ ?_); (case refine_2 => rfl)) | (with_reducible refine WPE.sub ?_) | ((with_reducible refine' WPE.nm ?_ ?_ ?_ ?_); (case refine'_2 => rfl); (case refine'_4 => decide); (case refine'_5 => decide)) | ((with_reducible refine cnd_is false ?_ ?_); (case refine_1 => rfl)) | ((with_reducible refine' W2.tupAt ?_ ?_ ?_ ?_); (case refine'_2 => rfl); (case refine'_3 => rfl); (case refine'_4 => rfl)) | (with_reducible refine ⟨_, rfl, ?_⟩) | fail)) | fail))
    refine WPS.cons ?_
    refine WPs.expr ?_
    refine WPE.methI ?_
    (repeat' (first | ((fail_if_success (with_reducible show WPS _ _ _ _ _ _ _ _)); (first | ((with_reducible refine' WPE.nm ?_ ?_ ?_ ?_); (case refine'_2 => rfl); (case refine'_4 => decide); (case refine'_5 => decide)) | fail)) | fail))
    refine ⟨_, _, _, _, _, rfl, W.i, W.a, rfl, Facts.me_Walker_handle hK, ?_⟩
    (repeat' (first | ((fail_if_success (with_reducible show WPS _ _ _ _ _ _ _ _)); (first | (with_reducible first | refine WPE.cint ?_ | refine WPEs.nil ?_) | ((with_reducible refine WPEs.cons ?_ ?_); (case refine_2 => intros; rfl)) | (with_reducible refine WPE.sub ?_) | ((with_reducible refine' WPE.nm ?_ ?_ ?_ ?_); (case refine'_2 => rfl); (case refine'_4 => decide); (case refine'_5 => decide)) | ((with_reducible refine' W2.tupAt ?_ ?_ ?_ ?_); (case refine'_2 => rfl); (case refine'_3 => rfl); (case refine'_4 => rfl)) | fail)) | fail))
    refine WL.le (s_handle (k := k) hK hq (.inl ⟨rfl, rfl⟩) W hr hs ?_) (by ((with_reducible apply zA); exact rfl))
    intro st' kb W'
    (repeat' (first | (with_reducible refine WPS.nil ?_) | ((fail_if_success (with_reducible show WPS _ _ _ _ _ _ _ _)); (first | (with_reducible refine nxt_next ?_) | fail)) | fail))
    exact h st' kb W'
  | drop n =>
    simp only [deedV]
    (repeat' (first | (with_reducible refine WPS.nil ?_) | ((fail_if_success (with_reducible show WPS _ _ _ _ _ _ _ _)); (first | (with_reducible first | refine nxt_next ?_ | refine cnd_t ?_ | refine cnd_f ?_ | refine ⟨_, rfl, ?_⟩) | fail)) | fail))
    refine WPS.cons ?_
    (repeat' (first | ((fail_if_success (with_reducible show WPS _ _ _ _ _ _ _ _)); (first | (with_reducible first | refine WPE.cint ?_ | refine WPE.cstr ?_ | refine W2.eqS ?_ | refine cnd_f ?_ | refine WPs.ifs ?_) | ((with_reducible refine WPB.cmp ?_ ?_); (case refine_2 => rfl)) | (with_reducible refine WPE.sub ?_) | ((with_reducible refine' WPE.nm ?_ ?_ ?_ ?_); (case refine'_2 => rfl); (case refine'_4 => decide); (case refine'_5 => decide)) | ((with_reducible refine cnd_is false ?_ ?_); (case refine_1 => rfl)) | ((with_reducible refine' W2.tupAt ?_ ?_ ?_ ?_); (case refine'_2 => rfl); (case refine'_3 => rfl); (case refine'_4 => rfl)) | (with_reducible refine ⟨_, rfl, ?_⟩) | fail)) | fail))
    refine WPS.cons ?_
    (repeat' (first | ((fail_if_success (with_reducible show WPS _ _ _ _ _ _ _ _)); (first | (with_reducible first | refine WPE.cint ?_ | refine WPE.cstr ?_ | refine W2.eqS ?_ | refine cnd_f ?_ | refine WPs.ifs ?_) | ((with_reducible refine WPB.cmp ?_ ?_); (case refine_2 => rfl)) | (with_reducible refine WPE.sub ?_) | ((with_reducible refine' WPE.nm ?_ ?_ ?_ ?_); (case refine'_2 => rfl); (case refine'_4 => decide); (case refine'_5 => decide)) | ((with_reducible refine cnd_is false ?_ ?_); (case refine_1 => rfl)) | ((with_reducible refine' W2.tupAt ?_ ?_ ?_ ?_); (case refine'_2 => rfl); (case refine'_3 => rfl); (case refine'_4 => rfl)) | (with_reducible refine ⟨_, rfl, ?_⟩) | fail)) | fail))
    refine WPS.cons ?_
    (repeat' (first | ((fail_if_success (with_reducible show WPS _ _ _ _ _ _ _ _)); (first | (with_reducible first | refine WPE.cint ?_ | refine WPE.cstr ?_ | refine W2.eqS ?_ | refine cnd_f ?_ | refine WPs.ifs ?_) | ((with_reducible refine WPB.cmp ?_ ?_); (case refine_2 => rfl)) | (with_reducible refine WPE.sub ?_) | ((with_reducible refine' WPE.nm ?_ ?_ ?_ ?_); (case refine'_2 => rfl); (case refine'_4 => decide); (case refine'_5 => decide)) | ((with_reducible refine cnd_is false ?_ ?_); (case refine_1 => rfl)) | ((with_reducible refine' W2.tupAt ?_ ?_ ?_ ?_); (case refine'_2 => rfl); (case refine'_3 => rfl); (case refine'_4 => rfl)) | (with_reducible refine ⟨_, rfl, ?_⟩) | fail)) | fail))
    refine WPS.cons ?_
    refine WPs.expr ?_
    refine WPE.methI ?_
    (repeat' (first | ((fail_if_success (with_reducible show WPS _ _ _ _ _ _ _ _)); (first | ((with_reducible refine' WPE.nm ?_ ?_ ?_ ?_); (case refine'_2 => rfl); (case refine'_4 => decide); (case refine'_5 => decide)) | fail)) | fail))
    refine ⟨_, _, _, _, _, rfl, W.i, W.a, rfl, Facts.me_Walker_handle hK, ?_⟩
    (repeat' (first | ((fail_if_success (with_reducible show WPS _ _ _ _ _ _ _ _)); (first | (with_reducible first | refine WPE.cint ?_ | refine WPEs.nil ?_) | ((with_reducible refine WPEs.cons ?_ ?_); (case refine_2 => intros; rfl)) | (with_reducible refine WPE.sub ?_) | ((with_reducible refine' WPE.nm ?_ ?_ ?_ ?_); (case refine'_2 => rfl); (case refine'_4 => decide); (case refine'_5 => decide)) | ((with_reducible refine' W2.tupAt ?_ ?_ ?_ ?_); (case refine'_2 => rfl); (case refine'_3 => rfl); (case refine'_4 => rfl)) | fail)) | fail))
    refine WL.le (s_handle (k := k) hK hq (.inr ⟨rfl, rfl⟩) W hr hs ?_) (by ((with_reducible apply zA); exact rfl))
    intro st' kb W'
    (repeat' (first | (with_reducible refine WPS.nil ?_) | ((fail_if_success (with_reducible show WPS _ _ _ _ _ _ _ _)); (first | (with_reducible refine nxt_next ?_) | fail)) | fail))
    exact h st' kb W'
/-- all that is new -/
noncomputable def Fresh (st : St) (as : List Addr) : Prop := ∀ a ∈ as, get st a = none
theorem s_Walker (hK : Kc c) (hq : c.q = true) {ra : Addr} (hg : get st ra = some (.list (rs.map Ru.v))) (hf : 0 ≤ fs ∧ fs ≤ 999982) (hrs : ∀ r ∈ rs, r.Ok) (hl : rs.length ≤ 100) (h1 : 1 ≤ room) (h2 : room ≤ 12)
    (h : ∀ x d ru sh se st', Le st st' → Fresh st [x, d, ru, sh, se] → Wk st' x d ru sh se fs rs room ⟨0, [], rs.length + 1, 0⟩ → Q (.ref x) st') : CF c (k + 6) A_Walker [.int fs, .ref ra, .int room] ρ st Q X := by
  refine WL.make (k := k + 4) (Facts.mk_Walker hK) (Facts.fn_Walker_init hK) rfl ?_
  intro x d hx hd hxd
  have hle0 : Le st ((x, .inst A_Walker d) :: (d, .attr []) :: st) := (Le.alloc hd).cons (by rw [get_tail hxd]; exact hx)
  have hg0 := hle0 _ _ hg
  have I0 : get ((x, O.inst A_Walker d) :: (d, .attr []) :: st) x = some (.inst A_Walker d) := get_head
  have A0 : get ((x, O.inst A_Walker d) :: (d, .attr []) :: st) d = some (.attr []) := by rw [get_tail (Ne.symm hxd), get_head]
  generalize (x, O.inst A_Walker d) :: (d, .attr []) :: st = st₀ at hle0 hg0 I0 A0
  have hra : ra ≠ d := fun e => by rw [e, hd] at hg; cases hg
  refine WPS.cons ?_
  (repeat' (first | ((fail_if_success (with_reducible show WPS _ _ _ _ _ _ _ _)); (first | (with_reducible refine WPEs.nil ?_) | ((with_reducible refine WPEs.cons ?_ ?_); (case refine_2 => intros; rfl)) | ((with_reducible refine WPs.expr ?_ ?_); (case refine_2 => intros; rfl)) | ((with_reducible refine c_need_row ‹_› ?_ ?_ ?_); (case refine_1 => rfl); (case refine_3 => intros; rfl)) | ((with_reducible refine' WPE.nm ?_ ?_ ?_ ?_); (case refine'_2 => rfl); (case refine'_4 => decide); (case refine'_5 => decide)) | fail)) | fail))
  refine s_need_good hK hq hf.1 hf.2 hg0 (by simpa using hl) ?_ ?_ ?_
  · intro u hu
    obtain ⟨r, _, rfl⟩ := List.mem_map.mp hu
    exact r.el
  · intro u hu
    obtain ⟨r, hr, rfl⟩ := List.mem_map.mp hu
    exact Ru.is (hrs r hr)
  (repeat' (first | ((fail_if_success (with_reducible show WPS _ _ _ _ _ _ _ _)); (first | (with_reducible refine nxt_next ?_) | fail)) | fail))
  refine WPS.cons ?_
  (repeat' (first | ((fail_if_success (with_reducible show WPS _ _ _ _ _ _ _ _)); (first | (with_reducible first | refine WPE.cint ?_ | refine WPEs.nil ?_ | refine WPs.ifs ?_ | refine WPB.not ?_) | ((with_reducible refine WPEs.cons ?_ ?_); (case refine_2 => intros; rfl)) | ((with_reducible refine n_MOST_ROOM ‹_› ?_ ?_); (case refine_1 => rfl)) | ((with_reducible refine c_between ‹_› ?_ ?_ ?_); (case refine_1 => rfl); (case refine_3 => intros; rfl)) | ((with_reducible refine' WPE.nm ?_ ?_ ?_ ?_); (case refine'_2 => rfl); (case refine'_4 => decide); (case refine'_5 => decide)) | ((with_reducible refine WPB.val ?_ ?_); (case refine_2 => intros; rfl)) | fail)) | fail))
  refine WL.le (s_between (k := k) hK (T := "int") rfl ?_) (by ((with_reducible apply zA); exact rfl))
  rw [show btwV 1 12 (.int (room : Int)) = true by simp [btwV]; lia]
  (repeat' (first | (with_reducible refine WPS.nil ?_) | ((fail_if_success (with_reducible show WPS _ _ _ _ _ _ _ _)); (first | (with_reducible first | refine nxt_next ?_ | refine cnd_t ?_ | refine cnd_f ?_ | refine ⟨_, rfl, ?_⟩) | fail)) | fail))
  refine WPS.cons ?_
  refine WPs.setAttr ?_
  (repeat' (first | ((fail_if_success (with_reducible show WPS _ _ _ _ _ _ _ _)); (first | (with_reducible refine WPEs.nil ?_) | ((with_reducible refine WPEs.cons ?_ ?_); (case refine_2 => intros; rfl)) | ((with_reducible refine c_list ‹_› ?_ ?_ ?_); (case refine_1 => rfl); (case refine_3 => intros; rfl)) | ((with_reducible refine' WPE.nm ?_ ?_ ?_ ?_); (case refine'_2 => rfl); (case refine'_4 => decide); (case refine'_5 => decide)) | fail)) | fail))
  refine WL.listOf hg0 (by simp; ((with_reducible apply zD); (with_reducible assumption); exact rfl)) ?_
  intro ru hru
  have nru : ru ≠ d := fun e => by rw [e, A0] at hru; cases hru
  have nxru : x ≠ ru := fun e => by rw [← e, I0] at hru; cases hru
  have fru : get st ru = none := hle0.none hru
  have I1 := (Le.alloc (o := .list (rs.map Ru.v)) hru) _ _ I0
  have A1 := (Le.alloc (o := .list (rs.map Ru.v)) hru) _ _ A0
  have R1 : get ((ru, O.list (rs.map Ru.v)) :: st₀) ru = some (.list (rs.map Ru.v)) := get_head
  have G1 := (Le.alloc (o := .list (rs.map Ru.v)) hru) _ _ hg0
  have L1 := hle0.cons (o := .list (rs.map Ru.v)) hru
  generalize (ru, O.list (rs.map Ru.v)) :: st₀ = st₁ at I1 A1 R1 G1 L1
  (repeat' (first | ((fail_if_success (with_reducible show WPS _ _ _ _ _ _ _ _)); (first | ((with_reducible refine' WPE.nm ?_ ?_ ?_ ?_); (case refine'_2 => rfl); (case refine'_4 => decide); (case refine'_5 => decide)) | fail)) | fail))
  refine ⟨_, _, _, _, rfl, I1, A1, Facts.at_Walker_rules hK, by simp, ?_⟩
  have step : ∀ {st₁ : St} {fs₁ fs₂ : List (Str × V)} (I1 : get st₁ x = some (.inst A_Walker d)) (A1 : get st₁ d = some (.attr fs₁)) (R1 : get st₁ ru = some (.list (rs.map Ru.v))) (G1 : get st₁ ra = some (.list (rs.map Ru.v))) (L1 : Le st st₁),
      get (upd st₁ d (.attr fs₂)) x = some (.inst A_Walker d) ∧ get (upd st₁ d (.attr fs₂)) d = some (.attr fs₂) ∧ get (upd st₁ d (.attr fs₂)) ru = some (.list (rs.map Ru.v)) ∧ get (upd st₁ d (.attr fs₂)) ra = some (.list (rs.map Ru.v)) ∧ Le st (upd st₁ d (.attr fs₂)) :=
    fun I1 A1 R1 G1 L1 => ⟨(get_upd_ne hxd).trans I1, get_upd_self A1, (get_upd_ne nru).trans R1, (get_upd_ne hra).trans G1, L1.upd hd⟩
  obtain ⟨I2, A2, R2, G2, L2⟩ := step (fs₂ := setL [] "rules" (.ref ru)) I1 A1 R1 G1 L1
  generalize upd st₁ d (.attr (setL [] "rules" (.ref ru))) = st₂ at I2 A2 R2 G2 L2
  (repeat' (first | ((fail_if_success (with_reducible show WPS _ _ _ _ _ _ _ _)); (first | (with_reducible refine nxt_next ?_) | fail)) | fail))
  refine WPS.cons ?_
  refine WPs.setAttr ?_
  (repeat' (first | ((fail_if_success (with_reducible show WPS _ _ _ _ _ _ _ _)); (first | ((with_reducible refine' WPE.nm ?_ ?_ ?_ ?_); (case refine'_2 => rfl); (case refine'_4 => decide); (case refine'_5 => decide)) | fail)) | fail))
  refine ⟨_, _, _, _, rfl, I2, A2, Facts.at_Walker_room hK, Nat.le_of_ble_eq_true rfl, ?_⟩
  obtain ⟨I3, A3, R3, G3, L3⟩ := step (fs₂ := setL (setL [] "rules" (.ref ru)) "room" (.int (room : Int))) I2 A2 R2 G2 L2
  generalize upd st₂ d (.attr (setL (setL [] "rules" (.ref ru)) "room" (.int (room : Int)))) = st₃ at I3 A3 R3 G3 L3
  (repeat' (first | ((fail_if_success (with_reducible show WPS _ _ _ _ _ _ _ _)); (first | (with_reducible refine nxt_next ?_) | fail)) | fail))
  refine WPS.cons ?_
  refine WPs.setAttr ?_
  (repeat' (first | ((fail_if_success (with_reducible show WPS _ _ _ _ _ _ _ _)); (first | (with_reducible refine WPE.cint ?_) | ((with_reducible refine' WPE.nm ?_ ?_ ?_ ?_); (case refine'_2 => rfl); (case refine'_4 => decide); (case refine'_5 => decide)) | fail)) | fail))
  refine ⟨_, _, _, _, rfl, I3, A3, Facts.at_Walker_place hK, Nat.le_of_ble_eq_true rfl, ?_⟩
  obtain ⟨I4, A4, R4, G4, L4⟩ := step (fs₂ := setL (setL (setL [] "rules" (.ref ru)) "room" (.int (room : Int))) "place" (.int 0)) I3 A3 R3 G3 L3
  generalize upd st₃ d (.attr (setL (setL (setL [] "rules" (.ref ru)) "room" (.int (room : Int))) "place" (.int 0))) = st₄ at I4 A4 R4 G4 L4
  (repeat' (first | ((fail_if_success (with_reducible show WPS _ _ _ _ _ _ _ _)); (first | (with_reducible refine nxt_next ?_) | fail)) | fail))
  refine WPS.cons ?_
  refine WPs.setAttr ?_
  (repeat' (first | ((fail_if_success (with_reducible show WPS _ _ _ _ _ _ _ _)); (first | ((with_reducible refine' WPE.nm ?_ ?_ ?_ ?_); (case refine'_2 => rfl); (case refine'_4 => decide); (case refine'_5 => decide)) | fail)) | fail))
  refine ⟨_, _, _, _, rfl, I4, A4, Facts.at_Walker_state hK, Nat.le_of_ble_eq_true rfl, ?_⟩
  obtain ⟨I5, A5, R5, G5, L5⟩ := step (fs₂ := setL (setL (setL (setL [] "rules" (.ref ru)) "room" (.int (room : Int))) "place" (.int 0)) "state" (.int fs)) I4 A4 R4 G4 L4
  generalize upd st₄ d (.attr (setL (setL (setL (setL [] "rules" (.ref ru)) "room" (.int (room : Int))) "place" (.int 0)) "state" (.int fs))) = st₅ at I5 A5 R5 G5 L5
  (repeat' (first | ((fail_if_success (with_reducible show WPS _ _ _ _ _ _ _ _)); (first | (with_reducible refine nxt_next ?_) | fail)) | fail))
  refine WPS.cons ?_
  refine WPs.setAttr ?_
  (repeat' (first | ((fail_if_success (with_reducible show WPS _ _ _ _ _ _ _ _)); (first | (with_reducible refine WPE.cint ?_) | ((with_reducible refine' WPE.nm ?_ ?_ ?_ ?_); (case refine'_2 => rfl); (case refine'_4 => decide); (case refine'_5 => decide)) | fail)) | fail))
  refine ⟨_, _, _, _, rfl, I5, A5, Facts.at_Walker_done hK, Nat.le_of_ble_eq_true rfl, ?_⟩
  obtain ⟨I6, A6, R6, G6, L6⟩ := step (fs₂ := setL (setL (setL (setL (setL [] "rules" (.ref ru)) "room" (.int (room : Int))) "place" (.int 0)) "state" (.int fs)) "done" (.int 0)) I5 A5 R5 G5 L5
  generalize upd st₅ d (.attr (setL (setL (setL (setL (setL [] "rules" (.ref ru)) "room" (.int (room : Int))) "place" (.int 0)) "state" (.int fs)) "done" (.int 0))) = st₆ at I6 A6 R6 G6 L6
  (repeat' (first | ((fail_if_success (with_reducible show WPS _ _ _ _ _ _ _ _)); (first | (with_reducible refine nxt_next ?_) | fail)) | fail))
  refine WPS.cons ?_
  refine WPs.setAttr ?_
  (repeat' (first | ((fail_if_success (with_reducible show WPS _ _ _ _ _ _ _ _)); (first | (with_reducible refine WPEs.nil ?_) | ((with_reducible refine WPEs.cons ?_ ?_); (case refine_2 => intros; rfl)) | ((with_reducible refine c_len ‹_› ?_ ?_ ?_); (case refine_1 => rfl); (case refine_3 => intros; rfl)) | ((with_reducible refine' WPE.nm ?_ ?_ ?_ ?_); (case refine'_2 => rfl); (case refine'_4 => decide); (case refine'_5 => decide)) | fail)) | fail))
  refine WL.lenList G6 (by simp; ((with_reducible apply zF); (with_reducible assumption); exact rfl)) ?_
  (repeat' (first | ((fail_if_success (with_reducible show WPS _ _ _ _ _ _ _ _)); (first | ((with_reducible refine' WPE.nm ?_ ?_ ?_ ?_); (case refine'_2 => rfl); (case refine'_4 => decide); (case refine'_5 => decide)) | fail)) | fail))
  refine ⟨_, _, _, _, rfl, I6, A6, Facts.at_Walker_wanted hK, Nat.le_of_ble_eq_true rfl, ?_⟩
  obtain ⟨I7, A7, R7, G7, L7⟩ := step (fs₂ := setL (setL (setL (setL (setL (setL [] "rules" (.ref ru)) "room" (.int (room : Int))) "place" (.int 0)) "state" (.int fs)) "done" (.int 0)) "wanted" (.int ((rs.map Ru.v).length : Int))) I6 A6 R6 G6 L6
  generalize upd st₆ d (.attr (setL (setL (setL (setL (setL (setL [] "rules" (.ref ru)) "room" (.int (room : Int))) "place" (.int 0)) "state" (.int fs)) "done" (.int 0)) "wanted" (.int ((rs.map Ru.v).length : Int)))) = st₇ at I7 A7 R7 G7 L7
  (repeat' (first | ((fail_if_success (with_reducible show WPS _ _ _ _ _ _ _ _)); (first | (with_reducible refine nxt_next ?_) | fail)) | fail))
  refine WPS.cons ?_
  refine WPs.setAttr ?_
  refine WPE.dict0 ?_
  intro sh hsh hsys
  have nsh : sh ≠ d := fun e => by rw [e, A7] at hsh; cases hsh
  have fsh : get st sh = none := L7.none hsh
  (repeat' (first | ((fail_if_success (with_reducible show WPS _ _ _ _ _ _ _ _)); (first | ((with_reducible refine' WPE.nm ?_ ?_ ?_ ?_); (case refine'_2 => rfl); (case refine'_4 => decide); (case refine'_5 => decide)) | fail)) | fail))
  refine ⟨_, _, _, _, rfl, (Le.alloc hsh) _ _ I7, (Le.alloc hsh) _ _ A7, Facts.at_Walker_shelf hK, Nat.le_of_ble_eq_true rfl, ?_⟩
  obtain ⟨I8, A8, R8, G8, L8⟩ := step (st₁ := (sh, .dictI []) :: st₇) (fs₂ := setL (setL (setL (setL (setL (setL (setL [] "rules" (.ref ru)) "room" (.int (room : Int))) "place" (.int 0)) "state" (.int fs)) "done" (.int 0)) "wanted" (.int ((rs.map Ru.v).length : Int))) "shelf" (.ref sh)) ((Le.alloc hsh) _ _ I7) ((Le.alloc hsh) _ _ A7) ((Le.alloc hsh) _ _ R7) ((Le.alloc hsh) _ _ G7) (L7.cons hsh)
  have K8 := (get_upd_ne (o := .attr (setL (setL (setL (setL (setL (setL (setL [] "rules" (.ref ru)) "room" (.int (room : Int))) "place" (.int 0)) "state" (.int fs)) "done" (.int 0)) "wanted" (.int ((rs.map Ru.v).length : Int))) "shelf" (.ref sh))) nsh).trans (get_head (st := st₇) (a := sh) (o := .dictI []))
  generalize upd ((sh, .dictI []) :: st₇) d (.attr (setL (setL (setL (setL (setL (setL (setL [] "rules" (.ref ru)) "room" (.int (room : Int))) "place" (.int 0)) "state" (.int fs)) "done" (.int 0)) "wanted" (.int ((rs.map Ru.v).length : Int))) "shelf" (.ref sh))) = st₈ at I8 A8 R8 G8 L8 K8
  (repeat' (first | ((fail_if_success (with_reducible show WPS _ _ _ _ _ _ _ _)); (first | (with_reducible refine nxt_next ?_) | fail)) | fail))
  refine WPS.cons ?_
  refine WPs.setAttr ?_
  (repeat' (first | ((fail_if_success (with_reducible show WPS _ _ _ _ _ _ _ _)); (first | (with_reducible refine WPEs.nil ?_) | ((with_reducible refine WPE.lst ?_ ?_); (case refine_2 => decide)) | fail)) | fail))
  intro se hse
  have nse : se ≠ d := fun e => by rw [e, A8] at hse; cases hse
  have fse : get st se = none := L8.none hse
  (repeat' (first | ((fail_if_success (with_reducible show WPS _ _ _ _ _ _ _ _)); (first | ((with_reducible refine' WPE.nm ?_ ?_ ?_ ?_); (case refine'_2 => rfl); (case refine'_4 => decide); (case refine'_5 => decide)) | fail)) | fail))
  refine ⟨_, _, _, _, rfl, (Le.alloc hse) _ _ I8, (Le.alloc hse) _ _ A8, Facts.at_Walker_seen hK, Nat.le_of_ble_eq_true rfl, ?_⟩
  (repeat' (first | (with_reducible refine WPS.nil ?_) | ((fail_if_success (with_reducible show WPS _ _ _ _ _ _ _ _)); (first | (with_reducible refine nxt_next ?_) | fail)) | fail))
  obtain ⟨I9, A9, R9, G9, L9⟩ := step (st₁ := (se, .list []) :: st₈) (fs₂ := setL (setL (setL (setL (setL (setL (setL (setL [] "rules" (.ref ru)) "room" (.int (room : Int))) "place" (.int 0)) "state" (.int fs)) "done" (.int 0)) "wanted" (.int ((rs.map Ru.v).length : Int))) "shelf" (.ref sh)) "seen" (.ref se)) ((Le.alloc hse) _ _ I8) ((Le.alloc hse) _ _ A8) ((Le.alloc hse) _ _ R8) ((Le.alloc hse) _ _ G8) (L8.cons hse)
  refine ⟨rfl, h x d ru sh se _ L9 ?_ ⟨I9, ?_, R9, ?_, ?_, ?_, hsys, Nat.zero_le _, by simp, Nat.le_refl _, .nil, by simp⟩⟩
  · intro a ha
    simp at ha
    rcases ha with rfl | rfl | rfl | rfl | rfl
    · exact hx
    · exact hd
    · exact fru
    · exact fsh
    · exact fse
  · rw [A9]
    simp only [List.length_map]
    rfl
  · exact (get_upd_ne nsh).trans ((Le.alloc hse) _ _ K8)
  · rw [get_upd_ne nse, get_head]
    dsimp only
    rw [Nat.sub_self]
    rfl
  · intro e
    rw [← e, R8] at hse; cases hse
theorem s_met (hK : Kc c) (hq : c.q = true) (W : Wk st x d ru sh se fs rs room g) (hl : rs.length ≤ 1000) (h : ∀ a, get st a = none → Q (.ref a) ((a, .list ((seenL fs rs (rs.length + 1 - g.want)).map .int)) :: st)) : CF c (k + 1) A_Walker_met [.ref x] ρ st Q X := by
  refine CallW.fn (Facts.fn_Walker_met hK) rfl ?_
  ((refine WPS.cons ?_); (repeat' (first | (with_reducible refine WPs.ret ?_) | ((with_reducible refine WPEs.cons ?_ ?_); (case refine_2 => intros; rfl)) | ((with_reducible refine c_list ‹_› ?_ ?_ ?_); (case refine_1 => rfl); (case refine_3 => intros; rfl)) | fail)))
  refine selfA rfl (by decide) (by decide) W.i W.a (Facts.at_Walker_seen hK) rfl rfl ?_
  (repeat' (first | (with_reducible refine WPEs.nil ?_) | fail))
  refine WL.listOf W.s (by simp [seenL]; lia) ?_
  intro a ha
  exact h a ha
noncomputable def keptV (fs : Int) (rs : List Ru) (ms : List Nat) : List V := ms.map fun (m : Nat) => V.tup [.int (m : Int), .int (stN fs rs m)]
theorem s_kept (hK : Kc c) (hq : c.q = true) (W : Wk st x d ru sh se fs rs room g) (hr : room < 64) (h : ∀ ms a st', Le st st' → ms.Perm g.marks → ms.Pairwise (· ≤ ·) → get st a = none → get st' a = some (.list (keptV fs rs ms)) → Q (.ref a) st') : CF c (k + 1) A_Walker_kept [.ref x] ρ st Q X := by
  have hrl := W.rl
  refine CallW.fn (Facts.fn_Walker_kept hK) rfl ?_
  ((refine WPS.cons ?_); (repeat' (first | (with_reducible refine WPs.ret ?_) | ((with_reducible refine WPEs.cons ?_ ?_); (case refine_2 => intros; rfl)) | ((with_reducible refine WPE.comp ‹_› ?_ ?_ ?_); (case refine_1 => rfl); (case refine_3 => intros; rfl)) | ((with_reducible refine c_sorted ‹_› ?_ ?_ ?_); (case refine_1 => rfl); (case refine_3 => intros; rfl)) | fail)))
  refine selfA rfl (by decide) (by decide) W.i W.a (Facts.at_Walker_shelf hK) rfl rfl ?_
  (repeat' (first | (with_reducible refine WPEs.nil ?_) | fail))
  refine WL.sortedDict hq W.sys W.k (by rw [sKv_len]; lia) ?_
  intro ns hp ho b hb
  have hks : (sKv fs rs g.marks).map (·.1) = g.marks.map fun (m : Nat) => (m : Int) := by simp [sKv, List.map_map, Function.comp_def]
  rw [hks] at hp
  obtain ⟨ms, rfl⟩ : ∃ ms : List Nat, ns = ms.map fun (m : Nat) => (m : Int) := by
    refine ⟨ns.map Int.toNat, ?_⟩
    have e : (ns.map Int.toNat).map (fun (m : Nat) => (m : Int)) = ns.map id := by
      rw [List.map_map]
      refine List.map_congr_left fun z hz => ?_
      obtain ⟨m, _, rfl⟩ := List.mem_map.mp (hp.mem_iff.mp hz)
      simp
    rw [e, List.map_id]
  have hp' : ms.Perm g.marks := by
    have := hp.map Int.toNat
    simpa [List.map_map, Function.comp_def] using this
  have ho' : ms.Pairwise (· ≤ ·) := (List.pairwise_map.mp ho).imp fun q => by lia
  have hlen := hp'.length_eq
  refine ⟨_, .list get_head, small_ok' (by simp; lia), ?_⟩
  have W1 := W.le (Le.alloc (o := .list ((ms.map fun (m : Nat) => (m : Int)).map V.int)) hb)
  refine COMP.pure (fun i => V.tup [.int ((ms.getD i 0 : Nat) : Int), .int (stN fs rs (ms.getD i 0))]) (.list get_head) ?_ ?_
  · intro i u hu
    rw [List.getElem?_map, List.getElem?_map] at hu
    obtain ⟨z, hz, rfl⟩ := Option.map_eq_some_iff.mp hu
    obtain ⟨m, hm, rfl⟩ := Option.map_eq_some_iff.mp hz
    have hmm : m ∈ g.marks := hp'.mem_iff.mp (List.mem_of_getElem? hm)
    (repeat' (first | ((with_reducible refine WPEs.cons ?_ ?_); (case refine_2 => intros; rfl)) | (with_reducible refine WPE.sub ?_) | ((with_reducible refine WPE.tup ?_ ?_); (case refine_2 => decide)) | ((with_reducible refine' WPE.nm ?_ ?_ ?_ ?_); (case refine'_2 => rfl); (case refine'_4 => decide); (case refine'_5 => decide)) | fail))
    refine selfA rfl (by decide) (by decide) W1.i W1.a (Facts.at_Walker_shelf hK) rfl rfl ?_
    (repeat' (first | ((with_reducible refine' WPE.nm ?_ ?_ ?_ ?_); (case refine'_2 => rfl); (case refine'_4 => decide); (case refine'_5 => decide)) | fail))
    refine W2.getI W1.k rfl (by rw [sKv_val, if_pos hmm]) ?_
    (repeat' (first | (with_reducible refine WPEs.nil ?_) | fail))
    refine ⟨?_, rfl⟩
    rw [List.getD_eq_getElem?_getD, hm]; rfl
  · intro a ha
    (repeat' (first | (with_reducible refine nxt_ret ?_) | fail))
    refine h ms a _ ((Le.alloc hb).cons ha) hp' ho' ((Le.alloc hb).none ha) ?_
    rw [get_head]
    congr 2
    unfold keptV
    rw [List.length_map, List.length_map]
    refine List.ext_getElem (by simp) fun i h1 h2 => ?_
    simp at h1
    simp [List.getD_eq_getElem?_getD, h1]
end

section
variable {c : Cx} {k : Nat} {sc : Scope} {ρ : Loc} {st : St} {Q : V → St → Prop} {X : Xp} {x d ru sh se : Addr} {fs : Int} {rs : List Ru} {room : Nat} {g g' : Sg}
/-- the refusals and their words -/
inductive Kd : Addr → Str → Prop
  | full : Kd A_Full "full"
  | twice : Kd A_Twice "twice"
  | deed : Kd A_BadDeed "deed"
  | notkept : Kd A_NotKept "notkept"
  | atend : Kd A_AtEnd "atend"
  | notwanted : Kd A_NotWanted "notwanted"
theorem refusedK (hK : Kc c) {C e : Addr} {w : Str} (hk : Kd C w) (hg : get st e = some (.exc C)) (h : ∀ st', Le st st' → Q (.tup [.str "refused", .str w]) st') : CF c (k + 1) A_law_class [.ref e] ρ st Q X := by
  cases hk with
  | full =>
    obtain ⟨q0, q1, q2, q3, q4, q5, q6, q7, q8⟩ := Facts.kit_Full hK
    exact s_class hK hg (Facts.ek_Full hK) q0 q1 q2 q3 q4 q5 q6 q7 q8 rfl rfl rfl h
  | twice =>
    obtain ⟨q0, q1, q2, q3, q4, q5, q6, q7, q8⟩ := Facts.kit_Twice hK
    exact s_class hK hg (Facts.ek_Twice hK) q0 q1 q2 q3 q4 q5 q6 q7 q8 rfl rfl rfl h
  | deed =>
    obtain ⟨q0, q1, q2, q3, q4, q5, q6, q7, q8⟩ := Facts.kit_BadDeed hK
    exact s_class hK hg (Facts.ek_BadDeed hK) q0 q1 q2 q3 q4 q5 q6 q7 q8 rfl rfl rfl h
  | notkept =>
    obtain ⟨q0, q1, q2, q3, q4, q5, q6, q7, q8⟩ := Facts.kit_NotKept hK
    exact s_class hK hg (Facts.ek_NotKept hK) q0 q1 q2 q3 q4 q5 q6 q7 q8 rfl rfl rfl h
  | atend =>
    obtain ⟨q0, q1, q2, q3, q4, q5, q6, q7, q8⟩ := Facts.kit_AtEnd hK
    exact s_class hK hg (Facts.ek_AtEnd hK) q0 q1 q2 q3 q4 q5 q6 q7 q8 rfl rfl rfl h
  | notwanted =>
    obtain ⟨q0, q1, q2, q3, q4, q5, q6, q7, q8⟩ := Facts.kit_NotWanted hK
    exact s_class hK hg (Facts.ek_NotWanted hK) q0 q1 q2 q3 q4 q5 q6 q7 q8 rfl rfl rfl h
theorem exmK (hK : Kc c) {C : Addr} {w : Str} (hk : Kd C w) : exmOne c.K (.ref C) (.ref A_MarkError) = some true := by
  cases hk with
  | full => exact Facts.em_Full hK
  | twice => exact Facts.em_Twice hK
  | deed => exact Facts.em_BadDeed hK
  | notkept => exact Facts.em_NotKept hK
  | atend => exact Facts.em_AtEnd hK
  | notwanted => exact Facts.em_NotWanted hK
/-- deeds that are refused -/
inductive No (room n : Nat) (g : Sg) : V → Addr → Prop
  | twice : g.place ∈ g.marks → No room n g (deedV .keep) A_Twice
  | full : g.place ∉ g.marks → g.marks.length = room → No room n g (deedV .keep) A_Full
  | hand {dd : Dd} {w : Str} {m : Nat} : (w = "take" ∧ dd = .take m) ∨ (w = "drop" ∧ dd = .drop m) → m ≤ 100 → m ∉ g.marks → No room n g (deedV dd) A_NotKept
  | go {m : Nat} : 1 ≤ m → m ≤ 100 → n < g.place + m → No room n g (deedV (.go m)) A_AtEnd
  | meet : g.want ≠ g.place + 1 → No room n g (deedV .meet) A_NotWanted
theorem s_handle_no (hK : Kc c) (hq : c.q = true) {n : Nat} {w : Str} (W : Wk st x d ru sh se fs rs room g) (hn : n ∉ g.marks) (h : X A_NotKept ρ st) : CF c (k + 1) A_Walker_handle [.ref x, .str w, .int n] ρ st Q X := by
  refine CallW.fn (Facts.fn_Walker_handle hK) rfl ?_
  ((refine WPS.cons ?_); (repeat' (first | (with_reducible refine WPs.ifs ?_) | ((with_reducible refine WPB.cmp ?_ ?_); (case refine_2 => rfl)) | ((with_reducible refine' WPE.nm ?_ ?_ ?_ ?_); (case refine'_2 => rfl); (case refine'_4 => decide); (case refine'_5 => decide)) | fail)))
  refine selfA rfl (by decide) (by decide) W.i W.a (Facts.at_Walker_shelf hK) rfl rfl ?_
  refine W2.notInDict W.sys W.k ?_
  rw [sKv_val, if_neg hn]
  (repeat' (first | ((fail_if_success (with_reducible show WPS _ _ _ _ _ _ _ _)); (first | (with_reducible refine cnd_t ?_) | ((with_reducible refine cnd_is true ?_ ?_); (case refine_1 => rfl)) | (with_reducible refine ⟨_, rfl, ?_⟩) | fail)) | fail))
  refine WPS.cons ?_
  refine WPs.raise hq rfl (Facts.g_NotKept hK) (Facts.ex_NotKept hK) ?_
  (repeat' (first | (with_reducible first | refine WPE.cstr ?_ | refine WPEs.nil ?_) | ((with_reducible refine WPEs.cons ?_ ?_); (case refine_2 => intros; rfl)) | fail))
  exact h
theorem s_go_no (hK : Kc c) (hq : c.q = true) {n : Nat} (W : Wk st x d ru sh se fs rs room g) (hl : rs.length ≤ 100) (hn : rs.length < g.place + n) (h : X A_AtEnd ρ st) : CF c (k + 2) A_Walker_go_on [.ref x, .int n] ρ st Q X := by
  refine CallW.fn (Facts.fn_Walker_go_on hK) rfl ?_
  ((refine WPS.cons ?_); (repeat' (first | (with_reducible first | refine WPE.bin ?_ | refine WPs.ifs ?_) | ((with_reducible refine WPB.cmp ?_ ?_); (case refine_2 => rfl)) | fail)))
  refine selfA rfl (by decide) (by decide) W.i W.a (Facts.at_Walker_place hK) rfl rfl ?_
  (repeat' (first | (with_reducible refine W2.addI ?_) | ((with_reducible refine WPEs.cons ?_ ?_); (case refine_2 => intros; rfl)) | ((with_reducible refine c_len ‹_› ?_ ?_ ?_); (case refine_1 => rfl); (case refine_3 => intros; rfl)) | ((with_reducible refine' WPE.nm ?_ ?_ ?_ ?_); (case refine'_2 => rfl); (case refine'_4 => decide); (case refine'_5 => decide)) | fail))
  refine selfA rfl (by decide) (by decide) W.i W.a (Facts.at_Walker_rules hK) rfl rfl ?_
  (repeat' (first | (with_reducible refine WPEs.nil ?_) | fail))
  refine WL.lenList W.r (by simp; ((with_reducible apply zF); (with_reducible assumption); exact rfl)) ?_
  (repeat' (first | (with_reducible first | refine W2.gtI ?_ | refine ⟨_, rfl, ?_⟩) | fail))
  refine cnd_is true (by simp; lia) ?_
  (repeat' (first | ((fail_if_success (with_reducible show WPS _ _ _ _ _ _ _ _)); (first | (with_reducible refine cnd_t ?_) | fail)) | fail))
  refine WPS.cons ?_
  refine WPs.raise hq rfl (Facts.g_AtEnd hK) (Facts.ex_AtEnd hK) ?_
  (repeat' (first | (with_reducible first | refine WPE.cstr ?_ | refine WPEs.nil ?_) | ((with_reducible refine WPEs.cons ?_ ?_); (case refine_2 => intros; rfl)) | fail))
  exact h
theorem s_meet_no (hK : Kc c) (hq : c.q = true) (W : Wk st x d ru sh se fs rs room g) (hn : g.want ≠ g.place + 1) (h : X A_NotWanted ρ st) : CF c (k + 1) A_Walker_meet_it [.ref x] ρ st Q X := by
  obtain ⟨w, hw, hp⟩ : ∃ w, wantV g.want = w ∧ plainV w = true := ⟨_, rfl, by cases g.want <;> rfl⟩
  have A := W.a
  rw [hw] at A
  refine CallW.fn (Facts.fn_Walker_meet_it hK) rfl ?_
  ((refine WPS.cons ?_); (repeat' (first | (with_reducible first | refine WPAll.or ?_ | refine WPs.ifs ?_ | refine WPB.op ?_) | ((with_reducible refine WPB.cmp ?_ ?_); (case refine_2 => rfl)) | fail)))
  refine selfA rfl (by decide) (by decide) W.i A (Facts.at_Walker_wanted hK) rfl hp ?_
  cases e : g.want with
  | zero =>
    rw [e] at hw
    obtain rfl : V.none = w := hw
    (repeat' (first | ((fail_if_success (with_reducible show WPS _ _ _ _ _ _ _ _)); (first | (with_reducible first | refine WPE.cnone ?_ | refine cnd_t ?_) | ((with_reducible refine W2.isN ?_ ?_); (case refine_1 => rfl)) | ((with_reducible refine cnd_is true ?_ ?_); (case refine_1 => rfl)) | (with_reducible refine ⟨_, rfl, ?_⟩) | fail)) | fail))
    refine WPS.cons ?_
    refine WPs.raise hq rfl (Facts.g_NotWanted hK) (Facts.ex_NotWanted hK) ?_
    (repeat' (first | (with_reducible first | refine WPE.cstr ?_ | refine WPEs.nil ?_) | ((with_reducible refine WPEs.cons ?_ ?_); (case refine_2 => intros; rfl)) | fail))
    exact h
  | succ j =>
    rw [e] at hw hn
    obtain rfl : V.int (j : Int) = w := hw
    (repeat' (first | ((fail_if_success (with_reducible show WPS _ _ _ _ _ _ _ _)); (first | (with_reducible first | refine WPE.cnone ?_ | refine WPAll.or ?_ | refine cnd_f ?_) | ((with_reducible refine WPB.cmp ?_ ?_); (case refine_2 => rfl)) | ((with_reducible refine W2.isN ?_ ?_); (case refine_1 => rfl)) | ((with_reducible refine cnd_is false ?_ ?_); (case refine_1 => rfl)) | (with_reducible refine ⟨_, rfl, ?_⟩) | fail)) | fail))
    refine selfA rfl (by decide) (by decide) W.i A (Facts.at_Walker_place hK) rfl rfl ?_
    refine selfA rfl (by decide) (by decide) W.i A (Facts.at_Walker_wanted hK) rfl rfl ?_
    (repeat' (first | ((fail_if_success (with_reducible show WPS _ _ _ _ _ _ _ _)); (first | (with_reducible first | refine W2.neI ?_ | refine ⟨_, rfl, ?_⟩) | fail)) | fail))
    refine cnd_is true (by simp; lia) ?_
    (repeat' (first | ((fail_if_success (with_reducible show WPS _ _ _ _ _ _ _ _)); (first | (with_reducible refine cnd_t ?_) | fail)) | fail))
    refine WPS.cons ?_
    refine WPs.raise hq rfl (Facts.g_NotWanted hK) (Facts.ex_NotWanted hK) ?_
    (repeat' (first | (with_reducible first | refine WPE.cstr ?_ | refine WPEs.nil ?_) | ((with_reducible refine WPEs.cons ?_ ?_); (case refine_2 => intros; rfl)) | fail))
    exact h
theorem s_keep_twice (hK : Kc c) (hq : c.q = true) (W : Wk st x d ru sh se fs rs room g) (hn : g.place ∈ g.marks) (h : X A_Twice ρ st) : CF c (k + 1) A_Walker_keep_it [.ref x] ρ st Q X := by
  refine CallW.fn (Facts.fn_Walker_keep_it hK) rfl ?_
  ((refine WPS.cons ?_); (repeat' (first | (with_reducible refine WPs.ifs ?_) | ((with_reducible refine WPB.cmp ?_ ?_); (case refine_2 => rfl)) | fail)))
  refine selfA rfl (by decide) (by decide) W.i W.a (Facts.at_Walker_place hK) rfl rfl ?_
  refine selfA rfl (by decide) (by decide) W.i W.a (Facts.at_Walker_shelf hK) rfl rfl ?_
  refine W2.inDict W.sys W.k ?_
  rw [sKv_val, if_pos hn]
  (repeat' (first | ((fail_if_success (with_reducible show WPS _ _ _ _ _ _ _ _)); (first | (with_reducible refine cnd_t ?_) | ((with_reducible refine cnd_is true ?_ ?_); (case refine_1 => rfl)) | (with_reducible refine ⟨_, rfl, ?_⟩) | fail)) | fail))
  refine WPS.cons ?_
  refine WPs.raise hq rfl (Facts.g_Twice hK) (Facts.ex_Twice hK) ?_
  (repeat' (first | (with_reducible first | refine WPE.cstr ?_ | refine WPEs.nil ?_) | ((with_reducible refine WPEs.cons ?_ ?_); (case refine_2 => intros; rfl)) | fail))
  exact h
theorem s_keep_full (hK : Kc c) (hq : c.q = true) (W : Wk st x d ru sh se fs rs room g) (hr : room ≤ 12) (hn : g.place ∉ g.marks) (hm : g.marks.length = room) (h : X A_Full ρ st) : CF c (k + 1) A_Walker_keep_it [.ref x] ρ st Q X := by
  refine CallW.fn (Facts.fn_Walker_keep_it hK) rfl ?_
  ((refine WPS.cons ?_); (repeat' (first | (with_reducible refine WPs.ifs ?_) | ((with_reducible refine WPB.cmp ?_ ?_); (case refine_2 => rfl)) | fail)))
  refine selfA rfl (by decide) (by decide) W.i W.a (Facts.at_Walker_place hK) rfl rfl ?_
  refine selfA rfl (by decide) (by decide) W.i W.a (Facts.at_Walker_shelf hK) rfl rfl ?_
  refine W2.inDict W.sys W.k ?_
  rw [sKv_val, if_neg hn]
  (repeat' (first | (with_reducible first | refine nxt_next ?_ | refine cnd_f ?_ | refine WPS.cons ?_ | refine WPS.nil ?_ | refine WPs.ifs ?_) | ((with_reducible refine WPEs.cons ?_ ?_); (case refine_2 => intros; rfl)) | ((with_reducible refine WPB.cmp ?_ ?_); (case refine_2 => rfl)) | ((with_reducible refine c_len ‹_› ?_ ?_ ?_); (case refine_1 => rfl); (case refine_3 => intros; rfl)) | ((with_reducible refine cnd_is false ?_ ?_); (case refine_1 => rfl)) | (with_reducible refine ⟨_, rfl, ?_⟩) | fail))
  refine selfA rfl (by decide) (by decide) W.i W.a (Facts.at_Walker_shelf hK) rfl rfl ?_
  (repeat' (first | (with_reducible refine WPEs.nil ?_) | fail))
  refine WL.lenDict W.sys W.k (by rw [sKv_len]; lia) ?_
  refine selfA rfl (by decide) (by decide) W.i W.a (Facts.at_Walker_room hK) rfl rfl ?_
  (repeat' (first | (with_reducible first | refine W2.eqI ?_ | refine ⟨_, rfl, ?_⟩) | fail))
  rw [sKv_len]
  refine cnd_is true (by simp; lia) ?_
  (repeat' (first | ((fail_if_success (with_reducible show WPS _ _ _ _ _ _ _ _)); (first | (with_reducible refine cnd_t ?_) | fail)) | fail))
  refine WPS.cons ?_
  refine WPs.raise hq rfl (Facts.g_Full hK) (Facts.ex_Full hK) ?_
  (repeat' (first | (with_reducible first | refine WPE.cstr ?_ | refine WPEs.nil ?_) | ((with_reducible refine WPEs.cons ?_ ?_); (case refine_2 => intros; rfl)) | fail))
  exact h
theorem s_do_no (hK : Kc c) (hq : c.q = true) {v : V} {C : Addr} (W : Wk st x d ru sh se fs rs room g) (hl : rs.length ≤ 100) (hr : room ≤ 12) (hn : No room rs.length g v C) (h : X C ρ st) : CF c (k + 3) A_Walker_do [.ref x, v] ρ st Q X := by
  refine CallW.fn (Facts.fn_Walker_do hK) rfl ?_
  ((refine WPS.cons ?_); (repeat' (first | (with_reducible first | refine WPEs.nil ?_ | refine WPs.ifs ?_ | refine WPB.not ?_) | ((with_reducible refine WPEs.cons ?_ ?_); (case refine_2 => intros; rfl)) | ((with_reducible refine c_is_deed ‹_› ?_ ?_ ?_); (case refine_1 => rfl); (case refine_3 => intros; rfl)) | ((with_reducible refine' WPE.nm ?_ ?_ ?_ ?_); (case refine'_2 => rfl); (case refine'_4 => decide); (case refine'_5 => decide)) | ((with_reducible refine WPB.val ?_ ?_); (case refine_2 => intros; rfl)) | fail)))
  cases hn with
  | twice h1 =>
    refine s_is_deed hK (d := .keep) trivial ?_
    simp only [deedV]
    (repeat' (first | (with_reducible refine WPS.nil ?_) | ((fail_if_success (with_reducible show WPS _ _ _ _ _ _ _ _)); (first | (with_reducible first | refine nxt_next ?_ | refine cnd_t ?_ | refine cnd_f ?_ | refine ⟨_, rfl, ?_⟩) | fail)) | fail))
    refine WPS.cons ?_
    (repeat' (first | ((fail_if_success (with_reducible show WPS _ _ _ _ _ _ _ _)); (first | (with_reducible first | refine WPE.cint ?_ | refine WPE.cstr ?_ | refine W2.eqS ?_ | refine cnd_t ?_ | refine WPs.ifs ?_) | ((with_reducible refine WPB.cmp ?_ ?_); (case refine_2 => rfl)) | (with_reducible refine WPE.sub ?_) | ((with_reducible refine' WPE.nm ?_ ?_ ?_ ?_); (case refine'_2 => rfl); (case refine'_4 => decide); (case refine'_5 => decide)) | ((with_reducible refine cnd_is true ?_ ?_); (case refine_1 => rfl)) | ((with_reducible refine' W2.tupAt ?_ ?_ ?_ ?_); (case refine'_2 => rfl); (case refine'_3 => rfl); (case refine'_4 => rfl)) | (with_reducible refine ⟨_, rfl, ?_⟩) | fail)) | fail))
    refine WPS.cons ?_
    refine WPs.expr ?_
    refine WPE.methI ?_
    (repeat' (first | ((fail_if_success (with_reducible show WPS _ _ _ _ _ _ _ _)); (first | ((with_reducible refine' WPE.nm ?_ ?_ ?_ ?_); (case refine'_2 => rfl); (case refine'_4 => decide); (case refine'_5 => decide)) | fail)) | fail))
    refine ⟨_, _, _, _, _, rfl, W.i, W.a, rfl, Facts.me_Walker_keep_it hK, ?_⟩
    (repeat' (first | ((fail_if_success (with_reducible show WPS _ _ _ _ _ _ _ _)); (first | (with_reducible refine WPEs.nil ?_) | fail)) | fail))
    exact WL.le (s_keep_twice (k := k) hK hq W h1 h) (by ((with_reducible apply zA); exact rfl))
  | full h1 h2 =>
    refine s_is_deed hK (d := .keep) trivial ?_
    simp only [deedV]
    (repeat' (first | (with_reducible refine WPS.nil ?_) | ((fail_if_success (with_reducible show WPS _ _ _ _ _ _ _ _)); (first | (with_reducible first | refine nxt_next ?_ | refine cnd_t ?_ | refine cnd_f ?_ | refine ⟨_, rfl, ?_⟩) | fail)) | fail))
    refine WPS.cons ?_
    (repeat' (first | ((fail_if_success (with_reducible show WPS _ _ _ _ _ _ _ _)); (first | (with_reducible first | refine WPE.cint ?_ | refine WPE.cstr ?_ | refine W2.eqS ?_ | refine cnd_t ?_ | refine WPs.ifs ?_) | ((with_reducible refine WPB.cmp ?_ ?_); (case refine_2 => rfl)) | (with_reducible refine WPE.sub ?_) | ((with_reducible refine' WPE.nm ?_ ?_ ?_ ?_); (case refine'_2 => rfl); (case refine'_4 => decide); (case refine'_5 => decide)) | ((with_reducible refine cnd_is true ?_ ?_); (case refine_1 => rfl)) | ((with_reducible refine' W2.tupAt ?_ ?_ ?_ ?_); (case refine'_2 => rfl); (case refine'_3 => rfl); (case refine'_4 => rfl)) | (with_reducible refine ⟨_, rfl, ?_⟩) | fail)) | fail))
    refine WPS.cons ?_
    refine WPs.expr ?_
    refine WPE.methI ?_
    (repeat' (first | ((fail_if_success (with_reducible show WPS _ _ _ _ _ _ _ _)); (first | ((with_reducible refine' WPE.nm ?_ ?_ ?_ ?_); (case refine'_2 => rfl); (case refine'_4 => decide); (case refine'_5 => decide)) | fail)) | fail))
    refine ⟨_, _, _, _, _, rfl, W.i, W.a, rfl, Facts.me_Walker_keep_it hK, ?_⟩
    (repeat' (first | ((fail_if_success (with_reducible show WPS _ _ _ _ _ _ _ _)); (first | (with_reducible refine WPEs.nil ?_) | fail)) | fail))
    exact WL.le (s_keep_full (k := k) hK hq W hr h1 h2 h) (by ((with_reducible apply zA); exact rfl))
  | go h1 h2 h3 =>
    refine s_is_deed hK (d := .go _) ⟨h1, h2⟩ ?_
    simp only [deedV]
    (repeat' (first | (with_reducible refine WPS.nil ?_) | ((fail_if_success (with_reducible show WPS _ _ _ _ _ _ _ _)); (first | (with_reducible first | refine nxt_next ?_ | refine cnd_t ?_ | refine cnd_f ?_ | refine ⟨_, rfl, ?_⟩) | fail)) | fail))
    refine WPS.cons ?_
    (repeat' (first | ((fail_if_success (with_reducible show WPS _ _ _ _ _ _ _ _)); (first | (with_reducible first | refine WPE.cint ?_ | refine WPE.cstr ?_ | refine W2.eqS ?_ | refine cnd_f ?_ | refine WPs.ifs ?_) | ((with_reducible refine WPB.cmp ?_ ?_); (case refine_2 => rfl)) | (with_reducible refine WPE.sub ?_) | ((with_reducible refine' WPE.nm ?_ ?_ ?_ ?_); (case refine'_2 => rfl); (case refine'_4 => decide); (case refine'_5 => decide)) | ((with_reducible refine cnd_is false ?_ ?_); (case refine_1 => rfl)) | ((with_reducible refine' W2.tupAt ?_ ?_ ?_ ?_); (case refine'_2 => rfl); (case refine'_3 => rfl); (case refine'_4 => rfl)) | (with_reducible refine ⟨_, rfl, ?_⟩) | fail)) | fail))
    refine WPS.cons ?_
    (repeat' (first | ((fail_if_success (with_reducible show WPS _ _ _ _ _ _ _ _)); (first | (with_reducible first | refine WPE.cint ?_ | refine WPE.cstr ?_ | refine W2.eqS ?_ | refine cnd_t ?_ | refine WPs.ifs ?_) | ((with_reducible refine WPB.cmp ?_ ?_); (case refine_2 => rfl)) | (with_reducible refine WPE.sub ?_) | ((with_reducible refine' WPE.nm ?_ ?_ ?_ ?_); (case refine'_2 => rfl); (case refine'_4 => decide); (case refine'_5 => decide)) | ((with_reducible refine cnd_is true ?_ ?_); (case refine_1 => rfl)) | ((with_reducible refine' W2.tupAt ?_ ?_ ?_ ?_); (case refine'_2 => rfl); (case refine'_3 => rfl); (case refine'_4 => rfl)) | (with_reducible refine ⟨_, rfl, ?_⟩) | fail)) | fail))
    refine WPS.cons ?_
    refine WPs.expr ?_
    refine WPE.methI ?_
    (repeat' (first | ((fail_if_success (with_reducible show WPS _ _ _ _ _ _ _ _)); (first | ((with_reducible refine' WPE.nm ?_ ?_ ?_ ?_); (case refine'_2 => rfl); (case refine'_4 => decide); (case refine'_5 => decide)) | fail)) | fail))
    refine ⟨_, _, _, _, _, rfl, W.i, W.a, rfl, Facts.me_Walker_go_on hK, ?_⟩
    (repeat' (first | ((fail_if_success (with_reducible show WPS _ _ _ _ _ _ _ _)); (first | (with_reducible first | refine WPE.cint ?_ | refine WPEs.nil ?_) | ((with_reducible refine WPEs.cons ?_ ?_); (case refine_2 => intros; rfl)) | (with_reducible refine WPE.sub ?_) | ((with_reducible refine' WPE.nm ?_ ?_ ?_ ?_); (case refine'_2 => rfl); (case refine'_4 => decide); (case refine'_5 => decide)) | ((with_reducible refine' W2.tupAt ?_ ?_ ?_ ?_); (case refine'_2 => rfl); (case refine'_3 => rfl); (case refine'_4 => rfl)) | fail)) | fail))
    exact s_go_no hK hq W hl h3 h
  | meet h1 =>
    refine s_is_deed hK (d := .meet) trivial ?_
    simp only [deedV]
    (repeat' (first | (with_reducible refine WPS.nil ?_) | ((fail_if_success (with_reducible show WPS _ _ _ _ _ _ _ _)); (first | (with_reducible first | refine nxt_next ?_ | refine cnd_t ?_ | refine cnd_f ?_ | refine ⟨_, rfl, ?_⟩) | fail)) | fail))
    refine WPS.cons ?_
    (repeat' (first | ((fail_if_success (with_reducible show WPS _ _ _ _ _ _ _ _)); (first | (with_reducible first | refine WPE.cint ?_ | refine WPE.cstr ?_ | refine W2.eqS ?_ | refine cnd_f ?_ | refine WPs.ifs ?_) | ((with_reducible refine WPB.cmp ?_ ?_); (case refine_2 => rfl)) | (with_reducible refine WPE.sub ?_) | ((with_reducible refine' WPE.nm ?_ ?_ ?_ ?_); (case refine'_2 => rfl); (case refine'_4 => decide); (case refine'_5 => decide)) | ((with_reducible refine cnd_is false ?_ ?_); (case refine_1 => rfl)) | ((with_reducible refine' W2.tupAt ?_ ?_ ?_ ?_); (case refine'_2 => rfl); (case refine'_3 => rfl); (case refine'_4 => rfl)) | (with_reducible refine ⟨_, rfl, ?_⟩) | fail)) | fail))
    refine WPS.cons ?_
    (repeat' (first | ((fail_if_success (with_reducible show WPS _ _ _ _ _ _ _ _)); (first | (with_reducible first | refine WPE.cint ?_ | refine WPE.cstr ?_ | refine W2.eqS ?_ | refine cnd_f ?_ | refine WPs.ifs ?_) | ((with_reducible refine WPB.cmp ?_ ?_); (case refine_2 => rfl)) | (with_reducible refine WPE.sub ?_) | ((with_reducible refine' WPE.nm ?_ ?_ ?_ ?_); (case refine'_2 => rfl); (case refine'_4 => decide); (case refine'_5 => decide)) | ((with_reducible refine cnd_is false ?_ ?_); (case refine_1 => rfl)) | ((with_reducible refine' W2.tupAt ?_ ?_ ?_ ?_); (case refine'_2 => rfl); (case refine'_3 => rfl); (case refine'_4 => rfl)) | (with_reducible refine ⟨_, rfl, ?_⟩) | fail)) | fail))
    refine WPS.cons ?_
    (repeat' (first | ((fail_if_success (with_reducible show WPS _ _ _ _ _ _ _ _)); (first | (with_reducible first | refine WPE.cint ?_ | refine WPE.cstr ?_ | refine W2.eqS ?_ | refine cnd_t ?_ | refine WPs.ifs ?_) | ((with_reducible refine WPB.cmp ?_ ?_); (case refine_2 => rfl)) | (with_reducible refine WPE.sub ?_) | ((with_reducible refine' WPE.nm ?_ ?_ ?_ ?_); (case refine'_2 => rfl); (case refine'_4 => decide); (case refine'_5 => decide)) | ((with_reducible refine cnd_is true ?_ ?_); (case refine_1 => rfl)) | ((with_reducible refine' W2.tupAt ?_ ?_ ?_ ?_); (case refine'_2 => rfl); (case refine'_3 => rfl); (case refine'_4 => rfl)) | (with_reducible refine ⟨_, rfl, ?_⟩) | fail)) | fail))
    refine WPS.cons ?_
    refine WPs.expr ?_
    refine WPE.methI ?_
    (repeat' (first | ((fail_if_success (with_reducible show WPS _ _ _ _ _ _ _ _)); (first | ((with_reducible refine' WPE.nm ?_ ?_ ?_ ?_); (case refine'_2 => rfl); (case refine'_4 => decide); (case refine'_5 => decide)) | fail)) | fail))
    refine ⟨_, _, _, _, _, rfl, W.i, W.a, rfl, Facts.me_Walker_meet_it hK, ?_⟩
    (repeat' (first | ((fail_if_success (with_reducible show WPS _ _ _ _ _ _ _ _)); (first | (with_reducible refine WPEs.nil ?_) | fail)) | fail))
    exact WL.le (s_meet_no (k := k) hK hq W h1 h) (by ((with_reducible apply zA); exact rfl))
  | hand hw h1 h2 =>
    rcases hw with ⟨rfl, rfl⟩ | ⟨rfl, rfl⟩
    all_goals
      refine s_is_deed hK h1 ?_
      simp only [deedV]
      (repeat' (first | (with_reducible refine WPS.nil ?_) | ((fail_if_success (with_reducible show WPS _ _ _ _ _ _ _ _)); (first | (with_reducible first | refine nxt_next ?_ | refine cnd_t ?_ | refine cnd_f ?_ | refine ⟨_, rfl, ?_⟩) | fail)) | fail))
      refine WPS.cons ?_
      (repeat' (first | ((fail_if_success (with_reducible show WPS _ _ _ _ _ _ _ _)); (first | (with_reducible first | refine WPE.cint ?_ | refine WPE.cstr ?_ | refine W2.eqS ?_ | refine cnd_f ?_ | refine WPs.ifs ?_) | ((with_reducible refine WPB.cmp ?_ ?_); (case refine_2 => rfl)) | (with_reducible refine WPE.sub ?_) | ((with_reducible refine' WPE.nm ?_ ?_ ?_ ?_); (case refine'_2 => rfl); (case refine'_4 => decide); (case refine'_5 => decide)) | ((with_reducible refine cnd_is false ?_ ?_); (case refine_1 => rfl)) | ((with_reducible refine' W2.tupAt ?_ ?_ ?_ ?_); (case refine'_2 => rfl); (case refine'_3 => rfl); (case refine'_4 => rfl)) | (with_reducible refine ⟨_, rfl, ?_⟩) | fail)) | fail))
      refine WPS.cons ?_
      (repeat' (first | ((fail_if_success (with_reducible show WPS _ _ _ _ _ _ _ _)); (first | (with_reducible first | refine WPE.cint ?_ | refine WPE.cstr ?_ | refine W2.eqS ?_ | refine cnd_f ?_ | refine WPs.ifs ?_) | ((with_reducible refine WPB.cmp ?_ ?_); (case refine_2 => rfl)) | (with_reducible refine WPE.sub ?_) | ((with_reducible refine' WPE.nm ?_ ?_ ?_ ?_); (case refine'_2 => rfl); (case refine'_4 => decide); (case refine'_5 => decide)) | ((with_reducible refine cnd_is false ?_ ?_); (case refine_1 => rfl)) | ((with_reducible refine' W2.tupAt ?_ ?_ ?_ ?_); (case refine'_2 => rfl); (case refine'_3 => rfl); (case refine'_4 => rfl)) | (with_reducible refine ⟨_, rfl, ?_⟩) | fail)) | fail))
      refine WPS.cons ?_
      (repeat' (first | ((fail_if_success (with_reducible show WPS _ _ _ _ _ _ _ _)); (first | (with_reducible first | refine WPE.cint ?_ | refine WPE.cstr ?_ | refine W2.eqS ?_ | refine cnd_f ?_ | refine WPs.ifs ?_) | ((with_reducible refine WPB.cmp ?_ ?_); (case refine_2 => rfl)) | (with_reducible refine WPE.sub ?_) | ((with_reducible refine' WPE.nm ?_ ?_ ?_ ?_); (case refine'_2 => rfl); (case refine'_4 => decide); (case refine'_5 => decide)) | ((with_reducible refine cnd_is false ?_ ?_); (case refine_1 => rfl)) | ((with_reducible refine' W2.tupAt ?_ ?_ ?_ ?_); (case refine'_2 => rfl); (case refine'_3 => rfl); (case refine'_4 => rfl)) | (with_reducible refine ⟨_, rfl, ?_⟩) | fail)) | fail))
      refine WPS.cons ?_
      refine WPs.expr ?_
      refine WPE.methI ?_
      (repeat' (first | ((fail_if_success (with_reducible show WPS _ _ _ _ _ _ _ _)); (first | ((with_reducible refine' WPE.nm ?_ ?_ ?_ ?_); (case refine'_2 => rfl); (case refine'_4 => decide); (case refine'_5 => decide)) | fail)) | fail))
      refine ⟨_, _, _, _, _, rfl, W.i, W.a, rfl, Facts.me_Walker_handle hK, ?_⟩
      (repeat' (first | ((fail_if_success (with_reducible show WPS _ _ _ _ _ _ _ _)); (first | (with_reducible first | refine WPE.cint ?_ | refine WPEs.nil ?_) | ((with_reducible refine WPEs.cons ?_ ?_); (case refine_2 => intros; rfl)) | (with_reducible refine WPE.sub ?_) | ((with_reducible refine' WPE.nm ?_ ?_ ?_ ?_); (case refine'_2 => rfl); (case refine'_4 => decide); (case refine'_5 => decide)) | ((with_reducible refine' W2.tupAt ?_ ?_ ?_ ?_); (case refine'_2 => rfl); (case refine'_3 => rfl); (case refine'_4 => rfl)) | fail)) | fail))
      exact WL.le (s_handle_no (k := k) hK hq W h2 h) (by ((with_reducible apply zA); exact rfl))
theorem s_do_bad (hK : Kc c) (hq : c.q = true) {v : V} {T : String} (ht : typV st v = some T) (hs : ∀ vs, v = .tup vs → (vs.length < 1000 ∧ ∀ u ∈ vs, (typV st u).isSome = true)) (hv : deedB v = false) (h : X A_BadDeed ρ st) : CF c (k + 3) A_Walker_do [.ref x, v] ρ st Q X := by
  refine CallW.fn (Facts.fn_Walker_do hK) rfl ?_
  ((refine WPS.cons ?_); (repeat' (first | (with_reducible first | refine WPEs.nil ?_ | refine WPs.ifs ?_ | refine WPB.not ?_) | ((with_reducible refine WPEs.cons ?_ ?_); (case refine_2 => intros; rfl)) | ((with_reducible refine c_is_deed ‹_› ?_ ?_ ?_); (case refine_1 => rfl); (case refine_3 => intros; rfl)) | ((with_reducible refine' WPE.nm ?_ ?_ ?_ ?_); (case refine'_2 => rfl); (case refine'_4 => decide); (case refine'_5 => decide)) | ((with_reducible refine WPB.val ?_ ?_); (case refine_2 => intros; rfl)) | fail)))
  refine s_is_any hK ht hs ?_
  rw [hv]
  (repeat' (first | ((fail_if_success (with_reducible show WPS _ _ _ _ _ _ _ _)); (first | (with_reducible first | refine cnd_t ?_ | refine cnd_f ?_ | refine ⟨_, rfl, ?_⟩) | fail)) | fail))
  refine WPS.cons ?_
  refine WPs.raise hq rfl (Facts.g_BadDeed hK) (Facts.ex_BadDeed hK) ?_
  (repeat' (first | (with_reducible first | refine WPE.cstr ?_ | refine WPEs.nil ?_) | ((with_reducible refine WPEs.cons ?_ ?_); (case refine_2 => intros; rfl)) | fail))
  exact h
end

section
variable {c : Cx} {k : Nat} {sc : Scope} {ρ : Loc} {st : St} {Q : V → St → Prop} {X : Xp} {x d ru sh se ma sa mk mt : Addr} {fs : Int} {rs : List Ru} {room : Nat} {g g' : Sg}
noncomputable abbrev RF (w : Str) : V := .tup [.str "refused", .str w]
/-- why a deed is refused -/
noncomputable def why (g : Sg) : Dd → Str
  | .keep => if g.place ∈ g.marks then "twice" else "full"
  | .meet => "notwanted"
  | .go _ => "atend"
  | _ => "notkept"
/-- what comes of a deed -/
noncomputable def fo (room n : Nat) (g : Sg) (dd : Dd) : V × Sg := match stp room n g dd with
  | some g' => (.none, g')
  | none => (RF (why g dd), g)
theorem fo_ok {n : Nat} {dd : Dd} (h : stp room n g dd = some g') : fo room n g dd = (.none, g') := by unfold fo; rw [h]
theorem fo_no {n : Nat} {dd : Dd} (h : stp room n g dd = none) : fo room n g dd = (RF (why g dd), g) := by unfold fo; rw [h]
noncomputable abbrev nI (ms : List Nat) : List Int := ms.map fun (n : Nat) => (n : Int)
theorem nI_mem {ms : List Nat} {n : Nat} : (n : Int) ∈ nI ms ↔ n ∈ ms := by
  unfold nI
  rw [List.mem_map]
  exact ⟨fun ⟨m, h1, h2⟩ => (by lia : m = n) ▸ h1, fun h => ⟨n, h, rfl⟩⟩
theorem nI_of {ns : List Int} {l : List Nat} (hp : ns.Perm (nI l)) (ho : ns.Pairwise (· ≤ ·)) : ∃ ms, ns = nI ms ∧ ms.Perm l ∧ ms.Pairwise (· ≤ ·) := by
  have e : nI (ns.map Int.toNat) = ns := by
    unfold nI
    rw [List.map_map]
    refine (List.map_congr_left fun z hz => ?_).trans (List.map_id ns)
    obtain ⟨m, _, rfl⟩ := List.mem_map.mp (hp.mem_iff.mp hz)
    simp
  refine ⟨ns.map Int.toNat, e.symm, ?_, ?_⟩
  · have := hp.map Int.toNat
    unfold nI at this
    rw [List.map_map, show (Int.toNat ∘ fun (n : Nat) => (n : Int)) = id from funext fun n => by simp, List.map_id] at this
    exact this
  · rw [← e] at ho
    unfold nI at ho
    exact (List.pairwise_map.mp ho).imp fun q => by lia
/-- a model as it lies -/
noncomputable abbrev MD (sa mk mt : Addr) (room : Nat) (pl co wn : Int) : List (Str × V) := [("states", .ref sa), ("room", .int (room : Int)), ("place", .int pl), ("done", .int co), ("wanted", .int wn), ("marks", .ref mk), ("met", .ref mt)]
structure Mo (st : St) (ma sa mk mt : Addr) (fs : Int) (rs : List Ru) (room : Nat) (g : Sg) : Prop where
  m : get st ma = some (.dictS (MD sa mk mt room g.place g.cost ((g.want : Int) - 1)))
  s : get st sa = some (.list ((stL fs rs (rs.length + 1)).map .int))
  k : ∃ ms : List Nat, get st mk = some (.list ((nI ms).map .int)) ∧ ms.Perm g.marks ∧ ms.Pairwise (· ≤ ·)
  t : get st mt = some (.list ((seenL fs rs (rs.length + 1 - g.want)).map .int))
theorem Mo.keep {st' : St} {as : List Addr} (M : Mo st ma sa mk mt fs rs room g) (kb : KeepBut st st' as) (h1 : ma ∉ as) (h2 : sa ∉ as) (h3 : mk ∉ as) (h4 : mt ∉ as) : Mo st' ma sa mk mt fs rs room g := by
  obtain ⟨ms, q1, q2, q3⟩ := M.k
  exact ⟨kb _ _ h1 M.m, kb _ _ h2 M.s, ⟨ms, kb _ _ h3 q1, q2, q3⟩, kb _ _ h4 M.t⟩
theorem Mo.off (M : Mo st ma sa mk mt fs rs room g) : sa ≠ ma ∧ mk ≠ ma ∧ mt ≠ ma := by
  obtain ⟨ms, q1, q2, q3⟩ := M.k
  have a := M.m; have b := M.s; have e := M.t
  refine ⟨?_, ?_, ?_⟩ <;> (intro q; subst q; simp_all)
theorem s_mdo (hK : Kc c) (hq : c.q = true) {dd : Dd} (hd : deedOk dd) (M : Mo st ma sa mk mt fs rs room g) (hr : room ≤ 12) (hn : rs.length ≤ 12) (hpl : g.place ≤ rs.length) (hrl : g.marks.length ≤ room) (hwl : g.want ≤ rs.length + 1)
    (h : ∀ mk' mt' st', KeepBut st st' [ma] → (mk' = mk ∨ get st mk' = none) → (mt' = mt ∨ get st mt' = none) → Mo st' ma sa mk' mt' fs rs room (fo room rs.length g dd).2 → Q (fo room rs.length g dd).1 st') : CF c (k + 1) A_law_do [.ref ma, deedV dd] ρ st Q X := by
  obtain ⟨ms, gk, hp, ho⟩ := M.k
  obtain ⟨n1, n2, n3⟩ := M.off
  have hlen := hp.length_eq
  have no : stp room rs.length g dd = none → Q (RF (why g dd)) st := fun e => by
    rw [fo_no e] at h
    exact h mk mt st KeepBut.refl (.inl rfl) (.inl rfl) M
  refine CallW.fn (Facts.fn_law_do hK) rfl ?_
  cases dd with
  | keep =>
    simp only [deedV]
    ((refine WPS.cons ?_); (repeat' (first | (with_reducible first | refine WPE.cint ?_ | refine WPE.cstr ?_ | refine W2.eqS ?_ | refine nxt_next ?_ | refine cnd_t ?_ | refine WPS.cons ?_ | refine WPs.ifs ?_) | ((with_reducible refine WPs.asg ?_ ?_ ?_); (case refine_2 => rfl); (case refine_3 => intros; rfl)) | ((with_reducible refine WPB.cmp ?_ ?_); (case refine_2 => rfl)) | (with_reducible refine WPE.sub ?_) | ((with_reducible refine' WPE.nm ?_ ?_ ?_ ?_); (case refine'_2 => rfl); (case refine'_4 => decide); (case refine'_5 => decide)) | ((with_reducible refine cnd_is true ?_ ?_); (case refine_1 => rfl)) | ((with_reducible refine' W2.tupAt ?_ ?_ ?_ ?_); (case refine'_2 => rfl); (case refine'_3 => rfl); (case refine'_4 => rfl)) | (with_reducible refine ⟨_, rfl, ?_⟩) | fail)))
    refine W2.getS M.m rfl rfl ?_
    (repeat' (first | (with_reducible first | refine WPE.cstr ?_ | refine WPE.sub ?_) | ((with_reducible refine' WPE.nm ?_ ?_ ?_ ?_); (case refine'_2 => rfl); (case refine'_4 => decide); (case refine'_5 => decide)) | fail))
    refine W2.getS M.m rfl rfl ?_
    refine W2.inInts gk ?_
    by_cases hc : g.place ∈ g.marks
    · rw [decide_eq_true (nI_mem.mpr (hp.mem_iff.mpr hc))]
      (repeat' (first | (with_reducible first | refine WPE.cstr ?_ | refine nxt_ret ?_ | refine cnd_t ?_ | refine WPS.cons ?_ | refine WPEs.nil ?_ | refine WPs.ret ?_) | ((with_reducible refine WPEs.cons ?_ ?_); (case refine_2 => intros; rfl)) | ((with_reducible refine WPE.tup ?_ ?_); (case refine_2 => decide)) | (with_reducible refine ⟨_, rfl, ?_⟩) | fail))
      have := no (if_neg fun q => q.1 hc)
      rw [show why g .keep = "twice" from if_pos hc] at this
      exact this
    · rw [decide_eq_false fun q => hc (hp.mem_iff.mp (nI_mem.mp q))]
      (repeat' (first | (with_reducible first | refine WPE.cstr ?_ | refine nxt_next ?_ | refine cnd_f ?_ | refine WPS.cons ?_ | refine WPS.nil ?_ | refine WPs.ifs ?_) | ((with_reducible refine WPEs.cons ?_ ?_); (case refine_2 => intros; rfl)) | ((with_reducible refine WPB.cmp ?_ ?_); (case refine_2 => rfl)) | ((with_reducible refine c_len ‹_› ?_ ?_ ?_); (case refine_1 => rfl); (case refine_3 => intros; rfl)) | (with_reducible refine WPE.sub ?_) | ((with_reducible refine' WPE.nm ?_ ?_ ?_ ?_); (case refine'_2 => rfl); (case refine'_4 => decide); (case refine'_5 => decide)) | (with_reducible refine ⟨_, rfl, ?_⟩) | fail))
      refine W2.getS M.m rfl rfl ?_
      (repeat' (first | (with_reducible refine WPEs.nil ?_) | fail))
      refine WL.lenList gk (by simp; lia) ?_
      (repeat' (first | (with_reducible first | refine WPE.cstr ?_ | refine WPE.sub ?_) | ((with_reducible refine' WPE.nm ?_ ?_ ?_ ?_); (case refine'_2 => rfl); (case refine'_4 => decide); (case refine'_5 => decide)) | fail))
      refine W2.getS M.m rfl rfl ?_
      (repeat' (first | (with_reducible first | refine W2.eqI ?_ | refine ⟨_, rfl, ?_⟩) | fail))
      by_cases hf : g.marks.length = room
      · refine cnd_is true (by simp; lia) ?_
        (repeat' (first | (with_reducible first | refine WPE.cstr ?_ | refine nxt_ret ?_ | refine cnd_t ?_ | refine WPS.cons ?_ | refine WPEs.nil ?_ | refine WPs.ret ?_) | ((with_reducible refine WPEs.cons ?_ ?_); (case refine_2 => intros; rfl)) | ((with_reducible refine WPE.tup ?_ ?_); (case refine_2 => decide)) | fail))
        have := no (if_neg fun q => by lia)
        rw [show why g .keep = "full" from if_neg hc] at this
        exact this
      · refine cnd_is false (by simp; lia) ?_
        rw [fo_ok (stp_keep hc (by lia))] at h
        (repeat' (first | (with_reducible refine WPS.nil ?_) | ((fail_if_success (with_reducible show WPS _ _ _ _ _ _ _ _)); (first | (with_reducible first | refine nxt_next ?_ | refine cnd_f ?_) | fail)) | fail))
        refine WPS.cons ?_
        refine WPs.setItem ?_
        (repeat' (first | ((fail_if_success (with_reducible show WPS _ _ _ _ _ _ _ _)); (first | (with_reducible first | refine WPE.cstr ?_ | refine WPE.bin ?_) | ((with_reducible refine WPEs.cons ?_ ?_); (case refine_2 => intros; rfl)) | ((with_reducible refine c_sorted ‹_› ?_ ?_ ?_); (case refine_1 => rfl); (case refine_3 => intros; rfl)) | (with_reducible refine WPE.sub ?_) | ((with_reducible refine' WPE.nm ?_ ?_ ?_ ?_); (case refine'_2 => rfl); (case refine'_4 => decide); (case refine'_5 => decide)) | fail)) | fail))
        refine W2.getS M.m rfl rfl ?_
        (repeat' (first | ((fail_if_success (with_reducible show WPS _ _ _ _ _ _ _ _)); (first | (with_reducible refine WPE.cstr ?_) | ((with_reducible refine WPEs.cons ?_ ?_); (case refine_2 => intros; rfl)) | (with_reducible refine WPE.sub ?_) | ((with_reducible refine WPE.lst ?_ ?_); (case refine_2 => decide)) | ((with_reducible refine' WPE.nm ?_ ?_ ?_ ?_); (case refine'_2 => rfl); (case refine'_4 => decide); (case refine'_5 => decide)) | fail)) | fail))
        refine W2.getS M.m rfl rfl ?_
        (repeat' (first | ((fail_if_success (with_reducible show WPS _ _ _ _ _ _ _ _)); (first | (with_reducible refine WPEs.nil ?_) | fail)) | fail))
        intro a1 ha1
        refine W2.addList ((Le.alloc ha1) _ _ gk) get_head (small_ok'' (by simp; lia)) ?_
        rw [show (nI ms).map V.int ++ [.int (g.place : Int)] = (nI (ms ++ [g.place])).map V.int by simp [nI]]
        intro a2 ha2
        (repeat' (first | ((fail_if_success (with_reducible show WPS _ _ _ _ _ _ _ _)); (first | (with_reducible refine WPEs.nil ?_) | fail)) | fail))
        refine WL.sortedInts get_head (by simp [nI]; lia) ?_
        intro ns hpn hon a3 ha3
        obtain ⟨ms', rfl, hp', ho'⟩ := nI_of hpn hon
        have L := ((Le.alloc (o := .list [.int (g.place : Int)]) ha1).cons (o := .list ((nI (ms ++ [g.place])).map .int)) ha2).cons (o := .list ((nI ms').map .int)) ha3
        have hk3 : get ((a3, O.list ((nI ms').map .int)) :: (a2, .list ((nI (ms ++ [g.place])).map .int)) :: (a1, .list [.int (g.place : Int)]) :: st) a3 = some (.list ((nI ms').map .int)) := get_head
        have f3 := ((Le.alloc (o := .list [.int (g.place : Int)]) ha1).cons (o := .list ((nI (ms ++ [g.place])).map .int)) ha2).none ha3
        generalize (a3, O.list ((nI ms').map .int)) :: (a2, .list ((nI (ms ++ [g.place])).map .int)) :: (a1, .list [.int (g.place : Int)]) :: st = S at L hk3 ⊢
        (repeat' (first | ((fail_if_success (with_reducible show WPS _ _ _ _ _ _ _ _)); (first | (with_reducible refine WPE.cstr ?_) | ((with_reducible refine' WPE.nm ?_ ?_ ?_ ?_); (case refine'_2 => rfl); (case refine'_4 => decide); (case refine'_5 => decide)) | fail)) | fail))
        refine W3.putS (L _ _ M.m) (by simp) ?_
        (repeat' (first | (with_reducible refine WPS.nil ?_) | ((fail_if_success (with_reducible show WPS _ _ _ _ _ _ _ _)); (first | (with_reducible refine nxt_next ?_) | fail)) | fail))
        refine WPS.cons ?_
        (repeat' (first | ((fail_if_success (with_reducible show WPS _ _ _ _ _ _ _ _)); (first | (with_reducible first | refine WPE.cnone ?_ | refine nxt_ret ?_ | refine WPs.ret ?_) | fail)) | fail))
        have na : a3 ≠ ma := fun e => by rw [e, M.m] at f3; cases f3
        refine h a3 mt _ ((KeepBut.of L).upd (by simp)) (.inr f3) (.inl rfl) ⟨get_upd_self (L _ _ M.m), (get_upd_ne n1).trans (L _ _ M.s), ⟨ms', (get_upd_ne na).trans hk3, hp'.trans (hp.append_right _), ho'⟩, (get_upd_ne n3).trans (L _ _ M.t)⟩
  | go n =>
    obtain ⟨hd1, hd2⟩ := hd
    simp only [deedV]
    ((refine WPS.cons ?_); (repeat' (first | (with_reducible first | refine WPE.cint ?_ | refine WPE.cstr ?_ | refine WPE.bin ?_ | refine W2.eqS ?_ | refine nxt_next ?_ | refine cnd_t ?_ | refine cnd_f ?_ | refine WPS.cons ?_ | refine WPs.ifs ?_) | ((with_reducible refine WPs.asg ?_ ?_ ?_); (case refine_2 => rfl); (case refine_3 => intros; rfl)) | ((with_reducible refine WPB.cmp ?_ ?_); (case refine_2 => rfl)) | (with_reducible refine WPE.sub ?_) | ((with_reducible refine' WPE.nm ?_ ?_ ?_ ?_); (case refine'_2 => rfl); (case refine'_4 => decide); (case refine'_5 => decide)) | ((with_reducible refine cnd_is true ?_ ?_); (case refine_1 => rfl)) | ((with_reducible refine cnd_is false ?_ ?_); (case refine_1 => rfl)) | ((with_reducible refine' W2.tupAt ?_ ?_ ?_ ?_); (case refine'_2 => rfl); (case refine'_3 => rfl); (case refine'_4 => rfl)) | (with_reducible refine ⟨_, rfl, ?_⟩) | fail)))
    refine W2.getS M.m rfl rfl ?_
    (repeat' (first | (with_reducible first | refine WPE.cint ?_ | refine WPE.cstr ?_ | refine W2.addI ?_) | ((with_reducible refine WPEs.cons ?_ ?_); (case refine_2 => intros; rfl)) | ((with_reducible refine c_len ‹_› ?_ ?_ ?_); (case refine_1 => rfl); (case refine_3 => intros; rfl)) | (with_reducible refine WPE.sub ?_) | ((with_reducible refine' WPE.nm ?_ ?_ ?_ ?_); (case refine'_2 => rfl); (case refine'_4 => decide); (case refine'_5 => decide)) | ((with_reducible refine' W2.tupAt ?_ ?_ ?_ ?_); (case refine'_2 => rfl); (case refine'_3 => rfl); (case refine'_4 => rfl)) | fail))
    refine W2.getS M.m rfl rfl ?_
    (repeat' (first | (with_reducible refine WPEs.nil ?_) | fail))
    refine WL.lenList M.s (by simp [stL_len]; lia) ?_
    rw [List.length_map, stL_len]
    (repeat' (first | (with_reducible first | refine W2.geI ?_ | refine ⟨_, rfl, ?_⟩) | fail))
    by_cases hc : g.place + n ≤ rs.length
    · refine cnd_is false (by simp; lia) ?_
      rw [fo_ok (stp_go hd1 hc)] at h
      (repeat' (first | (with_reducible refine WPS.nil ?_) | ((fail_if_success (with_reducible show WPS _ _ _ _ _ _ _ _)); (first | (with_reducible first | refine nxt_next ?_ | refine cnd_f ?_) | fail)) | fail))
      refine WPS.cons ?_
      refine WPs.setItem ?_
      (repeat' (first | ((fail_if_success (with_reducible show WPS _ _ _ _ _ _ _ _)); (first | (with_reducible first | refine WPE.cstr ?_ | refine WPE.bin ?_ | refine WPE.sub ?_) | ((with_reducible refine' WPE.nm ?_ ?_ ?_ ?_); (case refine'_2 => rfl); (case refine'_4 => decide); (case refine'_5 => decide)) | fail)) | fail))
      refine W2.getS M.m rfl rfl ?_
      (repeat' (first | ((fail_if_success (with_reducible show WPS _ _ _ _ _ _ _ _)); (first | (with_reducible first | refine WPE.cint ?_ | refine WPE.cstr ?_ | refine W2.addI ?_ | refine WPE.sub ?_) | ((with_reducible refine' WPE.nm ?_ ?_ ?_ ?_); (case refine'_2 => rfl); (case refine'_4 => decide); (case refine'_5 => decide)) | ((with_reducible refine' W2.tupAt ?_ ?_ ?_ ?_); (case refine'_2 => rfl); (case refine'_3 => rfl); (case refine'_4 => rfl)) | fail)) | fail))
      refine W3.putS M.m (by simp) ?_
      have A1 : get (upd st ma (.dictS (MD sa mk mt room ((g.place : Int) + (n : Int)) g.cost ((g.want : Int) - 1)))) ma = some (.dictS (MD sa mk mt room ((g.place : Int) + (n : Int)) g.cost ((g.want : Int) - 1))) := get_upd_self M.m
      have K1 : KeepBut st (upd st ma (.dictS (MD sa mk mt room ((g.place : Int) + (n : Int)) g.cost ((g.want : Int) - 1)))) [ma] := KeepBut.refl.upd (by simp)
      rw [show putA (MD sa mk mt room g.place g.cost ((g.want : Int) - 1)) "place" (.int ((g.place : Int) + (n : Int))) = MD sa mk mt room ((g.place : Int) + (n : Int)) g.cost ((g.want : Int) - 1) from rfl]
      generalize upd st ma (.dictS (MD sa mk mt room ((g.place : Int) + (n : Int)) g.cost ((g.want : Int) - 1))) = S at A1 K1 ⊢
      (repeat' (first | ((fail_if_success (with_reducible show WPS _ _ _ _ _ _ _ _)); (first | (with_reducible refine nxt_next ?_) | fail)) | fail))
      refine WPS.cons ?_
      refine WPs.setItem ?_
      (repeat' (first | ((fail_if_success (with_reducible show WPS _ _ _ _ _ _ _ _)); (first | (with_reducible first | refine WPE.cstr ?_ | refine WPE.bin ?_ | refine WPE.sub ?_) | ((with_reducible refine' WPE.nm ?_ ?_ ?_ ?_); (case refine'_2 => rfl); (case refine'_4 => decide); (case refine'_5 => decide)) | fail)) | fail))
      refine W2.getS A1 rfl rfl ?_
      (repeat' (first | ((fail_if_success (with_reducible show WPS _ _ _ _ _ _ _ _)); (first | (with_reducible first | refine WPE.cint ?_ | refine WPE.cstr ?_ | refine W2.addI ?_ | refine WPE.sub ?_) | ((with_reducible refine' WPE.nm ?_ ?_ ?_ ?_); (case refine'_2 => rfl); (case refine'_4 => decide); (case refine'_5 => decide)) | ((with_reducible refine' W2.tupAt ?_ ?_ ?_ ?_); (case refine'_2 => rfl); (case refine'_3 => rfl); (case refine'_4 => rfl)) | fail)) | fail))
      refine W3.putS A1 (by simp) ?_
      (repeat' (first | (with_reducible refine WPS.nil ?_) | ((fail_if_success (with_reducible show WPS _ _ _ _ _ _ _ _)); (first | (with_reducible refine nxt_next ?_) | fail)) | fail))
      refine WPS.cons ?_
      (repeat' (first | ((fail_if_success (with_reducible show WPS _ _ _ _ _ _ _ _)); (first | (with_reducible first | refine WPE.cnone ?_ | refine nxt_ret ?_ | refine WPs.ret ?_) | fail)) | fail))
      have K2 := K1.upd (x := ma) (o := .dictS (putA (MD sa mk mt room ((g.place : Int) + (n : Int)) g.cost ((g.want : Int) - 1)) "done" (.int ((g.cost : Int) + (n : Int))))) (by simp)
      refine h mk mt _ K2 (.inl rfl) (.inl rfl) ⟨?_, K2 _ _ (by simp [n1]) M.s, ⟨ms, K2 _ _ (by simp [n2]) gk, hp, ho⟩, K2 _ _ (by simp [n3]) M.t⟩
      rw [get_upd_self A1]
      dsimp only
      rw [show ((g.place + n : Nat) : Int) = (g.place : Int) + (n : Int) by with_reducible exact zN, show ((g.cost + n : Nat) : Int) = (g.cost : Int) + (n : Int) by with_reducible exact zN]
      rfl
    · refine cnd_is true (by simp; lia) ?_
      (repeat' (first | (with_reducible first | refine WPE.cstr ?_ | refine nxt_ret ?_ | refine cnd_t ?_ | refine WPS.cons ?_ | refine WPEs.nil ?_ | refine WPs.ret ?_) | ((with_reducible refine WPEs.cons ?_ ?_); (case refine_2 => intros; rfl)) | ((with_reducible refine WPE.tup ?_ ?_); (case refine_2 => decide)) | fail))
      exact no (if_neg fun q => hc q.2)
  | meet =>
    simp only [deedV]
    ((refine WPS.cons ?_); (repeat' (first | (with_reducible first | refine WPE.cint ?_ | refine WPE.cstr ?_ | refine W2.eqS ?_ | refine nxt_next ?_ | refine cnd_t ?_ | refine cnd_f ?_ | refine WPS.cons ?_ | refine WPs.ifs ?_) | ((with_reducible refine WPs.asg ?_ ?_ ?_); (case refine_2 => rfl); (case refine_3 => intros; rfl)) | ((with_reducible refine WPB.cmp ?_ ?_); (case refine_2 => rfl)) | (with_reducible refine WPE.sub ?_) | ((with_reducible refine' WPE.nm ?_ ?_ ?_ ?_); (case refine'_2 => rfl); (case refine'_4 => decide); (case refine'_5 => decide)) | ((with_reducible refine cnd_is true ?_ ?_); (case refine_1 => rfl)) | ((with_reducible refine cnd_is false ?_ ?_); (case refine_1 => rfl)) | ((with_reducible refine' W2.tupAt ?_ ?_ ?_ ?_); (case refine'_2 => rfl); (case refine'_3 => rfl); (case refine'_4 => rfl)) | (with_reducible refine ⟨_, rfl, ?_⟩) | fail)))
    refine W2.getS M.m rfl rfl ?_
    (repeat' (first | (with_reducible first | refine WPE.cstr ?_ | refine WPE.sub ?_) | ((with_reducible refine' WPE.nm ?_ ?_ ?_ ?_); (case refine'_2 => rfl); (case refine'_4 => decide); (case refine'_5 => decide)) | fail))
    refine W2.getS M.m rfl rfl ?_
    (repeat' (first | (with_reducible first | refine W2.neI ?_ | refine ⟨_, rfl, ?_⟩) | fail))
    by_cases hc : g.want = g.place + 1
    · refine cnd_is false (by simp; lia) ?_
      rw [fo_ok (stp_meet hc)] at h
      (repeat' (first | (with_reducible refine WPS.nil ?_) | ((fail_if_success (with_reducible show WPS _ _ _ _ _ _ _ _)); (first | (with_reducible first | refine nxt_next ?_ | refine cnd_f ?_) | fail)) | fail))
      refine WPS.cons ?_
      refine WPs.setItem ?_
      (repeat' (first | ((fail_if_success (with_reducible show WPS _ _ _ _ _ _ _ _)); (first | (with_reducible first | refine WPE.cstr ?_ | refine WPE.bin ?_ | refine WPE.sub ?_) | ((with_reducible refine' WPE.nm ?_ ?_ ?_ ?_); (case refine'_2 => rfl); (case refine'_4 => decide); (case refine'_5 => decide)) | fail)) | fail))
      refine W2.getS M.m rfl rfl ?_
      (repeat' (first | ((fail_if_success (with_reducible show WPS _ _ _ _ _ _ _ _)); (first | (with_reducible refine WPE.cstr ?_) | ((with_reducible refine WPEs.cons ?_ ?_); (case refine_2 => intros; rfl)) | (with_reducible refine WPE.sub ?_) | ((with_reducible refine WPE.lst ?_ ?_); (case refine_2 => decide)) | ((with_reducible refine' WPE.nm ?_ ?_ ?_ ?_); (case refine'_2 => rfl); (case refine'_4 => decide); (case refine'_5 => decide)) | fail)) | fail))
      refine W2.getS M.m rfl rfl ?_
      (repeat' (first | ((fail_if_success (with_reducible show WPS _ _ _ _ _ _ _ _)); (first | (with_reducible first | refine WPE.cstr ?_ | refine WPE.sub ?_) | ((with_reducible refine' WPE.nm ?_ ?_ ?_ ?_); (case refine'_2 => rfl); (case refine'_4 => decide); (case refine'_5 => decide)) | fail)) | fail))
      refine W2.getS M.m rfl rfl ?_
      refine W2.subList M.s rfl (by simp [stL_len]; lia) (seqIndex_pos (by with_reducible exact zC) (by simp [stL_len]; lia)) (v := .int (stN fs rs g.place)) (by
        rw [List.getElem?_map, Int.toNat_natCast, stL, List.getElem?_map, List.getElem?_range (by lia)]; rfl) ?_
      (repeat' (first | ((fail_if_success (with_reducible show WPS _ _ _ _ _ _ _ _)); (first | (with_reducible refine WPEs.nil ?_) | fail)) | fail))
      intro a1 ha1
      refine W2.addList ((Le.alloc ha1) _ _ M.t) get_head (small_ok'' (by simp [seenL]; lia)) ?_
      rw [show (seenL fs rs (rs.length + 1 - g.want)).map V.int ++ [.int (stN fs rs g.place)] = (seenL fs rs (rs.length + 1 - g.place)).map V.int by
        rw [hc, show rs.length + 1 - g.place = (rs.length + 1 - (g.place + 1)) + 1 by lia]
        unfold seenL
        rw [List.range_succ, List.map_append, List.map_append]
        simp only [List.map_cons, List.map_nil]
        rw [show rs.length - (rs.length + 1 - (g.place + 1)) = g.place by lia]]
      intro a2 ha2
      have L := (Le.alloc (o := .list [.int (stN fs rs g.place)]) ha1).cons (o := .list ((seenL fs rs (rs.length + 1 - g.place)).map .int)) ha2
      have hk2 : get ((a2, O.list ((seenL fs rs (rs.length + 1 - g.place)).map .int)) :: (a1, .list [.int (stN fs rs g.place)]) :: st) a2 = some (.list ((seenL fs rs (rs.length + 1 - g.place)).map .int)) := get_head
      have f2 := (Le.alloc (o := .list [.int (stN fs rs g.place)]) ha1).none ha2
      generalize (a2, O.list ((seenL fs rs (rs.length + 1 - g.place)).map .int)) :: (a1, .list [.int (stN fs rs g.place)]) :: st = S at L hk2 ⊢
      have na : a2 ≠ ma := fun e => by rw [e, M.m] at f2; cases f2
      (repeat' (first | ((fail_if_success (with_reducible show WPS _ _ _ _ _ _ _ _)); (first | (with_reducible refine WPE.cstr ?_) | ((with_reducible refine' WPE.nm ?_ ?_ ?_ ?_); (case refine'_2 => rfl); (case refine'_4 => decide); (case refine'_5 => decide)) | fail)) | fail))
      refine W3.putS (L _ _ M.m) (by simp) ?_
      rw [show putA (MD sa mk mt room g.place g.cost ((g.want : Int) - 1)) "met" (.ref a2) = MD sa mk a2 room g.place g.cost ((g.want : Int) - 1) from rfl]
      have A1 := get_upd_self (o := .dictS (MD sa mk a2 room g.place g.cost ((g.want : Int) - 1))) (L _ _ M.m)
      have K1 := (KeepBut.of (as := [ma]) L).upd (x := ma) (o := .dictS (MD sa mk a2 room g.place g.cost ((g.want : Int) - 1))) (by simp)
      have T1 := (get_upd_ne (o := .dictS (MD sa mk a2 room g.place g.cost ((g.want : Int) - 1))) na).trans hk2
      generalize upd S ma (.dictS (MD sa mk a2 room g.place g.cost ((g.want : Int) - 1))) = S2 at A1 K1 T1 ⊢
      (repeat' (first | ((fail_if_success (with_reducible show WPS _ _ _ _ _ _ _ _)); (first | (with_reducible refine nxt_next ?_) | fail)) | fail))
      refine WPS.cons ?_
      refine WPs.setItem ?_
      (repeat' (first | ((fail_if_success (with_reducible show WPS _ _ _ _ _ _ _ _)); (first | (with_reducible first | refine WPE.cstr ?_ | refine WPE.bin ?_ | refine WPE.sub ?_) | ((with_reducible refine' WPE.nm ?_ ?_ ?_ ?_); (case refine'_2 => rfl); (case refine'_4 => decide); (case refine'_5 => decide)) | fail)) | fail))
      refine W2.getS A1 rfl rfl ?_
      (repeat' (first | ((fail_if_success (with_reducible show WPS _ _ _ _ _ _ _ _)); (first | (with_reducible first | refine WPE.cint ?_ | refine WPE.cstr ?_ | refine W2.subI ?_) | ((with_reducible refine' WPE.nm ?_ ?_ ?_ ?_); (case refine'_2 => rfl); (case refine'_4 => decide); (case refine'_5 => decide)) | fail)) | fail))
      refine W3.putS A1 (by simp) ?_
      (repeat' (first | (with_reducible refine WPS.nil ?_) | ((fail_if_success (with_reducible show WPS _ _ _ _ _ _ _ _)); (first | (with_reducible refine nxt_next ?_) | fail)) | fail))
      refine WPS.cons ?_
      (repeat' (first | ((fail_if_success (with_reducible show WPS _ _ _ _ _ _ _ _)); (first | (with_reducible first | refine WPE.cnone ?_ | refine nxt_ret ?_ | refine WPs.ret ?_) | fail)) | fail))
      have K2 := K1.upd (x := ma) (o := .dictS (putA (MD sa mk a2 room g.place g.cost ((g.want : Int) - 1)) "wanted" (.int ((g.place : Int) - 1)))) (by simp)
      exact h mk a2 _ K2 (.inl rfl) (.inr f2) ⟨get_upd_self A1, K2 _ _ (by simp [n1]) M.s, ⟨ms, K2 _ _ (by simp [n2]) gk, hp, ho⟩, (get_upd_ne na).trans T1⟩
    · refine cnd_is true (by simp; lia) ?_
      (repeat' (first | (with_reducible first | refine WPE.cstr ?_ | refine nxt_ret ?_ | refine cnd_t ?_ | refine WPS.cons ?_ | refine WPEs.nil ?_ | refine WPs.ret ?_) | ((with_reducible refine WPEs.cons ?_ ?_); (case refine_2 => intros; rfl)) | ((with_reducible refine WPE.tup ?_ ?_); (case refine_2 => decide)) | fail))
      exact no (if_neg hc)
  | take n =>
    simp only [deedV]
    ((refine WPS.cons ?_); (repeat' (first | (with_reducible first | refine WPE.cint ?_ | refine WPE.cstr ?_ | refine W2.eqS ?_ | refine nxt_next ?_ | refine cnd_f ?_ | refine WPS.cons ?_ | refine WPs.ifs ?_) | ((with_reducible refine WPs.asg ?_ ?_ ?_); (case refine_2 => rfl); (case refine_3 => intros; rfl)) | ((with_reducible refine WPB.cmp ?_ ?_); (case refine_2 => rfl)) | (with_reducible refine WPE.sub ?_) | ((with_reducible refine' WPE.nm ?_ ?_ ?_ ?_); (case refine'_2 => rfl); (case refine'_4 => decide); (case refine'_5 => decide)) | ((with_reducible refine cnd_is false ?_ ?_); (case refine_1 => rfl)) | ((with_reducible refine' W2.tupAt ?_ ?_ ?_ ?_); (case refine'_2 => rfl); (case refine'_3 => rfl); (case refine'_4 => rfl)) | (with_reducible refine ⟨_, rfl, ?_⟩) | fail)))
    refine W2.getS M.m rfl rfl ?_
    refine W2.notInInts gk ?_
    by_cases hc : n ∈ g.marks
    · rw [decide_eq_true (nI_mem.mpr (hp.mem_iff.mpr hc))]
      rw [fo_ok (stp_take hc)] at h
      (repeat' (first | ((fail_if_success (with_reducible show WPS _ _ _ _ _ _ _ _)); (first | (with_reducible refine cnd_f ?_) | ((with_reducible refine cnd_is false ?_ ?_); (case refine_1 => rfl)) | (with_reducible refine ⟨_, rfl, ?_⟩) | fail)) | fail))
      refine WPS.cons ?_
      (repeat' (first | ((fail_if_success (with_reducible show WPS _ _ _ _ _ _ _ _)); (first | (with_reducible first | refine WPE.cstr ?_ | refine W2.eqS ?_ | refine cnd_t ?_ | refine WPs.ifs ?_) | ((with_reducible refine WPB.cmp ?_ ?_); (case refine_2 => rfl)) | ((with_reducible refine' WPE.nm ?_ ?_ ?_ ?_); (case refine'_2 => rfl); (case refine'_4 => decide); (case refine'_5 => decide)) | ((with_reducible refine cnd_is true ?_ ?_); (case refine_1 => rfl)) | (with_reducible refine ⟨_, rfl, ?_⟩) | fail)) | fail))
      refine WPS.cons ?_
      refine WPs.setItem ?_
      (repeat' (first | ((fail_if_success (with_reducible show WPS _ _ _ _ _ _ _ _)); (first | (with_reducible first | refine WPE.cint ?_ | refine WPE.cstr ?_ | refine WPE.sub ?_) | ((with_reducible refine' WPE.nm ?_ ?_ ?_ ?_); (case refine'_2 => rfl); (case refine'_4 => decide); (case refine'_5 => decide)) | ((with_reducible refine' W2.tupAt ?_ ?_ ?_ ?_); (case refine'_2 => rfl); (case refine'_3 => rfl); (case refine'_4 => rfl)) | fail)) | fail))
      refine W3.putS M.m (by simp) ?_
      (repeat' (first | (with_reducible refine WPS.nil ?_) | ((fail_if_success (with_reducible show WPS _ _ _ _ _ _ _ _)); (first | (with_reducible refine nxt_next ?_) | fail)) | fail))
      refine WPS.cons ?_
      (repeat' (first | ((fail_if_success (with_reducible show WPS _ _ _ _ _ _ _ _)); (first | (with_reducible first | refine WPE.cnone ?_ | refine nxt_ret ?_ | refine WPs.ret ?_) | fail)) | fail))
      have K1 := (KeepBut.refl (st := st) (as := [ma])).upd (x := ma) (o := .dictS (putA (MD sa mk mt room g.place g.cost ((g.want : Int) - 1)) "place" (.int (n : Int)))) (by simp)
      exact h mk mt _ K1 (.inl rfl) (.inl rfl) ⟨get_upd_self M.m, K1 _ _ (by simp [n1]) M.s, ⟨ms, K1 _ _ (by simp [n2]) gk, hp, ho⟩, K1 _ _ (by simp [n3]) M.t⟩
    · rw [decide_eq_false fun q => hc (hp.mem_iff.mp (nI_mem.mp q))]
      (repeat' (first | (with_reducible first | refine WPE.cstr ?_ | refine nxt_ret ?_ | refine cnd_t ?_ | refine WPS.cons ?_ | refine WPEs.nil ?_ | refine WPs.ret ?_) | ((with_reducible refine WPEs.cons ?_ ?_); (case refine_2 => intros; rfl)) | ((with_reducible refine WPE.tup ?_ ?_); (case refine_2 => decide)) | ((with_reducible refine cnd_is true ?_ ?_); (case refine_1 => rfl)) | (with_reducible refine ⟨_, rfl, ?_⟩) | fail))
      exact no (if_neg hc)
  | drop n =>
    simp only [deedV]
    ((refine WPS.cons ?_); (repeat' (first | (with_reducible first | refine WPE.cint ?_ | refine WPE.cstr ?_ | refine W2.eqS ?_ | refine nxt_next ?_ | refine cnd_f ?_ | refine WPS.cons ?_ | refine WPs.ifs ?_) | ((with_reducible refine WPs.asg ?_ ?_ ?_); (case refine_2 => rfl); (case refine_3 => intros; rfl)) | ((with_reducible refine WPB.cmp ?_ ?_); (case refine_2 => rfl)) | (with_reducible refine WPE.sub ?_) | ((with_reducible refine' WPE.nm ?_ ?_ ?_ ?_); (case refine'_2 => rfl); (case refine'_4 => decide); (case refine'_5 => decide)) | ((with_reducible refine cnd_is false ?_ ?_); (case refine_1 => rfl)) | ((with_reducible refine' W2.tupAt ?_ ?_ ?_ ?_); (case refine'_2 => rfl); (case refine'_3 => rfl); (case refine'_4 => rfl)) | (with_reducible refine ⟨_, rfl, ?_⟩) | fail)))
    refine W2.getS M.m rfl rfl ?_
    refine W2.notInInts gk ?_
    by_cases hc : n ∈ g.marks
    · rw [decide_eq_true (nI_mem.mpr (hp.mem_iff.mpr hc))]
      rw [fo_ok (stp_drop hc)] at h
      (repeat' (first | ((fail_if_success (with_reducible show WPS _ _ _ _ _ _ _ _)); (first | (with_reducible refine cnd_f ?_) | ((with_reducible refine cnd_is false ?_ ?_); (case refine_1 => rfl)) | (with_reducible refine ⟨_, rfl, ?_⟩) | fail)) | fail))
      refine WPS.cons ?_
      (repeat' (first | ((fail_if_success (with_reducible show WPS _ _ _ _ _ _ _ _)); (first | (with_reducible first | refine WPE.cstr ?_ | refine W2.eqS ?_ | refine cnd_f ?_ | refine WPs.ifs ?_) | ((with_reducible refine WPB.cmp ?_ ?_); (case refine_2 => rfl)) | ((with_reducible refine' WPE.nm ?_ ?_ ?_ ?_); (case refine'_2 => rfl); (case refine'_4 => decide); (case refine'_5 => decide)) | ((with_reducible refine cnd_is false ?_ ?_); (case refine_1 => rfl)) | (with_reducible refine ⟨_, rfl, ?_⟩) | fail)) | fail))
      refine WPS.cons ?_
      refine WPs.setItem ?_
      (repeat' (first | ((fail_if_success (with_reducible show WPS _ _ _ _ _ _ _ _)); (first | (with_reducible refine WPE.cstr ?_) | ((with_reducible refine WPE.comp ‹_› ?_ ?_ ?_); (case refine_1 => rfl); (case refine_3 => intros; rfl)) | (with_reducible refine WPE.sub ?_) | ((with_reducible refine' WPE.nm ?_ ?_ ?_ ?_); (case refine'_2 => rfl); (case refine'_4 => decide); (case refine'_5 => decide)) | fail)) | fail))
      refine W2.getS M.m rfl rfl ?_
      refine ⟨_, .list gk, small_ok'' (by simp; lia), ?_⟩
      refine COMP.filt (fun u => match u with | .int i => i != (n : Int) | _ => false) id (.list gk) ?_ ?_
      · intro u hu
        obtain ⟨z, hz, rfl⟩ := List.mem_map.mp hu
        refine ⟨?_, fun _ => ?_⟩
        · (repeat' (first | (with_reducible first | refine WPE.cint ?_ | refine W2.neI ?_) | ((with_reducible refine WPB.cmp ?_ ?_); (case refine_2 => rfl)) | (with_reducible refine WPE.sub ?_) | ((with_reducible refine' WPE.nm ?_ ?_ ?_ ?_); (case refine'_2 => rfl); (case refine'_4 => decide); (case refine'_5 => decide)) | ((with_reducible refine' W2.tupAt ?_ ?_ ?_ ?_); (case refine'_2 => rfl); (case refine'_3 => rfl); (case refine'_4 => rfl)) | (with_reducible refine ⟨_, rfl, ?_⟩) | fail))
          exact ⟨rfl, rfl⟩
        · (repeat' (first | ((with_reducible refine' WPE.nm ?_ ?_ ?_ ?_); (case refine'_2 => rfl); (case refine'_4 => decide); (case refine'_5 => decide)) | fail))
          exact ⟨rfl, rfl⟩
      rw [show (((nI ms).map V.int).filter fun u => match u with | .int i => i != (n : Int) | _ => false).map id = (nI (ms.filter fun x => !decide (x = n))).map V.int by
        rw [List.map_id, List.filter_map]
        congr 1
        unfold nI
        rw [List.filter_map]
        congr 1
        refine List.filter_congr fun y _ => ?_
        by_cases e : y = n
        · subst e; simp
        · have : ¬ (y : Int) = (n : Int) := by lia
          simp [e, this]]
      intro a1 ha1
      have na : a1 ≠ ma := fun e => by rw [e, M.m] at ha1; cases ha1
      have L := Le.alloc (o := .list ((nI (ms.filter fun x => !decide (x = n))).map .int)) ha1
      (repeat' (first | ((fail_if_success (with_reducible show WPS _ _ _ _ _ _ _ _)); (first | (with_reducible refine WPE.cstr ?_) | ((with_reducible refine' WPE.nm ?_ ?_ ?_ ?_); (case refine'_2 => rfl); (case refine'_4 => decide); (case refine'_5 => decide)) | fail)) | fail))
      refine W3.putS (L _ _ M.m) (by simp) ?_
      (repeat' (first | (with_reducible refine WPS.nil ?_) | ((fail_if_success (with_reducible show WPS _ _ _ _ _ _ _ _)); (first | (with_reducible refine nxt_next ?_) | fail)) | fail))
      refine WPS.cons ?_
      (repeat' (first | ((fail_if_success (with_reducible show WPS _ _ _ _ _ _ _ _)); (first | (with_reducible first | refine WPE.cnone ?_ | refine nxt_ret ?_ | refine WPs.ret ?_) | fail)) | fail))
      exact h a1 mt _ ((KeepBut.of L).upd (by simp)) (.inr ha1) (.inl rfl) ⟨get_upd_self (L _ _ M.m), (get_upd_ne n1).trans (L _ _ M.s), ⟨_, (get_upd_ne na).trans get_head, hp.filter _, ho.filter _⟩, (get_upd_ne n3).trans (L _ _ M.t)⟩
    · rw [decide_eq_false fun q => hc (hp.mem_iff.mp (nI_mem.mp q))]
      (repeat' (first | (with_reducible first | refine WPE.cstr ?_ | refine nxt_ret ?_ | refine cnd_t ?_ | refine WPS.cons ?_ | refine WPEs.nil ?_ | refine WPs.ret ?_) | ((with_reducible refine WPEs.cons ?_ ?_); (case refine_2 => intros; rfl)) | ((with_reducible refine WPE.tup ?_ ?_); (case refine_2 => decide)) | ((with_reducible refine cnd_is true ?_ ?_); (case refine_1 => rfl)) | (with_reducible refine ⟨_, rfl, ?_⟩) | fail))
      exact no (if_neg hc)
end

section
variable {c : Cx} {k : Nat} {sc : Scope} {ρ : Loc} {st : St} {Q : V → St → Prop} {X : Xp} {x d ru sh se ma sa mk mt : Addr} {fs : Int} {rs : List Ru} {room : Nat} {g g' : Sg}
theorem s_new (hK : Kc c) (hq : c.q = true) {ra : Addr} (hg : get st ra = some (.list (rs.map Ru.v))) (hf : 0 ≤ fs ∧ fs ≤ 999982) (hrs : ∀ r ∈ rs, r.Ok) (hl : rs.length ≤ 12)
    (h : ∀ ma sa mk mt st', Le st st' → get st ma = none → get st sa = none → get st mk = none → get st mt = none → Mo st' ma sa mk mt fs rs room ⟨0, [], rs.length + 1, 0⟩ → Q (.ref ma) st') : CF c (k + 3) A_law_new [.int fs, .ref ra, .int room] ρ st Q X := by
  refine CallW.fn (k := k + 2) (Facts.fn_law_new hK) rfl ?_
  refine WPS.cons ?_
  (repeat' (first | ((fail_if_success (with_reducible show WPS _ _ _ _ _ _ _ _)); (first | ((with_reducible refine WPs.asg ?_ ?_ ?_); (case refine_2 => rfl); (case refine_3 => intros; rfl)) | fail)) | fail))
  refine WPE.dictS ?_
  refine WPDs.cons ?_
  (repeat' (first | ((fail_if_success (with_reducible show WPS _ _ _ _ _ _ _ _)); (first | (with_reducible refine WPEs.nil ?_) | ((with_reducible refine WPEs.cons ?_ ?_); (case refine_2 => intros; rfl)) | ((with_reducible refine c_law_states ‹_› ?_ ?_ ?_); (case refine_1 => rfl); (case refine_3 => intros; rfl)) | ((with_reducible refine' WPE.nm ?_ ?_ ?_ ?_); (case refine'_2 => rfl); (case refine'_4 => decide); (case refine'_5 => decide)) | fail)) | fail))
  refine s_law_states (k := k) hK hq hf.1 hf.2 hrs (by ((with_reducible apply zD); (with_reducible assumption); exact rfl)) hg ?_
  intro sa st₁ hle₁ fsa hsa
  refine WPDs.cons ?_
  (repeat' (first | ((fail_if_success (with_reducible show WPS _ _ _ _ _ _ _ _)); (first | ((with_reducible refine' WPE.nm ?_ ?_ ?_ ?_); (case refine'_2 => rfl); (case refine'_4 => decide); (case refine'_5 => decide)) | fail)) | fail))
  refine WPDs.cons ?_
  (repeat' (first | ((fail_if_success (with_reducible show WPS _ _ _ _ _ _ _ _)); (first | (with_reducible refine WPE.cint ?_) | fail)) | fail))
  refine WPDs.cons ?_
  (repeat' (first | ((fail_if_success (with_reducible show WPS _ _ _ _ _ _ _ _)); (first | (with_reducible refine WPE.cint ?_) | fail)) | fail))
  refine WPDs.nil ?_
  intro ma hma _
  have fma := hle₁.none hma
  have nsa : sa ≠ ma := fun e => by rw [← e, hsa] at hma; cases hma
  have A1 : get ((ma, O.dictS (mergeA [] [("states", .ref sa), ("room", .int (room : Int)), ("place", .int 0), ("done", .int 0)])) :: st₁) ma = some (.dictS [("states", .ref sa), ("room", .int (room : Int)), ("place", .int 0), ("done", .int 0)]) := get_head
  have S1 := (Le.alloc (o := .dictS (mergeA [] [("states", .ref sa), ("room", .int (room : Int)), ("place", .int 0), ("done", .int 0)])) hma) _ _ hsa
  have L1 := hle₁.cons (o := .dictS (mergeA [] [("states", .ref sa), ("room", .int (room : Int)), ("place", .int 0), ("done", .int 0)])) hma
  generalize (ma, O.dictS (mergeA [] [("states", .ref sa), ("room", .int (room : Int)), ("place", .int 0), ("done", .int 0)])) :: st₁ = st₂ at A1 S1 L1 ⊢
  (repeat' (first | ((fail_if_success (with_reducible show WPS _ _ _ _ _ _ _ _)); (first | (with_reducible refine nxt_next ?_) | fail)) | fail))
  refine WPS.cons ?_
  refine WPs.setItem ?_
  (repeat' (first | ((fail_if_success (with_reducible show WPS _ _ _ _ _ _ _ _)); (first | (with_reducible refine WPEs.nil ?_) | ((with_reducible refine WPEs.cons ?_ ?_); (case refine_2 => intros; rfl)) | ((with_reducible refine c_len ‹_› ?_ ?_ ?_); (case refine_1 => rfl); (case refine_3 => intros; rfl)) | ((with_reducible refine' WPE.nm ?_ ?_ ?_ ?_); (case refine'_2 => rfl); (case refine'_4 => decide); (case refine'_5 => decide)) | fail)) | fail))
  refine WL.lenList (L1 _ _ hg) (by simp; ((with_reducible apply zF); (with_reducible assumption); exact rfl)) ?_
  rw [List.length_map]
  (repeat' (first | ((fail_if_success (with_reducible show WPS _ _ _ _ _ _ _ _)); (first | (with_reducible refine WPE.cstr ?_) | ((with_reducible refine' WPE.nm ?_ ?_ ?_ ?_); (case refine'_2 => rfl); (case refine'_4 => decide); (case refine'_5 => decide)) | fail)) | fail))
  refine W3.putS A1 (by simp) ?_
  rw [show putA ([("states", .ref sa), ("room", .int (room : Int)), ("place", .int 0), ("done", .int 0)] : List (Str × V)) "wanted" (.int (rs.length : Int)) = ([("states", .ref sa), ("room", .int (room : Int)), ("place", .int 0), ("done", .int 0), ("wanted", .int (rs.length : Int))] : List (Str × V)) from rfl]
  have A2 := get_upd_self (o := .dictS [("states", .ref sa), ("room", .int (room : Int)), ("place", .int 0), ("done", .int 0), ("wanted", .int (rs.length : Int))]) A1
  have S2 := (get_upd_ne (o := .dictS [("states", .ref sa), ("room", .int (room : Int)), ("place", .int 0), ("done", .int 0), ("wanted", .int (rs.length : Int))]) nsa).trans S1
  have L2 := L1.upd (o := .dictS [("states", .ref sa), ("room", .int (room : Int)), ("place", .int 0), ("done", .int 0), ("wanted", .int (rs.length : Int))]) fma
  generalize upd st₂ ma (.dictS [("states", .ref sa), ("room", .int (room : Int)), ("place", .int 0), ("done", .int 0), ("wanted", .int (rs.length : Int))]) = st₃ at A2 S2 L2 ⊢
  (repeat' (first | ((fail_if_success (with_reducible show WPS _ _ _ _ _ _ _ _)); (first | (with_reducible refine nxt_next ?_) | fail)) | fail))
  refine WPS.cons ?_
  refine WPs.setItem ?_
  (repeat' (first | ((fail_if_success (with_reducible show WPS _ _ _ _ _ _ _ _)); (first | (with_reducible refine WPEs.nil ?_) | ((with_reducible refine WPE.lst ?_ ?_); (case refine_2 => decide)) | fail)) | fail))
  intro mk hmk
  have fmk := L2.none hmk
  have nmk : mk ≠ ma := fun e => by rw [e, A2] at hmk; cases hmk
  have gmk : get ((mk, O.list []) :: st₃) mk = some (.list []) := get_head
  replace A2 := (Le.alloc (o := .list []) hmk) _ _ A2
  replace S2 := (Le.alloc (o := .list []) hmk) _ _ S2
  replace L2 := L2.cons (o := .list []) hmk
  generalize (mk, O.list []) :: st₃ = st₄ at A2 S2 L2 gmk ⊢
  (repeat' (first | ((fail_if_success (with_reducible show WPS _ _ _ _ _ _ _ _)); (first | (with_reducible refine WPE.cstr ?_) | ((with_reducible refine' WPE.nm ?_ ?_ ?_ ?_); (case refine'_2 => rfl); (case refine'_4 => decide); (case refine'_5 => decide)) | fail)) | fail))
  refine W3.putS A2 (by simp) ?_
  rw [show putA ([("states", .ref sa), ("room", .int (room : Int)), ("place", .int 0), ("done", .int 0), ("wanted", .int (rs.length : Int))] : List (Str × V)) "marks" (.ref mk) = ([("states", .ref sa), ("room", .int (room : Int)), ("place", .int 0), ("done", .int 0), ("wanted", .int (rs.length : Int)), ("marks", .ref mk)] : List (Str × V)) from rfl]
  have A3 := get_upd_self (o := .dictS [("states", .ref sa), ("room", .int (room : Int)), ("place", .int 0), ("done", .int 0), ("wanted", .int (rs.length : Int)), ("marks", .ref mk)]) A2
  have S3 := (get_upd_ne (o := .dictS [("states", .ref sa), ("room", .int (room : Int)), ("place", .int 0), ("done", .int 0), ("wanted", .int (rs.length : Int)), ("marks", .ref mk)]) nsa).trans S2
  have M3 := (get_upd_ne (o := .dictS [("states", .ref sa), ("room", .int (room : Int)), ("place", .int 0), ("done", .int 0), ("wanted", .int (rs.length : Int)), ("marks", .ref mk)]) nmk).trans gmk
  have L3 := L2.upd (o := .dictS [("states", .ref sa), ("room", .int (room : Int)), ("place", .int 0), ("done", .int 0), ("wanted", .int (rs.length : Int)), ("marks", .ref mk)]) fma
  generalize upd st₄ ma (.dictS [("states", .ref sa), ("room", .int (room : Int)), ("place", .int 0), ("done", .int 0), ("wanted", .int (rs.length : Int)), ("marks", .ref mk)]) = st₅ at A3 S3 M3 L3 ⊢
  (repeat' (first | ((fail_if_success (with_reducible show WPS _ _ _ _ _ _ _ _)); (first | (with_reducible refine nxt_next ?_) | fail)) | fail))
  refine WPS.cons ?_
  refine WPs.setItem ?_
  (repeat' (first | ((fail_if_success (with_reducible show WPS _ _ _ _ _ _ _ _)); (first | (with_reducible refine WPEs.nil ?_) | ((with_reducible refine WPE.lst ?_ ?_); (case refine_2 => decide)) | fail)) | fail))
  intro mt hmt
  have fmt := L3.none hmt
  have nmt : mt ≠ ma := fun e => by rw [e, A3] at hmt; cases hmt
  (repeat' (first | ((fail_if_success (with_reducible show WPS _ _ _ _ _ _ _ _)); (first | (with_reducible refine WPE.cstr ?_) | ((with_reducible refine' WPE.nm ?_ ?_ ?_ ?_); (case refine'_2 => rfl); (case refine'_4 => decide); (case refine'_5 => decide)) | fail)) | fail))
  refine W3.putS ((Le.alloc hmt) _ _ A3) (by simp) ?_
  (repeat' (first | ((fail_if_success (with_reducible show WPS _ _ _ _ _ _ _ _)); (first | (with_reducible refine nxt_next ?_) | fail)) | fail))
  refine WPS.cons ?_
  (repeat' (first | ((fail_if_success (with_reducible show WPS _ _ _ _ _ _ _ _)); (first | (with_reducible first | refine nxt_ret ?_ | refine WPs.ret ?_) | ((with_reducible refine' WPE.nm ?_ ?_ ?_ ?_); (case refine'_2 => rfl); (case refine'_4 => decide); (case refine'_5 => decide)) | fail)) | fail))
  refine h ma sa mk mt _ ((L3.cons hmt).upd fma) fma (fsa) (fmk) fmt ⟨?_, (get_upd_ne nsa).trans ((Le.alloc hmt) _ _ S3), ⟨[], (get_upd_ne nmk).trans ((Le.alloc hmt) _ _ M3), .refl _, .nil⟩, ?_⟩
  · rw [get_upd_self ((Le.alloc hmt) _ _ A3)]
    dsimp only
    rw [show ((rs.length + 1 : Nat) : Int) - 1 = (rs.length : Int) by with_reducible exact zT]
    rfl
  · rw [get_upd_ne nmt, get_head]
    dsimp only
    rw [Nat.sub_self]
    rfl
/-- things that are no deeds -/
inductive OddV (st : St) : V → Prop
  | five {v : V} : v ∈ ([.tup [.str "go", .int 0], .tup [.str "go", .int 101], .tup [.str "take", .int (-1)], .tup [.str "keep", .int 1], .tup [.str "go", .str "1"]] : List V) → OddV st v
  | dropT : OddV st (.tup [.str "drop", .bool true])
  | noT {v : V} {T : String} : typV st v = some T → T ≠ "tuple" → OddV st v
  | tupN {u : V} {r : List V} {U : String} : typV st u = some U → U ≠ "str" → r.length ≤ 1 → (∀ w ∈ r, (typV st w).isSome = true) → OddV st (.tup (u :: r))
theorem typ_list {a : Addr} {vs : List V} (h : get st a = some (.list vs)) : typV st (.ref a) = some "list" := by simp [typV, h]
theorem typ_dict {a : Addr} (h : get st a = some (.dictI [])) : typV st (.ref a) = some "dict" := by simp [typV, h]
noncomputable def Th (st : St) (v : V) : Prop := (∃ dd, deedOk dd ∧ v = deedV dd) ∨ OddV st v
theorem s_deed (hK : Kc c) (hq : c.q = true) {num : Int} (M : Mo st ma sa mk mt fs rs room g) (hr : room ≤ 12) (hn : rs.length ≤ 12) (hml : ∀ m ∈ g.marks, m ≤ rs.length) (hrl : g.marks.length ≤ room) (hwl : g.want ≤ rs.length + 1)
    (h : ∀ v st', Le st st' → Th st' v → Q v st') : CF c (k + 1) A_law_deed [.ref ma, .int num] ρ st Q X := by
  obtain ⟨ms, gk, hp, ho⟩ := M.k
  have hlen := hp.length_eq
  refine CallW.fn (Facts.fn_law_deed hK) rfl ?_
  have r7 : ∀ (way : Int) (st₀ : St) (ρ₁ : Loc), Le st st₀ → Sub [("_law_number_here", .int num), ("_law_way", .int way)] ρ₁ → WPS c k S_law_deed ρ₁ st₀ (B_law_deed.drop 6) (fun fl _ st' => Q (retV fl) st') (fun C _ st' => X C ρ st') := by
    intro way st₀ ρ₁ hle hs
    refine WPS.locs ?_ hs
    ((refine WPS.cons ?_); (repeat' (first | (with_reducible first | refine WPE.cint ?_ | refine W2.eqI ?_ | refine WPs.ifs ?_) | ((with_reducible refine WPB.cmp ?_ ?_); (case refine_2 => rfl)) | ((with_reducible refine' WPE.nm ?_ ?_ ?_ ?_); (case refine'_2 => rfl); (case refine'_4 => decide); (case refine'_5 => decide)) | (with_reducible refine ⟨_, rfl, ?_⟩) | fail)))
    refine cnd_cases (fun hb => ?_) (fun hb => ?_)
    · refine WPS.cons ?_
      (repeat' (first | ((fail_if_success (with_reducible show WPS _ _ _ _ _ _ _ _)); (first | (with_reducible first | refine WPE.cstr ?_ | refine WPEs.nil ?_ | refine WPs.ret ?_) | ((with_reducible refine WPEs.cons ?_ ?_); (case refine_2 => intros; rfl)) | (with_reducible refine WPE.sub ?_) | ((with_reducible refine WPE.tup ?_ ?_); (case refine_2 => decide)) | ((with_reducible refine WPE.lst ?_ ?_); (case refine_2 => decide)) | fail)) | fail))
      intro a1 ha1
      (repeat' (first | ((fail_if_success (with_reducible show WPS _ _ _ _ _ _ _ _)); (first | (with_reducible first | refine WPE.cint ?_ | refine WPE.bin ?_) | ((with_reducible refine' WPE.nm ?_ ?_ ?_ ?_); (case refine'_2 => rfl); (case refine'_4 => decide); (case refine'_5 => decide)) | fail)) | fail))
      refine W2.divI (by decide) (by decide) ?_
      (repeat' (first | ((fail_if_success (with_reducible show WPS _ _ _ _ _ _ _ _)); (first | (with_reducible refine WPE.cint ?_) | fail)) | fail))
      refine W2.modI (by decide) ?_
      have h2 := fmod_lt (a := num.fdiv 12) (b := 2) (by decide)
      generalize (num.fdiv 12).fmod 2 = j at h2
      have h14 := fmod_lt (a := num.fdiv 24) (b := 14) (by decide)
      have hj : j = 0 ∨ j = 1 := by with_reducible exact z2 (by with_reducible assumption)
      rcases hj with rfl | rfl
      all_goals
        refine W2.listAt get_head rfl rfl (by rfl) ?_
        (repeat' (first | ((fail_if_success (with_reducible show WPS _ _ _ _ _ _ _ _)); (first | (with_reducible first | refine WPE.cint ?_ | refine WPE.bin ?_) | ((with_reducible refine WPEs.cons ?_ ?_); (case refine_2 => intros; rfl)) | ((with_reducible refine' WPE.nm ?_ ?_ ?_ ?_); (case refine'_2 => rfl); (case refine'_4 => decide); (case refine'_5 => decide)) | fail)) | fail))
        refine W2.divI (by decide) (by decide) ?_
        (repeat' (first | ((fail_if_success (with_reducible show WPS _ _ _ _ _ _ _ _)); (first | (with_reducible refine WPE.cint ?_) | fail)) | fail))
        refine W2.modI (by decide) ?_
        generalize (num.fdiv 24).fmod 14 = i at h14
        obtain ⟨i, rfl⟩ : ∃ n : Nat, i = n := ⟨i.toNat, by with_reducible exact zG (by with_reducible assumption)⟩
        (repeat' (first | ((fail_if_success (with_reducible show WPS _ _ _ _ _ _ _ _)); (first | (with_reducible first | refine nxt_ret ?_ | refine WPEs.nil ?_) | fail)) | fail))
      · exact h _ _ (hle.cons ha1) (.inl ⟨.take i, by show i ≤ 100; lia, rfl⟩)
      · exact h _ _ (hle.cons ha1) (.inl ⟨.drop i, by show i ≤ 100; lia, rfl⟩)
    · (repeat' (first | (with_reducible refine WPS.nil ?_) | ((fail_if_success (with_reducible show WPS _ _ _ _ _ _ _ _)); (first | (with_reducible refine nxt_next ?_) | fail)) | fail))
      refine WPS.cons ?_
      (repeat' (first | ((fail_if_success (with_reducible show WPS _ _ _ _ _ _ _ _)); (first | (with_reducible first | refine WPE.cint ?_ | refine WPE.cstr ?_ | refine WPE.cbool ?_ | refine WPE.un ?_ | refine W1.negI ?_ | refine WPEs.nil ?_) | ((with_reducible refine WPEs.cons ?_ ?_); (case refine_2 => intros; rfl)) | ((with_reducible refine WPs.asg ?_ ?_ ?_); (case refine_2 => rfl); (case refine_3 => intros; rfl)) | ((with_reducible refine WPE.tup ?_ ?_); (case refine_2 => decide)) | ((with_reducible refine WPE.lst ?_ ?_); (case refine_2 => decide)) | fail)) | fail))
      intro a1 ha1
      have L1 := Le.alloc (o := .list [.str "meet"]) ha1
      have g1 : get ((a1, O.list [.str "meet"]) :: st₀) a1 = some (.list [.str "meet"]) := get_head
      generalize (a1, O.list [V.str "meet"]) :: st₀ = S1 at L1 g1 ⊢
      (repeat' (first | ((fail_if_success (with_reducible show WPS _ _ _ _ _ _ _ _)); (first | (with_reducible first | refine WPE.cstr ?_ | refine WPE.cnone ?_ | refine WPEs.nil ?_) | ((with_reducible refine WPEs.cons ?_ ?_); (case refine_2 => intros; rfl)) | ((with_reducible refine WPE.tup ?_ ?_); (case refine_2 => decide)) | fail)) | fail))
      intro a2 ha2
      have L2 := L1.cons (o := .list [.tup [.str "go", .int 0], .tup [.str "go", .int 101], .tup [.str "take", .int (-1)], .tup [.str "drop", .bool true], .tup [.str "keep", .int 1], .ref a1, .none, .str "keep", .tup [.str "go", .str "1"]]) ha2
      have g2 : get ((a2, O.list [.tup [.str "go", .int 0], .tup [.str "go", .int 101], .tup [.str "take", .int (-1)], .tup [.str "drop", .bool true], .tup [.str "keep", .int 1], .ref a1, .none, .str "keep", .tup [.str "go", .str "1"]]) :: S1) a2 = some (.list [.tup [.str "go", .int 0], .tup [.str "go", .int 101], .tup [.str "take", .int (-1)], .tup [.str "drop", .bool true], .tup [.str "keep", .int 1], .ref a1, .none, .str "keep", .tup [.str "go", .str "1"]]) := get_head
      replace g1 := (Le.alloc (o := .list [.tup [.str "go", .int 0], .tup [.str "go", .int 101], .tup [.str "take", .int (-1)], .tup [.str "drop", .bool true], .tup [.str "keep", .int 1], .ref a1, .none, .str "keep", .tup [.str "go", .str "1"]]) ha2) _ _ g1
      generalize (a2, O.list [.tup [.str "go", .int 0], .tup [.str "go", .int 101], .tup [.str "take", .int (-1)], .tup [.str "drop", .bool true], .tup [.str "keep", .int 1], .ref a1, .none, .str "keep", .tup [.str "go", .str "1"]]) :: S1 = S2 at L2 g1 g2 ⊢
      (repeat' (first | ((fail_if_success (with_reducible show WPS _ _ _ _ _ _ _ _)); (first | (with_reducible refine nxt_next ?_) | fail)) | fail))
      refine WPS.cons ?_
      (repeat' (first | ((fail_if_success (with_reducible show WPS _ _ _ _ _ _ _ _)); (first | (with_reducible first | refine WPE.cstr ?_ | refine WPE.bin ?_ | refine WPEs.nil ?_ | refine WPs.ret ?_) | ((with_reducible refine WPEs.cons ?_ ?_); (case refine_2 => intros; rfl)) | (with_reducible refine WPE.sub ?_) | ((with_reducible refine WPE.tup ?_ ?_); (case refine_2 => decide)) | ((with_reducible refine WPE.lst ?_ ?_); (case refine_2 => decide)) | ((with_reducible refine' WPE.nm ?_ ?_ ?_ ?_); (case refine'_2 => rfl); (case refine'_4 => decide); (case refine'_5 => decide)) | fail)) | fail))
      intro b1 hb1
      (repeat' (first | ((fail_if_success (with_reducible show WPS _ _ _ _ _ _ _ _)); (first | (with_reducible refine WPEs.nil ?_) | ((with_reducible refine WPEs.cons ?_ ?_); (case refine_2 => intros; rfl)) | ((with_reducible refine WPE.tup ?_ ?_); (case refine_2 => decide)) | fail)) | fail))
      refine WPE.dict0 ?_
      intro b2 hb2 _
      (repeat' (first | ((fail_if_success (with_reducible show WPS _ _ _ _ _ _ _ _)); (first | (with_reducible first | refine WPE.cint ?_ | refine WPE.cstr ?_ | refine WPEs.nil ?_) | ((with_reducible refine WPEs.cons ?_ ?_); (case refine_2 => intros; rfl)) | ((with_reducible refine WPE.tup ?_ ?_); (case refine_2 => decide)) | ((with_reducible refine WPE.lst ?_ ?_); (case refine_2 => decide)) | fail)) | fail))
      intro b3 hb3
      (repeat' (first | ((fail_if_success (with_reducible show WPS _ _ _ _ _ _ _ _)); (first | (with_reducible first | refine WPE.cint ?_ | refine WPEs.nil ?_) | ((with_reducible refine WPEs.cons ?_ ?_); (case refine_2 => intros; rfl)) | fail)) | fail))
      intro b4 hb4
      refine W2.addList ((Le.alloc hb4) _ _ ((Le.alloc hb3) _ _ ((Le.alloc hb2) _ _ ((Le.alloc hb1) _ _ g2)))) get_head (small_ok'' (by simp)) ?_
      intro b5 hb5
      (repeat' (first | ((fail_if_success (with_reducible show WPS _ _ _ _ _ _ _ _)); (first | (with_reducible first | refine WPE.cint ?_ | refine WPE.bin ?_) | ((with_reducible refine' WPE.nm ?_ ?_ ?_ ?_); (case refine'_2 => rfl); (case refine'_4 => decide); (case refine'_5 => decide)) | fail)) | fail))
      refine W2.divI (by decide) (by decide) ?_
      (repeat' (first | ((fail_if_success (with_reducible show WPS _ _ _ _ _ _ _ _)); (first | (with_reducible refine WPE.cint ?_) | fail)) | fail))
      refine W2.modI (by decide) ?_
      have h12 := fmod_lt (a := num.fdiv 12) (b := 12) (by decide)
      generalize (num.fdiv 12).fmod 12 = j at h12
      obtain ⟨j, rfl⟩ : ∃ n : Nat, j = n := ⟨j.toNat, by with_reducible exact zG (by with_reducible assumption)⟩
      obtain ⟨v, hv⟩ : ∃ v, ([.tup [.str "go", .int 0], .tup [.str "go", .int 101], .tup [.str "take", .int (-1)], .tup [.str "drop", .bool true], .tup [.str "keep", .int 1], .ref a1, .none, .str "keep", .tup [.str "go", .str "1"], .tup [.ref b1], .tup [.ref b2, .int 1], .tup [.ref b3, .int 1]] : List V)[j]? = some v := ⟨_, List.getElem?_eq_getElem (by simp; ((with_reducible apply zK); (with_reducible assumption); exact rfl))⟩
      refine W2.subList (v := v) get_head rfl (by simp) (seqIndex_pos (by with_reducible exact zC) (by simp; with_reducible exact And.right (by with_reducible assumption))) hv ?_
      (repeat' (first | ((fail_if_success (with_reducible show WPS _ _ _ _ _ _ _ _)); (first | (with_reducible refine nxt_ret ?_) | fail)) | fail))
      refine h v _ (hle.trans (L2.trans (((((Le.alloc hb1).cons hb2).cons hb3).cons hb4).cons hb5))) (.inr ?_)
      have hm := List.mem_of_getElem? hv
      simp at hm
      rcases hm with rfl | rfl | rfl | rfl | rfl | rfl | rfl | rfl | rfl | rfl | rfl | rfl
      · exact .five (by simp)
      · exact .five (by simp)
      · exact .five (by simp)
      · exact .dropT
      · exact .five (by simp)
      · exact .noT (typ_list (vs := [.str "meet"]) (by (first | exact get_head | ((refine Le.alloc ?_ _ _ ?_); (first | assumption | skip); (first | exact get_head | ((refine Le.alloc ?_ _ _ ?_); (first | assumption | skip); (first | exact get_head | ((refine Le.alloc ?_ _ _ ?_); (first | assumption | skip); (first | exact get_head | ((refine Le.alloc ?_ _ _ ?_); (first | assumption | skip); (first | exact get_head | ((refine Le.alloc ?_ _ _ ?_); (first | assumption | skip); (first | exact get_head | ((refine Le.alloc ?_ _ _ ?_); (first | assumption | skip); (first | exact get_head | ((refine Le.alloc ?_ _ _ ?_); (first | assumption | skip); (first | exact get_head | ((refine Le.alloc ?_ _ _ ?_); (first | assumption | skip); (first | exact get_head | assumption)) | assumption)) | assumption)) | assumption)) | assumption)) | assumption)) | assumption)) | assumption)) | assumption))) (by decide)
      · exact .noT rfl (by decide)
      · exact .noT rfl (by decide)
      · exact .five (by simp)
      · exact .tupN (typ_list (vs := [.str "keep"]) (by (first | exact get_head | ((refine Le.alloc ?_ _ _ ?_); (first | assumption | skip); (first | exact get_head | ((refine Le.alloc ?_ _ _ ?_); (first | assumption | skip); (first | exact get_head | ((refine Le.alloc ?_ _ _ ?_); (first | assumption | skip); (first | exact get_head | ((refine Le.alloc ?_ _ _ ?_); (first | assumption | skip); (first | exact get_head | ((refine Le.alloc ?_ _ _ ?_); (first | assumption | skip); (first | exact get_head | ((refine Le.alloc ?_ _ _ ?_); (first | assumption | skip); (first | exact get_head | ((refine Le.alloc ?_ _ _ ?_); (first | assumption | skip); (first | exact get_head | ((refine Le.alloc ?_ _ _ ?_); (first | assumption | skip); (first | exact get_head | assumption)) | assumption)) | assumption)) | assumption)) | assumption)) | assumption)) | assumption)) | assumption)) | assumption))) (by decide) (by simp) (by simp)
      · exact .tupN (typ_dict (by (first | exact get_head | ((refine Le.alloc ?_ _ _ ?_); (first | assumption | skip); (first | exact get_head | ((refine Le.alloc ?_ _ _ ?_); (first | assumption | skip); (first | exact get_head | ((refine Le.alloc ?_ _ _ ?_); (first | assumption | skip); (first | exact get_head | ((refine Le.alloc ?_ _ _ ?_); (first | assumption | skip); (first | exact get_head | ((refine Le.alloc ?_ _ _ ?_); (first | assumption | skip); (first | exact get_head | ((refine Le.alloc ?_ _ _ ?_); (first | assumption | skip); (first | exact get_head | ((refine Le.alloc ?_ _ _ ?_); (first | assumption | skip); (first | exact get_head | ((refine Le.alloc ?_ _ _ ?_); (first | assumption | skip); (first | exact get_head | assumption)) | assumption)) | assumption)) | assumption)) | assumption)) | assumption)) | assumption)) | assumption)) | assumption))) (by decide) (by simp) (by simp [typV])
      · exact .tupN (typ_list (vs := [.str "go"]) (by (first | exact get_head | ((refine Le.alloc ?_ _ _ ?_); (first | assumption | skip); (first | exact get_head | ((refine Le.alloc ?_ _ _ ?_); (first | assumption | skip); (first | exact get_head | ((refine Le.alloc ?_ _ _ ?_); (first | assumption | skip); (first | exact get_head | ((refine Le.alloc ?_ _ _ ?_); (first | assumption | skip); (first | exact get_head | ((refine Le.alloc ?_ _ _ ?_); (first | assumption | skip); (first | exact get_head | ((refine Le.alloc ?_ _ _ ?_); (first | assumption | skip); (first | exact get_head | ((refine Le.alloc ?_ _ _ ?_); (first | assumption | skip); (first | exact get_head | ((refine Le.alloc ?_ _ _ ?_); (first | assumption | skip); (first | exact get_head | assumption)) | assumption)) | assumption)) | assumption)) | assumption)) | assumption)) | assumption)) | assumption)) | assumption))) (by decide) (by simp) (by simp [typV])
  have r4 : ∀ (way : Int) (ρ₁ : Loc), 0 ≤ way → Sub [("_law_m", .ref ma), ("_law_number_here", .int num), ("_law_way", .int way)] ρ₁ → WPS c k S_law_deed ρ₁ st (B_law_deed.drop 4) (fun fl _ st' => Q (retV fl) st') (fun C _ st' => X C ρ st') := by
    intro way ρ₁ hw0 hs
    refine WPS.locs ?_ hs
    ((refine WPS.cons ?_); (repeat' (first | (with_reducible first | refine WPE.cint ?_ | refine W2.ltI ?_ | refine WPs.ifs ?_) | ((with_reducible refine WPB.cmp ?_ ?_); (case refine_2 => rfl)) | ((with_reducible refine' WPE.nm ?_ ?_ ?_ ?_); (case refine'_2 => rfl); (case refine'_4 => decide); (case refine'_5 => decide)) | (with_reducible refine ⟨_, rfl, ?_⟩) | fail)))
    refine cnd_cases (fun hb => ?_) (fun hb => ?_)
    · refine WPS.cons ?_
      (repeat' (first | ((fail_if_success (with_reducible show WPS _ _ _ _ _ _ _ _)); (first | (with_reducible first | refine WPE.cint ?_ | refine WPE.cstr ?_ | refine WPE.bin ?_ | refine WPs.ret ?_) | ((with_reducible refine WPEs.cons ?_ ?_); (case refine_2 => intros; rfl)) | ((with_reducible refine WPE.tup ?_ ?_); (case refine_2 => decide)) | ((with_reducible refine' WPE.nm ?_ ?_ ?_ ?_); (case refine'_2 => rfl); (case refine'_4 => decide); (case refine'_5 => decide)) | fail)) | fail))
      refine W2.divI (by decide) (by decide) ?_
      (repeat' (first | ((fail_if_success (with_reducible show WPS _ _ _ _ _ _ _ _)); (first | (with_reducible refine WPE.cint ?_) | fail)) | fail))
      refine W2.modI (by decide) ?_
      have h6 := fmod_lt (a := num.fdiv 12) (b := 6) (by decide)
      generalize (num.fdiv 12).fmod 6 = i at h6
      obtain ⟨i, rfl⟩ : ∃ n : Nat, i = n := ⟨i.toNat, by with_reducible exact zG (by with_reducible assumption)⟩
      (repeat' (first | ((fail_if_success (with_reducible show WPS _ _ _ _ _ _ _ _)); (first | (with_reducible first | refine W2.addI ?_ | refine nxt_ret ?_ | refine WPEs.nil ?_) | fail)) | fail))
      rw [show (1 : Int) + (i : Int) = ((1 + i : Nat) : Int) by with_reducible exact zR]
      exact h _ _ .refl (.inl ⟨.go (1 + i), ⟨by lia, by lia⟩, rfl⟩)
    · have hw7 : 7 ≤ way := by have := of_decide_eq_false hb; lia
      (repeat' (first | (with_reducible refine WPS.nil ?_) | ((fail_if_success (with_reducible show WPS _ _ _ _ _ _ _ _)); (first | (with_reducible refine nxt_next ?_) | fail)) | fail))
      refine WPS.cons ?_
      (repeat' (first | ((fail_if_success (with_reducible show WPS _ _ _ _ _ _ _ _)); (first | (with_reducible first | refine WPE.cint ?_ | refine W2.ltI ?_ | refine WPAll.and ?_ | refine WPs.ifs ?_ | refine WPB.op ?_) | ((with_reducible refine WPB.cmp ?_ ?_); (case refine_2 => rfl)) | ((with_reducible refine' WPE.nm ?_ ?_ ?_ ?_); (case refine'_2 => rfl); (case refine'_4 => decide); (case refine'_5 => decide)) | (with_reducible refine ⟨_, rfl, ?_⟩) | fail)) | fail))
      refine cnd_cases (fun hb => ?_) (fun hb => ?_)
      · have hw10 : way < 10 := of_decide_eq_true hb
        (repeat' (first | ((fail_if_success (with_reducible show WPS _ _ _ _ _ _ _ _)); (first | (with_reducible first | refine WPE.cstr ?_ | refine WPAll.and ?_) | ((with_reducible refine WPB.cmp ?_ ?_); (case refine_2 => rfl)) | (with_reducible refine WPE.sub ?_) | ((with_reducible refine' WPE.nm ?_ ?_ ?_ ?_); (case refine'_2 => rfl); (case refine'_4 => decide); (case refine'_5 => decide)) | fail)) | fail))
        refine W2.getS M.m rfl rfl ?_
        (repeat' (first | ((fail_if_success (with_reducible show WPS _ _ _ _ _ _ _ _)); (first | (with_reducible refine WPEs.nil ?_) | ((with_reducible refine WPE.lst ?_ ?_); (case refine_2 => decide)) | fail)) | fail))
        intro a1 ha1
        refine W2.neNil ((Le.alloc ha1) _ _ gk) get_head ?_
        refine ⟨_, rfl, ?_⟩
        have L1 := Le.alloc (o := .list []) ha1
        generalize (a1, O.list []) :: st = S1 at L1 ⊢
        by_cases hz : ms.length = 0
        · refine cnd_is false (by rw [List.length_eq_zero_iff.mp hz]; rfl) ?_
          (repeat' (first | (with_reducible refine WPS.nil ?_) | ((fail_if_success (with_reducible show WPS _ _ _ _ _ _ _ _)); (first | (with_reducible first | refine nxt_next ?_ | refine cnd_f ?_) | fail)) | fail))
          exact r7 way S1 _ L1 (Sub.of (by intro p hp; simp at hp; rcases hp with rfl | rfl <;> rfl))
        · refine cnd_is true (by simp [nI]; intro e; rw [e] at hz; exact hz rfl) ?_
          (repeat' (first | ((fail_if_success (with_reducible show WPS _ _ _ _ _ _ _ _)); (first | (with_reducible first | refine WPAll.andNil ?_ | refine cnd_t ?_) | fail)) | fail))
          refine WPS.cons ?_
          (repeat' (first | ((fail_if_success (with_reducible show WPS _ _ _ _ _ _ _ _)); (first | (with_reducible refine WPE.cstr ?_) | ((with_reducible refine WPs.asg ?_ ?_ ?_); (case refine_2 => rfl); (case refine_3 => intros; rfl)) | (with_reducible refine WPE.sub ?_) | ((with_reducible refine' WPE.nm ?_ ?_ ?_ ?_); (case refine'_2 => rfl); (case refine'_4 => decide); (case refine'_5 => decide)) | fail)) | fail))
          refine W2.getS (L1 _ _ M.m) rfl rfl ?_
          (repeat' (first | ((fail_if_success (with_reducible show WPS _ _ _ _ _ _ _ _)); (first | (with_reducible first | refine WPE.cint ?_ | refine WPE.bin ?_) | ((with_reducible refine' WPE.nm ?_ ?_ ?_ ?_); (case refine'_2 => rfl); (case refine'_4 => decide); (case refine'_5 => decide)) | fail)) | fail))
          refine W2.divI (by decide) (by decide) ?_
          (repeat' (first | ((fail_if_success (with_reducible show WPS _ _ _ _ _ _ _ _)); (first | (with_reducible refine WPE.cstr ?_) | ((with_reducible refine WPEs.cons ?_ ?_); (case refine_2 => intros; rfl)) | ((with_reducible refine c_len ‹_› ?_ ?_ ?_); (case refine_1 => rfl); (case refine_3 => intros; rfl)) | (with_reducible refine WPE.sub ?_) | ((with_reducible refine' WPE.nm ?_ ?_ ?_ ?_); (case refine'_2 => rfl); (case refine'_4 => decide); (case refine'_5 => decide)) | fail)) | fail))
          refine W2.getS (L1 _ _ M.m) rfl rfl ?_
          (repeat' (first | ((fail_if_success (with_reducible show WPS _ _ _ _ _ _ _ _)); (first | (with_reducible refine WPEs.nil ?_) | fail)) | fail))
          refine WL.lenList (L1 _ _ gk) (by simp; lia) ?_
          rw [List.length_map, List.length_map]
          refine W2.modI (by lia) ?_
          have hm := fmod_lt (a := num.fdiv 12) (b := (ms.length : Int)) (by lia)
          generalize (num.fdiv 12).fmod (ms.length : Int) = i at hm
          obtain ⟨i, rfl⟩ : ∃ n : Nat, i = n := ⟨i.toNat, by with_reducible exact zG (by with_reducible assumption)⟩
          obtain ⟨m, hm'⟩ : ∃ m, ms[i]? = some m := ⟨_, List.getElem?_eq_getElem (by ((with_reducible apply zK); (with_reducible assumption); exact rfl))⟩
          have hmn := hml m (hp.mem_iff.mp (List.mem_of_getElem? hm'))
          refine W2.subList (v := .int (m : Int)) (L1 _ _ gk) rfl (by simp; lia) (seqIndex_pos (by with_reducible exact zC) (by simp; ((with_reducible apply zK); (with_reducible assumption); exact rfl))) (by rw [Int.toNat_natCast, List.getElem?_map, List.getElem?_map, hm']; rfl) ?_
          (repeat' (first | ((fail_if_success (with_reducible show WPS _ _ _ _ _ _ _ _)); (first | (with_reducible refine nxt_next ?_) | fail)) | fail))
          refine WPS.cons ?_
          (repeat' (first | ((fail_if_success (with_reducible show WPS _ _ _ _ _ _ _ _)); (first | (with_reducible first | refine WPE.cstr ?_ | refine WPEs.nil ?_ | refine WPs.ret ?_) | ((with_reducible refine WPEs.cons ?_ ?_); (case refine_2 => intros; rfl)) | (with_reducible refine WPE.sub ?_) | ((with_reducible refine WPE.tup ?_ ?_); (case refine_2 => decide)) | ((with_reducible refine WPE.lst ?_ ?_); (case refine_2 => decide)) | fail)) | fail))
          intro a2 ha2
          (repeat' (first | ((fail_if_success (with_reducible show WPS _ _ _ _ _ _ _ _)); (first | (with_reducible first | refine WPE.cint ?_ | refine WPE.bin ?_ | refine W2.subI ?_) | ((with_reducible refine' WPE.nm ?_ ?_ ?_ ?_); (case refine'_2 => rfl); (case refine'_4 => decide); (case refine'_5 => decide)) | fail)) | fail))
          have hw' : way = 7 ∨ way = 8 ∨ way = 9 := by lia
          rcases hw' with rfl | rfl | rfl
          all_goals
            refine W2.listAt get_head rfl rfl (by rfl) ?_
            (repeat' (first | ((fail_if_success (with_reducible show WPS _ _ _ _ _ _ _ _)); (first | (with_reducible first | refine nxt_ret ?_ | refine WPEs.nil ?_) | ((with_reducible refine WPEs.cons ?_ ?_); (case refine_2 => intros; rfl)) | ((with_reducible refine' WPE.nm ?_ ?_ ?_ ?_); (case refine'_2 => rfl); (case refine'_4 => decide); (case refine'_5 => decide)) | fail)) | fail))
          · exact h _ _ (L1.cons ha2) (.inl ⟨.take m, by show m ≤ 100; ((with_reducible apply zP); (with_reducible assumption); (with_reducible assumption); exact rfl), rfl⟩)
          · exact h _ _ (L1.cons ha2) (.inl ⟨.take m, by show m ≤ 100; ((with_reducible apply zP); (with_reducible assumption); (with_reducible assumption); exact rfl), rfl⟩)
          · exact h _ _ (L1.cons ha2) (.inl ⟨.drop m, by show m ≤ 100; ((with_reducible apply zP); (with_reducible assumption); (with_reducible assumption); exact rfl), rfl⟩)
      · (repeat' (first | (with_reducible refine WPS.nil ?_) | ((fail_if_success (with_reducible show WPS _ _ _ _ _ _ _ _)); (first | (with_reducible first | refine nxt_next ?_ | refine cnd_f ?_) | fail)) | fail))
        exact r7 way st _ .refl (Sub.of (by intro p hp; simp at hp; rcases hp with rfl | rfl <;> rfl))
  ((refine WPS.cons ?_); (repeat' (first | (with_reducible first | refine WPE.cint ?_ | refine WPE.bin ?_) | ((with_reducible refine WPs.asg ?_ ?_ ?_); (case refine_2 => rfl); (case refine_3 => intros; rfl)) | ((with_reducible refine' WPE.nm ?_ ?_ ?_ ?_); (case refine'_2 => rfl); (case refine'_4 => decide); (case refine'_5 => decide)) | fail)))
  refine W2.modI (by decide) ?_
  have h12 := fmod_lt (a := num) (b := 12) (by decide)
  generalize num.fmod 12 = way at h12
  (repeat' (first | ((fail_if_success (with_reducible show WPS _ _ _ _ _ _ _ _)); (first | (with_reducible refine nxt_next ?_) | fail)) | fail))
  refine WPS.cons ?_
  (repeat' (first | ((fail_if_success (with_reducible show WPS _ _ _ _ _ _ _ _)); (first | (with_reducible first | refine WPE.cint ?_ | refine W2.ltI ?_ | refine WPs.ifs ?_) | ((with_reducible refine WPB.cmp ?_ ?_); (case refine_2 => rfl)) | ((with_reducible refine' WPE.nm ?_ ?_ ?_ ?_); (case refine'_2 => rfl); (case refine'_4 => decide); (case refine'_5 => decide)) | (with_reducible refine ⟨_, rfl, ?_⟩) | fail)) | fail))
  refine cnd_cases (fun hb => ?_) (fun hb => ?_)
  · refine WPS.cons ?_
    (repeat' (first | ((fail_if_success (with_reducible show WPS _ _ _ _ _ _ _ _)); (first | (with_reducible first | refine WPE.cstr ?_ | refine nxt_ret ?_ | refine WPEs.nil ?_ | refine WPs.ret ?_) | ((with_reducible refine WPEs.cons ?_ ?_); (case refine_2 => intros; rfl)) | ((with_reducible refine WPE.tup ?_ ?_); (case refine_2 => decide)) | fail)) | fail))
    exact h _ _ .refl (.inl ⟨.keep, trivial, rfl⟩)
  (repeat' (first | (with_reducible refine WPS.nil ?_) | ((fail_if_success (with_reducible show WPS _ _ _ _ _ _ _ _)); (first | (with_reducible refine nxt_next ?_) | fail)) | fail))
  refine WPS.cons ?_
  (repeat' (first | ((fail_if_success (with_reducible show WPS _ _ _ _ _ _ _ _)); (first | (with_reducible first | refine WPE.cint ?_ | refine W2.ltI ?_ | refine WPs.ifs ?_) | ((with_reducible refine WPB.cmp ?_ ?_); (case refine_2 => rfl)) | ((with_reducible refine' WPE.nm ?_ ?_ ?_ ?_); (case refine'_2 => rfl); (case refine'_4 => decide); (case refine'_5 => decide)) | (with_reducible refine ⟨_, rfl, ?_⟩) | fail)) | fail))
  refine cnd_cases (fun hb => ?_) (fun hb => ?_)
  · refine WPS.cons ?_
    (repeat' (first | ((fail_if_success (with_reducible show WPS _ _ _ _ _ _ _ _)); (first | (with_reducible first | refine WPE.cstr ?_ | refine nxt_ret ?_ | refine WPEs.nil ?_ | refine WPs.ret ?_) | ((with_reducible refine WPEs.cons ?_ ?_); (case refine_2 => intros; rfl)) | ((with_reducible refine WPE.tup ?_ ?_); (case refine_2 => decide)) | fail)) | fail))
    exact h _ _ .refl (.inl ⟨.meet, trivial, rfl⟩)
  (repeat' (first | (with_reducible refine WPS.nil ?_) | ((fail_if_success (with_reducible show WPS _ _ _ _ _ _ _ _)); (first | (with_reducible refine nxt_next ?_) | fail)) | fail))
  refine WPS.cons ?_
  (repeat' (first | ((fail_if_success (with_reducible show WPS _ _ _ _ _ _ _ _)); (first | (with_reducible first | refine WPE.cint ?_ | refine W2.eqI ?_ | refine WPAll.and ?_ | refine WPs.ifs ?_ | refine WPB.op ?_) | ((with_reducible refine WPB.cmp ?_ ?_); (case refine_2 => rfl)) | ((with_reducible refine' WPE.nm ?_ ?_ ?_ ?_); (case refine'_2 => rfl); (case refine'_4 => decide); (case refine'_5 => decide)) | (with_reducible refine ⟨_, rfl, ?_⟩) | fail)) | fail))
  refine cnd_cases (fun hb => ?_) (fun hb => ?_)
  · (repeat' (first | ((fail_if_success (with_reducible show WPS _ _ _ _ _ _ _ _)); (first | (with_reducible first | refine WPE.cstr ?_ | refine WPAll.and ?_) | ((with_reducible refine WPB.cmp ?_ ?_); (case refine_2 => rfl)) | (with_reducible refine WPE.sub ?_) | ((with_reducible refine' WPE.nm ?_ ?_ ?_ ?_); (case refine'_2 => rfl); (case refine'_4 => decide); (case refine'_5 => decide)) | fail)) | fail))
    refine W2.getS M.m rfl rfl ?_
    (repeat' (first | ((fail_if_success (with_reducible show WPS _ _ _ _ _ _ _ _)); (first | (with_reducible first | refine WPE.cstr ?_ | refine WPE.sub ?_) | ((with_reducible refine' WPE.nm ?_ ?_ ?_ ?_); (case refine'_2 => rfl); (case refine'_4 => decide); (case refine'_5 => decide)) | fail)) | fail))
    refine W2.getS M.m rfl rfl ?_
    (repeat' (first | ((fail_if_success (with_reducible show WPS _ _ _ _ _ _ _ _)); (first | (with_reducible first | refine W2.gtI ?_ | refine ⟨_, rfl, ?_⟩) | fail)) | fail))
    refine cnd_cases (fun hb => ?_) (fun hb => ?_)
    · have hlt := of_decide_eq_true hb
      (repeat' (first | ((fail_if_success (with_reducible show WPS _ _ _ _ _ _ _ _)); (first | (with_reducible first | refine WPAll.andNil ?_ | refine cnd_t ?_) | fail)) | fail))
      refine WPS.cons ?_
      (repeat' (first | ((fail_if_success (with_reducible show WPS _ _ _ _ _ _ _ _)); (first | (with_reducible first | refine WPE.cstr ?_ | refine WPE.bin ?_ | refine WPs.ret ?_) | ((with_reducible refine WPEs.cons ?_ ?_); (case refine_2 => intros; rfl)) | (with_reducible refine WPE.sub ?_) | ((with_reducible refine WPE.tup ?_ ?_); (case refine_2 => decide)) | ((with_reducible refine' WPE.nm ?_ ?_ ?_ ?_); (case refine'_2 => rfl); (case refine'_4 => decide); (case refine'_5 => decide)) | fail)) | fail))
      refine W2.getS M.m rfl rfl ?_
      (repeat' (first | ((fail_if_success (with_reducible show WPS _ _ _ _ _ _ _ _)); (first | (with_reducible first | refine WPE.cstr ?_ | refine WPE.sub ?_) | ((with_reducible refine' WPE.nm ?_ ?_ ?_ ?_); (case refine'_2 => rfl); (case refine'_4 => decide); (case refine'_5 => decide)) | fail)) | fail))
      refine W2.getS M.m rfl rfl ?_
      (repeat' (first | ((fail_if_success (with_reducible show WPS _ _ _ _ _ _ _ _)); (first | (with_reducible first | refine W2.subI ?_ | refine nxt_ret ?_ | refine WPEs.nil ?_) | fail)) | fail))
      rw [show ((g.want : Int) - 1) - (g.place : Int) = ((g.want - 1 - g.place : Nat) : Int) by lia]
      exact h _ _ .refl (.inl ⟨.go (g.want - 1 - g.place), ⟨by lia, by lia⟩, rfl⟩)
    · (repeat' (first | (with_reducible refine WPS.nil ?_) | ((fail_if_success (with_reducible show WPS _ _ _ _ _ _ _ _)); (first | (with_reducible first | refine nxt_next ?_ | refine cnd_f ?_) | fail)) | fail))
      exact r4 way _ h12.1 (Sub.of (by intro p hp; simp at hp; rcases hp with rfl | rfl | rfl <;> rfl))
  · (repeat' (first | (with_reducible refine WPS.nil ?_) | ((fail_if_success (with_reducible show WPS _ _ _ _ _ _ _ _)); (first | (with_reducible first | refine nxt_next ?_ | refine cnd_f ?_) | fail)) | fail))
    exact r4 way _ h12.1 (Sub.of (by intro p hp; simp at hp; rcases hp with rfl | rfl | rfl <;> rfl))
end

section
variable {c : Cx} {k : Nat} {sc : Scope} {ρ : Loc} {st : St} {Q : V → St → Prop} {X : Xp} {x d ru sh se ma sa mk mt : Addr} {fs : Int} {rs : List Ru} {room : Nat} {g g' : Sg}
theorem no_of {dd : Dd} (hd : deedOk dd) (hrl : g.marks.length ≤ room) (e : stp room rs.length g dd = none) : ∃ C, Kd C (why g dd) ∧ No room rs.length g (deedV dd) C := by
  cases dd with
  | keep =>
    by_cases hc : g.place ∈ g.marks
    · exact ⟨_, by rw [show why g .keep = "twice" from if_pos hc]; exact .twice, .twice hc⟩
    · have hf : g.marks.length = room := by
        rcases Nat.lt_or_ge g.marks.length room with q | q
        · rw [stp_keep hc q] at e; cases e
        · lia
      exact ⟨_, by rw [show why g .keep = "full" from if_neg hc]; exact .full, .full hc hf⟩
  | meet => exact ⟨_, .notwanted, .meet fun q => by rw [stp_meet q] at e; cases e⟩
  | go n =>
    refine ⟨_, .atend, .go hd.1 hd.2 ?_⟩
    rcases Nat.lt_or_ge rs.length (g.place + n) with q | q
    · exact q
    · rw [stp_go hd.1 q] at e; cases e
  | take n => exact ⟨_, .notkept, .hand (dd := .take n) (w := "take") (.inl ⟨rfl, rfl⟩) hd fun q => by rw [stp_take q] at e; cases e⟩
  | drop n => exact ⟨_, .notkept, .hand (dd := .drop n) (w := "drop") (.inr ⟨rfl, rfl⟩) hd fun q => by rw [stp_drop q] at e; cases e⟩
theorem s_wtold (hK : Kc c) (hq : c.q = true) {dd : Dd} (hd : deedOk dd) (W : Wk st x d ru sh se fs rs room g) (hf : 0 ≤ fs ∧ fs ≤ 999982) (hrs : ∀ r ∈ rs, r.Ok) (hl : rs.length ≤ 100) (hr : room ≤ 12)
    (h : ∀ st', KeepBut st st' [d, sh, se] → Wk st' x d ru sh se fs rs room (fo room rs.length g dd).2 → Q (fo room rs.length g dd).1 st') : CF c (k + 4) A_law_told [.ref x, deedV dd] ρ st Q X := by
  refine CallW.fn (k := k + 3) (Facts.fn_law_told hK) rfl ?_
  refine WPS.cons ?_
  refine WPs.tryE rfl (Facts.g_MarkError hK) rfl ?_
  have hK' : Kc c.off := hK
  refine WPS.cons ?_
  (repeat' (first | ((fail_if_success (with_reducible show WPS _ _ _ _ _ _ _ _)); (first | (with_reducible refine WPs.ret ?_) | fail)) | fail))
  refine WPE.methI ?_
  (repeat' (first | ((fail_if_success (with_reducible show WPS _ _ _ _ _ _ _ _)); (first | ((with_reducible refine' WPE.nm ?_ ?_ ?_ ?_); (case refine'_2 => rfl); (case refine'_4 => decide); (case refine'_5 => decide)) | fail)) | fail))
  refine ⟨_, _, _, _, _, rfl, W.i, W.a, rfl, Facts.me_Walker_do hK, ?_⟩
  (repeat' (first | ((fail_if_success (with_reducible show WPS _ _ _ _ _ _ _ _)); (first | (with_reducible refine WPEs.nil ?_) | ((with_reducible refine WPEs.cons ?_ ?_); (case refine_2 => intros; rfl)) | ((with_reducible refine' WPE.nm ?_ ?_ ?_ ?_); (case refine'_2 => rfl); (case refine'_4 => decide); (case refine'_5 => decide)) | fail)) | fail))
  cases e : stp room rs.length g dd with
  | some g' =>
    rw [fo_ok e] at h
    refine s_do (k := k) hK hq W hf hrs hl (by ((with_reducible apply zD); (with_reducible assumption); exact rfl)) e fun st' kb W' => ?_
    (repeat' (first | ((fail_if_success (with_reducible show WPS _ _ _ _ _ _ _ _)); (first | (with_reducible refine nxt_ret ?_) | fail)) | fail))
    exact h st' kb W'
  | none =>
    rw [fo_no e] at h
    obtain ⟨C, hk, hno⟩ := no_of hd W.rl e
    refine s_do_no (k := k) hK hq W hl hr hno ⟨exmK hK hk, fun e he => ?_⟩
    ((refine WPS.cons ?_); (repeat' (first | (with_reducible first | refine WPEs.nil ?_ | refine WPs.ret ?_) | ((with_reducible refine WPEs.cons ?_ ?_); (case refine_2 => intros; rfl)) | ((with_reducible refine c_law_class ‹_› ?_ ?_ ?_); (case refine_1 => rfl); (case refine_3 => intros; rfl)) | ((with_reducible refine' WPE.nm ?_ ?_ ?_ ?_); (case refine'_2 => rfl); (case refine'_4 => decide); (case refine'_5 => decide)) | fail)))
    refine WL.le (refusedK (c := c.off) (k := k) hK' hk get_head fun st₂ hle₂ => ?_) (by ((with_reducible apply zA); exact rfl))
    (repeat' (first | (with_reducible refine nxt_ret ?_) | fail))
    exact h _ (KeepBut.of ((Le.alloc he).trans hle₂)) (W.le ((Le.alloc he).trans hle₂))
theorem OddV.no {v : V} (h : OddV st v) : (∃ T, typV st v = some T) ∧ (∀ vs, v = .tup vs → vs.length < 1000 ∧ ∀ u ∈ vs, (typV st u).isSome = true) ∧ deedB v = false := by
  have tp : ∀ {us : List V}, Nat.blt us.length 1000 = true → us.all (fun u => (typV st u).isSome) = true → (∃ T, typV st (.tup us) = some T) ∧ (∀ vs, V.tup us = .tup vs → vs.length < 1000 ∧ ∀ u ∈ vs, (typV st u).isSome = true) :=
    fun hl hu => ⟨⟨_, rfl⟩, fun vs e => by cases e; exact ⟨by simpa [Nat.blt_eq] using hl, fun u hu' => List.all_eq_true.mp hu u hu'⟩⟩
  cases h with
  | five hv =>
    simp at hv
    rcases hv with rfl | rfl | rfl | rfl | rfl
    all_goals exact ⟨(tp rfl rfl).1, (tp rfl rfl).2, by decide +kernel⟩
  | dropT => exact ⟨(tp rfl rfl).1, (tp rfl rfl).2, by decide +kernel⟩
  | noT h1 h2 =>
    refine ⟨⟨_, h1⟩, fun vs e => ?_, ?_⟩
    · subst e; exact absurd (Option.some.inj h1).symm h2
    · cases v <;> first | rfl | exact absurd (Option.some.inj h1).symm h2
  | tupN h1 h2 h3 h4 =>
    rename_i u r U
    refine ⟨⟨_, rfl⟩, fun vs e => ?_, ?_⟩
    · cases e
      refine ⟨by simp; lia, fun w hw => ?_⟩
      rcases List.mem_cons.mp hw with rfl | hw
      · rw [h1]; rfl
      · exact h4 w hw
    · cases u <;> first | rfl | exact absurd (Option.some.inj h1).symm h2
theorem s_wtold_odd (hK : Kc c) (hq : c.q = true) {v : V} (hv : OddV st v) (W : Wk st x d ru sh se fs rs room g) (h : ∀ st', Le st st' → Q (RF "deed") st') : CF c (k + 4) A_law_told [.ref x, v] ρ st Q X := by
  obtain ⟨⟨T, ht⟩, hs, hb⟩ := hv.no
  refine CallW.fn (k := k + 3) (Facts.fn_law_told hK) rfl ?_
  refine WPS.cons ?_
  refine WPs.tryE rfl (Facts.g_MarkError hK) rfl ?_
  have hK' : Kc c.off := hK
  refine WPS.cons ?_
  (repeat' (first | ((fail_if_success (with_reducible show WPS _ _ _ _ _ _ _ _)); (first | (with_reducible refine WPs.ret ?_) | fail)) | fail))
  refine WPE.methI ?_
  (repeat' (first | ((fail_if_success (with_reducible show WPS _ _ _ _ _ _ _ _)); (first | ((with_reducible refine' WPE.nm ?_ ?_ ?_ ?_); (case refine'_2 => rfl); (case refine'_4 => decide); (case refine'_5 => decide)) | fail)) | fail))
  refine ⟨_, _, _, _, _, rfl, W.i, W.a, rfl, Facts.me_Walker_do hK, ?_⟩
  (repeat' (first | ((fail_if_success (with_reducible show WPS _ _ _ _ _ _ _ _)); (first | (with_reducible refine WPEs.nil ?_) | ((with_reducible refine WPEs.cons ?_ ?_); (case refine_2 => intros; rfl)) | ((with_reducible refine' WPE.nm ?_ ?_ ?_ ?_); (case refine'_2 => rfl); (case refine'_4 => decide); (case refine'_5 => decide)) | fail)) | fail))
  refine s_do_bad (k := k) hK hq ht hs hb ⟨exmK hK .deed, fun e he => ?_⟩
  ((refine WPS.cons ?_); (repeat' (first | (with_reducible first | refine WPEs.nil ?_ | refine WPs.ret ?_) | ((with_reducible refine WPEs.cons ?_ ?_); (case refine_2 => intros; rfl)) | ((with_reducible refine c_law_class ‹_› ?_ ?_ ?_); (case refine_1 => rfl); (case refine_3 => intros; rfl)) | ((with_reducible refine' WPE.nm ?_ ?_ ?_ ?_); (case refine'_2 => rfl); (case refine'_4 => decide); (case refine'_5 => decide)) | fail)))
  refine WL.le (refusedK (c := c.off) (k := k) hK' .deed get_head fun st₂ hle₂ => ?_) (by ((with_reducible apply zA); exact rfl))
  (repeat' (first | (with_reducible refine nxt_ret ?_) | fail))
  exact h _ ((Le.alloc he).trans hle₂)
theorem sorted_eq : ∀ {l₁ l₂ : List Nat}, l₁.Perm l₂ → l₁.Pairwise (· ≤ ·) → l₂.Pairwise (· ≤ ·) → l₁ = l₂
  | [], l₂, h, _, _ => (List.nil_perm.mp h).symm
  | a :: l₁, [], h, _, _ => absurd h.length_eq (by simp)
  | a :: l₁, b :: l₂, h, h1, h2 => by
    obtain ⟨p1, q1⟩ := List.pairwise_cons.mp h1
    obtain ⟨p2, q2⟩ := List.pairwise_cons.mp h2
    have e : a = b := by
      have hb : b ∈ a :: l₁ := h.mem_iff.mpr (by simp)
      have ha : a ∈ b :: l₂ := h.mem_iff.mp (by simp)
      rcases List.mem_cons.mp hb with q | q
      · exact q.symm
      · rcases List.mem_cons.mp ha with q' | q'
        · exact q'
        · have := p1 b q; have := p2 a q'; lia
    subst e
    rw [sorted_eq (List.perm_cons a |>.mp h) q1 q2]
theorem kept_self {ms : List Nat} : ∀ u ∈ keptV fs rs ms, selfV u = true := by
  intro u hu
  obtain ⟨m, _, rfl⟩ := List.mem_map.mp hu
  rfl
theorem int_self {ns : List Int} : ∀ u ∈ ns.map V.int, selfV u = true := by
  intro u hu
  obtain ⟨m, _, rfl⟩ := List.mem_map.mp hu
  rfl
theorem self_app {vs ws : List V} (h1 : ∀ u ∈ vs, selfV u = true) (h2 : ∀ u ∈ ws, selfV u = true) : ∀ u ∈ vs ++ ws, selfV u = true := fun u hu => (List.mem_append.mp hu).elim (h1 u) (h2 u)
/-- all of a list are whole -/
theorem wholes (hK : Kc c) {a : Addr} {ns : List Int} {x : Str} {P : List V → St → Prop} {elt : Expr} (hg : get st a = some (.list (ns.map .int))) (hc : ∀ (z : Int) (Q : V → St → Prop), Q (.bool true) st → WPE c k sc ((x, .int z) :: ρ) st elt Q X) (h : P (ns.map fun _ => V.bool true) st) : COMP c k sc x ρ [] elt (.ref a) (ns.map .int) P X (ns.map .int) [] st := by
  refine COMP.pure (fun _ => V.bool true) (.list hg) ?_ ?_
  · intro j u hu
    rw [List.getElem?_map] at hu
    obtain ⟨z, hz, rfl⟩ := Option.map_eq_some_iff.mp hu
    exact hc z _ ⟨rfl, rfl⟩
  · rw [List.length_map, show (List.range ns.length).map (fun _ => V.bool true) = ns.map fun _ => V.bool true by
      refine List.ext_getElem (by simp) fun i h1 h2 => by simp]
    exact h
theorem WL.allTrue {a : Addr} {ns : List Int} (hq : c.q = true) (hg : get st a = some (.list (ns.map fun _ => V.bool true))) (h : Q (.bool true) st) : WL c k (fun xs => call (.builtin "all") xs) [.ref a] ρ st Q X := by
  refine WL.allBools (bs := ns.map fun _ => true) hq (by rw [hg, List.map_map]; rfl) ?_
  rw [show (ns.map fun _ => true).all id = true by simp]
  exact h
theorem kb_none {st' : St} {hl a : Addr} {o : O} (K : KeepBut st st' [hl]) (hH : get st' hl = some o) (hn : get st' a = none) : get st a = none := by
  cases e : get st a with
  | none => rfl
  | some o' =>
    by_cases q : a = hl
    · rw [q, hH] at hn; cases hn
    · rw [K a o' (by simpa using q) e] at hn; cases hn
theorem kb_updF {st' : St} {as : List Addr} {x : Addr} {o : O} (h : KeepBut st st' as) (hx : get st x = none) : KeepBut st (upd st' x o) as := fun a o' ha hg => (get_upd_ne fun e => by rw [e, hx] at hg; cases hg).trans (h a o' ha hg)
theorem s_right (hK : Kc c) (hq : c.q = true) {hl : Addr} {vs : List V} (W : Wk st x d ru sh se fs rs room g) (M : Mo st ma sa mk mt fs rs room g) (hr : room ≤ 12) (hn : rs.length ≤ 12) (hh : get st hl = some (.list vs)) (hvs : vs.length ≤ 1000)
    (h : ∀ a b a' b' us ws st', KeepBut st st' [hl] → get st a = none → get st b = none → get st a' = none → get st b' = none → get st' hl = some (.list (vs ++ [.tup [.ref a, .ref b]] ++ [.tup [.ref a', .ref b']])) → get st' a = some (.list us) → get st' b = some (.list us) → (∀ u ∈ us, selfV u = true) → get st' a' = some (.list ws) → get st' b' = some (.list ws) → (∀ u ∈ ws, selfV u = true) → Q (.bool true) st') : CF c (k + 3) A_law_right [.ref x, .ref ma, .ref hl] ρ st Q X := by
  obtain ⟨ms, gk, hp, ho⟩ := M.k
  have hpl := W.pl
  have hrl := W.rl
  have hwl := W.wl
  have hlen := hp.length_eq
  refine CallW.fn (k := k + 2) (Facts.fn_law_right hK) rfl ?_
  have r2 : ∀ ρ₁, Sub [("_law_walker", .ref x), ("_law_m", .ref ma), ("_law_held", .ref hl), ("_law_wanted", wantV g.want)] ρ₁ → WPS c (k + 2) S_law_right ρ₁ st (B_law_right.drop 2) (fun fl _ st' => Q (retV fl) st') (fun C _ st' => X C ρ st') := by
    intro ρ₁ hs
    refine WPS.locs ?_ hs
    refine WPS.cons ?_
    (repeat' (first | ((fail_if_success (with_reducible show WPS _ _ _ _ _ _ _ _)); (first | ((with_reducible refine WPEs.cons ?_ ?_); (case refine_2 => intros; rfl)) | ((with_reducible refine WPs.asg ?_ ?_ ?_); (case refine_2 => rfl); (case refine_3 => intros; rfl)) | ((with_reducible refine WPE.lst ?_ ?_); (case refine_2 => decide)) | fail)) | fail))
    refine selfA rfl (by decide) (by decide) W.i W.a (Facts.at_Walker_place hK) rfl rfl ?_
    (repeat' (first | ((fail_if_success (with_reducible show WPS _ _ _ _ _ _ _ _)); (first | ((with_reducible refine WPEs.cons ?_ ?_); (case refine_2 => intros; rfl)) | fail)) | fail))
    refine selfA rfl (by decide) (by decide) W.i W.a (Facts.at_Walker_state hK) rfl rfl ?_
    (repeat' (first | ((fail_if_success (with_reducible show WPS _ _ _ _ _ _ _ _)); (first | ((with_reducible refine WPEs.cons ?_ ?_); (case refine_2 => intros; rfl)) | fail)) | fail))
    refine selfA rfl (by decide) (by decide) W.i W.a (Facts.at_Walker_done hK) rfl rfl ?_
    (repeat' (first | ((fail_if_success (with_reducible show WPS _ _ _ _ _ _ _ _)); (first | (with_reducible refine WPEs.nil ?_) | fail)) | fail))
    intro f1 hf1
    have L1 := Le.alloc (o := .list [.int (g.place : Int), .int (stN fs rs g.place), .int (g.cost : Int)]) hf1
    have G1 : get ((f1, O.list [.int (g.place : Int), .int (stN fs rs g.place), .int (g.cost : Int)]) :: st) f1 = some (.list ([(g.place : Int), stN fs rs g.place, (g.cost : Int)].map V.int)) := get_head
    generalize (f1, O.list [.int (g.place : Int), .int (stN fs rs g.place), .int (g.cost : Int)]) :: st = S1 at L1 G1 ⊢
    (repeat' (first | ((fail_if_success (with_reducible show WPS _ _ _ _ _ _ _ _)); (first | (with_reducible refine nxt_next ?_) | fail)) | fail))
    refine WPS.cons ?_
    (repeat' (first | ((fail_if_success (with_reducible show WPS _ _ _ _ _ _ _ _)); (first | (with_reducible refine WPE.cstr ?_) | ((with_reducible refine WPEs.cons ?_ ?_); (case refine_2 => intros; rfl)) | ((with_reducible refine WPs.asg ?_ ?_ ?_); (case refine_2 => rfl); (case refine_3 => intros; rfl)) | (with_reducible refine WPE.sub ?_) | ((with_reducible refine WPE.lst ?_ ?_); (case refine_2 => decide)) | ((with_reducible refine' WPE.nm ?_ ?_ ?_ ?_); (case refine'_2 => rfl); (case refine'_4 => decide); (case refine'_5 => decide)) | fail)) | fail))
    refine W2.getS (L1 _ _ M.m) rfl rfl ?_
    (repeat' (first | ((fail_if_success (with_reducible show WPS _ _ _ _ _ _ _ _)); (first | (with_reducible refine WPE.cstr ?_) | ((with_reducible refine WPEs.cons ?_ ?_); (case refine_2 => intros; rfl)) | (with_reducible refine WPE.sub ?_) | ((with_reducible refine' WPE.nm ?_ ?_ ?_ ?_); (case refine'_2 => rfl); (case refine'_4 => decide); (case refine'_5 => decide)) | fail)) | fail))
    refine W2.getS (L1 _ _ M.m) rfl rfl ?_
    (repeat' (first | ((fail_if_success (with_reducible show WPS _ _ _ _ _ _ _ _)); (first | (with_reducible first | refine WPE.cstr ?_ | refine WPE.sub ?_) | ((with_reducible refine' WPE.nm ?_ ?_ ?_ ?_); (case refine'_2 => rfl); (case refine'_4 => decide); (case refine'_5 => decide)) | fail)) | fail))
    refine W2.getS (L1 _ _ M.m) rfl rfl ?_
    refine W2.subList (L1 _ _ M.s) rfl (by simp [stL_len]; lia) (seqIndex_pos (by with_reducible exact zC) (by simp [stL_len]; lia)) (v := .int (stN fs rs g.place)) (by
      rw [List.getElem?_map, Int.toNat_natCast, stL, List.getElem?_map, List.getElem?_range (by lia)]; rfl) ?_
    (repeat' (first | ((fail_if_success (with_reducible show WPS _ _ _ _ _ _ _ _)); (first | (with_reducible refine WPE.cstr ?_) | ((with_reducible refine WPEs.cons ?_ ?_); (case refine_2 => intros; rfl)) | (with_reducible refine WPE.sub ?_) | ((with_reducible refine' WPE.nm ?_ ?_ ?_ ?_); (case refine'_2 => rfl); (case refine'_4 => decide); (case refine'_5 => decide)) | fail)) | fail))
    refine W2.getS (L1 _ _ M.m) rfl rfl ?_
    (repeat' (first | ((fail_if_success (with_reducible show WPS _ _ _ _ _ _ _ _)); (first | (with_reducible refine WPEs.nil ?_) | fail)) | fail))
    intro f2 hf2
    have L2 := Le.alloc (o := .list [.int (g.place : Int), .int (stN fs rs g.place), .int (g.cost : Int)]) hf2
    have G2 : get ((f2, O.list [.int (g.place : Int), .int (stN fs rs g.place), .int (g.cost : Int)]) :: S1) f2 = some (.list ([(g.place : Int), stN fs rs g.place, (g.cost : Int)].map V.int)) := get_head
    replace G1 := L2 _ _ G1
    replace L2 := L1.trans L2
    generalize (f2, O.list [.int (g.place : Int), .int (stN fs rs g.place), .int (g.cost : Int)]) :: S1 = S2 at L2 G1 G2 ⊢
    (repeat' (first | ((fail_if_success (with_reducible show WPS _ _ _ _ _ _ _ _)); (first | (with_reducible refine nxt_next ?_) | fail)) | fail))
    refine WPS.cons ?_
    (repeat' (first | ((fail_if_success (with_reducible show WPS _ _ _ _ _ _ _ _)); (first | (with_reducible first | refine WPAll.or ?_ | refine WPs.ifs ?_ | refine WPB.op ?_) | ((with_reducible refine WPB.cmp ?_ ?_); (case refine_2 => rfl)) | ((with_reducible refine' WPE.nm ?_ ?_ ?_ ?_); (case refine'_2 => rfl); (case refine'_4 => decide); (case refine'_5 => decide)) | fail)) | fail))
    refine W2.neInts G1 G2 ?_
    rw [decide_eq_true rfl]
    (repeat' (first | ((fail_if_success (with_reducible show WPS _ _ _ _ _ _ _ _)); (first | (with_reducible first | refine WPAll.or ?_ | refine cnd_f ?_ | refine WPB.not ?_) | ((with_reducible refine WPEs.cons ?_ ?_); (case refine_2 => intros; rfl)) | ((with_reducible refine WPE.comp ‹_› ?_ ?_ ?_); (case refine_1 => rfl); (case refine_3 => intros; rfl)) | ((with_reducible refine c_all ‹_› ?_ ?_ ?_); (case refine_1 => rfl); (case refine_3 => intros; rfl)) | ((with_reducible refine' WPE.nm ?_ ?_ ?_ ?_); (case refine'_2 => rfl); (case refine'_4 => decide); (case refine'_5 => decide)) | ((with_reducible refine WPB.val ?_ ?_); (case refine_2 => intros; rfl)) | ((with_reducible refine cnd_is false ?_ ?_); (case refine_1 => rfl)) | (with_reducible refine ⟨_, rfl, ?_⟩) | fail)) | fail))
    refine ⟨_, .list G1, small_ok'' (by simp), ?_⟩
    refine wholes hK G1 (fun z Q' hQ => ?_) ?_
    · (repeat' (first | (with_reducible refine WPEs.nil ?_) | ((with_reducible refine WPEs.cons ?_ ?_); (case refine_2 => intros; rfl)) | ((with_reducible refine c_law_whole ‹_› ?_ ?_ ?_); (case refine_1 => rfl); (case refine_3 => intros; rfl)) | ((with_reducible refine' WPE.nm ?_ ?_ ?_ ?_); (case refine'_2 => rfl); (case refine'_4 => decide); (case refine'_5 => decide)) | fail))
      exact s_whole hK hQ
    intro bl hbl
    (repeat' (first | ((fail_if_success (with_reducible show WPS _ _ _ _ _ _ _ _)); (first | (with_reducible refine WPEs.nil ?_) | fail)) | fail))
    refine WL.allTrue hq get_head ?_
    have L3 := L2.cons (o := .list ([(g.place : Int), stN fs rs g.place, (g.cost : Int)].map fun _ => V.bool true)) hbl
    generalize (bl, O.list ([(g.place : Int), stN fs rs g.place, (g.cost : Int)].map fun _ => V.bool true)) :: S2 = S3 at L3 ⊢
    have W3 := W.le L3
    have hpv : plainV (wantV g.want) = true := by cases g.want <;> rfl
    (repeat' (first | ((fail_if_success (with_reducible show WPS _ _ _ _ _ _ _ _)); (first | (with_reducible first | refine WPAll.or ?_ | refine cnd_t ?_ | refine cnd_f ?_) | ((with_reducible refine WPB.cmp ?_ ?_); (case refine_2 => rfl)) | (with_reducible refine ⟨_, rfl, ?_⟩) | fail)) | fail))
    refine selfA rfl (by decide) (by decide) W3.i W3.a (Facts.at_Walker_wanted hK) rfl hpv ?_
    have hnw : ∀ {S : St} {k : Nat} {ρ : Loc} {Q : V → St → Prop} {X : Xp}, Q (.bool false) S → W2 c k (compareOp .NotEq) (wantV g.want) (wantV g.want) ρ S Q X := by
      intro S k ρ Q X hQ
      cases g.want with
      | zero => exact W2.neNone hQ
      | succ n => exact W2.neI (by rw [show ((n : Int) != (n : Int)) = false by simp]; exact hQ)
    (repeat' (first | ((fail_if_success (with_reducible show WPS _ _ _ _ _ _ _ _)); (first | ((with_reducible refine' WPE.nm ?_ ?_ ?_ ?_); (case refine'_2 => rfl); (case refine'_4 => decide); (case refine'_5 => decide)) | fail)) | fail))
    refine hnw ?_
    (repeat' (first | (with_reducible refine WPS.nil ?_) | ((fail_if_success (with_reducible show WPS _ _ _ _ _ _ _ _)); (first | (with_reducible first | refine WPAll.orNil ?_ | refine nxt_next ?_ | refine cnd_f ?_ | refine ⟨_, rfl, ?_⟩) | fail)) | fail))
    refine WPS.cons ?_
    (repeat' (first | ((fail_if_success (with_reducible show WPS _ _ _ _ _ _ _ _)); (first | ((with_reducible refine WPs.asg ?_ ?_ ?_); (case refine_2 => rfl); (case refine_3 => intros; rfl)) | fail)) | fail))
    refine WPE.methI ?_
    (repeat' (first | ((fail_if_success (with_reducible show WPS _ _ _ _ _ _ _ _)); (first | ((with_reducible refine' WPE.nm ?_ ?_ ?_ ?_); (case refine'_2 => rfl); (case refine'_4 => decide); (case refine'_5 => decide)) | fail)) | fail))
    refine ⟨_, _, _, _, _, rfl, W3.i, W3.a, rfl, Facts.me_Walker_kept hK, ?_⟩
    (repeat' (first | ((fail_if_success (with_reducible show WPS _ _ _ _ _ _ _ _)); (first | (with_reducible refine WPEs.nil ?_) | fail)) | fail))
    refine WL.le (s_kept (k := k) hK hq W3 (by ((with_reducible apply zE); (with_reducible assumption); exact rfl)) ?_) (by ((with_reducible apply zA); exact rfl))
    intro ms' ka S4 L4 hp' ho' fka gka
    obtain rfl := sorted_eq (hp'.trans hp.symm) ho' ho
    replace fka := L3.none fka
    replace L4 := L3.trans L4
    have W4 := W.le L4
    (repeat' (first | ((fail_if_success (with_reducible show WPS _ _ _ _ _ _ _ _)); (first | (with_reducible refine nxt_next ?_) | fail)) | fail))
    refine WPS.cons ?_
    (repeat' (first | ((fail_if_success (with_reducible show WPS _ _ _ _ _ _ _ _)); (first | ((with_reducible refine WPs.asg ?_ ?_ ?_); (case refine_2 => rfl); (case refine_3 => intros; rfl)) | fail)) | fail))
    refine WPE.methI ?_
    (repeat' (first | ((fail_if_success (with_reducible show WPS _ _ _ _ _ _ _ _)); (first | ((with_reducible refine' WPE.nm ?_ ?_ ?_ ?_); (case refine'_2 => rfl); (case refine'_4 => decide); (case refine'_5 => decide)) | fail)) | fail))
    refine ⟨_, _, _, _, _, rfl, W4.i, W4.a, rfl, Facts.me_Walker_met hK, ?_⟩
    (repeat' (first | ((fail_if_success (with_reducible show WPS _ _ _ _ _ _ _ _)); (first | (with_reducible refine WPEs.nil ?_) | fail)) | fail))
    refine WL.le (s_met (k := k) hK hq W4 (by ((with_reducible apply zD); (with_reducible assumption); exact rfl)) ?_) (by ((with_reducible apply zA); exact rfl))
    intro na hna
    have fna := L4.none hna
    have nkn : ka ≠ na := fun e => by rw [← e, gka] at hna; cases hna
    have gna : get ((na, O.list ((seenL fs rs (rs.length + 1 - g.want)).map .int)) :: S4) na = some (.list ((seenL fs rs (rs.length + 1 - g.want)).map .int)) := get_head
    replace gka := (Le.alloc (o := .list ((seenL fs rs (rs.length + 1 - g.want)).map .int)) hna) _ _ gka
    have L5 := L4.cons (o := .list ((seenL fs rs (rs.length + 1 - g.want)).map .int)) hna
    generalize (na, O.list ((seenL fs rs (rs.length + 1 - g.want)).map .int)) :: S4 = S5 at L5 gka gna ⊢
    have hsl : (seenL fs rs (rs.length + 1 - g.want)).length ≤ 13 := by simp [seenL]; lia
    generalize hsn : seenL fs rs (rs.length + 1 - g.want) = sn at gna hsl
    have gmt := L5 _ _ M.t
    rw [hsn] at gmt
    (repeat' (first | ((fail_if_success (with_reducible show WPS _ _ _ _ _ _ _ _)); (first | (with_reducible refine nxt_next ?_) | fail)) | fail))
    refine WPS.cons ?_
    (repeat' (first | ((fail_if_success (with_reducible show WPS _ _ _ _ _ _ _ _)); (first | (with_reducible first | refine WPE.cstr ?_ | refine WPAll.or ?_ | refine WPs.ifs ?_ | refine WPB.op ?_) | ((with_reducible refine WPE.comp ‹_› ?_ ?_ ?_); (case refine_1 => rfl); (case refine_3 => intros; rfl)) | ((with_reducible refine WPB.cmp ?_ ?_); (case refine_2 => rfl)) | (with_reducible refine WPE.sub ?_) | ((with_reducible refine' WPE.nm ?_ ?_ ?_ ?_); (case refine'_2 => rfl); (case refine'_4 => decide); (case refine'_5 => decide)) | fail)) | fail))
    refine W2.getS (L5 _ _ M.m) rfl rfl ?_
    refine ⟨_, .list (L5 _ _ gk), small_ok'' (by simp; lia), ?_⟩
    refine COMP.pure (fun i => V.tup [.int ((ms'.getD i 0 : Nat) : Int), .int (stN fs rs (ms'.getD i 0))]) (.list (L5 _ _ gk)) ?_ ?_
    · intro i u hu
      rw [List.getElem?_map, List.getElem?_map] at hu
      obtain ⟨z, hz, rfl⟩ := Option.map_eq_some_iff.mp hu
      obtain ⟨m, hm, rfl⟩ := Option.map_eq_some_iff.mp hz
      have hmm := W.ml m (hp.mem_iff.mp (List.mem_of_getElem? hm))
      (repeat' (first | (with_reducible refine WPE.cstr ?_) | ((with_reducible refine WPEs.cons ?_ ?_); (case refine_2 => intros; rfl)) | (with_reducible refine WPE.sub ?_) | ((with_reducible refine WPE.tup ?_ ?_); (case refine_2 => decide)) | ((with_reducible refine' WPE.nm ?_ ?_ ?_ ?_); (case refine'_2 => rfl); (case refine'_4 => decide); (case refine'_5 => decide)) | fail))
      refine W2.getS (L5 _ _ M.m) rfl rfl ?_
      (repeat' (first | ((with_reducible refine' WPE.nm ?_ ?_ ?_ ?_); (case refine'_2 => rfl); (case refine'_4 => decide); (case refine'_5 => decide)) | fail))
      refine W2.subList (L5 _ _ M.s) rfl (by simp [stL_len]; lia) (seqIndex_pos (by with_reducible exact zC) (by simp [stL_len]; lia)) (v := .int (stN fs rs m)) (by
        rw [List.getElem?_map, Int.toNat_natCast, stL, List.getElem?_map, List.getElem?_range (by lia)]; rfl) ?_
      (repeat' (first | (with_reducible refine WPEs.nil ?_) | fail))
      refine ⟨?_, rfl⟩
      rw [List.getD_eq_getElem?_getD, hm]; rfl
    rw [show (List.range ((nI ms').map V.int).length).map (fun i => V.tup [.int ((ms'.getD i 0 : Nat) : Int), .int (stN fs rs (ms'.getD i 0))]) = keptV fs rs ms' by
      unfold keptV
      rw [List.length_map, List.length_map]
      refine List.ext_getElem (by simp) fun i h1 h2 => ?_
      simp at h1
      simp [List.getD_eq_getElem?_getD, h1]]
    intro cb hcb
    refine W2.neSelfL ((Le.alloc hcb) _ _ gka) get_head kept_self ?_
    have L6 := Le.alloc (o := .list (keptV fs rs ms')) hcb
    generalize (cb, O.list (keptV fs rs ms')) :: S5 = S6 at L6 ⊢
    replace gka := L6 _ _ gka
    replace gna := L6 _ _ gna
    replace gmt := L6 _ _ gmt
    replace L6 := L5.trans L6
    have W6 := W.le L6
    (repeat' (first | ((fail_if_success (with_reducible show WPS _ _ _ _ _ _ _ _)); (first | (with_reducible first | refine WPE.cstr ?_ | refine WPAll.or ?_ | refine cnd_f ?_) | ((with_reducible refine WPB.cmp ?_ ?_); (case refine_2 => rfl)) | (with_reducible refine WPE.sub ?_) | ((with_reducible refine' WPE.nm ?_ ?_ ?_ ?_); (case refine'_2 => rfl); (case refine'_4 => decide); (case refine'_5 => decide)) | (with_reducible refine ⟨_, rfl, ?_⟩) | fail)) | fail))
    refine W2.getS (L6 _ _ M.m) rfl rfl ?_
    refine W2.neSelfL gna gmt int_self ?_
    (repeat' (first | (with_reducible refine WPS.nil ?_) | ((fail_if_success (with_reducible show WPS _ _ _ _ _ _ _ _)); (first | (with_reducible first | refine WPAll.orNil ?_ | refine nxt_next ?_ | refine cnd_f ?_ | refine ⟨_, rfl, ?_⟩) | fail)) | fail))
    refine WPS.cons ?_
    (repeat' (first | ((fail_if_success (with_reducible show WPS _ _ _ _ _ _ _ _)); (first | (with_reducible first | refine WPAll.or ?_ | refine WPEs.nil ?_ | refine WPs.ifs ?_ | refine WPB.op ?_ | refine WPB.not ?_) | ((with_reducible refine WPEs.cons ?_ ?_); (case refine_2 => intros; rfl)) | ((with_reducible refine n_list ‹_› ?_ ?_); (case refine_1 => rfl)) | ((with_reducible refine c_isinstance ‹_› ?_ ?_ ?_); (case refine_1 => rfl); (case refine_3 => intros; rfl)) | ((with_reducible refine' WPE.nm ?_ ?_ ?_ ?_); (case refine'_2 => rfl); (case refine'_4 => decide); (case refine'_5 => decide)) | ((with_reducible refine WPB.val ?_ ?_); (case refine_2 => intros; rfl)) | fail)) | fail))
    refine WL.isinstance (T := "list") (by simp [typV, gka]) rfl ?_
    (repeat' (first | ((fail_if_success (with_reducible show WPS _ _ _ _ _ _ _ _)); (first | (with_reducible first | refine WPAll.or ?_ | refine cnd_t ?_ | refine cnd_f ?_ | refine WPEs.nil ?_ | refine WPB.not ?_) | ((with_reducible refine WPEs.cons ?_ ?_); (case refine_2 => intros; rfl)) | ((with_reducible refine n_list ‹_› ?_ ?_); (case refine_1 => rfl)) | ((with_reducible refine c_isinstance ‹_› ?_ ?_ ?_); (case refine_1 => rfl); (case refine_3 => intros; rfl)) | ((with_reducible refine' WPE.nm ?_ ?_ ?_ ?_); (case refine'_2 => rfl); (case refine'_4 => decide); (case refine'_5 => decide)) | ((with_reducible refine WPB.val ?_ ?_); (case refine_2 => intros; rfl)) | ((with_reducible refine cnd_is true ?_ ?_); (case refine_1 => rfl)) | (with_reducible refine ⟨_, rfl, ?_⟩) | fail)) | fail))
    refine WL.isinstance (T := "list") (by simp [typV, gna]) rfl ?_
    (repeat' (first | ((fail_if_success (with_reducible show WPS _ _ _ _ _ _ _ _)); (first | (with_reducible first | refine WPAll.or ?_ | refine cnd_t ?_ | refine cnd_f ?_) | ((with_reducible refine WPEs.cons ?_ ?_); (case refine_2 => intros; rfl)) | ((with_reducible refine c_isinstance ‹_› ?_ ?_ ?_); (case refine_1 => rfl); (case refine_3 => intros; rfl)) | ((with_reducible refine WPB.val ?_ ?_); (case refine_2 => intros; rfl)) | ((with_reducible refine cnd_is true ?_ ?_); (case refine_1 => rfl)) | (with_reducible refine ⟨_, rfl, ?_⟩) | fail)) | fail))
    refine selfA rfl (by decide) (by decide) W6.i W6.a (Facts.at_Walker_wanted hK) rfl hpv ?_
    (repeat' (first | ((fail_if_success (with_reducible show WPS _ _ _ _ _ _ _ _)); (first | (with_reducible refine WPEs.nil ?_) | ((with_reducible refine WPEs.cons ?_ ?_); (case refine_2 => intros; rfl)) | ((with_reducible refine n_bool ‹_› ?_ ?_); (case refine_1 => rfl)) | fail)) | fail))
    obtain ⟨T, hT, hTb⟩ : ∃ T, typV S6 (wantV g.want) = some T ∧ isi T "bool" = false := by cases g.want <;> exact ⟨_, rfl, rfl⟩
    refine WL.isinstance hT rfl ?_
    rw [hTb]
    (repeat' (first | (with_reducible refine WPS.nil ?_) | ((fail_if_success (with_reducible show WPS _ _ _ _ _ _ _ _)); (first | (with_reducible first | refine WPAll.orNil ?_ | refine nxt_next ?_ | refine cnd_f ?_ | refine ⟨_, rfl, ?_⟩) | fail)) | fail))
    refine WPS.cons ?_
    (repeat' (first | ((fail_if_success (with_reducible show WPS _ _ _ _ _ _ _ _)); (first | ((with_reducible refine WPs.for ‹_› ?_ ?_ ?_); (case refine_2 => rfl); (case refine_3 => intros; rfl)) | ((with_reducible refine' WPE.nm ?_ ?_ ?_ ?_); (case refine'_2 => rfl); (case refine'_4 => decide); (case refine'_5 => decide)) | fail)) | fail))
    refine ⟨_, .list gka, ?_⟩
    refine FOR.inv (fun _ ρ₁ st₁ => ρ₁ = ([("_law_walker", .ref x), ("_law_m", .ref ma), ("_law_held", .ref hl), ("_law_wanted", wantV g.want), ("_law_found", .ref f1), ("_law_due", .ref f2), ("_law_kept", .ref ka), ("_law_met", .ref na)] : Loc) ∧ st₁ = S6) ⟨rfl, rfl⟩ ?_ ?_
    · rintro i u ρ₁ st₁ hu ⟨rfl, rfl⟩
      unfold keptV at hu
      rw [List.getElem?_map] at hu
      obtain ⟨m, hm, rfl⟩ := Option.map_eq_some_iff.mp hu
      ((refine WPS.cons ?_); (repeat' (first | (with_reducible first | refine WPE.cint ?_ | refine WPAll.or ?_ | refine cnd_t ?_ | refine cnd_f ?_ | refine WPEs.nil ?_ | refine WPs.ifs ?_ | refine WPB.op ?_ | refine WPB.not ?_) | ((with_reducible refine WPEs.cons ?_ ?_); (case refine_2 => intros; rfl)) | ((with_reducible refine n_tuple ‹_› ?_ ?_); (case refine_1 => rfl)) | ((with_reducible refine c_law_whole ‹_› ?_ ?_ ?_); (case refine_1 => rfl); (case refine_3 => intros; rfl)) | ((with_reducible refine c_isinstance ‹_› ?_ ?_ ?_); (case refine_1 => rfl); (case refine_3 => intros; rfl)) | (with_reducible refine WPE.sub ?_) | ((with_reducible refine' WPE.nm ?_ ?_ ?_ ?_); (case refine'_2 => rfl); (case refine'_4 => decide); (case refine'_5 => decide)) | ((with_reducible refine WPB.val ?_ ?_); (case refine_2 => intros; rfl)) | ((with_reducible refine cnd_is true ?_ ?_); (case refine_1 => rfl)) | ((with_reducible refine' W2.tupAt ?_ ?_ ?_ ?_); (case refine'_2 => rfl); (case refine'_3 => rfl); (case refine'_4 => rfl)) | (with_reducible refine ⟨_, rfl, ?_⟩) | ((with_reducible refine' WL.isinstance ?_ ?_ ?_); (case refine'_2 => rfl); (case refine'_3 => rfl)) | fail)))
      refine s_whole hK ?_
      (repeat' (first | (with_reducible first | refine WPE.cint ?_ | refine WPAll.or ?_ | refine cnd_t ?_ | refine cnd_f ?_ | refine WPEs.nil ?_ | refine WPB.not ?_) | ((with_reducible refine WPEs.cons ?_ ?_); (case refine_2 => intros; rfl)) | ((with_reducible refine c_law_whole ‹_› ?_ ?_ ?_); (case refine_1 => rfl); (case refine_3 => intros; rfl)) | (with_reducible refine WPE.sub ?_) | ((with_reducible refine' WPE.nm ?_ ?_ ?_ ?_); (case refine'_2 => rfl); (case refine'_4 => decide); (case refine'_5 => decide)) | ((with_reducible refine WPB.val ?_ ?_); (case refine_2 => intros; rfl)) | ((with_reducible refine' W2.tupAt ?_ ?_ ?_ ?_); (case refine'_2 => rfl); (case refine'_3 => rfl); (case refine'_4 => rfl)) | (with_reducible refine ⟨_, rfl, ?_⟩) | fail))
      refine s_whole hK ?_
      (repeat' (first | (with_reducible first | refine WPAll.orNil ?_ | refine nxt_next ?_ | refine cnd_t ?_ | refine cnd_f ?_ | refine WPS.nil ?_ | refine ⟨_, rfl, ?_⟩) | fail))
      exact lp_next ⟨_, .cons rfl (.cons rfl (.cons rfl (.cons rfl (.cons rfl (.cons rfl (.cons rfl (.cons rfl .nil))))))), .list gka, rfl, rfl⟩
    · rintro ρ₁ st₁ ⟨rfl, rfl⟩
      (repeat' (first | ((fail_if_success (with_reducible show WPS _ _ _ _ _ _ _ _)); (first | (with_reducible refine nxt_next ?_) | fail)) | fail))
      refine WPS.cons ?_
      (repeat' (first | ((fail_if_success (with_reducible show WPS _ _ _ _ _ _ _ _)); (first | (with_reducible first | refine WPs.ifs ?_ | refine WPB.not ?_) | ((with_reducible refine WPEs.cons ?_ ?_); (case refine_2 => intros; rfl)) | ((with_reducible refine WPE.comp ‹_› ?_ ?_ ?_); (case refine_1 => rfl); (case refine_3 => intros; rfl)) | ((with_reducible refine c_all ‹_› ?_ ?_ ?_); (case refine_1 => rfl); (case refine_3 => intros; rfl)) | ((with_reducible refine' WPE.nm ?_ ?_ ?_ ?_); (case refine'_2 => rfl); (case refine'_4 => decide); (case refine'_5 => decide)) | ((with_reducible refine WPB.val ?_ ?_); (case refine_2 => intros; rfl)) | fail)) | fail))
      refine ⟨_, .list gna, small_ok'' (by simp; ((with_reducible apply zD); (with_reducible assumption); exact rfl)), ?_⟩
      refine wholes hK gna (fun z Q' hQ => ?_) ?_
      · (repeat' (first | (with_reducible refine WPEs.nil ?_) | ((with_reducible refine WPEs.cons ?_ ?_); (case refine_2 => intros; rfl)) | ((with_reducible refine c_law_whole ‹_› ?_ ?_ ?_); (case refine_1 => rfl); (case refine_3 => intros; rfl)) | ((with_reducible refine' WPE.nm ?_ ?_ ?_ ?_); (case refine'_2 => rfl); (case refine'_4 => decide); (case refine'_5 => decide)) | fail))
        exact s_whole hK hQ
      intro b2 hb2
      (repeat' (first | ((fail_if_success (with_reducible show WPS _ _ _ _ _ _ _ _)); (first | (with_reducible refine WPEs.nil ?_) | fail)) | fail))
      refine WL.allTrue hq get_head ?_
      have L7 := Le.alloc (o := .list (sn.map fun _ => V.bool true)) hb2
      generalize (b2, O.list (sn.map fun _ => V.bool true)) :: st₁ = S7 at L7 ⊢
      replace gka := L7 _ _ gka
      replace gna := L7 _ _ gna
      replace L7 := L6.trans L7
      have hkl : (keptV fs rs ms').length ≤ 12 := by unfold keptV; rw [List.length_map]; lia
      have hks := kept_self (fs := fs) (rs := rs) (ms := ms')
      generalize keptV fs rs ms' = kv at gka hkl hks
      (repeat' (first | (with_reducible refine WPS.nil ?_) | ((fail_if_success (with_reducible show WPS _ _ _ _ _ _ _ _)); (first | (with_reducible first | refine nxt_next ?_ | refine cnd_t ?_ | refine cnd_f ?_ | refine ⟨_, rfl, ?_⟩) | fail)) | fail))
      refine WPS.cons ?_
      (repeat' (first | ((fail_if_success (with_reducible show WPS _ _ _ _ _ _ _ _)); (first | ((with_reducible refine WPs.expr ?_ ?_); (case refine_2 => intros; rfl)) | ((with_reducible refine' WPE.nm ?_ ?_ ?_ ?_); (case refine'_2 => rfl); (case refine'_4 => decide); (case refine'_5 => decide)) | ((with_reducible refine WPE.mAppend ?_ ?_ ?_); (case refine_2 => rfl); (case refine_3 => intros; exact ⟨_, rfl⟩)) | fail)) | fail))
      refine ⟨_, _, rfl, L7 _ _ hh, ?_⟩
      (repeat' (first | ((fail_if_success (with_reducible show WPS _ _ _ _ _ _ _ _)); (first | (with_reducible first | refine WPE.cint ?_ | refine WPE.bin ?_ | refine WPEs.nil ?_) | ((with_reducible refine WPEs.cons ?_ ?_); (case refine_2 => intros; rfl)) | ((with_reducible refine WPE.tup ?_ ?_); (case refine_2 => decide)) | ((with_reducible refine WPE.lst ?_ ?_); (case refine_2 => decide)) | ((with_reducible refine' WPE.nm ?_ ?_ ?_ ?_); (case refine'_2 => rfl); (case refine'_4 => decide); (case refine'_5 => decide)) | fail)) | fail))
      intro z1 hz1
      refine W2.addList ((Le.alloc hz1) _ _ gka) get_head (small_ok'' (by simp; ((with_reducible apply zD); (with_reducible assumption); exact rfl))) ?_
      intro kb hkb
      have f8 := (L7.cons (o := .list [.tup [.int 0, .int 0]]) hz1).none hkb
      have L8 := (Le.alloc (o := .list [.tup [.int 0, .int 0]]) hz1).cons (o := .list (kv ++ [.tup [.int 0, .int 0]])) hkb
      have gkb : get ((kb, O.list (kv ++ [.tup [.int 0, .int 0]])) :: (z1, .list [.tup [.int 0, .int 0]]) :: S7) kb = some (.list (kv ++ [.tup [.int 0, .int 0]])) := get_head
      have n1 : ka ≠ kb := fun e => by rw [← e, (Le.alloc hz1) _ _ gka] at hkb; cases hkb
      have n2 : na ≠ kb := fun e => by rw [← e, (Le.alloc hz1) _ _ gna] at hkb; cases hkb
      generalize (kb, O.list (kv ++ [.tup [.int 0, .int 0]])) :: (z1, .list [.tup [.int 0, .int 0]]) :: S7 = S8 at L8 gkb ⊢
      replace gka := L8 _ _ gka
      replace gna := L8 _ _ gna
      replace L8 := L7.trans L8
      have n3 : ka ≠ hl := fun e => by rw [e, hh] at fka; cases fka
      have n4 : na ≠ hl := fun e => by rw [e, hh] at fna; cases fna
      have n5 : kb ≠ hl := fun e => by rw [e, hh] at f8; cases f8
      (repeat' (first | ((fail_if_success (with_reducible show WPS _ _ _ _ _ _ _ _)); (first | (with_reducible refine WPEs.nil ?_) | fail)) | fail))
      refine WL.append (L8 _ _ hh) (by ((with_reducible apply zD); (with_reducible assumption); exact rfl)) ?_
      have H9 := get_upd_self (o := .list (vs ++ [.tup [.ref ka, .ref kb]])) (L8 _ _ hh)
      have K9 := (KeepBut.of (as := [hl]) L8).upd (x := hl) (o := .list (vs ++ [.tup [.ref ka, .ref kb]])) (by simp)
      replace gka := (get_upd_ne (o := .list (vs ++ [.tup [.ref ka, .ref kb]])) n3).trans gka
      replace gna := (get_upd_ne (o := .list (vs ++ [.tup [.ref ka, .ref kb]])) n4).trans gna
      replace gkb := (get_upd_ne (o := .list (vs ++ [.tup [.ref ka, .ref kb]])) n5).trans gkb
      generalize upd S8 hl (.list (vs ++ [.tup [.ref ka, .ref kb]])) = S9 at H9 K9 gka gna gkb ⊢
      (repeat' (first | ((fail_if_success (with_reducible show WPS _ _ _ _ _ _ _ _)); (first | (with_reducible refine nxt_next ?_) | fail)) | fail))
      refine WPS.cons ?_
      (repeat' (first | ((fail_if_success (with_reducible show WPS _ _ _ _ _ _ _ _)); (first | ((with_reducible refine WPs.expr ?_ ?_); (case refine_2 => intros; rfl)) | ((with_reducible refine' WPE.nm ?_ ?_ ?_ ?_); (case refine'_2 => rfl); (case refine'_4 => decide); (case refine'_5 => decide)) | ((with_reducible refine WPE.mAppend ?_ ?_ ?_); (case refine_2 => rfl); (case refine_3 => intros; exact ⟨_, rfl⟩)) | fail)) | fail))
      refine ⟨_, _, rfl, H9, ?_⟩
      (repeat' (first | ((fail_if_success (with_reducible show WPS _ _ _ _ _ _ _ _)); (first | (with_reducible first | refine WPE.cint ?_ | refine WPE.bin ?_ | refine WPEs.nil ?_) | ((with_reducible refine WPEs.cons ?_ ?_); (case refine_2 => intros; rfl)) | ((with_reducible refine WPE.tup ?_ ?_); (case refine_2 => decide)) | ((with_reducible refine WPE.lst ?_ ?_); (case refine_2 => decide)) | ((with_reducible refine' WPE.nm ?_ ?_ ?_ ?_); (case refine'_2 => rfl); (case refine'_4 => decide); (case refine'_5 => decide)) | fail)) | fail))
      intro z2 hz2
      refine W2.addList ((Le.alloc hz2) _ _ gna) get_head (small_ok'' (by simp; ((with_reducible apply zD); (with_reducible assumption); exact rfl))) ?_
      intro nb hnb
      have L10 := (Le.alloc (o := .list [.int 0]) hz2).cons (o := .list (sn.map .int ++ [.int 0])) hnb
      have f10 : get st nb = none := kb_none K9 H9 ((Le.alloc hz2).none hnb)
      have gnb : get ((nb, O.list (sn.map .int ++ [.int 0])) :: (z2, .list [.int 0]) :: S9) nb = some (.list (sn.map .int ++ [.int 0])) := get_head
      have n6 : ka ≠ nb := fun e => by rw [← e, (Le.alloc hz2) _ _ gka] at hnb; cases hnb
      have n7 : na ≠ nb := fun e => by rw [← e, (Le.alloc hz2) _ _ gna] at hnb; cases hnb
      have n8 : kb ≠ nb := fun e => by rw [← e, (Le.alloc hz2) _ _ gkb] at hnb; cases hnb
      have n9 : nb ≠ hl := fun e => by rw [e, hh] at f10; cases f10
      replace gka := L10 _ _ gka
      replace gna := L10 _ _ gna
      replace gkb := L10 _ _ gkb
      replace H9 := L10 _ _ H9
      replace K9 := K9.trans (KeepBut.of L10)
      generalize (nb, O.list (sn.map .int ++ [.int 0])) :: (z2, .list [.int 0]) :: S9 = S10 at H9 K9 gka gna gkb gnb ⊢
      (repeat' (first | ((fail_if_success (with_reducible show WPS _ _ _ _ _ _ _ _)); (first | (with_reducible refine WPEs.nil ?_) | fail)) | fail))
      refine WL.append H9 (by simp; ((with_reducible apply zD); (with_reducible assumption); exact rfl)) ?_
      have H11 := get_upd_self (o := .list (vs ++ [.tup [.ref ka, .ref kb]] ++ [.tup [.ref na, .ref nb]])) H9
      have K11 := K9.upd (x := hl) (o := .list (vs ++ [.tup [.ref ka, .ref kb]] ++ [.tup [.ref na, .ref nb]])) (by simp)
      replace gka := (get_upd_ne (o := .list (vs ++ [.tup [.ref ka, .ref kb]] ++ [.tup [.ref na, .ref nb]])) n3).trans gka
      replace gna := (get_upd_ne (o := .list (vs ++ [.tup [.ref ka, .ref kb]] ++ [.tup [.ref na, .ref nb]])) n4).trans gna
      replace gkb := (get_upd_ne (o := .list (vs ++ [.tup [.ref ka, .ref kb]] ++ [.tup [.ref na, .ref nb]])) n5).trans gkb
      replace gnb := (get_upd_ne (o := .list (vs ++ [.tup [.ref ka, .ref kb]] ++ [.tup [.ref na, .ref nb]])) n9).trans gnb
      generalize upd S10 hl (.list (vs ++ [.tup [.ref ka, .ref kb]] ++ [.tup [.ref na, .ref nb]])) = S11 at H11 K11 gka gna gkb gnb ⊢
      (repeat' (first | ((fail_if_success (with_reducible show WPS _ _ _ _ _ _ _ _)); (first | (with_reducible refine nxt_next ?_) | fail)) | fail))
      refine WPS.cons ?_
      (repeat' (first | ((fail_if_success (with_reducible show WPS _ _ _ _ _ _ _ _)); (first | ((with_reducible refine WPs.expr ?_ ?_); (case refine_2 => intros; rfl)) | ((with_reducible refine' WPE.nm ?_ ?_ ?_ ?_); (case refine'_2 => rfl); (case refine'_4 => decide); (case refine'_5 => decide)) | ((with_reducible refine WPE.mAppend ?_ ?_ ?_); (case refine_2 => rfl); (case refine_3 => intros; exact ⟨_, rfl⟩)) | fail)) | fail))
      refine ⟨_, _, rfl, gka, ?_⟩
      (repeat' (first | ((fail_if_success (with_reducible show WPS _ _ _ _ _ _ _ _)); (first | (with_reducible first | refine WPE.cint ?_ | refine WPEs.nil ?_) | ((with_reducible refine WPEs.cons ?_ ?_); (case refine_2 => intros; rfl)) | ((with_reducible refine WPE.tup ?_ ?_); (case refine_2 => decide)) | fail)) | fail))
      refine WL.append gka (by ((with_reducible apply zD); (with_reducible assumption); exact rfl)) ?_
      have H12 := (get_upd_ne (o := .list (kv ++ [.tup [.int 0, .int 0]])) (Ne.symm n3)).trans H11
      have K12 := kb_updF (o := .list (kv ++ [.tup [.int 0, .int 0]])) K11 fka
      replace gna := (get_upd_ne (o := .list (kv ++ [.tup [.int 0, .int 0]])) (Ne.symm nkn)).trans gna
      replace gkb := (get_upd_ne (o := .list (kv ++ [.tup [.int 0, .int 0]])) (Ne.symm n1)).trans gkb
      replace gnb := (get_upd_ne (o := .list (kv ++ [.tup [.int 0, .int 0]])) (Ne.symm n6)).trans gnb
      replace gka := get_upd_self (o := .list (kv ++ [.tup [.int 0, .int 0]])) gka
      generalize upd S11 ka (.list (kv ++ [.tup [.int 0, .int 0]])) = S12 at H12 K12 gka gna gkb gnb ⊢
      (repeat' (first | ((fail_if_success (with_reducible show WPS _ _ _ _ _ _ _ _)); (first | (with_reducible refine nxt_next ?_) | fail)) | fail))
      refine WPS.cons ?_
      (repeat' (first | ((fail_if_success (with_reducible show WPS _ _ _ _ _ _ _ _)); (first | ((with_reducible refine WPs.expr ?_ ?_); (case refine_2 => intros; rfl)) | ((with_reducible refine' WPE.nm ?_ ?_ ?_ ?_); (case refine'_2 => rfl); (case refine'_4 => decide); (case refine'_5 => decide)) | ((with_reducible refine WPE.mAppend ?_ ?_ ?_); (case refine_2 => rfl); (case refine_3 => intros; exact ⟨_, rfl⟩)) | fail)) | fail))
      refine ⟨_, _, rfl, gna, ?_⟩
      (repeat' (first | ((fail_if_success (with_reducible show WPS _ _ _ _ _ _ _ _)); (first | (with_reducible first | refine WPE.cint ?_ | refine WPEs.nil ?_) | ((with_reducible refine WPEs.cons ?_ ?_); (case refine_2 => intros; rfl)) | fail)) | fail))
      refine WL.append gna (by simp; ((with_reducible apply zD); (with_reducible assumption); exact rfl)) ?_
      have H13 := (get_upd_ne (o := .list (sn.map .int ++ [.int 0])) (Ne.symm n4)).trans H12
      have K13 := kb_updF (o := .list (sn.map .int ++ [.int 0])) K12 fna
      replace gka := (get_upd_ne (o := .list (sn.map .int ++ [.int 0])) nkn).trans gka
      replace gkb := (get_upd_ne (o := .list (sn.map .int ++ [.int 0])) (Ne.symm n2)).trans gkb
      replace gnb := (get_upd_ne (o := .list (sn.map .int ++ [.int 0])) (Ne.symm n7)).trans gnb
      replace gna := get_upd_self (o := .list (sn.map .int ++ [.int 0])) gna
      generalize upd S12 na (.list (sn.map .int ++ [.int 0])) = S13 at H13 K13 gka gna gkb gnb ⊢
      (repeat' (first | ((fail_if_success (with_reducible show WPS _ _ _ _ _ _ _ _)); (first | (with_reducible refine nxt_next ?_) | fail)) | fail))
      refine WPS.cons ?_
      (repeat' (first | ((fail_if_success (with_reducible show WPS _ _ _ _ _ _ _ _)); (first | (with_reducible first | refine WPE.cbool ?_ | refine nxt_ret ?_ | refine WPs.ret ?_) | fail)) | fail))
      exact h ka kb na nb _ _ _ K13 fka f8 fna f10 H13 gka gkb (self_app hks (by intro u hu; obtain rfl := List.mem_singleton.mp hu; rfl)) gna gnb (self_app int_self (by intro u hu; obtain rfl := List.mem_singleton.mp hu; rfl))
  ((refine WPS.cons ?_); (repeat' (first | (with_reducible refine WPE.cstr ?_) | ((with_reducible refine WPs.asg ?_ ?_ ?_); (case refine_2 => rfl); (case refine_3 => intros; rfl)) | (with_reducible refine WPE.sub ?_) | ((with_reducible refine' WPE.nm ?_ ?_ ?_ ?_); (case refine'_2 => rfl); (case refine'_4 => decide); (case refine'_5 => decide)) | fail)))
  refine W2.getS M.m rfl rfl ?_
  (repeat' (first | ((fail_if_success (with_reducible show WPS _ _ _ _ _ _ _ _)); (first | (with_reducible refine nxt_next ?_) | fail)) | fail))
  refine WPS.cons ?_
  (repeat' (first | ((fail_if_success (with_reducible show WPS _ _ _ _ _ _ _ _)); (first | (with_reducible first | refine WPE.cint ?_ | refine W2.ltI ?_ | refine WPs.ifs ?_) | ((with_reducible refine WPB.cmp ?_ ?_); (case refine_2 => rfl)) | ((with_reducible refine' WPE.nm ?_ ?_ ?_ ?_); (case refine'_2 => rfl); (case refine'_4 => decide); (case refine'_5 => decide)) | (with_reducible refine ⟨_, rfl, ?_⟩) | fail)) | fail))
  by_cases hw : g.want = 0
  · refine cnd_is true (by simp [hw]) ?_
    refine WPS.cons ?_
    (repeat' (first | (with_reducible refine WPS.nil ?_) | ((fail_if_success (with_reducible show WPS _ _ _ _ _ _ _ _)); (first | (with_reducible first | refine WPE.cnone ?_ | refine nxt_next ?_) | ((with_reducible refine WPs.asg ?_ ?_ ?_); (case refine_2 => rfl); (case refine_3 => intros; rfl)) | fail)) | fail))
    exact r2 _ (.cons rfl (.cons rfl (.cons rfl (.cons (by rw [hw]; rfl) .nil))))
  · refine cnd_is false (by simp; lia) ?_
    (repeat' (first | (with_reducible refine WPS.nil ?_) | ((fail_if_success (with_reducible show WPS _ _ _ _ _ _ _ _)); (first | (with_reducible first | refine nxt_next ?_ | refine cnd_f ?_) | fail)) | fail))
    exact r2 _ (.cons rfl (.cons rfl (.cons rfl (.cons (by
      obtain ⟨j, hj⟩ : ∃ j, g.want = j + 1 := ⟨g.want - 1, by lia⟩
      rw [hj, show wantV (j + 1) = .int (j : Int) from rfl, show ((j + 1 : Nat) : Int) - 1 = (j : Int) by with_reducible exact zT]; rfl) .nil))))
end

section
variable {c : Cx} {k : Nat} {sc : Scope} {ρ : Loc} {st : St} {Q : V → St → Prop} {X : Xp} {x d ru sh se ma sa mk mt : Addr} {fs : Int} {rs : List Ru} {room : Nat} {g g' : Sg}
theorem s_room (hK : Kc c) {ns : List Int} (hl : ns.length < 1000) (h : ∀ r : Nat, 1 ≤ r → r ≤ 12 → Q (.int (r : Int)) st) : CF c (k + 2) A_law_room [.scr ns] ρ st Q X := by
  refine CallW.fn (k := k + 1) (Facts.fn_law_room hK) rfl ?_
  refine WPS.cons ?_
  (repeat' (first | ((fail_if_success (with_reducible show WPS _ _ _ _ _ _ _ _)); (first | (with_reducible first | refine WPE.cint ?_ | refine WPE.bin ?_ | refine WPEs.nil ?_) | ((with_reducible refine WPEs.cons ?_ ?_); (case refine_2 => intros; rfl)) | ((with_reducible refine WPs.asg ?_ ?_ ?_); (case refine_2 => rfl); (case refine_3 => intros; rfl)) | ((with_reducible refine c_law_cell_at ‹_› ?_ ?_ ?_); (case refine_1 => rfl); (case refine_3 => intros; rfl)) | ((with_reducible refine' WPE.nm ?_ ?_ ?_ ?_); (case refine'_2 => rfl); (case refine'_4 => decide); (case refine'_5 => decide)) | fail)) | fail))
  refine s_cell_at hK (by decide) hl ?_
  (repeat' (first | ((fail_if_success (with_reducible show WPS _ _ _ _ _ _ _ _)); (first | (with_reducible refine WPE.cint ?_) | fail)) | fail))
  refine W2.modI (by decide) ?_
  have h4 := fmod_lt (a := cellV ns 1) (b := 4) (by decide)
  generalize (cellV ns 1).fmod 4 = i at h4
  obtain ⟨i, rfl⟩ : ∃ n : Nat, i = n := ⟨i.toNat, by with_reducible exact zG (by with_reducible assumption)⟩
  (repeat' (first | ((fail_if_success (with_reducible show WPS _ _ _ _ _ _ _ _)); (first | (with_reducible first | refine W2.addI ?_ | refine nxt_next ?_) | fail)) | fail))
  refine WPS.cons ?_
  (repeat' (first | ((fail_if_success (with_reducible show WPS _ _ _ _ _ _ _ _)); (first | (with_reducible first | refine WPE.cint ?_ | refine WPE.bin ?_ | refine WPEs.nil ?_ | refine WPs.ifs ?_) | ((with_reducible refine WPEs.cons ?_ ?_); (case refine_2 => intros; rfl)) | ((with_reducible refine WPB.cmp ?_ ?_); (case refine_2 => rfl)) | ((with_reducible refine c_law_cell_at ‹_› ?_ ?_ ?_); (case refine_1 => rfl); (case refine_3 => intros; rfl)) | ((with_reducible refine' WPE.nm ?_ ?_ ?_ ?_); (case refine'_2 => rfl); (case refine'_4 => decide); (case refine'_5 => decide)) | fail)) | fail))
  refine s_cell_at hK (by decide) hl ?_
  (repeat' (first | ((fail_if_success (with_reducible show WPS _ _ _ _ _ _ _ _)); (first | (with_reducible refine WPE.cint ?_) | fail)) | fail))
  refine W2.divI (by decide) (by decide) ?_
  (repeat' (first | ((fail_if_success (with_reducible show WPS _ _ _ _ _ _ _ _)); (first | (with_reducible refine WPE.cint ?_) | fail)) | fail))
  refine W2.modI (by decide) ?_
  (repeat' (first | ((fail_if_success (with_reducible show WPS _ _ _ _ _ _ _ _)); (first | (with_reducible first | refine WPE.cint ?_ | refine W2.eqI ?_ | refine ⟨_, rfl, ?_⟩) | fail)) | fail))
  refine cnd_cases (fun hb => ?_) (fun hb => ?_)
  · refine WPS.cons ?_
    (repeat' (first | (with_reducible refine WPS.nil ?_) | ((fail_if_success (with_reducible show WPS _ _ _ _ _ _ _ _)); (first | (with_reducible first | refine WPE.cint ?_ | refine nxt_next ?_) | ((with_reducible refine WPs.asg ?_ ?_ ?_); (case refine_2 => rfl); (case refine_3 => intros; rfl)) | fail)) | fail))
    refine WPS.cons ?_
    (repeat' (first | ((fail_if_success (with_reducible show WPS _ _ _ _ _ _ _ _)); (first | (with_reducible first | refine nxt_ret ?_ | refine WPs.ret ?_) | ((with_reducible refine' WPE.nm ?_ ?_ ?_ ?_); (case refine'_2 => rfl); (case refine'_4 => decide); (case refine'_5 => decide)) | fail)) | fail))
    exact h 12 (by decide) (by decide)
  · (repeat' (first | (with_reducible refine WPS.nil ?_) | ((fail_if_success (with_reducible show WPS _ _ _ _ _ _ _ _)); (first | (with_reducible refine nxt_next ?_) | fail)) | fail))
    refine WPS.cons ?_
    (repeat' (first | ((fail_if_success (with_reducible show WPS _ _ _ _ _ _ _ _)); (first | (with_reducible first | refine nxt_ret ?_ | refine WPs.ret ?_) | ((with_reducible refine' WPE.nm ?_ ?_ ?_ ?_); (case refine'_2 => rfl); (case refine'_4 => decide); (case refine'_5 => decide)) | fail)) | fail))
    rw [show (1 : Int) + (i : Int) = ((1 + i : Nat) : Int) by with_reducible exact zR]
    exact h (1 + i) (by lia) (by lia)
theorem s_ahead (hK : Kc c) (hq : c.q = true) {ns : List Int} {n : Nat} (hl : ns.length < 1000) (hn : n ≤ 12) (h : ∀ a (l : List Dd) st', Le st st' → get st a = none → get st' a = some (.list (l.map deedV)) → l.length ≤ 7 → (∀ dd ∈ l, deedOk dd) → Q (.ref a) st') : CF c (k + 2) A_law_ahead [.scr ns, .int n] ρ st Q X := by
  refine CallW.fn (k := k + 1) (Facts.fn_law_ahead hK) rfl ?_
  refine WPS.cons ?_
  (repeat' (first | ((fail_if_success (with_reducible show WPS _ _ _ _ _ _ _ _)); (first | (with_reducible first | refine WPE.cint ?_ | refine WPEs.nil ?_) | ((with_reducible refine WPEs.cons ?_ ?_); (case refine_2 => intros; rfl)) | ((with_reducible refine WPs.asg ?_ ?_ ?_); (case refine_2 => rfl); (case refine_3 => intros; rfl)) | ((with_reducible refine c_law_number ‹_› ?_ ?_ ?_); (case refine_1 => rfl); (case refine_3 => intros; rfl)) | ((with_reducible refine' WPE.nm ?_ ?_ ?_ ?_); (case refine'_2 => rfl); (case refine'_4 => decide); (case refine'_5 => decide)) | fail)) | fail))
  refine s_number hK (by decide) (by decide) hl ?_
  generalize numV ns 2 = num
  (repeat' (first | ((fail_if_success (with_reducible show WPS _ _ _ _ _ _ _ _)); (first | (with_reducible refine nxt_next ?_) | fail)) | fail))
  refine WPS.cons ?_
  (repeat' (first | ((fail_if_success (with_reducible show WPS _ _ _ _ _ _ _ _)); (first | (with_reducible first | refine WPE.cint ?_ | refine WPE.bin ?_ | refine WPAll.or ?_ | refine WPs.ifs ?_ | refine WPB.op ?_) | ((with_reducible refine WPB.cmp ?_ ?_); (case refine_2 => rfl)) | ((with_reducible refine' WPE.nm ?_ ?_ ?_ ?_); (case refine'_2 => rfl); (case refine'_4 => decide); (case refine'_5 => decide)) | fail)) | fail))
  refine W2.modI (by decide) ?_
  (repeat' (first | ((fail_if_success (with_reducible show WPS _ _ _ _ _ _ _ _)); (first | (with_reducible first | refine WPE.cint ?_ | refine W2.eqI ?_ | refine ⟨_, rfl, ?_⟩) | fail)) | fail))
  refine cnd_cases (fun hb => ?_) (fun hb => ?_)
  · refine WPS.cons ?_
    (repeat' (first | ((fail_if_success (with_reducible show WPS _ _ _ _ _ _ _ _)); (first | (with_reducible first | refine WPEs.nil ?_ | refine WPs.ret ?_) | ((with_reducible refine WPE.lst ?_ ?_); (case refine_2 => decide)) | fail)) | fail))
    intro a ha
    (repeat' (first | ((fail_if_success (with_reducible show WPS _ _ _ _ _ _ _ _)); (first | (with_reducible refine nxt_ret ?_) | fail)) | fail))
    exact h a [] _ (Le.alloc ha) ha get_head (by decide) (by intro dd hd; cases hd)
  (repeat' (first | ((fail_if_success (with_reducible show WPS _ _ _ _ _ _ _ _)); (first | (with_reducible first | refine WPE.cint ?_ | refine W2.ltI ?_ | refine WPAll.or ?_) | ((with_reducible refine WPB.cmp ?_ ?_); (case refine_2 => rfl)) | ((with_reducible refine' WPE.nm ?_ ?_ ?_ ?_); (case refine'_2 => rfl); (case refine'_4 => decide); (case refine'_5 => decide)) | (with_reducible refine ⟨_, rfl, ?_⟩) | fail)) | fail))
  refine cnd_cases (fun hb => ?_) (fun hb => ?_)
  · refine WPS.cons ?_
    (repeat' (first | ((fail_if_success (with_reducible show WPS _ _ _ _ _ _ _ _)); (first | (with_reducible first | refine WPEs.nil ?_ | refine WPs.ret ?_) | ((with_reducible refine WPE.lst ?_ ?_); (case refine_2 => decide)) | fail)) | fail))
    intro a ha
    (repeat' (first | ((fail_if_success (with_reducible show WPS _ _ _ _ _ _ _ _)); (first | (with_reducible refine nxt_ret ?_) | fail)) | fail))
    exact h a [] _ (Le.alloc ha) ha get_head (by decide) (by intro dd hd; cases hd)
  have h2 : 2 ≤ n := by have := of_decide_eq_false hb; lia
  (repeat' (first | (with_reducible refine WPS.nil ?_) | ((fail_if_success (with_reducible show WPS _ _ _ _ _ _ _ _)); (first | (with_reducible first | refine WPAll.orNil ?_ | refine nxt_next ?_ | refine cnd_f ?_) | fail)) | fail))
  refine WPS.cons ?_
  (repeat' (first | ((fail_if_success (with_reducible show WPS _ _ _ _ _ _ _ _)); (first | (with_reducible first | refine WPE.cint ?_ | refine WPE.bin ?_) | ((with_reducible refine WPs.asg ?_ ?_ ?_); (case refine_2 => rfl); (case refine_3 => intros; rfl)) | ((with_reducible refine' WPE.nm ?_ ?_ ?_ ?_); (case refine'_2 => rfl); (case refine'_4 => decide); (case refine'_5 => decide)) | fail)) | fail))
  refine W2.divI (by decide) (by decide) ?_
  (repeat' (first | ((fail_if_success (with_reducible show WPS _ _ _ _ _ _ _ _)); (first | (with_reducible first | refine WPE.cint ?_ | refine WPE.bin ?_ | refine W2.subI ?_) | ((with_reducible refine' WPE.nm ?_ ?_ ?_ ?_); (case refine'_2 => rfl); (case refine'_4 => decide); (case refine'_5 => decide)) | fail)) | fail))
  refine W2.modI (by lia) ?_
  have h3 := fmod_lt (a := num.fdiv 2) (b := (n : Int) - 1) (by lia)
  generalize (num.fdiv 2).fmod ((n : Int) - 1) = i at h3
  obtain ⟨i, rfl⟩ : ∃ n : Nat, i = n := ⟨i.toNat, by with_reducible exact zG (by with_reducible assumption)⟩
  (repeat' (first | ((fail_if_success (with_reducible show WPS _ _ _ _ _ _ _ _)); (first | (with_reducible first | refine W2.addI ?_ | refine nxt_next ?_) | fail)) | fail))
  rw [show (2 : Int) + (i : Int) = ((2 + i : Nat) : Int) by lia]
  skip
  refine WPS.cons ?_
  (repeat' (first | ((fail_if_success (with_reducible show WPS _ _ _ _ _ _ _ _)); (first | (with_reducible first | refine WPE.cint ?_ | refine WPE.bin ?_) | ((with_reducible refine WPs.asg ?_ ?_ ?_); (case refine_2 => rfl); (case refine_3 => intros; rfl)) | ((with_reducible refine' WPE.nm ?_ ?_ ?_ ?_); (case refine'_2 => rfl); (case refine'_4 => decide); (case refine'_5 => decide)) | fail)) | fail))
  refine W2.divI (by decide) (by decide) ?_
  (repeat' (first | ((fail_if_success (with_reducible show WPS _ _ _ _ _ _ _ _)); (first | (with_reducible first | refine WPE.cint ?_ | refine WPE.bin ?_ | refine W2.subI ?_) | ((with_reducible refine' WPE.nm ?_ ?_ ?_ ?_); (case refine'_2 => rfl); (case refine'_4 => decide); (case refine'_5 => decide)) | fail)) | fail))
  refine W2.modI (by lia) ?_
  have h4 := fmod_lt (a := num.fdiv 26) (b := ((2 + i : Nat) : Int) - 1) (by lia)
  generalize (num.fdiv 26).fmod (((2 + i : Nat) : Int) - 1) = j at h4
  obtain ⟨j, rfl⟩ : ∃ n : Nat, j = n := ⟨j.toNat, by with_reducible exact zG (by with_reducible assumption)⟩
  (repeat' (first | ((fail_if_success (with_reducible show WPS _ _ _ _ _ _ _ _)); (first | (with_reducible first | refine W2.addI ?_ | refine nxt_next ?_) | fail)) | fail))
  rw [show (1 : Int) + (j : Int) = ((1 + j : Nat) : Int) by with_reducible exact zR]
  skip
  refine WPS.cons ?_
  (repeat' (first | ((fail_if_success (with_reducible show WPS _ _ _ _ _ _ _ _)); (first | (with_reducible first | refine WPE.cint ?_ | refine WPE.cstr ?_ | refine WPEs.nil ?_) | ((with_reducible refine WPEs.cons ?_ ?_); (case refine_2 => intros; rfl)) | ((with_reducible refine WPs.asg ?_ ?_ ?_); (case refine_2 => rfl); (case refine_3 => intros; rfl)) | ((with_reducible refine WPE.tup ?_ ?_); (case refine_2 => decide)) | ((with_reducible refine WPE.lst ?_ ?_); (case refine_2 => decide)) | ((with_reducible refine' WPE.nm ?_ ?_ ?_ ?_); (case refine'_2 => rfl); (case refine'_4 => decide); (case refine'_5 => decide)) | fail)) | fail))
  intro a ha
  (repeat' (first | ((fail_if_success (with_reducible show WPS _ _ _ _ _ _ _ _)); (first | (with_reducible refine nxt_next ?_) | fail)) | fail))
  refine WPS.cons ?_
  (repeat' (first | ((fail_if_success (with_reducible show WPS _ _ _ _ _ _ _ _)); (first | (with_reducible first | refine WPE.cint ?_ | refine WPE.bin ?_ | refine WPO.no ?_ | refine WPO.so ?_ | refine WPs.ret ?_ | refine WPE.slice ?_) | ((with_reducible refine' WPE.nm ?_ ?_ ?_ ?_); (case refine'_2 => rfl); (case refine'_4 => decide); (case refine'_5 => decide)) | fail)) | fail))
  refine W2.divI (by decide) (by decide) ?_
  (repeat' (first | ((fail_if_success (with_reducible show WPS _ _ _ _ _ _ _ _)); (first | (with_reducible refine WPE.cint ?_) | fail)) | fail))
  refine W2.modI (by decide) ?_
  have h5 := fmod_lt (a := num.fdiv 500) (b := 4) (by decide)
  generalize (num.fdiv 500).fmod 4 = m at h5
  obtain ⟨m, rfl⟩ : ∃ n : Nat, m = n := ⟨m.toNat, by with_reducible exact zG (by with_reducible assumption)⟩
  (repeat' (first | ((fail_if_success (with_reducible show WPS _ _ _ _ _ _ _ _)); (first | (with_reducible first | refine W2.addI ?_ | refine ⟨_, rfl, ?_⟩) | fail)) | fail))
  rw [show (4 : Int) + (m : Int) = ((4 + m : Nat) : Int) by lia]
  have hok : ∀ dd ∈ ([.keep, .go (2 + i), .keep, .take 0, .go (1 + j), .keep, .take (2 + i)] : List Dd), deedOk dd := by
    intro dd hd
    simp at hd
    rcases hd with rfl | rfl | rfl | rfl | rfl | rfl | rfl <;> simp only [deedOk] <;> (first | ((with_reducible apply zB); exact rfl) | lia | fail)
  refine ⟨_, _, 0, 4 + m, rfl, get_head, by simp, sb_upto (by simp; lia), ?_⟩
  intro b hb
  (repeat' (first | ((fail_if_success (with_reducible show WPS _ _ _ _ _ _ _ _)); (first | (with_reducible refine nxt_ret ?_) | fail)) | fail))
  refine h b (([.keep, .go (2 + i), .keep, .take 0, .go (1 + j), .keep, .take (2 + i)] : List Dd).take (4 + m)) _ ((Le.alloc ha).cons hb) ((Le.alloc ha).none hb) ?_ (by simp; lia) fun dd hd => hok dd (List.mem_of_mem_take hd)
  rw [get_head, List.map_take]
  rfl
/-- a walker and its model -/
structure U where
  x : Addr
  d : Addr
  ru : Addr
  sh : Addr
  se : Addr
  ma : Addr
  sa : Addr
  fs : Int
  rs : List Ru
  room : Nat
  f0 : 0 ≤ fs
  f1 : fs ≤ 999982
  ok : ∀ r ∈ rs, r.Ok
  len : rs.length ≤ 12
  rm : room ≤ 12
noncomputable abbrev U.own (u : U) : List Addr := [u.d, u.sh, u.se, u.ma]
structure UOk (st : St) (u : U) (g : Sg) (mk mt : Addr) : Prop where
  W : Wk st u.x u.d u.ru u.sh u.se u.fs u.rs u.room g
  M : Mo st u.ma u.sa mk mt u.fs u.rs u.room g
  n1 : u.sa ≠ u.se
  n2 : mk ≠ u.se
  n3 : mt ≠ u.se
noncomputable abbrev U.all (u : U) (mk mt : Addr) : List Addr := [u.x, u.ru, u.sa, mk, mt, u.d, u.sh, u.se, u.ma]
theorem Wk.keep {st' : St} {as : List Addr} (W : Wk st x d ru sh se fs rs room g) (kb : KeepBut st st' as) (h1 : x ∉ as) (h2 : d ∉ as) (h3 : ru ∉ as) (h4 : sh ∉ as) (h5 : se ∉ as) : Wk st' x d ru sh se fs rs room g :=
  { W with i := kb _ _ h1 W.i, a := kb _ _ h2 W.a, r := kb _ _ h3 W.r, k := kb _ _ h4 W.k, s := kb _ _ h5 W.s }
theorem UOk.keep {st' : St} {u : U} {as : List Addr} (h : UOk st u g mk mt) (kb : KeepBut st st' as) (ha : ∀ a ∈ u.all mk mt, a ∉ as) : UOk st' u g mk mt :=
  ⟨h.W.keep kb (ha _ (by simp)) (ha _ (by simp)) (ha _ (by simp)) (ha _ (by simp)) (ha _ (by simp)), h.M.keep kb (ha _ (by simp)) (ha _ (by simp)) (ha _ (by simp)) (ha _ (by simp)), h.n1, h.n2, h.n3⟩
theorem UOk.live {u : U} (h : UOk st u g mk mt) : ∀ a ∈ u.all mk mt, get st a ≠ none := by
  obtain ⟨ms, q1, _, _⟩ := h.M.k
  intro a ha
  simp at ha
  rcases ha with rfl | rfl | rfl | rfl | rfl | rfl | rfl | rfl | rfl
  · rw [h.W.i]; simp
  · rw [h.W.r]; simp
  · rw [h.M.s]; simp
  · rw [q1]; simp
  · rw [h.M.t]; simp
  · rw [h.W.a]; simp
  · rw [h.W.k]; simp
  · rw [h.W.s]; simp
  · rw [h.M.m]; simp
noncomputable def foB : Option Stmt → List Stmt
  | some (.For _ _ b _ _) => b
  | _ => []
noncomputable abbrev turnB : List Stmt := foB B_law[10]?
noncomputable abbrev BL (ns : List Int) (wa mo hl ah : Addr) : Loc := [("_law_script", .scr ns), ("_law_walkers", .ref wa), ("_law_models", .ref mo), ("_law_held", .ref hl), ("_law_ahead_here", .ref ah)]
noncomputable abbrev ODD : List V := [.tup [.str "go", .int 0], .tup [.str "go", .int 101], .tup [.str "take", .int (-1)], .tup [.str "keep", .int 1], .tup [.str "go", .str "1"]]
noncomputable abbrev ODDd : List PyData := [.tuple [.str "go", .int 0], .tuple [.str "go", .int 101], .tuple [.str "take", .int (-1)], .tuple [.str "keep", .int 1], .tuple [.str "go", .str "1"]]
theorem odd_dats : Dats st ODD ODDd := .cons (.tup (.cons (.str _) (.cons (.int _) .nil))) (.cons (.tup (.cons (.str _) (.cons (.int _) .nil))) (.cons (.tup (.cons (.str _) (.cons (.int _) .nil))) (.cons (.tup (.cons (.str _) (.cons (.int _) .nil))) (.cons (.tup (.cons (.str _) (.cons (.str _) .nil))) .nil))))
noncomputable def datD : Dd → PyData
  | .keep => .tuple [.str "keep"]
  | .meet => .tuple [.str "meet"]
  | .take n => .tuple [.str "take", .int n]
  | .drop n => .tuple [.str "drop", .int n]
  | .go n => .tuple [.str "go", .int n]
theorem dat_deed {dd : Dd} : Dat st (deedV dd) (datD dd) := by
  cases dd with
  | keep => exact .tup (.cons (.str _) .nil)
  | meet => exact .tup (.cons (.str _) .nil)
  | take n => exact .tup (.cons (.str _) (.cons (.int _) .nil))
  | drop n => exact .tup (.cons (.str _) (.cons (.int _) .nil))
  | go n => exact .tup (.cons (.str _) (.cons (.int _) .nil))
theorem not_odd {dd : Dd} {od : Addr} (hd : deedOk dd) (hg : get st od = some (.list ODD)) (h : Q (.bool true) st) : W2 c k (compareOp .NotIn) (deedV dd) (.ref od) ρ st Q X := by
  refine W2.notInList hg dat_deed odd_dats (by cases dd <;> simp [datD, PyData.canLay0, PyData.canLayAll0] <;> decide +kernel) (by decide +kernel) (by cases dd <;> simp [datD, PyData.depth, PyData.depthAll]) ?_
  have e1 : ((Str.ofString "go" == Str.ofString "take") = false ∧ (Str.ofString "go" == Str.ofString "drop") = false ∧ (Str.ofString "take" == Str.ofString "drop") = false ∧ (Str.ofString "keep" == Str.ofString "drop") = false) ∧ (Str.ofString "keep" == Str.ofString "take") = false ∧ (Str.ofString "take" == Str.ofString "go") = false ∧ (Str.ofString "keep" == Str.ofString "go") = false := by decide +kernel
  obtain ⟨⟨q1, q2, q3, q4⟩, q5, q6, q7⟩ := e1
  rw [show (ODDd.any fun y => PyData.eqv y (datD dd)) = false by
    cases dd with
    | keep => decide +kernel
    | meet => decide +kernel
    | take n =>
      have : ((-1 : Int) == (n : Int)) = false := by first | (simp; done) | (simp; omega)
      simp only [ODDd, datD, List.any_cons, List.any_nil, PyData.eqv, PyData.eqvAll, q1, q5, this]; rfl
    | drop n =>
      simp only [ODDd, datD, List.any_cons, List.any_nil, PyData.eqv, PyData.eqvAll, q2, q3, q4]; rfl
    | go n =>
      obtain ⟨h1, h2⟩ := hd
      have t1 : ((0 : Int) == (n : Int)) = false := by first | (simp; done) | (simp; lia)
      have t2 : ((101 : Int) == (n : Int)) = false := by first | (simp; done) | (simp; lia)
      simp only [ODDd, datD, List.any_cons, List.any_nil, PyData.eqv, PyData.eqvAll, q6, q7, t1, t2]; rfl]
  exact h
theorem is_odd {v : V} {od : Addr} (hv : v ∈ ODD) (hg : get st od = some (.list ODD)) (h : Q (.bool false) st) : W2 c k (compareOp .NotIn) v (.ref od) ρ st Q X := by
  have key : ∀ {dv : PyData}, Dat st v dv → dv.canLay0 = true → dv.depth ≤ 100 → (ODDd.any fun y => PyData.eqv y dv) = true → W2 c k (compareOp .NotIn) v (.ref od) ρ st Q X := fun q1 q2 q3 q4 => W2.notInList hg q1 odd_dats q2 (by decide +kernel) q3 (by rw [q4]; exact h)
  simp at hv
  rcases hv with rfl | rfl | rfl | rfl | rfl
  · exact key (.tup (.cons (.str _) (.cons (.int _) .nil))) (by decide +kernel) (by decide +kernel) (by decide +kernel)
  · exact key (.tup (.cons (.str _) (.cons (.int _) .nil))) (by decide +kernel) (by decide +kernel) (by decide +kernel)
  · exact key (.tup (.cons (.str _) (.cons (.int _) .nil))) (by decide +kernel) (by decide +kernel) (by decide +kernel)
  · exact key (.tup (.cons (.str _) (.cons (.int _) .nil))) (by decide +kernel) (by decide +kernel) (by decide +kernel)
  · exact key (.tup (.cons (.str _) (.cons (.str _) .nil))) (by decide +kernel) (by decide +kernel) (by decide +kernel)
theorem dropT_odd {od : Addr} (hg : get st od = some (.list ODD)) (h : Q (.bool true) st) : W2 c k (compareOp .NotIn) (.tup [.str "drop", .bool true]) (.ref od) ρ st Q X :=
  W2.notInList (da := .tuple [.str "drop", .bool true]) hg (.tup (.cons (.str _) (.cons (.bool _) .nil))) odd_dats (by decide +kernel) (by decide +kernel) (by decide +kernel) (by rw [show (ODDd.any fun y => PyData.eqv y (.tuple [.str "drop", .bool true])) = false by decide +kernel]; exact h)
theorem deed_form (dd : Dd) : ∃ wd r, deedV dd = .tup (.str wd :: r) ∧ (r = [] ∨ ∃ n : Nat, r = [.int n]) := by
  cases dd with
  | keep => exact ⟨_, _, rfl, .inl rfl⟩
  | meet => exact ⟨_, _, rfl, .inl rfl⟩
  | take n => exact ⟨_, _, rfl, .inr ⟨n, rfl⟩⟩
  | drop n => exact ⟨_, _, rfl, .inr ⟨n, rfl⟩⟩
  | go n => exact ⟨_, _, rfl, .inr ⟨n, rfl⟩⟩
theorem ne_ref {C : Addr} {x : Str} (hk : Kd C x) (h : Q (.bool false) st) : W2 c k (compareOp .NotEq) (RF x) (RF x) ρ st Q X := by
  have hl : (PyData.tuple [.str "refused", .str x]).canLay0 = true := by cases hk <;> decide +kernel
  have hs : SeqAt.shaped (.tuple [.str "refused", .str x]) = true := by cases hk <;> decide +kernel
  refine W2.ne (da := .tuple [.str "refused", .str x]) (db := .tuple [.str "refused", .str x]) (.tup (.cons (.str _) (.cons (.str _) .nil))) (.tup (.cons (.str _) (.cons (.str _) .nil))) hs hs ?_
  rw [SeqAt.eqv_refl _ hl]
  exact h
theorem ne_fo {dd : Dd} (hd : deedOk dd) (hrl : g.marks.length ≤ room) (h : Q (.bool false) st) : W2 c k (compareOp .NotEq) (fo room rs.length g dd).1 (fo room rs.length g dd).1 ρ st Q X := by
  cases e : stp room rs.length g dd with
  | some g' => rw [fo_ok e]; exact W2.neNone h
  | none =>
    rw [fo_no e]
    obtain ⟨C, hk, _⟩ := no_of hd hrl e
    exact ne_ref hk h
theorem OddV.up {v : V} {st' : St} (h : OddV st v) (hle : Le st st') : OddV st' v := by
  cases h with
  | five h => exact .five h
  | dropT => exact .dropT
  | noT h1 h2 => exact .noT (typ_mono hle h1) h2
  | tupN h1 h2 h3 h4 =>
    refine .tupN (typ_mono hle h1) h2 h3 (fun w hw => ?_)
    obtain ⟨T, hT⟩ := Option.isSome_iff_exists.mp (h4 w hw)
    rw [typ_mono hle hT]; rfl
theorem UOk.apart {u : U} (h : UOk st u g mk mt) : u.ma ∉ [u.d, u.sh, u.se] ∧ u.sa ∉ [u.d, u.sh, u.se] ∧ mk ∉ [u.d, u.sh, u.se] ∧ mt ∉ [u.d, u.sh, u.se] ∧ u.x ∉ [u.ma] ∧ u.d ∉ [u.ma] ∧ u.ru ∉ [u.ma] ∧ u.sh ∉ [u.ma] ∧ u.se ∉ [u.ma] := by
  obtain ⟨ms, gk, _, _⟩ := h.M.k
  have i := h.W.i; have a := h.W.a; have r := h.W.r; have k := h.W.k; have s := h.W.s
  have m := h.M.m; have s' := h.M.s; have t := h.M.t
  have li : ∀ {b : Addr} {vs : List V}, get st b = some (.list vs) → b ≠ u.se → b ∉ [u.d, u.sh, u.se] := by
    intro b vs hb hn q
    simp at q
    rcases q with q | q | q
    · rw [q, a] at hb; cases hb
    · rw [q, k] at hb; cases hb
    · exact hn q
  have on : ∀ {b : Addr} {o : O}, get st b = some o → (∀ l, o ≠ .dictS l) → b ∉ [u.ma] := by
    intro b o hb ho q
    rw [List.mem_singleton.mp q, m] at hb
    exact ho _ (Option.some.inj hb).symm
  refine ⟨?_, li s' h.n1, li gk h.n2, li t h.n3, on i (by simp), on a (by simp), on r (by simp), on k (by simp), on s (by simp)⟩
  intro q
  simp at q
  rcases q with q | q | q
  · rw [q, a] at m; cases m
  · rw [q, k] at m; cases m
  · rw [q, s] at m; cases m
theorem s_turn (hK : Kc c) (hq : c.q = true) {u : U} {w : Nat} {ws mos : List V} {v : V} {ns : List Int} {wa mo hl ah : Addr} {ρ₁ : Loc} {P : Fl → Loc → St → Prop} (hv : Th st v) (hu : UOk st u g mk mt) (hwa : get st wa = some (.list ws)) (hw : ws[w]? = some (.ref u.x)) (hwl : ws.length = 2) (hmo : get st mo = some (.list mos)) (hm : mos[w]? = some (.ref u.ma)) (hml : mos.length = 2) (hw2 : w < 2) (hwo : wa ∉ u.own)
    (hs : Sub (("_law_which", .int (w : Int)) :: ("_law_deed_here", v) :: BL ns wa mo hl ah) ρ₁)
    (next : ∀ g' mk' mt' st' ρ', KeepBut st st' u.own → (mk' = mk ∨ get st mk' = none) → (mt' = mt ∨ get st mt' = none) → UOk st' u g' mk' mt' → Sub (BL ns wa mo hl ah) ρ' → WPS c 20 S_law ρ' st' (turnB.drop 6) P X) : WPS c 20 S_law ρ₁ st (turnB.drop 2) P X := by
  refine WPS.locs ?_ hs
  refine WPS.cons ?_
  (repeat' (first | ((fail_if_success (with_reducible show WPS _ _ _ _ _ _ _ _)); (first | (with_reducible first | refine WPE.cstr ?_ | refine nxt_next ?_ | refine WPEs.nil ?_) | ((with_reducible refine WPEs.cons ?_ ?_); (case refine_2 => intros; rfl)) | ((with_reducible refine WPs.asg ?_ ?_ ?_); (case refine_2 => rfl); (case refine_3 => intros; rfl)) | ((with_reducible refine WPE.tup ?_ ?_); (case refine_2 => decide)) | fail)) | fail))
  refine WPS.cons ?_
  (repeat' (first | ((fail_if_success (with_reducible show WPS _ _ _ _ _ _ _ _)); (first | (with_reducible first | refine WPE.cint ?_ | refine WPE.cstr ?_ | refine WPE.un ?_ | refine W1.negI ?_ | refine WPEs.nil ?_) | ((with_reducible refine WPEs.cons ?_ ?_); (case refine_2 => intros; rfl)) | ((with_reducible refine WPs.asg ?_ ?_ ?_); (case refine_2 => rfl); (case refine_3 => intros; rfl)) | ((with_reducible refine WPE.tup ?_ ?_); (case refine_2 => decide)) | ((with_reducible refine WPE.lst ?_ ?_); (case refine_2 => decide)) | fail)) | fail))
  intro od hod
  have L1 := Le.alloc (o := .list ODD) hod
  have god : get ((od, O.list ODD) :: st) od = some (.list ODD) := get_head
  generalize (od, O.list ODD) :: st = S1 at L1 god ⊢
  have hu1 := hu.keep (KeepBut.of (as := []) L1) (by simp)
  have hwa1 := L1 _ _ hwa
  have hmo1 := L1 _ _ hmo
  have subw : ∀ {S : St} {e ie : Expr} {k : Nat} {ρ : Loc} {Q : V → St → Prop} {X : Xp}, isSl ie = false → get S wa = some (.list ws) → Q (.ref u.x) S → W2 c k (subscriptTail e ie) (.ref wa) (.int (w : Int)) ρ S Q X := fun h1 h2 h3 => W2.subList h2 h1 (by rw [hwl]; decide) (seqIndex_pos (by with_reducible exact zC) (by rw [hwl]; lia)) hw h3
  have subm : ∀ {S : St} {e ie : Expr} {k : Nat} {ρ : Loc} {Q : V → St → Prop} {X : Xp}, isSl ie = false → get S mo = some (.list mos) → Q (.ref u.ma) S → W2 c k (subscriptTail e ie) (.ref mo) (.int (w : Int)) ρ S Q X := fun h1 h2 h3 => W2.subList h2 h1 (by rw [hml]; decide) (seqIndex_pos (by with_reducible exact zC) (by rw [hml]; lia)) hm h3
  (repeat' (first | ((fail_if_success (with_reducible show WPS _ _ _ _ _ _ _ _)); (first | (with_reducible refine nxt_next ?_) | fail)) | fail))
  rcases hv with ⟨dd, hd, rfl⟩ | hv
  · -- a deed
    have fin : ∀ {mk' mt' : Addr} {S2 : St} {ρ₂ : Loc}, KeepBut S1 S2 [u.ma] → (mk' = mk ∨ get S1 mk' = none) → (mt' = mt ∨ get S1 mt' = none) → Mo S2 u.ma u.sa mk' mt' u.fs u.rs u.room (fo u.room u.rs.length g dd).2 → Sub (("_law_which", .int (w : Int)) :: ("_law_deed_here", deedV dd) :: ("_law_due", (fo u.room u.rs.length g dd).1) :: BL ns wa mo hl ah) ρ₂ → WPS c 20 S_law ρ₂ S2 (turnB.drop 5) P X := by
      intro mk' mt' S2 ρ₂ kb hk1 hk2 M2 hs2
      obtain ⟨a1, a2, a3, a4, a5, a6, a7, a8, a9⟩ := hu1.apart
      have W2 := hu1.W.keep kb a5 a6 a7 a8 a9
      refine WPS.locs ?_ hs2
      refine WPS.cons ?_
      (repeat' (first | ((fail_if_success (with_reducible show WPS _ _ _ _ _ _ _ _)); (first | (with_reducible refine WPs.ifs ?_) | ((with_reducible refine WPEs.cons ?_ ?_); (case refine_2 => intros; rfl)) | ((with_reducible refine WPB.cmp ?_ ?_); (case refine_2 => rfl)) | ((with_reducible refine c_law_told ‹_› ?_ ?_ ?_); (case refine_1 => rfl); (case refine_3 => intros; rfl)) | (with_reducible refine WPE.sub ?_) | ((with_reducible refine' WPE.nm ?_ ?_ ?_ ?_); (case refine'_2 => rfl); (case refine'_4 => decide); (case refine'_5 => decide)) | fail)) | fail))
      refine subw rfl (kb _ _ (fun q => hwo (by simp at q; simp [q])) hwa1) ?_
      (repeat' (first | ((fail_if_success (with_reducible show WPS _ _ _ _ _ _ _ _)); (first | (with_reducible refine WPEs.nil ?_) | ((with_reducible refine WPEs.cons ?_ ?_); (case refine_2 => intros; rfl)) | ((with_reducible refine' WPE.nm ?_ ?_ ?_ ?_); (case refine'_2 => rfl); (case refine'_4 => decide); (case refine'_5 => decide)) | fail)) | fail))
      refine WL.le (s_wtold (k := 4) hK hq hd W2 ⟨u.f0, u.f1⟩ u.ok (by have := u.len; ((with_reducible apply zD); (with_reducible assumption); exact rfl)) u.rm fun st' kb' W3 => ?_) (by ((with_reducible apply zB); exact rfl))
      (repeat' (first | ((fail_if_success (with_reducible show WPS _ _ _ _ _ _ _ _)); (first | ((with_reducible refine' WPE.nm ?_ ?_ ?_ ?_); (case refine'_2 => rfl); (case refine'_4 => decide); (case refine'_5 => decide)) | fail)) | fail))
      refine ne_fo hd hu1.W.rl ?_
      (repeat' (first | (with_reducible refine WPS.nil ?_) | ((fail_if_success (with_reducible show WPS _ _ _ _ _ _ _ _)); (first | (with_reducible first | refine nxt_next ?_ | refine cnd_f ?_ | refine ⟨_, rfl, ?_⟩) | fail)) | fail))
      have fr : ∀ {a : Addr}, get S1 a = none → a ∉ [u.d, u.sh, u.se] := by
        intro a ha q
        simp at q
        rcases q with rfl | rfl | rfl
        · rw [hu1.W.a] at ha; cases ha
        · rw [hu1.W.k] at ha; cases ha
        · rw [hu1.W.s] at ha; cases ha
      have fr' : ∀ {a b : Addr}, a = b ∨ get S1 a = none → b ∉ [u.d, u.sh, u.se] → a ∉ [u.d, u.sh, u.se] := fun h1 h2 => h1.elim (fun q => q ▸ h2) fr
      have b3 := fr' hk1 a3
      have b4 := fr' hk2 a4
      refine next _ mk' mt' st' _ ?_ (hk1.imp id L1.none) (hk2.imp id L1.none) ⟨W3, M2.keep kb' a1 a2 b3 b4, hu.n1, fun q => b3 (by simp [q]), fun q => b4 (by simp [q])⟩ (.cons rfl (.cons rfl (.cons rfl (.cons rfl (.cons rfl .nil)))))
      intro a o ha hg
      exact kb' a o (fun q => ha (by simp at q ⊢; rcases q with q | q | q <;> simp [q])) (kb a o (fun q => ha (by simp at q; simp [q])) (L1 _ _ hg))
    obtain ⟨wd, r, e, hr⟩ := deed_form dd
    refine WPS.cons ?_
    rcases hr with rfl | ⟨n, rfl⟩
    all_goals
      rw [e]
      (repeat' (first | ((fail_if_success (with_reducible show WPS _ _ _ _ _ _ _ _)); (first | (with_reducible first | refine WPE.cint ?_ | refine WPAll.and ?_ | refine cnd_t ?_ | refine WPEs.nil ?_ | refine WPs.ifs ?_ | refine WPB.op ?_) | ((with_reducible refine WPEs.cons ?_ ?_); (case refine_2 => intros; rfl)) | ((with_reducible refine WPB.cmp ?_ ?_); (case refine_2 => rfl)) | ((with_reducible refine n_str ‹_› ?_ ?_); (case refine_1 => rfl)) | ((with_reducible refine n_tuple ‹_› ?_ ?_); (case refine_1 => rfl)) | ((with_reducible refine c_isinstance ‹_› ?_ ?_ ?_); (case refine_1 => rfl); (case refine_3 => intros; rfl)) | (with_reducible refine WPE.sub ?_) | ((with_reducible refine' WPE.nm ?_ ?_ ?_ ?_); (case refine'_2 => rfl); (case refine'_4 => decide); (case refine'_5 => decide)) | ((with_reducible refine WPB.val ?_ ?_); (case refine_2 => intros; rfl)) | ((with_reducible refine cnd_is true ?_ ?_); (case refine_1 => rfl)) | ((with_reducible refine' W2.tupAt ?_ ?_ ?_ ?_); (case refine'_2 => rfl); (case refine'_3 => rfl); (case refine'_4 => rfl)) | (with_reducible refine ⟨_, rfl, ?_⟩) | ((with_reducible refine' WL.isinstance ?_ ?_ ?_); (case refine'_2 => rfl); (case refine'_3 => rfl)) | fail)) | fail))
      rw [← e]
      refine not_odd hd god ?_
      rw [e]
      (repeat' (first | ((fail_if_success (with_reducible show WPS _ _ _ _ _ _ _ _)); (first | (with_reducible first | refine WPAll.andNil ?_ | refine cnd_t ?_ | refine ⟨_, rfl, ?_⟩) | fail)) | fail))
      refine WPS.cons ?_
      (repeat' (first | ((fail_if_success (with_reducible show WPS _ _ _ _ _ _ _ _)); (first | (with_reducible first | refine WPAll.or ?_ | refine WPEs.nil ?_ | refine WPs.ifs ?_ | refine WPB.op ?_) | ((with_reducible refine WPEs.cons ?_ ?_); (case refine_2 => intros; rfl)) | ((with_reducible refine WPB.cmp ?_ ?_); (case refine_2 => rfl)) | ((with_reducible refine c_len ‹_› ?_ ?_ ?_); (case refine_1 => rfl); (case refine_3 => intros; rfl)) | ((with_reducible refine' WPE.nm ?_ ?_ ?_ ?_); (case refine'_2 => rfl); (case refine'_4 => decide); (case refine'_5 => decide)) | fail)) | fail))
      refine WL.lenTup (by simp) ?_
      (repeat' (first | ((fail_if_success (with_reducible show WPS _ _ _ _ _ _ _ _)); (first | (with_reducible first | refine WPE.cint ?_ | refine WPE.cbool ?_ | refine W2.eqI ?_ | refine WPAll.or ?_ | refine cnd_t ?_ | refine cnd_f ?_) | ((with_reducible refine WPB.cmp ?_ ?_); (case refine_2 => rfl)) | ((with_reducible refine W2.isNot ?_ ?_); (case refine_1 => rfl)) | (with_reducible refine WPE.sub ?_) | ((with_reducible refine' WPE.nm ?_ ?_ ?_ ?_); (case refine'_2 => rfl); (case refine'_4 => decide); (case refine'_5 => decide)) | ((with_reducible refine cnd_is true ?_ ?_); (case refine_1 => rfl)) | ((with_reducible refine cnd_is false ?_ ?_); (case refine_1 => rfl)) | ((with_reducible refine' W2.tupAt ?_ ?_ ?_ ?_); (case refine'_2 => rfl); (case refine'_3 => rfl); (case refine'_4 => rfl)) | (with_reducible refine ⟨_, rfl, ?_⟩) | fail)) | fail))
      refine WPS.cons ?_
      (repeat' (first | ((fail_if_success (with_reducible show WPS _ _ _ _ _ _ _ _)); (first | ((with_reducible refine WPEs.cons ?_ ?_); (case refine_2 => intros; rfl)) | ((with_reducible refine WPs.asg ?_ ?_ ?_); (case refine_2 => rfl); (case refine_3 => intros; rfl)) | ((with_reducible refine c_law_do ‹_› ?_ ?_ ?_); (case refine_1 => rfl); (case refine_3 => intros; rfl)) | (with_reducible refine WPE.sub ?_) | ((with_reducible refine' WPE.nm ?_ ?_ ?_ ?_); (case refine'_2 => rfl); (case refine'_4 => decide); (case refine'_5 => decide)) | fail)) | fail))
      refine subm rfl hmo1 ?_
      (repeat' (first | ((fail_if_success (with_reducible show WPS _ _ _ _ _ _ _ _)); (first | (with_reducible refine WPEs.nil ?_) | ((with_reducible refine WPEs.cons ?_ ?_); (case refine_2 => intros; rfl)) | ((with_reducible refine' WPE.nm ?_ ?_ ?_ ?_); (case refine'_2 => rfl); (case refine'_4 => decide); (case refine'_5 => decide)) | fail)) | fail))
      rw [← e]
      refine WL.le (s_mdo (k := 4) hK hq hd hu1.M u.rm u.len hu1.W.pl hu1.W.rl hu1.W.wl ?_) (by ((with_reducible apply zB); exact rfl))
      intro mk' mt' S2 kb hk1 hk2 M2
      (repeat' (first | (with_reducible refine WPS.nil ?_) | ((fail_if_success (with_reducible show WPS _ _ _ _ _ _ _ _)); (first | (with_reducible refine nxt_next ?_) | fail)) | fail))
      exact fin kb hk1 hk2 M2 (.cons rfl (.cons rfl (.cons rfl (.cons rfl (.cons rfl (.cons rfl (.cons rfl (.cons rfl .nil))))))))
  · -- none
    have odd : ∀ {ρ₂ : Loc}, Sub (("_law_which", .int (w : Int)) :: ("_law_deed_here", v) :: ("_law_due", RF "deed") :: BL ns wa mo hl ah) ρ₂ → WPS c 20 S_law ρ₂ S1 (turnB.drop 5) P X := by
      intro ρ₂ hs2
      refine WPS.locs ?_ hs2
      refine WPS.cons ?_
      (repeat' (first | ((fail_if_success (with_reducible show WPS _ _ _ _ _ _ _ _)); (first | (with_reducible refine WPs.ifs ?_) | ((with_reducible refine WPEs.cons ?_ ?_); (case refine_2 => intros; rfl)) | ((with_reducible refine WPB.cmp ?_ ?_); (case refine_2 => rfl)) | ((with_reducible refine c_law_told ‹_› ?_ ?_ ?_); (case refine_1 => rfl); (case refine_3 => intros; rfl)) | (with_reducible refine WPE.sub ?_) | ((with_reducible refine' WPE.nm ?_ ?_ ?_ ?_); (case refine'_2 => rfl); (case refine'_4 => decide); (case refine'_5 => decide)) | fail)) | fail))
      refine subw rfl hwa1 ?_
      (repeat' (first | ((fail_if_success (with_reducible show WPS _ _ _ _ _ _ _ _)); (first | (with_reducible refine WPEs.nil ?_) | ((with_reducible refine WPEs.cons ?_ ?_); (case refine_2 => intros; rfl)) | ((with_reducible refine' WPE.nm ?_ ?_ ?_ ?_); (case refine'_2 => rfl); (case refine'_4 => decide); (case refine'_5 => decide)) | fail)) | fail))
      refine WL.le (s_wtold_odd (k := 4) hK hq (hv.up L1) hu1.W fun st' hle => ?_) (by ((with_reducible apply zB); exact rfl))
      (repeat' (first | ((fail_if_success (with_reducible show WPS _ _ _ _ _ _ _ _)); (first | ((with_reducible refine' WPE.nm ?_ ?_ ?_ ?_); (case refine'_2 => rfl); (case refine'_4 => decide); (case refine'_5 => decide)) | fail)) | fail))
      refine ne_ref .deed ?_
      (repeat' (first | (with_reducible refine WPS.nil ?_) | ((fail_if_success (with_reducible show WPS _ _ _ _ _ _ _ _)); (first | (with_reducible first | refine nxt_next ?_ | refine cnd_f ?_ | refine ⟨_, rfl, ?_⟩) | fail)) | fail))
      exact next g mk mt st' _ (KeepBut.of (L1.trans hle)) (.inl rfl) (.inl rfl) (hu1.keep (KeepBut.of (as := []) hle) (by simp)) (.cons rfl (.cons rfl (.cons rfl (.cons rfl (.cons rfl .nil)))))
    refine WPS.cons ?_
    cases hv with
    | five h5 =>
      have h5' := h5
      simp at h5
      rcases h5 with rfl | rfl | rfl | rfl | rfl
      all_goals
        (repeat' (first | ((fail_if_success (with_reducible show WPS _ _ _ _ _ _ _ _)); (first | (with_reducible first | refine WPE.cint ?_ | refine WPAll.and ?_ | refine cnd_t ?_ | refine WPEs.nil ?_ | refine WPs.ifs ?_ | refine WPB.op ?_) | ((with_reducible refine WPEs.cons ?_ ?_); (case refine_2 => intros; rfl)) | ((with_reducible refine WPB.cmp ?_ ?_); (case refine_2 => rfl)) | ((with_reducible refine n_str ‹_› ?_ ?_); (case refine_1 => rfl)) | ((with_reducible refine n_tuple ‹_› ?_ ?_); (case refine_1 => rfl)) | ((with_reducible refine c_isinstance ‹_› ?_ ?_ ?_); (case refine_1 => rfl); (case refine_3 => intros; rfl)) | (with_reducible refine WPE.sub ?_) | ((with_reducible refine' WPE.nm ?_ ?_ ?_ ?_); (case refine'_2 => rfl); (case refine'_4 => decide); (case refine'_5 => decide)) | ((with_reducible refine WPB.val ?_ ?_); (case refine_2 => intros; rfl)) | ((with_reducible refine cnd_is true ?_ ?_); (case refine_1 => rfl)) | ((with_reducible refine' W2.tupAt ?_ ?_ ?_ ?_); (case refine'_2 => rfl); (case refine'_3 => rfl); (case refine'_4 => rfl)) | (with_reducible refine ⟨_, rfl, ?_⟩) | ((with_reducible refine' WL.isinstance ?_ ?_ ?_); (case refine'_2 => rfl); (case refine'_3 => rfl)) | fail)) | fail))
        refine is_odd h5' god ?_
        (repeat' (first | (with_reducible refine WPS.nil ?_) | ((fail_if_success (with_reducible show WPS _ _ _ _ _ _ _ _)); (first | (with_reducible first | refine nxt_next ?_ | refine cnd_f ?_ | refine ⟨_, rfl, ?_⟩) | fail)) | fail))
        exact odd (.cons rfl (.cons rfl (.cons rfl (.cons rfl (.cons rfl (.cons rfl (.cons rfl (.cons rfl .nil))))))))
    | dropT =>
      (repeat' (first | ((fail_if_success (with_reducible show WPS _ _ _ _ _ _ _ _)); (first | (with_reducible first | refine WPE.cint ?_ | refine WPAll.and ?_ | refine cnd_t ?_ | refine WPEs.nil ?_ | refine WPs.ifs ?_ | refine WPB.op ?_) | ((with_reducible refine WPEs.cons ?_ ?_); (case refine_2 => intros; rfl)) | ((with_reducible refine WPB.cmp ?_ ?_); (case refine_2 => rfl)) | ((with_reducible refine n_str ‹_› ?_ ?_); (case refine_1 => rfl)) | ((with_reducible refine n_tuple ‹_› ?_ ?_); (case refine_1 => rfl)) | ((with_reducible refine c_isinstance ‹_› ?_ ?_ ?_); (case refine_1 => rfl); (case refine_3 => intros; rfl)) | (with_reducible refine WPE.sub ?_) | ((with_reducible refine' WPE.nm ?_ ?_ ?_ ?_); (case refine'_2 => rfl); (case refine'_4 => decide); (case refine'_5 => decide)) | ((with_reducible refine WPB.val ?_ ?_); (case refine_2 => intros; rfl)) | ((with_reducible refine cnd_is true ?_ ?_); (case refine_1 => rfl)) | ((with_reducible refine' W2.tupAt ?_ ?_ ?_ ?_); (case refine'_2 => rfl); (case refine'_3 => rfl); (case refine'_4 => rfl)) | (with_reducible refine ⟨_, rfl, ?_⟩) | ((with_reducible refine' WL.isinstance ?_ ?_ ?_); (case refine'_2 => rfl); (case refine'_3 => rfl)) | fail)) | fail))
      refine dropT_odd god ?_
      (repeat' (first | ((fail_if_success (with_reducible show WPS _ _ _ _ _ _ _ _)); (first | (with_reducible first | refine WPAll.andNil ?_ | refine cnd_t ?_ | refine ⟨_, rfl, ?_⟩) | fail)) | fail))
      refine WPS.cons ?_
      (repeat' (first | ((fail_if_success (with_reducible show WPS _ _ _ _ _ _ _ _)); (first | (with_reducible first | refine WPAll.or ?_ | refine WPEs.nil ?_ | refine WPs.ifs ?_ | refine WPB.op ?_) | ((with_reducible refine WPEs.cons ?_ ?_); (case refine_2 => intros; rfl)) | ((with_reducible refine WPB.cmp ?_ ?_); (case refine_2 => rfl)) | ((with_reducible refine c_len ‹_› ?_ ?_ ?_); (case refine_1 => rfl); (case refine_3 => intros; rfl)) | ((with_reducible refine' WPE.nm ?_ ?_ ?_ ?_); (case refine'_2 => rfl); (case refine'_4 => decide); (case refine'_5 => decide)) | fail)) | fail))
      refine WL.lenTup (by simp) ?_
      (repeat' (first | (with_reducible refine WPS.nil ?_) | ((fail_if_success (with_reducible show WPS _ _ _ _ _ _ _ _)); (first | (with_reducible first | refine WPE.cint ?_ | refine WPE.cbool ?_ | refine W2.eqI ?_ | refine WPAll.or ?_ | refine WPAll.orNil ?_ | refine nxt_next ?_ | refine cnd_f ?_) | ((with_reducible refine WPB.cmp ?_ ?_); (case refine_2 => rfl)) | ((with_reducible refine W2.isNot ?_ ?_); (case refine_1 => rfl)) | (with_reducible refine WPE.sub ?_) | ((with_reducible refine' WPE.nm ?_ ?_ ?_ ?_); (case refine'_2 => rfl); (case refine'_4 => decide); (case refine'_5 => decide)) | ((with_reducible refine cnd_is false ?_ ?_); (case refine_1 => rfl)) | ((with_reducible refine' W2.tupAt ?_ ?_ ?_ ?_); (case refine'_2 => rfl); (case refine'_3 => rfl); (case refine'_4 => rfl)) | (with_reducible refine ⟨_, rfl, ?_⟩) | fail)) | fail))
      exact odd (.cons rfl (.cons rfl (.cons rfl (.cons rfl (.cons rfl (.cons rfl (.cons rfl (.cons rfl .nil))))))))
    | @noT v T h1 h2 =>
      (repeat' (first | ((fail_if_success (with_reducible show WPS _ _ _ _ _ _ _ _)); (first | (with_reducible first | refine WPAll.and ?_ | refine WPEs.nil ?_ | refine WPs.ifs ?_ | refine WPB.op ?_) | ((with_reducible refine WPEs.cons ?_ ?_); (case refine_2 => intros; rfl)) | ((with_reducible refine n_tuple ‹_› ?_ ?_); (case refine_1 => rfl)) | ((with_reducible refine c_isinstance ‹_› ?_ ?_ ?_); (case refine_1 => rfl); (case refine_3 => intros; rfl)) | ((with_reducible refine' WPE.nm ?_ ?_ ?_ ?_); (case refine'_2 => rfl); (case refine'_4 => decide); (case refine'_5 => decide)) | ((with_reducible refine WPB.val ?_ ?_); (case refine_2 => intros; rfl)) | fail)) | fail))
      refine WL.isinstance (typ_mono L1 h1) rfl ?_
      rw [show isi T "tuple" = false by simp [isi, h2]]
      (repeat' (first | (with_reducible refine WPS.nil ?_) | ((fail_if_success (with_reducible show WPS _ _ _ _ _ _ _ _)); (first | (with_reducible first | refine nxt_next ?_ | refine cnd_f ?_ | refine ⟨_, rfl, ?_⟩) | fail)) | fail))
      exact odd (.cons rfl (.cons rfl (.cons rfl (.cons rfl (.cons rfl (.cons rfl (.cons rfl (.cons rfl .nil))))))))
    | @tupN a r U h1 h2 h3 h4 =>
      (repeat' (first | ((fail_if_success (with_reducible show WPS _ _ _ _ _ _ _ _)); (first | (with_reducible first | refine WPE.cint ?_ | refine WPAll.and ?_ | refine cnd_t ?_ | refine WPEs.nil ?_ | refine WPs.ifs ?_ | refine WPB.op ?_) | ((with_reducible refine WPEs.cons ?_ ?_); (case refine_2 => intros; rfl)) | ((with_reducible refine n_tuple ‹_› ?_ ?_); (case refine_1 => rfl)) | ((with_reducible refine c_isinstance ‹_› ?_ ?_ ?_); (case refine_1 => rfl); (case refine_3 => intros; rfl)) | (with_reducible refine WPE.sub ?_) | ((with_reducible refine' WPE.nm ?_ ?_ ?_ ?_); (case refine'_2 => rfl); (case refine'_4 => decide); (case refine'_5 => decide)) | ((with_reducible refine WPB.val ?_ ?_); (case refine_2 => intros; rfl)) | ((with_reducible refine cnd_is true ?_ ?_); (case refine_1 => rfl)) | (with_reducible refine ⟨_, rfl, ?_⟩) | ((with_reducible refine' WL.isinstance ?_ ?_ ?_); (case refine'_2 => rfl); (case refine'_3 => rfl)) | fail)) | fail))
      refine W2.subTup rfl (by simp; lia) seqIndex_0 rfl ?_
      (repeat' (first | ((fail_if_success (with_reducible show WPS _ _ _ _ _ _ _ _)); (first | (with_reducible refine WPEs.nil ?_) | ((with_reducible refine WPEs.cons ?_ ?_); (case refine_2 => intros; rfl)) | ((with_reducible refine n_str ‹_› ?_ ?_); (case refine_1 => rfl)) | fail)) | fail))
      refine WL.isinstance (typ_mono L1 h1) rfl ?_
      rw [show isi U "str" = false by simp [isi, h2]]
      (repeat' (first | (with_reducible refine WPS.nil ?_) | ((fail_if_success (with_reducible show WPS _ _ _ _ _ _ _ _)); (first | (with_reducible first | refine nxt_next ?_ | refine cnd_f ?_ | refine ⟨_, rfl, ?_⟩) | fail)) | fail))
      exact odd (.cons rfl (.cons rfl (.cons rfl (.cons rfl (.cons rfl (.cons rfl (.cons rfl (.cons rfl .nil))))))))
end

section
variable {c : Cx} {k : Nat} {sc : Scope} {ρ : Loc} {st : St} {Q : V → St → Prop} {X : Xp} {mk mt : Addr} {g g' : Sg}
noncomputable def HeldP (st : St) (p : Addr × Addr) : Prop := ∃ vs, get st p.1 = some (.list vs) ∧ get st p.2 = some (.list vs) ∧ ∀ u ∈ vs, selfV u = true
noncomputable abbrev pairsV (ps : List (Addr × Addr)) : List V := ps.map fun p => .tup [.ref p.1, .ref p.2]
theorem HeldP.keep {st' : St} {p : Addr × Addr} {as : List Addr} (h : HeldP st p) (kb : KeepBut st st' as) (h1 : ∀ a ∈ [p.1, p.2], a ∉ as) : HeldP st' p := by
  obtain ⟨vs, q1, q2, q3⟩ := h
  exact ⟨vs, kb _ _ (h1 _ (by simp)) q1, kb _ _ (h1 _ (by simp)) q2, q3⟩
/-- both walkers and what is held -/
structure Two (st : St) (u v : U) (hl : Addr) (n : Nat) : Prop where
  ex : ∃ g mk mt g' mk' mt' ps, UOk st u g mk mt ∧ UOk st v g' mk' mt' ∧ (∀ a ∈ u.all mk mt, a ∉ v.own ++ [hl]) ∧ (∀ a ∈ v.all mk' mt', a ∉ u.own ++ [hl]) ∧ get st hl = some (.list (pairsV ps)) ∧ ps.length ≤ n ∧ ∀ p ∈ ps, HeldP st p ∧ ∀ a ∈ [p.1, p.2], a ∉ u.own ∧ a ∉ v.own ∧ a ≠ hl
theorem Two.swap {u v : U} {hl : Addr} {n : Nat} (h : Two st u v hl n) : Two st v u hl n := by
  obtain ⟨g, mk, mt, g', mk', mt', ps, a1, a2, a3, a4, a5, a6, a7⟩ := h.ex
  exact ⟨g', mk', mt', g, mk, mt, ps, a2, a1, a4, a3, a5, a6, fun p hp => ⟨(a7 p hp).1, fun a ha => ⟨((a7 p hp).2 a ha).2.1, ((a7 p hp).2 a ha).1, ((a7 p hp).2 a ha).2.2⟩⟩⟩
theorem s_turn2 (hK : Kc c) (hq : c.q = true) {u v : U} {w n : Nat} {ws mos : List V} {th : V} {ns : List Int} {wa mo hl ah : Addr} {ρ₁ : Loc} {P : Fl → Loc → St → Prop} (hv : Th st th) (h2 : Two st u v hl n) (hwa : get st wa = some (.list ws)) (hw : ws[w]? = some (.ref u.x)) (hwl : ws.length = 2) (hmo : get st mo = some (.list mos)) (hm : mos[w]? = some (.ref u.ma)) (hml : mos.length = 2) (hw2 : w < 2) (hwo : wa ∉ u.own)
    (hs : Sub (("_law_which", .int (w : Int)) :: ("_law_deed_here", th) :: BL ns wa mo hl ah) ρ₁)
    (next : ∀ st' ρ', KeepBut st st' u.own → Two st' u v hl n → Sub (BL ns wa mo hl ah) ρ' → WPS c 20 S_law ρ' st' (turnB.drop 6) P X) : WPS c 20 S_law ρ₁ st (turnB.drop 2) P X := by
  obtain ⟨g, mk, mt, g', mk', mt', ps, a1, a2, a3, a4, a5, a6, a7⟩ := h2.ex
  refine s_turn hK hq hv a1 hwa hw hwl hmo hm hml hw2 hwo hs ?_
  intro g₂ mk₂ mt₂ st' ρ' kb h1 h2 hu hs'
  have hlu : hl ∉ u.own := fun q => a3 hl (by simp at q ⊢; rcases q with q | q | q | q <;> simp [q]) (by simp)
  refine next st' ρ' kb ⟨g₂, mk₂, mt₂, g', mk', mt', ps, hu, a2.keep kb (fun a ha q => a4 a ha (List.mem_append_left _ q)), ?_, a4, kb _ _ hlu a5, a6, fun p hp => ⟨(a7 p hp).1.keep kb fun a ha => ((a7 p hp).2 a ha).1, (a7 p hp).2⟩⟩ hs'
  have fr : ∀ {a b : Addr}, a = b ∨ get st a = none → b ∉ v.own ++ [hl] → a ∉ v.own ++ [hl] := by
    intro a b h1 h2
    rcases h1 with rfl | h1
    · exact h2
    · intro q
      rcases List.mem_append.mp q with q | q
      · exact a2.live a (by simp at q ⊢; rcases q with q | q | q | q <;> simp [q]) h1
      · rw [List.mem_singleton.mp q, a5] at h1; cases h1
  have f1 := fr h1 (a3 mk (by simp))
  have f2 := fr h2 (a3 mt (by simp))
  intro a ha
  simp only [U.all, List.mem_cons, List.not_mem_nil, or_false] at ha
  rcases ha with rfl | rfl | rfl | rfl | rfl | rfl | rfl | rfl | rfl
  · exact a3 _ (by simp)
  · exact a3 _ (by simp)
  · exact a3 _ (by simp)
  · exact f1
  · exact f2
  · exact a3 _ (by simp)
  · exact a3 _ (by simp)
  · exact a3 _ (by simp)
  · exact a3 _ (by simp)
/-- one look at a walker -/
theorem s_look (hK : Kc c) (hq : c.q = true) {u v : U} {hl : Addr} {n : Nat} (h2 : Two st u v hl n) (hn : n ≤ 900) (h : ∀ st', KeepBut st st' [hl] → Two st' u v hl (n + 2) → Q (.bool true) st') : CF c (k + 3) A_law_right [.ref u.x, .ref u.ma, .ref hl] ρ st Q X := by
  obtain ⟨g, mk, mt, g', mk', mt', ps, a1, a2, a3, a4, a5, a6, a7⟩ := h2.ex
  refine s_right hK hq a1.W a1.M u.rm u.len a5 (by rw [List.length_map]; ((with_reducible apply zP); (with_reducible assumption); (with_reducible assumption); exact rfl)) ?_
  intro a b a' b' us ws st' kb n1 n2 n3 n4 gh ga gb hus ga' gb' hws
  have out : ∀ {z : Addr}, get st z = none → z ∉ u.own ∧ z ∉ v.own ∧ z ≠ hl := by
    intro z hz
    refine ⟨fun q => a1.live z (by simp at q ⊢; rcases q with q | q | q | q <;> simp [q]) hz, fun q => a2.live z (by simp at q ⊢; rcases q with q | q | q | q <;> simp [q]) hz, fun q => by rw [q, a5] at hz; cases hz⟩
  refine h st' kb ⟨g, mk, mt, g', mk', mt', ps ++ [(a, b)] ++ [(a', b')], a1.keep kb (fun z hz q => a3 z hz (List.mem_append_right _ q)), a2.keep kb (fun z hz q => a4 z hz (List.mem_append_right _ q)), a3, a4, ?_, by simp; with_reducible assumption, ?_⟩
  · rw [gh]; unfold pairsV; rw [List.map_append, List.map_append]; rfl
  · intro p hp
    rcases List.mem_append.mp hp with hp | hp
    · rcases List.mem_append.mp hp with hp | hp
      · exact ⟨(a7 p hp).1.keep kb fun z hz q => ((a7 p hp).2 z hz).2.2 (List.mem_singleton.mp q), (a7 p hp).2⟩
      · obtain rfl := List.mem_singleton.mp hp
        refine ⟨⟨us, ga, gb, hus⟩, fun z hz => ?_⟩
        simp at hz
        rcases hz with rfl | rfl
        · exact out n1
        · exact out n2
    · obtain rfl := List.mem_singleton.mp hp
      refine ⟨⟨ws, ga', gb', hws⟩, fun z hz => ?_⟩
      simp at hz
      rcases hz with rfl | rfl
      · exact out n3
      · exact out n4
/-- the looks at both -/
theorem s_looks (hK : Kc c) (hq : c.q = true) {u v : U} {n : Nat} {ns : List Int} {wa mo hl ah : Addr} {ρ₁ : Loc} {P : Fl → Loc → St → Prop} (h2 : Two st u v hl n) (hn : n ≤ 800) (hwa : get st wa = some (.list [.ref u.x, .ref v.x])) (hmo : get st mo = some (.list [.ref u.ma, .ref v.ma])) (hwl : wa ≠ hl) (hml : mo ≠ hl) (hs : Sub (BL ns wa mo hl ah) ρ₁)
    (next : ∀ st' ρ', KeepBut st st' [hl] → Two st' u v hl (n + 4) → Sub (BL ns wa mo hl ah) ρ' → P .next ρ' st') : WPS c 20 S_law ρ₁ st (turnB.drop 6) P X := by
  refine WPS.locs ?_ hs
  refine WPS.cons ?_
  (repeat' (first | ((fail_if_success (with_reducible show WPS _ _ _ _ _ _ _ _)); (first | (with_reducible first | refine WPE.cint ?_ | refine WPAll.or ?_ | refine WPs.ifs ?_ | refine WPB.op ?_ | refine WPB.not ?_) | ((with_reducible refine WPEs.cons ?_ ?_); (case refine_2 => intros; rfl)) | ((with_reducible refine c_law_right ‹_› ?_ ?_ ?_); (case refine_1 => rfl); (case refine_3 => intros; rfl)) | (with_reducible refine WPE.sub ?_) | ((with_reducible refine' WPE.nm ?_ ?_ ?_ ?_); (case refine'_2 => rfl); (case refine'_4 => decide); (case refine'_5 => decide)) | ((with_reducible refine WPB.val ?_ ?_); (case refine_2 => intros; rfl)) | fail)) | fail))
  refine W2.listAt hwa rfl rfl (by rfl) ?_
  (repeat' (first | ((fail_if_success (with_reducible show WPS _ _ _ _ _ _ _ _)); (first | (with_reducible refine WPE.cint ?_) | ((with_reducible refine WPEs.cons ?_ ?_); (case refine_2 => intros; rfl)) | (with_reducible refine WPE.sub ?_) | ((with_reducible refine' WPE.nm ?_ ?_ ?_ ?_); (case refine'_2 => rfl); (case refine'_4 => decide); (case refine'_5 => decide)) | fail)) | fail))
  refine W2.listAt hmo rfl rfl (by rfl) ?_
  (repeat' (first | ((fail_if_success (with_reducible show WPS _ _ _ _ _ _ _ _)); (first | (with_reducible refine WPEs.nil ?_) | ((with_reducible refine WPEs.cons ?_ ?_); (case refine_2 => intros; rfl)) | ((with_reducible refine' WPE.nm ?_ ?_ ?_ ?_); (case refine'_2 => rfl); (case refine'_4 => decide); (case refine'_5 => decide)) | fail)) | fail))
  refine WL.le (s_look (k := 4) hK hq h2 (by ((with_reducible apply zD); (with_reducible assumption); exact rfl)) fun st₁ kb h2' => ?_) (by ((with_reducible apply zB); exact rfl))
  have hwa1 := kb _ _ (fun q => hwl (List.mem_singleton.mp q)) hwa
  have hmo1 := kb _ _ (fun q => hml (List.mem_singleton.mp q)) hmo
  (repeat' (first | ((fail_if_success (with_reducible show WPS _ _ _ _ _ _ _ _)); (first | (with_reducible first | refine WPE.cint ?_ | refine WPAll.or ?_ | refine cnd_t ?_ | refine cnd_f ?_ | refine WPB.not ?_) | ((with_reducible refine WPEs.cons ?_ ?_); (case refine_2 => intros; rfl)) | ((with_reducible refine c_law_right ‹_› ?_ ?_ ?_); (case refine_1 => rfl); (case refine_3 => intros; rfl)) | (with_reducible refine WPE.sub ?_) | ((with_reducible refine' WPE.nm ?_ ?_ ?_ ?_); (case refine'_2 => rfl); (case refine'_4 => decide); (case refine'_5 => decide)) | ((with_reducible refine WPB.val ?_ ?_); (case refine_2 => intros; rfl)) | (with_reducible refine ⟨_, rfl, ?_⟩) | fail)) | fail))
  refine W2.listAt hwa1 rfl rfl (by rfl) ?_
  (repeat' (first | ((fail_if_success (with_reducible show WPS _ _ _ _ _ _ _ _)); (first | (with_reducible refine WPE.cint ?_) | ((with_reducible refine WPEs.cons ?_ ?_); (case refine_2 => intros; rfl)) | (with_reducible refine WPE.sub ?_) | ((with_reducible refine' WPE.nm ?_ ?_ ?_ ?_); (case refine'_2 => rfl); (case refine'_4 => decide); (case refine'_5 => decide)) | fail)) | fail))
  refine W2.listAt hmo1 rfl rfl (by rfl) ?_
  (repeat' (first | ((fail_if_success (with_reducible show WPS _ _ _ _ _ _ _ _)); (first | (with_reducible refine WPEs.nil ?_) | ((with_reducible refine WPEs.cons ?_ ?_); (case refine_2 => intros; rfl)) | ((with_reducible refine' WPE.nm ?_ ?_ ?_ ?_); (case refine'_2 => rfl); (case refine'_4 => decide); (case refine'_5 => decide)) | fail)) | fail))
  refine WL.le (s_look (k := 4) hK hq h2'.swap (by lia) fun st₂ kb' h2'' => ?_) (by ((with_reducible apply zB); exact rfl))
  (repeat' (first | (with_reducible refine WPS.nil ?_) | ((fail_if_success (with_reducible show WPS _ _ _ _ _ _ _ _)); (first | (with_reducible first | refine WPAll.orNil ?_ | refine nxt_next ?_ | refine cnd_t ?_ | refine cnd_f ?_ | refine ⟨_, rfl, ?_⟩) | fail)) | fail))
  exact next st₂ _ (kb.trans kb') h2''.swap (.cons rfl (.cons rfl (.cons rfl (.cons rfl (.cons rfl .nil)))))
end

section
variable {c : Cx} {k : Nat} {sc : Scope} {ρ : Loc} {st : St} {Q : V → St → Prop} {X : Xp} {mk mt : Addr} {g g' : Sg}
noncomputable def Ru.dat : Ru → PyData
  | .add i => .tuple [.str "add", .int i]
  | .times i => .tuple [.str "times", .int i]
  | .square => .tuple [.str "square"]
  | .half => .tuple [.str "half"]
theorem Dats.rus {rs : List Ru} : Dats st (rs.map Ru.v) (rs.map Ru.dat) := by
  induction rs with
  | nil => exact .nil
  | cons r rs ih =>
    refine .cons ?_ ih
    cases r with
    | add i => exact .tup (.cons (.str _) (.cons (.int _) .nil))
    | times i => exact .tup (.cons (.str _) (.cons (.int _) .nil))
    | square => exact .tup (.cons (.str _) .nil)
    | half => exact .tup (.cons (.str _) .nil)
theorem lay_rus {rs : List Ru} : PyData.canLayAll0 (rs.map Ru.dat) = true := by
  induction rs with
  | nil => rfl
  | cons r rs ih => rw [List.map_cons, PyData.canLayAll0, ih]; cases r <;> simp [Ru.dat, PyData.canLay0, PyData.canLayAll0] <;> decide +kernel
theorem depth_rus {rs : List Ru} : PyData.depthAll (rs.map Ru.dat) ≤ 3 := by
  induction rs with
  | nil => simp [PyData.depthAll]
  | cons r rs ih =>
    rw [List.map_cons, PyData.depthAll]
    have : (Ru.dat r).depth ≤ 3 := by cases r <;> simp [Ru.dat, PyData.depth, PyData.depthAll]
    lia
theorem ne_rows {a b a0 a1 b0 b1 : Addr} {r0 r1 : List Ru} (ha : get st a = some (.list [.ref a0, .ref a1])) (hb : get st b = some (.list [.ref b0, .ref b1])) (h0 : get st a0 = some (.list (r0.map Ru.v))) (h1 : get st a1 = some (.list (r1.map Ru.v))) (h2 : get st b0 = some (.list (r0.map Ru.v))) (h3 : get st b1 = some (.list (r1.map Ru.v))) (h : Q (.bool false) st) : W2 c k (compareOp .NotEq) (.ref a) (.ref b) ρ st Q X := by
  have hlay : (PyData.list [.list (r0.map Ru.dat), .list (r1.map Ru.dat)]).canLay0 = true := by
    simp only [PyData.canLay0, PyData.canLayAll0, lay_rus]; rfl
  have hsh : SeqAt.shaped (.list [.list (r0.map Ru.dat), .list (r1.map Ru.dat)]) = true := by
    have d0 := depth_rus (rs := r0)
    have d1 := depth_rus (rs := r1)
    unfold SeqAt.shaped
    rw [hlay]
    simp only [PyData.depth, PyData.depthAll]
    simp
    lia
  refine W2.ne (.list ha (.cons (.list h0 Dats.rus) (.cons (.list h1 Dats.rus) .nil))) (.list hb (.cons (.list h2 Dats.rus) (.cons (.list h3 Dats.rus) .nil))) hsh hsh ?_
  rw [SeqAt.eqv_refl _ hlay]
  exact h
theorem src_to {S : St} {N : Int} (h1 : N ≤ 1000) (h2 : 0 ≤ N) : Src S (.rng 6 N 1) (upTo 6 (N - 6).toNat) := by
  by_cases h : 6 ≤ N
  · exact Src.up 6 (N - 6).toNat rfl (by lia) (by lia)
  · have e : Builtin.Range.rangeSize 6 N 1 = 0 := by unfold Builtin.Range.rangeSize; rw [if_pos (by decide), if_neg (by lia)]
    rw [show upTo 6 (N - 6).toNat = rngItems 6 N 1 by unfold rngItems; rw [e, show (N - 6).toNat = 0 by lia]; rfl]
    refine .rng ?_
    unfold Builtin.Range.small Builtin.Range.rangeFitsLong
    rw [e]
    simp
    lia
theorem Two.le {st' : St} {u v : U} {hl : Addr} {n : Nat} (h : Two st u v hl n) (hle : Le st st') : Two st' u v hl n := by
  obtain ⟨g, mk, mt, g', mk', mt', ps, a1, a2, a3, a4, a5, a6, a7⟩ := h.ex
  have kb := KeepBut.of (as := []) hle
  exact ⟨g, mk, mt, g', mk', mt', ps, a1.keep kb (by simp), a2.keep kb (by simp), a3, a4, hle _ _ a5, a6, fun p hp => ⟨(a7 p hp).1.keep kb (by simp), (a7 p hp).2⟩⟩
theorem the_end (hK : Kc c) (hq : c.q = true) {u v : U} {hl : Addr} {n : Nat} {ρ₁ : Loc} (h2 : Two st u v hl n) (hn : n ≤ 900) (hs : Sub [("_law_held", .ref hl)] ρ₁) : WPS c 20 S_law ρ₁ st (B_law.drop 11) (fun fl _ _ => retV fl = .bool true) X := by
  obtain ⟨g, mk, mt, g', mk', mt', ps, a1, a2, a3, a4, a5, a6, a7⟩ := h2.ex
  refine WPS.locs ?_ hs
  refine WPS.cons ?_
  (repeat' (first | ((fail_if_success (with_reducible show WPS _ _ _ _ _ _ _ _)); (first | (with_reducible refine WPs.ret ?_) | ((with_reducible refine WPEs.cons ?_ ?_); (case refine_2 => intros; rfl)) | ((with_reducible refine WPE.comp ‹_› ?_ ?_ ?_); (case refine_1 => rfl); (case refine_3 => intros; rfl)) | ((with_reducible refine WPE.cmp ?_ ?_); (case refine_2 => rfl)) | ((with_reducible refine c_len ‹_› ?_ ?_ ?_); (case refine_1 => rfl); (case refine_3 => intros; rfl)) | ((with_reducible refine' WPE.nm ?_ ?_ ?_ ?_); (case refine'_2 => rfl); (case refine'_4 => decide); (case refine'_5 => decide)) | fail)) | fail))
  refine ⟨_, .list a5, by rw [List.length_map]; exact small_ok'' (by ((with_reducible apply zP); (with_reducible assumption); (with_reducible assumption); exact rfl)), ?_⟩
  refine COMP.filt (fun _ => false) id (.list a5) ?_ ?_
  · intro z hz
    obtain ⟨p, hp, rfl⟩ := List.mem_map.mp hz
    obtain ⟨⟨vs, q1, q2, q3⟩, _⟩ := a7 p hp
    refine ⟨?_, fun q => by cases q⟩
    (repeat' (first | (with_reducible refine WPE.cint ?_) | ((with_reducible refine WPB.cmp ?_ ?_); (case refine_2 => rfl)) | (with_reducible refine WPE.sub ?_) | ((with_reducible refine' WPE.nm ?_ ?_ ?_ ?_); (case refine'_2 => rfl); (case refine'_4 => decide); (case refine'_5 => decide)) | ((with_reducible refine' W2.tupAt ?_ ?_ ?_ ?_); (case refine'_2 => rfl); (case refine'_3 => rfl); (case refine'_4 => rfl)) | fail))
    refine W2.neSelfL q1 q2 q3 ?_
    (repeat' (first | (with_reducible refine ⟨_, rfl, ?_⟩) | fail))
    exact ⟨rfl, rfl⟩
  rw [show ((pairsV ps).filter fun _ => false).map id = [] by simp]
  intro a ha
  (repeat' (first | ((fail_if_success (with_reducible show WPS _ _ _ _ _ _ _ _)); (first | (with_reducible refine WPEs.nil ?_) | fail)) | fail))
  refine WL.lenList get_head (by simp) ?_
  (repeat' (first | ((fail_if_success (with_reducible show WPS _ _ _ _ _ _ _ _)); (first | (with_reducible first | refine WPE.cint ?_ | refine W2.eqI ?_ | refine nxt_ret ?_) | fail)) | fail))
  rfl
theorem the_loop (hK : Kc c) (hq : c.q = true) {u v : U} {ns : List Int} {wa mo hl ah : Addr} {l : List Dd} {ρ₁ : Loc} (hns : ns.length < 1000) (h2 : Two st u v hl 0) (hwa : get st wa = some (.list [.ref u.x, .ref v.x])) (hmo : get st mo = some (.list [.ref u.ma, .ref v.ma])) (hah : get st ah = some (.list (l.map deedV))) (hl7 : l.length ≤ 7) (hld : ∀ dd ∈ l, deedOk dd) (hap : ∀ a ∈ [wa, mo, ah], a ∉ u.own ∧ a ∉ v.own ∧ a ≠ hl) (hs : Sub (BL ns wa mo hl ah) ρ₁) : WPS c 20 S_law ρ₁ st (B_law.drop 10) (fun fl _ _ => retV fl = .bool true) X := by
  obtain ⟨pw1, pw2, pw3⟩ := hap wa (by simp)
  obtain ⟨pm1, pm2, pm3⟩ := hap mo (by simp)
  obtain ⟨pa1, pa2, pa3⟩ := hap ah (by simp)
  refine WPS.locs ?_ hs
  refine WPS.cons ?_
  (repeat' (first | ((fail_if_success (with_reducible show WPS _ _ _ _ _ _ _ _)); (first | (with_reducible first | refine WPE.cint ?_ | refine WPE.bin ?_ | refine WPEs.nil ?_) | ((with_reducible refine WPEs.cons ?_ ?_); (case refine_2 => intros; rfl)) | ((with_reducible refine WPs.for ‹_› ?_ ?_ ?_); (case refine_2 => rfl); (case refine_3 => intros; rfl)) | ((with_reducible refine c_len ‹_› ?_ ?_ ?_); (case refine_1 => rfl); (case refine_3 => intros; rfl)) | ((with_reducible refine c_min ‹_› ?_ ?_ ?_); (case refine_1 => rfl); (case refine_3 => intros; rfl)) | ((with_reducible refine c_range ‹_› ?_ ?_ ?_); (case refine_1 => rfl); (case refine_3 => intros; rfl)) | ((with_reducible refine' WPE.nm ?_ ?_ ?_ ?_); (case refine'_2 => rfl); (case refine'_4 => decide); (case refine'_5 => decide)) | fail)) | fail))
  refine WL.lenScr (by ((with_reducible apply zJ); (with_reducible assumption); exact rfl)) ?_
  (repeat' (first | ((fail_if_success (with_reducible show WPS _ _ _ _ _ _ _ _)); (first | (with_reducible first | refine WPE.cint ?_ | refine WPEs.nil ?_) | ((with_reducible refine WPEs.cons ?_ ?_); (case refine_2 => intros; rfl)) | fail)) | fail))
  refine WL.min2 hq ?_
  (repeat' (first | ((fail_if_success (with_reducible show WPS _ _ _ _ _ _ _ _)); (first | (with_reducible refine WPEs.nil ?_) | ((with_reducible refine WPEs.cons ?_ ?_); (case refine_2 => intros; rfl)) | ((with_reducible refine c_len ‹_› ?_ ?_ ?_); (case refine_1 => rfl); (case refine_3 => intros; rfl)) | ((with_reducible refine' WPE.nm ?_ ?_ ?_ ?_); (case refine'_2 => rfl); (case refine'_4 => decide); (case refine'_5 => decide)) | fail)) | fail))
  refine WL.lenList hah (by simp; ((with_reducible apply zF); (with_reducible assumption); exact rfl)) ?_
  rw [List.length_map]
  (repeat' (first | ((fail_if_success (with_reducible show WPS _ _ _ _ _ _ _ _)); (first | (with_reducible first | refine W2.addI ?_ | refine WPEs.nil ?_) | fail)) | fail))
  have hN : min (ns.length : Int) 46 + (l.length : Int) ≤ 53 ∧ 0 ≤ min (ns.length : Int) 46 + (l.length : Int) ∧ min (ns.length : Int) 46 ≤ (ns.length : Int) := by lia
  have hsrc : ∀ S, Src S (.rng 6 (min (ns.length : Int) 46 + (l.length : Int)) 1) (upTo 6 (min (ns.length : Int) 46 + (l.length : Int) - 6).toNat) := fun S => src_to (by lia) hN.2.1
  generalize min (ns.length : Int) 46 = mm at hN hsrc ⊢
  refine WL.range2 ⟨_, hsrc _, ?_⟩
  refine FOR.inv (fun i ρ₁ st₁ => ρ₁ = BL ns wa mo hl ah ∧ Two st₁ u v hl (4 * i) ∧ get st₁ wa = some (.list [.ref u.x, .ref v.x]) ∧ get st₁ mo = some (.list [.ref u.ma, .ref v.ma]) ∧ get st₁ ah = some (.list (l.map deedV))) ⟨rfl, h2, hwa, hmo, hah⟩ ?_ ?_
  · rintro i z ρ₁ st₁ hz ⟨rfl, h2, hwa, hmo, hah⟩
    obtain ⟨hi, rfl⟩ := upTo_get hz
    have hi' : 6 + i < 53 := by lia
    -- after the deed is there
    have go : ∀ (P : Fl → Loc → St → Prop), (∀ ρ' st', Sub (BL ns wa mo hl ah) ρ' → Two st' u v hl (4 * (i + 1)) → get st' wa = some (.list [.ref u.x, .ref v.x]) → get st' mo = some (.list [.ref u.ma, .ref v.ma]) → get st' ah = some (.list (l.map deedV)) → P .next ρ' st') → ∀ (w : Nat) (th : V) (S : St) (ρ₂ : Loc), w = 0 ∨ w = 1 → Le st₁ S → Th S th → Sub (("_law_which", .int (w : Int)) :: ("_law_deed_here", th) :: BL ns wa mo hl ah) ρ₂ → WPS c 20 S_law ρ₂ S (turnB.drop 2) P X := by
      intro P hP w th S ρ₂ hw hle hth hs2
      have h2S := h2.le hle
      replace hwa := hle _ _ hwa
      replace hmo := hle _ _ hmo
      replace hah := hle _ _ hah
      have nx : ∀ st' ρ', (∀ a ∈ [wa, mo, ah], ∀ o, get S a = some o → get st' a = some o) → Two st' u v hl (4 * i) → Sub (BL ns wa mo hl ah) ρ' → WPS c 20 S_law ρ' st' (turnB.drop 6) P X := by
        intro st' ρ' hk h2' hs'
        replace hwa := hk _ (by simp) _ hwa
        replace hmo := hk _ (by simp) _ hmo
        replace hah := hk _ (by simp) _ hah
        refine s_looks hK hq h2' (by lia) hwa hmo pw3 pm3 hs' ?_
        intro st₃ ρ₃ kb h2'' hs3
        exact hP _ _ hs3 h2'' (kb _ _ (fun q => pw3 (List.mem_singleton.mp q)) hwa) (kb _ _ (fun q => pm3 (List.mem_singleton.mp q)) hmo) (kb _ _ (fun q => pa3 (List.mem_singleton.mp q)) hah)
      rcases hw with rfl | rfl
      · refine s_turn2 hK hq hth h2S hwa rfl rfl hmo rfl rfl (by decide) pw1 hs2 fun st' ρ' kb h2' hs' => nx st' ρ' (fun a ha o => kb a o (hap a ha).1) h2' hs'
      · refine s_turn2 hK hq hth h2S.swap hwa rfl rfl hmo rfl rfl (by decide) pw2 hs2 fun st' ρ' kb h2' hs' => nx st' ρ' (fun a ha o => kb a o (hap a ha).2.1) h2'.swap hs'
    refine WPS.cons ?_
    (repeat' (first | ((fail_if_success (with_reducible show WPS _ _ _ _ _ _ _ _)); (first | (with_reducible first | refine WPE.cint ?_ | refine nxt_next ?_) | ((with_reducible refine WPs.asg ?_ ?_ ?_); (case refine_2 => rfl); (case refine_3 => intros; rfl)) | fail)) | fail))
    refine WPS.cons ?_
    (repeat' (first | ((fail_if_success (with_reducible show WPS _ _ _ _ _ _ _ _)); (first | (with_reducible first | refine WPE.cint ?_ | refine WPE.bin ?_ | refine WPEs.nil ?_ | refine WPs.ifs ?_) | ((with_reducible refine WPEs.cons ?_ ?_); (case refine_2 => intros; rfl)) | ((with_reducible refine WPB.cmp ?_ ?_); (case refine_2 => rfl)) | ((with_reducible refine c_len ‹_› ?_ ?_ ?_); (case refine_1 => rfl); (case refine_3 => intros; rfl)) | ((with_reducible refine' WPE.nm ?_ ?_ ?_ ?_); (case refine'_2 => rfl); (case refine'_4 => decide); (case refine'_5 => decide)) | fail)) | fail))
    refine WL.lenList hah (by simp; ((with_reducible apply zF); (with_reducible assumption); exact rfl)) ?_
    rw [List.length_map]
    (repeat' (first | ((fail_if_success (with_reducible show WPS _ _ _ _ _ _ _ _)); (first | (with_reducible first | refine W2.addI ?_ | refine W2.ltI ?_ | refine ⟨_, rfl, ?_⟩) | fail)) | fail))
    refine cnd_cases (fun hb => ?_) (fun hb => ?_)
    · have hil : i < l.length := by have := of_decide_eq_true hb; lia
      refine WPS.cons ?_
      (repeat' (first | ((fail_if_success (with_reducible show WPS _ _ _ _ _ _ _ _)); (first | (with_reducible first | refine WPE.cint ?_ | refine WPE.bin ?_ | refine W2.subI ?_) | ((with_reducible refine WPs.asg ?_ ?_ ?_); (case refine_2 => rfl); (case refine_3 => intros; rfl)) | (with_reducible refine WPE.sub ?_) | ((with_reducible refine' WPE.nm ?_ ?_ ?_ ?_); (case refine'_2 => rfl); (case refine'_4 => decide); (case refine'_5 => decide)) | fail)) | fail))
      refine W2.subList (v := deedV l[i]) hah rfl (by simp; ((with_reducible apply zF); (with_reducible assumption); exact rfl)) (seqIndex_pos (by lia) (by simp; lia)) (by rw [List.getElem?_map, show (((6 + i : Nat) : Int) - 6).toNat = i by lia, List.getElem?_eq_getElem hil]; rfl) ?_
      (repeat' (first | (with_reducible refine WPS.nil ?_) | ((fail_if_success (with_reducible show WPS _ _ _ _ _ _ _ _)); (first | (with_reducible refine nxt_next ?_) | fail)) | fail))
      refine go _ (fun ρ' st' q1 q2 q3 q4 q5 => lp_next ⟨_, q1, hsrc _, rfl, q2, q3, q4, q5⟩) 0 _ _ _ (.inl rfl) .refl (.inl ⟨_, hld _ (List.getElem_mem hil), rfl⟩) ?_
      exact (.cons rfl (.cons rfl (.cons rfl (.cons rfl (.cons rfl (.cons rfl (.cons rfl .nil)))))))
    · have hil : l.length ≤ i := by have := of_decide_eq_false hb; lia
      refine WPS.cons ?_
      (repeat' (first | ((fail_if_success (with_reducible show WPS _ _ _ _ _ _ _ _)); (first | (with_reducible first | refine WPE.bin ?_ | refine WPEs.nil ?_) | ((with_reducible refine WPEs.cons ?_ ?_); (case refine_2 => intros; rfl)) | ((with_reducible refine WPs.asg ?_ ?_ ?_); (case refine_2 => rfl); (case refine_3 => intros; rfl)) | ((with_reducible refine WPE.cmp ?_ ?_); (case refine_2 => rfl)) | ((with_reducible refine c_len ‹_› ?_ ?_ ?_); (case refine_1 => rfl); (case refine_3 => intros; rfl)) | ((with_reducible refine c_int ‹_› ?_ ?_ ?_); (case refine_1 => rfl); (case refine_3 => intros; rfl)) | (with_reducible refine WPE.sub ?_) | ((with_reducible refine' WPE.nm ?_ ?_ ?_ ?_); (case refine'_2 => rfl); (case refine'_4 => decide); (case refine'_5 => decide)) | fail)) | fail))
      refine WL.lenList hah (by simp; lia) ?_
      rw [List.length_map]
      (repeat' (first | ((fail_if_success (with_reducible show WPS _ _ _ _ _ _ _ _)); (first | (with_reducible refine W2.subI ?_) | fail)) | fail))
      have hk : ((6 + i : Nat) : Int) - (l.length : Int) < (ns.length : Int) := by lia
      refine W2.subScr rfl (by ((with_reducible apply zJ); (with_reducible assumption); exact rfl)) (seqIndex_pos (by lia) hk) (List.getElem?_eq_getElem (by lia)) ?_
      (repeat' (first | ((fail_if_success (with_reducible show WPS _ _ _ _ _ _ _ _)); (first | (with_reducible refine WPE.cint ?_) | fail)) | fail))
      refine W2.modI (by decide) ?_
      (repeat' (first | ((fail_if_success (with_reducible show WPS _ _ _ _ _ _ _ _)); (first | (with_reducible first | refine WPE.cint ?_ | refine W2.eqI ?_ | refine WPEs.nil ?_) | fail)) | fail))
      refine WL.intBool ?_
      generalize (((ns[(((6 + i : Nat) : Int) - (l.length : Int)).toNat]'(by lia)).fmod 7 == 0) : Bool) = b
      obtain ⟨w, hw, hwe⟩ : ∃ w : Nat, (w = 0 ∨ w = 1) ∧ (if b = true then (1 : Int) else 0) = (w : Int) := by cases b <;> first | exact ⟨0, .inl rfl, rfl⟩ | exact ⟨1, .inr rfl, rfl⟩
      rw [hwe]
      (repeat' (first | ((fail_if_success (with_reducible show WPS _ _ _ _ _ _ _ _)); (first | (with_reducible refine nxt_next ?_) | fail)) | fail))
      refine WPS.cons ?_
      (repeat' (first | ((fail_if_success (with_reducible show WPS _ _ _ _ _ _ _ _)); (first | ((with_reducible refine WPEs.cons ?_ ?_); (case refine_2 => intros; rfl)) | ((with_reducible refine WPs.asg ?_ ?_ ?_); (case refine_2 => rfl); (case refine_3 => intros; rfl)) | ((with_reducible refine c_law_deed ‹_› ?_ ?_ ?_); (case refine_1 => rfl); (case refine_3 => intros; rfl)) | (with_reducible refine WPE.sub ?_) | ((with_reducible refine' WPE.nm ?_ ?_ ?_ ?_); (case refine'_2 => rfl); (case refine'_4 => decide); (case refine'_5 => decide)) | fail)) | fail))
      obtain ⟨g, mk, mt, g', mk', mt', ps, a1, a2, _⟩ := h2.ex
      rcases hw with rfl | rfl
      · refine W2.listAt hmo rfl rfl (by rfl) ?_
        (repeat' (first | ((fail_if_success (with_reducible show WPS _ _ _ _ _ _ _ _)); (first | (with_reducible refine WPEs.nil ?_) | ((with_reducible refine WPEs.cons ?_ ?_); (case refine_2 => intros; rfl)) | ((with_reducible refine c_law_number ‹_› ?_ ?_ ?_); (case refine_1 => rfl); (case refine_3 => intros; rfl)) | ((with_reducible refine' WPE.nm ?_ ?_ ?_ ?_); (case refine'_2 => rfl); (case refine'_4 => decide); (case refine'_5 => decide)) | fail)) | fail))
        refine s_number hK (by with_reducible exact zC) (by lia) hns ?_
        (repeat' (first | ((fail_if_success (with_reducible show WPS _ _ _ _ _ _ _ _)); (first | (with_reducible refine WPEs.nil ?_) | fail)) | fail))
        refine WL.le (s_deed (k := 10) hK hq a1.M u.rm u.len a1.W.ml a1.W.rl a1.W.wl fun th S hle hth => ?_) (by ((with_reducible apply zB); exact rfl))
        (repeat' (first | (with_reducible refine WPS.nil ?_) | ((fail_if_success (with_reducible show WPS _ _ _ _ _ _ _ _)); (first | (with_reducible refine nxt_next ?_) | fail)) | fail))
        refine go _ (fun ρ' st' q1 q2 q3 q4 q5 => lp_next ⟨_, q1, hsrc _, rfl, q2, q3, q4, q5⟩) 0 th S _ (.inl rfl) hle hth ?_
        exact (.cons rfl (.cons rfl (.cons rfl (.cons rfl (.cons rfl (.cons rfl (.cons rfl .nil)))))))
      · refine W2.listAt hmo rfl rfl (by rfl) ?_
        (repeat' (first | ((fail_if_success (with_reducible show WPS _ _ _ _ _ _ _ _)); (first | (with_reducible refine WPEs.nil ?_) | ((with_reducible refine WPEs.cons ?_ ?_); (case refine_2 => intros; rfl)) | ((with_reducible refine c_law_number ‹_› ?_ ?_ ?_); (case refine_1 => rfl); (case refine_3 => intros; rfl)) | ((with_reducible refine' WPE.nm ?_ ?_ ?_ ?_); (case refine'_2 => rfl); (case refine'_4 => decide); (case refine'_5 => decide)) | fail)) | fail))
        refine s_number hK (by with_reducible exact zC) (by lia) hns ?_
        (repeat' (first | ((fail_if_success (with_reducible show WPS _ _ _ _ _ _ _ _)); (first | (with_reducible refine WPEs.nil ?_) | fail)) | fail))
        refine WL.le (s_deed (k := 10) hK hq a2.M v.rm v.len a2.W.ml a2.W.rl a2.W.wl fun th S hle hth => ?_) (by ((with_reducible apply zB); exact rfl))
        (repeat' (first | (with_reducible refine WPS.nil ?_) | ((fail_if_success (with_reducible show WPS _ _ _ _ _ _ _ _)); (first | (with_reducible refine nxt_next ?_) | fail)) | fail))
        refine go _ (fun ρ' st' q1 q2 q3 q4 q5 => lp_next ⟨_, q1, hsrc _, rfl, q2, q3, q4, q5⟩) 1 th S _ (.inr rfl) hle hth ?_
        exact (.cons rfl (.cons rfl (.cons rfl (.cons rfl (.cons rfl (.cons rfl (.cons rfl .nil)))))))
  · rintro ρ₁ st₁ ⟨rfl, h2, _⟩
    rw [upTo_len] at h2
    exact the_end hK hq h2 (by lia) (.cons rfl .nil)
theorem Wk.live {x d ru sh se : Addr} {fs : Int} {rs : List Ru} {room : Nat} (W : Wk st x d ru sh se fs rs room g) : ∀ a ∈ [x, d, ru, sh, se], get st a ≠ none := by
  intro a ha
  simp at ha
  rcases ha with rfl | rfl | rfl | rfl | rfl
  · rw [W.i]; simp
  · rw [W.a]; simp
  · rw [W.r]; simp
  · rw [W.k]; simp
  · rw [W.s]; simp
theorem Mo.live {ma sa : Addr} {fs : Int} {rs : List Ru} {room : Nat} (M : Mo st ma sa mk mt fs rs room g) : ∀ a ∈ [ma, sa, mk, mt], get st a ≠ none := by
  obtain ⟨ms, q1, _, _⟩ := M.k
  intro a ha
  simp at ha
  rcases ha with rfl | rfl | rfl | rfl
  · rw [M.m]; simp
  · rw [M.s]; simp
  · rw [q1]; simp
  · rw [M.t]; simp
theorem ne_of {a b : Addr} {o : O} (ha : get st a = some o) (hb : get st b = none) : a ≠ b := fun e => by rw [e, hb] at ha; cases ha
theorem fresh_ne {A B : List Addr} (hA : ∀ a ∈ A, get st a ≠ none) (hB : ∀ b ∈ B, get st b = none) : ∀ a ∈ A, a ∉ B := fun a ha hb => hA a ha (hB a hb)
theorem setup {S6 S7 S8 S9 S10 S11 S12 S13 S15 S16 S17 : St} {h0 h1 x0 e0 ru0 sh0 se0 ma0 sa0 mk0 mt0 x1 e1 ru1 sh1 se1 ma1 sa1 mk1 mt1 wa mo hd ah : Addr} {f0 f1 : Int} {r0 r1 : List Ru} {room : Nat} {o0 o1 ow om : O} (f00 : 0 ≤ f0) (f01 : f0 ≤ 999982) (rok0 : ∀ r ∈ r0, r.Ok) (rl0 : r0.length ≤ 12) (hr2 : room ≤ 12) (f10 : 0 ≤ f1) (f11 : f1 ≤ 999982) (rok1 : ∀ r ∈ r1, r.Ok) (rl1 : r1.length ≤ 5)
    (gh0 : get S6 h0 = some o0) (gh1 : get S6 h1 = some o1) (L7 : Le S6 S7) (F0 : Fresh S6 [x0, e0, ru0, sh0, se0]) (W0 : Wk S7 x0 e0 ru0 sh0 se0 f0 r0 room ⟨0, [], r0.length + 1, 0⟩) (L8 : Le S7 S8) (F1 : Fresh S7 [x1, e1, ru1, sh1, se1]) (W1 : Wk S8 x1 e1 ru1 sh1 se1 f1 r1 2 ⟨0, [], r1.length + 1, 0⟩) (hwa : get S8 wa = none) (L89 : Le S8 S9) (gwa : get S9 wa = some ow) (L10 : Le S9 S10) (fm0 : get S9 ma0 = none) (fs0 : get S9 sa0 = none) (fk0 : get S9 mk0 = none) (ft0 : get S9 mt0 = none) (M0 : Mo S10 ma0 sa0 mk0 mt0 f0 r0 room ⟨0, [], r0.length + 1, 0⟩)
    (L11 : Le S10 S11) (fm1 : get S10 ma1 = none) (fs1 : get S10 sa1 = none) (fk1 : get S10 mk1 = none) (ft1 : get S10 mt1 = none) (M1 : Mo S11 ma1 sa1 mk1 mt1 f1 r1 2 ⟨0, [], r1.length + 1, 0⟩) (hmo : get S11 mo = none) (L12 : Le S11 S12) (gmo : get S12 mo = some om) (L13 : Le S12 S13) (K15 : KeepBut S13 S15 [h0, h1]) (hhd : get S15 hd = none) (L16 : Le S15 S16) (ghd : get S16 hd = some (.list [])) (L17 : Le S16 S17) (fah : get S16 ah = none) :
    Two S17 (U.mk x0 e0 ru0 sh0 se0 ma0 sa0 f0 r0 room f00 f01 rok0 rl0 hr2) (U.mk x1 e1 ru1 sh1 se1 ma1 sa1 f1 r1 2 f10 f11 rok1 (Nat.le_trans rl1 (by decide)) (by decide)) hd 0 ∧ get S17 wa = some ow ∧ get S17 mo = some om ∧ ∀ a ∈ [wa, mo, ah], a ∉ [e0, sh0, se0, ma0] ∧ a ∉ [e1, sh1, se1, ma1] ∧ a ≠ hd := by
  have L9 := L8.trans L89
  have W1' := W1.le L89
  have L69 := L7.trans L9
  have L610 := L69.trans L10
  have L1012 := L11.trans L12
  have z6 : ∀ {z : Addr}, get S6 z = none → z ∉ [h0, h1] := fun {z} hz q => by
    simp at q
    rcases q with rfl | rfl
    · rw [gh0] at hz; cases hz
    · rw [gh1] at hz; cases hz
  have F0' : ∀ z ∈ [x0, e0, ru0, sh0, se0], z ∉ [h0, h1] := fun z hz => z6 (F0 z hz)
  have F1' : ∀ z ∈ [x1, e1, ru1, sh1, se1], z ∉ [h0, h1] := fun z hz => z6 (L7.none (F1 z hz))
  have G0' : ∀ z ∈ [ma0, sa0, mk0, mt0], z ∉ [h0, h1] := by
    intro z hz
    simp at hz
    rcases hz with rfl | rfl | rfl | rfl
    · exact z6 (L69.none fm0)
    · exact z6 (L69.none fs0)
    · exact z6 (L69.none fk0)
    · exact z6 (L69.none ft0)
  have G1' : ∀ z ∈ [ma1, sa1, mk1, mt1], z ∉ [h0, h1] := by
    intro z hz
    simp at hz
    rcases hz with rfl | rfl | rfl | rfl
    · exact z6 (L610.none fm1)
    · exact z6 (L610.none fs1)
    · exact z6 (L610.none fk1)
    · exact z6 (L610.none ft1)
  have FM0 : ∀ z ∈ [ma0, sa0, mk0, mt0], get S9 z = none := by
    intro z hz
    simp at hz
    rcases hz with rfl | rfl | rfl | rfl <;> assumption
  have FM1 : ∀ z ∈ [ma1, sa1, mk1, mt1], get S10 z = none := by
    intro z hz
    simp at hz
    rcases hz with rfl | rfl | rfl | rfl <;> assumption
  have L713 := (L9.trans L10).trans (L1012.trans L13)
  have W0e := (W0.le L713).keep K15 (F0' _ (by simp)) (F0' _ (by simp)) (F0' _ (by simp)) (F0' _ (by simp)) (F0' _ (by simp))
  have W1e := (W1'.le (L10.trans (L1012.trans L13))).keep K15 (F1' _ (by simp)) (F1' _ (by simp)) (F1' _ (by simp)) (F1' _ (by simp)) (F1' _ (by simp))
  have M0e := (M0.keep (KeepBut.of (as := []) (L1012.trans L13)) (by simp) (by simp) (by simp) (by simp)).keep K15 (G0' _ (by simp)) (G0' _ (by simp)) (G0' _ (by simp)) (G0' _ (by simp))
  have M1e := (M1.keep (KeepBut.of (as := []) (L12.trans L13)) (by simp) (by simp) (by simp) (by simp)).keep K15 (G1' _ (by simp)) (G1' _ (by simp)) (G1' _ (by simp)) (G1' _ (by simp))
  have L1517 := L16.trans L17
  have kf := KeepBut.of (as := []) L1517
  have q1 := fresh_ne W0.live F1
  have q2 := fresh_ne (W0.le (L9.trans L10)).live FM1
  have q3 := fresh_ne W1'.live FM0
  have q4 := fresh_ne M0.live FM1
  have q0 := fresh_ne (W0.le L9).live FM0
  have q5 := fresh_ne (W1'.le L10).live FM1
  have D0 : ∀ a ∈ (U.mk x0 e0 ru0 sh0 se0 ma0 sa0 f0 r0 room f00 f01 rok0 rl0 hr2).all mk0 mt0, a ∉ [e1, sh1, se1, ma1] ++ [hd] := by
    have c1 : ∀ a ∈ [x0, e0, ru0, sh0, se0], a ∉ [e1, sh1, se1, ma1] ++ [hd] := fun a ha q => by
      simp only [List.cons_append, List.nil_append, List.mem_cons, List.not_mem_nil, or_false] at q
      rcases q with q | q | q | q | q
      · exact q1 a ha (by simp [q])
      · exact q1 a ha (by simp [q])
      · exact q1 a ha (by simp [q])
      · exact q2 a ha (by simp [q])
      · exact W0e.live a ha (q ▸ hhd)
    have c2 : ∀ a ∈ [ma0, sa0, mk0, mt0], a ∉ [e1, sh1, se1, ma1] ++ [hd] := fun a ha q => by
      simp only [List.cons_append, List.nil_append, List.mem_cons, List.not_mem_nil, or_false] at q
      rcases q with q | q | q | q | q
      · exact q3 e1 (by simp) (q ▸ ha)
      · exact q3 sh1 (by simp) (q ▸ ha)
      · exact q3 se1 (by simp) (q ▸ ha)
      · exact q4 a ha (by simp [q])
      · exact M0e.live a ha (q ▸ hhd)
    intro a ha
    simp only [U.all, List.mem_cons, List.not_mem_nil, or_false] at ha
    rcases ha with rfl | rfl | rfl | rfl | rfl | rfl | rfl | rfl | rfl
    · exact c1 _ (by simp)
    · exact c1 _ (by simp)
    · exact c2 _ (by simp)
    · exact c2 _ (by simp)
    · exact c2 _ (by simp)
    · exact c1 _ (by simp)
    · exact c1 _ (by simp)
    · exact c1 _ (by simp)
    · exact c2 _ (by simp)
  have D1 : ∀ a ∈ (U.mk x1 e1 ru1 sh1 se1 ma1 sa1 f1 r1 2 f10 f11 rok1 (Nat.le_trans rl1 (by decide)) (by decide)).all mk1 mt1, a ∉ [e0, sh0, se0, ma0] ++ [hd] := by
    have c1 : ∀ a ∈ [x1, e1, ru1, sh1, se1], a ∉ [e0, sh0, se0, ma0] ++ [hd] := fun a ha q => by
      simp only [List.cons_append, List.nil_append, List.mem_cons, List.not_mem_nil, or_false] at q
      rcases q with q | q | q | q | q
      · exact q1 e0 (by simp) (q ▸ ha)
      · exact q1 sh0 (by simp) (q ▸ ha)
      · exact q1 se0 (by simp) (q ▸ ha)
      · exact q3 a ha (by simp [q])
      · exact W1e.live a ha (q ▸ hhd)
    have c2 : ∀ a ∈ [ma1, sa1, mk1, mt1], a ∉ [e0, sh0, se0, ma0] ++ [hd] := fun a ha q => by
      simp only [List.cons_append, List.nil_append, List.mem_cons, List.not_mem_nil, or_false] at q
      rcases q with q | q | q | q | q
      · exact q2 e0 (by simp) (q ▸ ha)
      · exact q2 sh0 (by simp) (q ▸ ha)
      · exact q2 se0 (by simp) (q ▸ ha)
      · exact q4 ma0 (by simp) (q ▸ ha)
      · exact M1e.live a ha (q ▸ hhd)
    intro a ha
    simp only [U.all, List.mem_cons, List.not_mem_nil, or_false] at ha
    rcases ha with rfl | rfl | rfl | rfl | rfl | rfl | rfl | rfl | rfl
    · exact c1 _ (by simp)
    · exact c1 _ (by simp)
    · exact c2 _ (by simp)
    · exact c2 _ (by simp)
    · exact c2 _ (by simp)
    · exact c1 _ (by simp)
    · exact c1 _ (by simp)
    · exact c1 _ (by simp)
    · exact c2 _ (by simp)
  have off' : ∀ {z : Addr} {o : O}, get S6 z = none → get S13 z = some o → get S15 z = some o := fun q q' => K15 _ _ (z6 q) q'
  have gwa' := off' (L7.none (L8.none hwa)) (((L10.trans L1012).trans L13) _ _ gwa)
  have gmo' := off' (L610.none (L11.none hmo)) (L13 _ _ gmo)
  have two : Two S17 (U.mk x0 e0 ru0 sh0 se0 ma0 sa0 f0 r0 room f00 f01 rok0 rl0 hr2) (U.mk x1 e1 ru1 sh1 se1 ma1 sa1 f1 r1 2 f10 f11 rok1 (Nat.le_trans rl1 (by decide)) (by decide)) hd 0 :=
    ⟨_, mk0, mt0, _, mk1, mt1, [], ⟨W0e.le L1517, M0e.keep kf (by simp) (by simp) (by simp) (by simp), fun (q : sa0 = se0) => q0 se0 (by simp) (by rw [← q]; simp), fun (q : mk0 = se0) => q0 se0 (by simp) (by rw [← q]; simp), fun (q : mt0 = se0) => q0 se0 (by simp) (by rw [← q]; simp)⟩,
      ⟨W1e.le L1517, M1e.keep kf (by simp) (by simp) (by simp) (by simp), fun (q : sa1 = se1) => q5 se1 (by simp) (by rw [← q]; simp), fun (q : mk1 = se1) => q5 se1 (by simp) (by rw [← q]; simp), fun (q : mt1 = se1) => q5 se1 (by simp) (by rw [← q]; simp)⟩, D0, D1, L17 _ _ ghd, Nat.le_refl _, by intro p hp; cases hp⟩
  refine ⟨two, L1517 _ _ gwa', L1517 _ _ gmo', ?_⟩
  have a0 : ∀ z, get S8 z = none → z ∉ [e0, sh0, se0] := fun z hz q => (W0.le L8).live z (by simp at q ⊢; rcases q with q | q | q <;> simp [q]) hz
  have a1 : ∀ z, get S8 z = none → z ∉ [e1, sh1, se1] := fun z hz q => W1.live z (by simp at q ⊢; rcases q with q | q | q <;> simp [q]) hz
  have out : ∀ z, z ∉ [e0, sh0, se0] → z ∉ [e1, sh1, se1] → z ≠ ma0 → z ≠ ma1 → z ≠ hd → z ∉ [e0, sh0, se0, ma0] ∧ z ∉ [e1, sh1, se1, ma1] ∧ z ≠ hd := by
    intro z h1 h2 h3 h4 h5
    refine ⟨fun q => ?_, fun q => ?_, h5⟩
    · simp only [List.mem_cons, List.not_mem_nil, or_false] at q h1
      rcases q with q | q | q | q
      · exact h1 (.inl q)
      · exact h1 (.inr (.inl q))
      · exact h1 (.inr (.inr q))
      · exact h3 q
    · simp only [List.mem_cons, List.not_mem_nil, or_false] at q h2
      rcases q with q | q | q | q
      · exact h2 (.inl q)
      · exact h2 (.inr (.inl q))
      · exact h2 (.inr (.inr q))
      · exact h4 q
  have W0g := W0.le (L9.trans (L10.trans L11))
  have W1g := W1'.le (L10.trans L11)
  intro z hz
  simp at hz
  rcases hz with rfl | rfl | rfl
  · exact out _ (a0 _ hwa) (a1 _ hwa) (ne_of gwa fm0) (ne_of (L10 _ _ gwa) fm1) (ne_of gwa' hhd)
  · refine out _ (fun q => W0g.live _ (by simp at q ⊢; rcases q with q | q | q <;> simp [q]) hmo) (fun q => W1g.live _ (by simp at q ⊢; rcases q with q | q | q <;> simp [q]) hmo) (Ne.symm (ne_of (L11 _ _ M0.m) hmo)) (Ne.symm (ne_of M1.m hmo)) (ne_of gmo' hhd)
  · have W0h := W0e.le L16
    have W1h := W1e.le L16
    refine out _ (fun q => W0h.live _ (by simp at q ⊢; rcases q with q | q | q <;> simp [q]) fah) (fun q => W1h.live _ (by simp at q ⊢; rcases q with q | q | q <;> simp [q]) fah) (Ne.symm (ne_of (L16 _ _ M0e.m) fah)) (Ne.symm (ne_of (L16 _ _ M1e.m) fah)) (Ne.symm (ne_of ghd fah))
theorem law_ok (hK : Kc c) (hq : c.q = true) {ns : List Int} (hl : ns.length < 1000) : WPS c 20 (S_law) [("_law_script", .scr ns)] [] B_law (fun fl _ _ => retV fl = .bool true) X := by
  refine WPS.cons ?_
  (repeat' (first | ((fail_if_success (with_reducible show WPS _ _ _ _ _ _ _ _)); (first | (with_reducible refine WPEs.nil ?_) | ((with_reducible refine WPEs.cons ?_ ?_); (case refine_2 => intros; rfl)) | ((with_reducible refine WPs.asg ?_ ?_ ?_); (case refine_2 => rfl); (case refine_3 => intros; rfl)) | ((with_reducible refine c_law_room ‹_› ?_ ?_ ?_); (case refine_1 => rfl); (case refine_3 => intros; rfl)) | ((with_reducible refine' WPE.nm ?_ ?_ ?_ ?_); (case refine'_2 => rfl); (case refine'_4 => decide); (case refine'_5 => decide)) | fail)) | fail))
  refine WL.le (s_room (k := 10) hK hl fun room hr1 hr2 => ?_) (by ((with_reducible apply zB); exact rfl))
  (repeat' (first | ((fail_if_success (with_reducible show WPS _ _ _ _ _ _ _ _)); (first | (with_reducible refine nxt_next ?_) | fail)) | fail))
  refine WPS.cons ?_
  (repeat' (first | ((fail_if_success (with_reducible show WPS _ _ _ _ _ _ _ _)); (first | (with_reducible first | refine WPE.cint ?_ | refine WPEs.nil ?_) | ((with_reducible refine WPEs.cons ?_ ?_); (case refine_2 => intros; rfl)) | ((with_reducible refine WPs.asg ?_ ?_ ?_); (case refine_2 => rfl); (case refine_3 => intros; rfl)) | ((with_reducible refine c_law_row ‹_› ?_ ?_ ?_); (case refine_1 => rfl); (case refine_3 => intros; rfl)) | ((with_reducible refine WPE.lst ?_ ?_); (case refine_2 => decide)) | ((with_reducible refine' WPE.nm ?_ ?_ ?_ ?_); (case refine'_2 => rfl); (case refine'_4 => decide); (case refine'_5 => decide)) | fail)) | fail))
  refine WL.le (s_row (k := 10) (a := 3) (m := 12) hK hq (by decide) (by decide) hl ?_) (by ((with_reducible apply zB); exact rfl))
  intro f0 r0 d0 S1 f00 f01 rok0 rl0 L1 n1 g0
  (repeat' (first | ((fail_if_success (with_reducible show WPS _ _ _ _ _ _ _ _)); (first | (with_reducible first | refine WPE.cint ?_ | refine WPEs.nil ?_) | ((with_reducible refine WPEs.cons ?_ ?_); (case refine_2 => intros; rfl)) | ((with_reducible refine c_law_row ‹_› ?_ ?_ ?_); (case refine_1 => rfl); (case refine_3 => intros; rfl)) | ((with_reducible refine' WPE.nm ?_ ?_ ?_ ?_); (case refine'_2 => rfl); (case refine'_4 => decide); (case refine'_5 => decide)) | fail)) | fail))
  refine WL.le (s_row (k := 10) (a := 30) (m := 5) hK hq (by decide) (by decide) hl ?_) (by ((with_reducible apply zB); exact rfl))
  intro f1 r1 d1 S2 f10 f11 rok1 rl1 L2 n2 g1
  replace g0 := L2 _ _ g0
  (repeat' (first | ((fail_if_success (with_reducible show WPS _ _ _ _ _ _ _ _)); (first | (with_reducible refine WPEs.nil ?_) | fail)) | fail))
  intro ro hro
  have gro : get ((ro, O.list [.tup [.int f0, .ref d0], .tup [.int f1, .ref d1]]) :: S2) ro = some (.list [.tup [.int f0, .ref d0], .tup [.int f1, .ref d1]]) := get_head
  replace g0 := (Le.alloc (o := .list [.tup [.int f0, .ref d0], .tup [.int f1, .ref d1]]) hro) _ _ g0
  replace g1 := (Le.alloc (o := .list [.tup [.int f0, .ref d0], .tup [.int f1, .ref d1]]) hro) _ _ g1
  generalize (ro, O.list [.tup [.int f0, .ref d0], .tup [.int f1, .ref d1]]) :: S2 = S3 at gro g0 g1 ⊢
  (repeat' (first | ((fail_if_success (with_reducible show WPS _ _ _ _ _ _ _ _)); (first | (with_reducible refine nxt_next ?_) | fail)) | fail))
  refine WPS.cons ?_
  (repeat' (first | ((fail_if_success (with_reducible show WPS _ _ _ _ _ _ _ _)); (first | (with_reducible refine WPE.cint ?_) | ((with_reducible refine WPEs.cons ?_ ?_); (case refine_2 => intros; rfl)) | ((with_reducible refine WPs.asg ?_ ?_ ?_); (case refine_2 => rfl); (case refine_3 => intros; rfl)) | ((with_reducible refine c_list ‹_› ?_ ?_ ?_); (case refine_1 => rfl); (case refine_3 => intros; rfl)) | (with_reducible refine WPE.sub ?_) | ((with_reducible refine WPE.lst ?_ ?_); (case refine_2 => decide)) | ((with_reducible refine' WPE.nm ?_ ?_ ?_ ?_); (case refine'_2 => rfl); (case refine'_4 => decide); (case refine'_5 => decide)) | fail)) | fail))
  refine W2.listAt gro rfl rfl (by rfl) ?_
  (repeat' (first | ((fail_if_success (with_reducible show WPS _ _ _ _ _ _ _ _)); (first | (with_reducible first | refine WPE.cint ?_ | refine WPEs.nil ?_) | ((with_reducible refine' W2.tupAt ?_ ?_ ?_ ?_); (case refine'_2 => rfl); (case refine'_3 => rfl); (case refine'_4 => rfl)) | fail)) | fail))
  refine WL.listOf g0 (by simp; ((with_reducible apply zD); (with_reducible assumption); exact rfl)) ?_
  intro h0 hh0
  have gh0 : get ((h0, O.list (r0.map Ru.v)) :: S3) h0 = some (.list (r0.map Ru.v)) := get_head
  have nh0 : d0 ≠ h0 ∧ d1 ≠ h0 ∧ ro ≠ h0 := ⟨ne_of g0 hh0, ne_of g1 hh0, ne_of gro hh0⟩
  have L3 := Le.alloc (o := .list (r0.map Ru.v)) hh0
  replace g0 := L3 _ _ g0
  replace g1 := L3 _ _ g1
  replace gro := L3 _ _ gro
  clear L3
  generalize (h0, O.list (r0.map Ru.v)) :: S3 = S4 at gro g0 g1 gh0 ⊢
  (repeat' (first | ((fail_if_success (with_reducible show WPS _ _ _ _ _ _ _ _)); (first | (with_reducible refine WPE.cint ?_) | ((with_reducible refine WPEs.cons ?_ ?_); (case refine_2 => intros; rfl)) | ((with_reducible refine c_list ‹_› ?_ ?_ ?_); (case refine_1 => rfl); (case refine_3 => intros; rfl)) | (with_reducible refine WPE.sub ?_) | ((with_reducible refine' WPE.nm ?_ ?_ ?_ ?_); (case refine'_2 => rfl); (case refine'_4 => decide); (case refine'_5 => decide)) | fail)) | fail))
  refine W2.listAt gro rfl rfl (by rfl) ?_
  (repeat' (first | ((fail_if_success (with_reducible show WPS _ _ _ _ _ _ _ _)); (first | (with_reducible first | refine WPE.cint ?_ | refine WPEs.nil ?_) | ((with_reducible refine' W2.tupAt ?_ ?_ ?_ ?_); (case refine'_2 => rfl); (case refine'_3 => rfl); (case refine'_4 => rfl)) | fail)) | fail))
  refine WL.listOf g1 (by simp; ((with_reducible apply zD); (with_reducible assumption); exact rfl)) ?_
  intro h1 hh1
  have gh1 : get ((h1, O.list (r1.map Ru.v)) :: S4) h1 = some (.list (r1.map Ru.v)) := get_head
  have nh1 : d0 ≠ h1 ∧ d1 ≠ h1 ∧ ro ≠ h1 ∧ h0 ≠ h1 := ⟨ne_of g0 hh1, ne_of g1 hh1, ne_of gro hh1, ne_of gh0 hh1⟩
  have L4 := Le.alloc (o := .list (r1.map Ru.v)) hh1
  replace g0 := L4 _ _ g0
  replace g1 := L4 _ _ g1
  replace gro := L4 _ _ gro
  replace gh0 := L4 _ _ gh0
  clear L4
  generalize (h1, O.list (r1.map Ru.v)) :: S4 = S5 at gro g0 g1 gh0 gh1 ⊢
  (repeat' (first | ((fail_if_success (with_reducible show WPS _ _ _ _ _ _ _ _)); (first | (with_reducible refine WPEs.nil ?_) | fail)) | fail))
  intro ha hha
  have gha : get ((ha, O.list [.ref h0, .ref h1]) :: S5) ha = some (.list [.ref h0, .ref h1]) := get_head
  have nha : h0 ≠ ha ∧ h1 ≠ ha := ⟨ne_of gh0 hha, ne_of gh1 hha⟩
  have L5 := Le.alloc (o := .list [.ref h0, .ref h1]) hha
  replace g0 := L5 _ _ g0
  replace g1 := L5 _ _ g1
  replace gro := L5 _ _ gro
  replace gh0 := L5 _ _ gh0
  replace gh1 := L5 _ _ gh1
  clear L5
  generalize (ha, O.list [.ref h0, .ref h1]) :: S5 = S6 at gro g0 g1 gh0 gh1 gha ⊢
  (repeat' (first | ((fail_if_success (with_reducible show WPS _ _ _ _ _ _ _ _)); (first | (with_reducible refine nxt_next ?_) | fail)) | fail))
  refine WPS.cons ?_
  (repeat' (first | ((fail_if_success (with_reducible show WPS _ _ _ _ _ _ _ _)); (first | (with_reducible refine WPE.cint ?_) | ((with_reducible refine WPEs.cons ?_ ?_); (case refine_2 => intros; rfl)) | ((with_reducible refine WPs.asg ?_ ?_ ?_); (case refine_2 => rfl); (case refine_3 => intros; rfl)) | ((with_reducible refine c_Walker ‹_› ?_ ?_ ?_); (case refine_1 => rfl); (case refine_3 => intros; rfl)) | (with_reducible refine WPE.sub ?_) | ((with_reducible refine WPE.lst ?_ ?_); (case refine_2 => decide)) | ((with_reducible refine' WPE.nm ?_ ?_ ?_ ?_); (case refine'_2 => rfl); (case refine'_4 => decide); (case refine'_5 => decide)) | fail)) | fail))
  refine W2.listAt gro rfl rfl (by rfl) ?_
  (repeat' (first | ((fail_if_success (with_reducible show WPS _ _ _ _ _ _ _ _)); (first | (with_reducible refine WPE.cint ?_) | ((with_reducible refine WPEs.cons ?_ ?_); (case refine_2 => intros; rfl)) | (with_reducible refine WPE.sub ?_) | ((with_reducible refine' WPE.nm ?_ ?_ ?_ ?_); (case refine'_2 => rfl); (case refine'_4 => decide); (case refine'_5 => decide)) | ((with_reducible refine' W2.tupAt ?_ ?_ ?_ ?_); (case refine'_2 => rfl); (case refine'_3 => rfl); (case refine'_4 => rfl)) | fail)) | fail))
  refine W2.listAt gha rfl rfl (by rfl) ?_
  (repeat' (first | ((fail_if_success (with_reducible show WPS _ _ _ _ _ _ _ _)); (first | (with_reducible refine WPEs.nil ?_) | ((with_reducible refine WPEs.cons ?_ ?_); (case refine_2 => intros; rfl)) | ((with_reducible refine' WPE.nm ?_ ?_ ?_ ?_); (case refine'_2 => rfl); (case refine'_4 => decide); (case refine'_5 => decide)) | fail)) | fail))
  refine WL.le (s_Walker (k := 4) hK hq gh0 ⟨f00, f01⟩ rok0 (by ((with_reducible apply zD); (with_reducible assumption); exact rfl)) hr1 hr2 ?_) (by ((with_reducible apply zB); exact rfl))
  intro x0 e0 ru0 sh0 se0 S7 L7 F0 W0
  (repeat' (first | ((fail_if_success (with_reducible show WPS _ _ _ _ _ _ _ _)); (first | (with_reducible refine WPE.cint ?_) | ((with_reducible refine WPEs.cons ?_ ?_); (case refine_2 => intros; rfl)) | ((with_reducible refine c_Walker ‹_› ?_ ?_ ?_); (case refine_1 => rfl); (case refine_3 => intros; rfl)) | (with_reducible refine WPE.sub ?_) | ((with_reducible refine' WPE.nm ?_ ?_ ?_ ?_); (case refine'_2 => rfl); (case refine'_4 => decide); (case refine'_5 => decide)) | fail)) | fail))
  refine W2.listAt (L7 _ _ gro) rfl rfl (by rfl) ?_
  (repeat' (first | ((fail_if_success (with_reducible show WPS _ _ _ _ _ _ _ _)); (first | (with_reducible refine WPE.cint ?_) | ((with_reducible refine WPEs.cons ?_ ?_); (case refine_2 => intros; rfl)) | (with_reducible refine WPE.sub ?_) | ((with_reducible refine' WPE.nm ?_ ?_ ?_ ?_); (case refine'_2 => rfl); (case refine'_4 => decide); (case refine'_5 => decide)) | ((with_reducible refine' W2.tupAt ?_ ?_ ?_ ?_); (case refine'_2 => rfl); (case refine'_3 => rfl); (case refine'_4 => rfl)) | fail)) | fail))
  refine W2.listAt (L7 _ _ gha) rfl rfl (by rfl) ?_
  (repeat' (first | ((fail_if_success (with_reducible show WPS _ _ _ _ _ _ _ _)); (first | (with_reducible first | refine WPE.cint ?_ | refine WPEs.nil ?_) | ((with_reducible refine WPEs.cons ?_ ?_); (case refine_2 => intros; rfl)) | fail)) | fail))
  refine WL.le (s_Walker (k := 4) (room := 2) hK hq (L7 _ _ gh1) ⟨f10, f11⟩ rok1 (by ((with_reducible apply zD); (with_reducible assumption); exact rfl)) (by decide) (by decide) ?_) (by ((with_reducible apply zB); exact rfl))
  intro x1 e1 ru1 sh1 se1 S8 L8 F1 W1
  (repeat' (first | ((fail_if_success (with_reducible show WPS _ _ _ _ _ _ _ _)); (first | (with_reducible refine WPEs.nil ?_) | fail)) | fail))
  intro wa hwa
  have gwa : get ((wa, O.list [.ref x0, .ref x1]) :: S8) wa = some (.list [.ref x0, .ref x1]) := get_head
  have L89 := Le.alloc (o := .list [.ref x0, .ref x1]) hwa
  generalize (wa, O.list [.ref x0, .ref x1]) :: S8 = S9 at gwa L89 ⊢
  have L9 := L8.trans L89
  have L69 := L7.trans L9
  (repeat' (first | ((fail_if_success (with_reducible show WPS _ _ _ _ _ _ _ _)); (first | (with_reducible refine nxt_next ?_) | fail)) | fail))
  refine WPS.cons ?_
  (repeat' (first | ((fail_if_success (with_reducible show WPS _ _ _ _ _ _ _ _)); (first | (with_reducible refine WPE.cint ?_) | ((with_reducible refine WPEs.cons ?_ ?_); (case refine_2 => intros; rfl)) | ((with_reducible refine WPs.asg ?_ ?_ ?_); (case refine_2 => rfl); (case refine_3 => intros; rfl)) | ((with_reducible refine c_law_new ‹_› ?_ ?_ ?_); (case refine_1 => rfl); (case refine_3 => intros; rfl)) | (with_reducible refine WPE.sub ?_) | ((with_reducible refine WPE.lst ?_ ?_); (case refine_2 => decide)) | ((with_reducible refine' WPE.nm ?_ ?_ ?_ ?_); (case refine'_2 => rfl); (case refine'_4 => decide); (case refine'_5 => decide)) | fail)) | fail))
  refine W2.listAt (L69 _ _ gro) rfl rfl (by rfl) ?_
  (repeat' (first | ((fail_if_success (with_reducible show WPS _ _ _ _ _ _ _ _)); (first | (with_reducible refine WPE.cint ?_) | ((with_reducible refine WPEs.cons ?_ ?_); (case refine_2 => intros; rfl)) | (with_reducible refine WPE.sub ?_) | ((with_reducible refine' WPE.nm ?_ ?_ ?_ ?_); (case refine'_2 => rfl); (case refine'_4 => decide); (case refine'_5 => decide)) | ((with_reducible refine' W2.tupAt ?_ ?_ ?_ ?_); (case refine'_2 => rfl); (case refine'_3 => rfl); (case refine'_4 => rfl)) | fail)) | fail))
  refine W2.listAt (L69 _ _ gro) rfl rfl (by rfl) ?_
  (repeat' (first | ((fail_if_success (with_reducible show WPS _ _ _ _ _ _ _ _)); (first | (with_reducible first | refine WPE.cint ?_ | refine WPEs.nil ?_) | ((with_reducible refine WPEs.cons ?_ ?_); (case refine_2 => intros; rfl)) | ((with_reducible refine' WPE.nm ?_ ?_ ?_ ?_); (case refine'_2 => rfl); (case refine'_4 => decide); (case refine'_5 => decide)) | ((with_reducible refine' W2.tupAt ?_ ?_ ?_ ?_); (case refine'_2 => rfl); (case refine'_3 => rfl); (case refine'_4 => rfl)) | fail)) | fail))
  refine WL.le (s_new (k := 4) (room := room) hK hq (L69 _ _ g0) ⟨f00, f01⟩ rok0 (by with_reducible assumption) ?_) (by ((with_reducible apply zB); exact rfl))
  intro ma0 sa0 mk0 mt0 S10 L10 fm0 fs0 fk0 ft0 M0
  have L610 := L69.trans L10
  (repeat' (first | ((fail_if_success (with_reducible show WPS _ _ _ _ _ _ _ _)); (first | (with_reducible refine WPE.cint ?_) | ((with_reducible refine WPEs.cons ?_ ?_); (case refine_2 => intros; rfl)) | ((with_reducible refine c_law_new ‹_› ?_ ?_ ?_); (case refine_1 => rfl); (case refine_3 => intros; rfl)) | (with_reducible refine WPE.sub ?_) | ((with_reducible refine' WPE.nm ?_ ?_ ?_ ?_); (case refine'_2 => rfl); (case refine'_4 => decide); (case refine'_5 => decide)) | fail)) | fail))
  refine W2.listAt (L610 _ _ gro) rfl rfl (by rfl) ?_
  (repeat' (first | ((fail_if_success (with_reducible show WPS _ _ _ _ _ _ _ _)); (first | (with_reducible refine WPE.cint ?_) | ((with_reducible refine WPEs.cons ?_ ?_); (case refine_2 => intros; rfl)) | (with_reducible refine WPE.sub ?_) | ((with_reducible refine' WPE.nm ?_ ?_ ?_ ?_); (case refine'_2 => rfl); (case refine'_4 => decide); (case refine'_5 => decide)) | ((with_reducible refine' W2.tupAt ?_ ?_ ?_ ?_); (case refine'_2 => rfl); (case refine'_3 => rfl); (case refine'_4 => rfl)) | fail)) | fail))
  refine W2.listAt (L610 _ _ gro) rfl rfl (by rfl) ?_
  (repeat' (first | ((fail_if_success (with_reducible show WPS _ _ _ _ _ _ _ _)); (first | (with_reducible first | refine WPE.cint ?_ | refine WPEs.nil ?_) | ((with_reducible refine WPEs.cons ?_ ?_); (case refine_2 => intros; rfl)) | ((with_reducible refine' W2.tupAt ?_ ?_ ?_ ?_); (case refine'_2 => rfl); (case refine'_3 => rfl); (case refine'_4 => rfl)) | fail)) | fail))
  refine WL.le (s_new (k := 4) (room := 2) hK hq (L610 _ _ g1) ⟨f10, f11⟩ rok1 (by ((with_reducible apply zD); (with_reducible assumption); exact rfl)) ?_) (by ((with_reducible apply zB); exact rfl))
  intro ma1 sa1 mk1 mt1 S11 L11 fm1 fs1 fk1 ft1 M1
  (repeat' (first | ((fail_if_success (with_reducible show WPS _ _ _ _ _ _ _ _)); (first | (with_reducible refine WPEs.nil ?_) | fail)) | fail))
  intro mo hmo
  have L12 := Le.alloc (o := .list [.ref ma0, .ref ma1]) hmo
  have gmo : get ((mo, O.list [.ref ma0, .ref ma1]) :: S11) mo = some (.list [.ref ma0, .ref ma1]) := get_head
  generalize (mo, O.list [.ref ma0, .ref ma1]) :: S11 = S12 at L12 gmo ⊢
  have L1012 := L11.trans L12
  have L612 := L610.trans L1012
  (repeat' (first | ((fail_if_success (with_reducible show WPS _ _ _ _ _ _ _ _)); (first | (with_reducible refine nxt_next ?_) | fail)) | fail))
  refine WPS.cons ?_
  (repeat' (first | ((fail_if_success (with_reducible show WPS _ _ _ _ _ _ _ _)); (first | (with_reducible first | refine WPE.cint ?_ | refine WPs.ifs ?_) | ((with_reducible refine WPEs.cons ?_ ?_); (case refine_2 => intros; rfl)) | ((with_reducible refine WPB.cmp ?_ ?_); (case refine_2 => rfl)) | (with_reducible refine WPE.sub ?_) | ((with_reducible refine WPE.lst ?_ ?_); (case refine_2 => decide)) | ((with_reducible refine' WPE.nm ?_ ?_ ?_ ?_); (case refine'_2 => rfl); (case refine'_4 => decide); (case refine'_5 => decide)) | fail)) | fail))
  refine W2.listAt (L612 _ _ gro) rfl rfl (by rfl) ?_
  (repeat' (first | ((fail_if_success (with_reducible show WPS _ _ _ _ _ _ _ _)); (first | (with_reducible refine WPE.cint ?_) | ((with_reducible refine WPEs.cons ?_ ?_); (case refine_2 => intros; rfl)) | (with_reducible refine WPE.sub ?_) | ((with_reducible refine' WPE.nm ?_ ?_ ?_ ?_); (case refine'_2 => rfl); (case refine'_4 => decide); (case refine'_5 => decide)) | ((with_reducible refine' W2.tupAt ?_ ?_ ?_ ?_); (case refine'_2 => rfl); (case refine'_3 => rfl); (case refine'_4 => rfl)) | fail)) | fail))
  refine W2.listAt (L612 _ _ gro) rfl rfl (by rfl) ?_
  (repeat' (first | ((fail_if_success (with_reducible show WPS _ _ _ _ _ _ _ _)); (first | (with_reducible first | refine WPE.cint ?_ | refine WPEs.nil ?_) | ((with_reducible refine' W2.tupAt ?_ ?_ ?_ ?_); (case refine'_2 => rfl); (case refine'_3 => rfl); (case refine'_4 => rfl)) | fail)) | fail))
  intro lb hlb
  have L13 := Le.alloc (o := .list [.ref d0, .ref d1]) hlb
  have glb : get ((lb, O.list [.ref d0, .ref d1]) :: S12) lb = some (.list [.ref d0, .ref d1]) := get_head
  generalize (lb, O.list [.ref d0, .ref d1]) :: S12 = S13 at L13 glb ⊢
  have L613 := L612.trans L13
  refine ne_rows (L613 _ _ gha) glb (L613 _ _ gh0) (L613 _ _ gh1) (L613 _ _ g0) (L613 _ _ g1) ?_
  (repeat' (first | (with_reducible refine WPS.nil ?_) | ((fail_if_success (with_reducible show WPS _ _ _ _ _ _ _ _)); (first | (with_reducible first | refine nxt_next ?_ | refine cnd_f ?_ | refine ⟨_, rfl, ?_⟩) | fail)) | fail))
  refine WPS.cons ?_
  (repeat' (first | ((fail_if_success (with_reducible show WPS _ _ _ _ _ _ _ _)); (first | (with_reducible refine WPE.cint ?_) | ((with_reducible refine WPs.expr ?_ ?_); (case refine_2 => intros; rfl)) | (with_reducible refine WPE.sub ?_) | ((with_reducible refine' WPE.nm ?_ ?_ ?_ ?_); (case refine'_2 => rfl); (case refine'_4 => decide); (case refine'_5 => decide)) | ((with_reducible refine WPE.mClear ?_ ?_ ?_); (case refine_2 => rfl); (case refine_3 => intros; exact ⟨_, rfl⟩)) | fail)) | fail))
  refine W2.listAt (L613 _ _ gha) rfl rfl (by rfl) ?_
  refine ⟨_, _, rfl, L613 _ _ gh0, ?_⟩
  (repeat' (first | ((fail_if_success (with_reducible show WPS _ _ _ _ _ _ _ _)); (first | (with_reducible refine WPEs.nil ?_) | fail)) | fail))
  refine WL.clear (L613 _ _ gh0) (by simp; ((with_reducible apply zD); (with_reducible assumption); exact rfl)) ?_
  have K14 : KeepBut S13 (upd S13 h0 (.list [])) [h0, h1] := KeepBut.refl.upd (by simp)
  have gh1' : get (upd S13 h0 (.list [])) h1 = some (.list (r1.map Ru.v)) := (get_upd_ne (Ne.symm nh1.2.2.2)).trans (L613 _ _ gh1)
  generalize upd S13 h0 (.list []) = S14 at K14 gh1' ⊢
  have off : ∀ {z : Addr} {o : O}, z ≠ h0 → z ≠ h1 → get S13 z = some o → get S14 z = some o := fun q1 q2 q => K14 _ _ (by simp [q1, q2]) q
  (repeat' (first | ((fail_if_success (with_reducible show WPS _ _ _ _ _ _ _ _)); (first | (with_reducible refine nxt_next ?_) | fail)) | fail))
  refine WPS.cons ?_
  (repeat' (first | ((fail_if_success (with_reducible show WPS _ _ _ _ _ _ _ _)); (first | (with_reducible refine WPE.cint ?_) | ((with_reducible refine WPs.expr ?_ ?_); (case refine_2 => intros; rfl)) | (with_reducible refine WPE.sub ?_) | ((with_reducible refine' WPE.nm ?_ ?_ ?_ ?_); (case refine'_2 => rfl); (case refine'_4 => decide); (case refine'_5 => decide)) | ((with_reducible refine WPE.mAppend ?_ ?_ ?_); (case refine_2 => rfl); (case refine_3 => intros; exact ⟨_, rfl⟩)) | fail)) | fail))
  refine W2.listAt (off (Ne.symm nha.1) (Ne.symm nha.2) (L613 _ _ gha)) rfl rfl (by rfl) ?_
  refine ⟨_, _, rfl, gh1', ?_⟩
  (repeat' (first | ((fail_if_success (with_reducible show WPS _ _ _ _ _ _ _ _)); (first | (with_reducible first | refine WPE.cnone ?_ | refine WPEs.nil ?_) | ((with_reducible refine WPEs.cons ?_ ?_); (case refine_2 => intros; rfl)) | fail)) | fail))
  refine WL.append gh1' (by simp; ((with_reducible apply zD); (with_reducible assumption); exact rfl)) ?_
  have K15 := K14.upd (x := h1) (o := .list (r1.map Ru.v ++ [.none])) (by simp)
  generalize upd S14 h1 (.list (r1.map Ru.v ++ [.none])) = S15 at K15 ⊢
  clear off
  have off : ∀ {z : Addr} {o : O}, z ≠ h0 → z ≠ h1 → get S13 z = some o → get S15 z = some o := fun q1 q2 q => K15 _ _ (by simp [q1, q2]) q
  have gro' := off nh0.2.2 nh1.2.2.1 (L613 _ _ gro)
  have g0' := off nh0.1 nh1.1 (L613 _ _ g0)
  (repeat' (first | ((fail_if_success (with_reducible show WPS _ _ _ _ _ _ _ _)); (first | (with_reducible refine nxt_next ?_) | fail)) | fail))
  refine WPS.cons ?_
  (repeat' (first | ((fail_if_success (with_reducible show WPS _ _ _ _ _ _ _ _)); (first | (with_reducible refine WPEs.nil ?_) | ((with_reducible refine WPs.asg ?_ ?_ ?_); (case refine_2 => rfl); (case refine_3 => intros; rfl)) | ((with_reducible refine WPE.lst ?_ ?_); (case refine_2 => decide)) | fail)) | fail))
  intro hd hhd
  have L16 := Le.alloc (o := .list []) hhd
  have ghd : get ((hd, O.list []) :: S15) hd = some (.list []) := get_head
  generalize (hd, O.list []) :: S15 = S16 at L16 ghd ⊢
  (repeat' (first | ((fail_if_success (with_reducible show WPS _ _ _ _ _ _ _ _)); (first | (with_reducible refine nxt_next ?_) | fail)) | fail))
  refine WPS.cons ?_
  (repeat' (first | ((fail_if_success (with_reducible show WPS _ _ _ _ _ _ _ _)); (first | (with_reducible refine WPE.cint ?_) | ((with_reducible refine WPEs.cons ?_ ?_); (case refine_2 => intros; rfl)) | ((with_reducible refine WPs.asg ?_ ?_ ?_); (case refine_2 => rfl); (case refine_3 => intros; rfl)) | ((with_reducible refine c_law_ahead ‹_› ?_ ?_ ?_); (case refine_1 => rfl); (case refine_3 => intros; rfl)) | ((with_reducible refine c_len ‹_› ?_ ?_ ?_); (case refine_1 => rfl); (case refine_3 => intros; rfl)) | (with_reducible refine WPE.sub ?_) | ((with_reducible refine' WPE.nm ?_ ?_ ?_ ?_); (case refine'_2 => rfl); (case refine'_4 => decide); (case refine'_5 => decide)) | fail)) | fail))
  refine W2.listAt (L16 _ _ gro') rfl rfl (by rfl) ?_
  (repeat' (first | ((fail_if_success (with_reducible show WPS _ _ _ _ _ _ _ _)); (first | (with_reducible first | refine WPE.cint ?_ | refine WPEs.nil ?_) | ((with_reducible refine' W2.tupAt ?_ ?_ ?_ ?_); (case refine'_2 => rfl); (case refine'_3 => rfl); (case refine'_4 => rfl)) | fail)) | fail))
  refine WL.lenList (L16 _ _ g0') (by simp; ((with_reducible apply zF); (with_reducible assumption); exact rfl)) ?_
  rw [List.length_map]
  (repeat' (first | ((fail_if_success (with_reducible show WPS _ _ _ _ _ _ _ _)); (first | (with_reducible refine WPEs.nil ?_) | fail)) | fail))
  refine WL.le (s_ahead (k := 4) hK hq hl (by with_reducible assumption) ?_) (by ((with_reducible apply zB); exact rfl))
  intro ah l S17 L17 fah gah hl7 hld
  (repeat' (first | ((fail_if_success (with_reducible show WPS _ _ _ _ _ _ _ _)); (first | (with_reducible refine nxt_next ?_) | fail)) | fail))
  obtain ⟨two, tw, tm, hap⟩ := setup f00 f01 rok0 rl0 hr2 f10 f11 rok1 rl1 gh0 gh1 L7 F0 W0 L8 F1 W1 hwa L89 gwa L10 fm0 fs0 fk0 ft0 M0 L11 fm1 fs1 fk1 ft1 M1 hmo L12 gmo L13 K15 hhd L16 ghd L17 fah
  refine the_loop hK hq hl two tw tm gah hl7 hld hap ?_
  exact (.cons rfl (.cons rfl (.cons rfl (.cons rfl (.cons rfl .nil)))))
end

end Mine
theorem Mine.top.tw16900427199656544559 : True := True.intro
theorem Mine.top.tw16104615914030681952 : True := True.intro
theorem Mine.top.tw18186074749648716422 : True := True.intro
theorem Mine.top.tw18085771088847121727 : True := True.intro
theorem Mine.top.tw13829848534252745078 : True := True.intro
theorem Mine.top.tw17319616089558610156 : True := True.intro
theorem Mine.top.tw15569959144833144457 : True := True.intro
theorem Mine.top.tw14372152842798730730 : True := True.intro
theorem Mine.top.tw6662652255960138227 : True := True.intro
theorem Mine.top.tw12317137736924338119 : True := True.intro
theorem Mine.top.tw12080426169559351053 : True := True.intro
theorem Mine.top.tw13896958669275611876 : True := True.intro
theorem Mine.top.tw4498253355057717688 : True := True.intro
theorem Mine.top.tw16541100652227675460 : True := True.intro
theorem Mine.top.tw5915399644114372684 : True := True.intro
theorem Mine.top.tw16795567611416646642 : True := True.intro
theorem Mine.top.tw11141966352661209427 : True := True.intro
theorem Mine.top.tw8973803690348224638 : True := True.intro
theorem Mine.top.tw8443935842833279946 : True := True.intro
theorem Mine.top.tw6930518751129746686 : True := True.intro
theorem Mine.top.tw14208091113509526093 : True := True.intro
theorem Mine.top.tw10987319290404115282 : True := True.intro
theorem Mine.top.tw7715697345341360870 : True := True.intro
theorem Mine.top.tw13370750898655102155 : True := True.intro
theorem Mine.top.tw16093936019704036451 : True := True.intro
theorem Mine.top.tw16082718784150747160 : True := True.intro
theorem Mine.top.tw18195763609753814110 : True := True.intro
theorem Mine.top.tw2243170655852947205 : True := True.intro
theorem Mine.top.tw18064794426631996164 : True := True.intro
theorem Mine.top.tw16550210197400561554 : True := True.intro
theorem Mine.top.tw2665807947273092163 : True := True.intro
theorem Mine.top.tw2847958352784047137 : True := True.intro
theorem Mine.top.tw649594095290182367 : True := True.intro
theorem Mine.top.tw2842448439041094035 : True := True.intro
theorem Mine.top.tw4047667213573674445 : True := True.intro
theorem Mine.top.tw2812155379371279736 : True := True.intro
theorem Mine.top.tw11470252648414753811 : True := True.intro
theorem Mine.top.tw9503340733035011235 : True := True.intro
theorem Mine.top.tw8321918168302905379 : True := True.intro
theorem Mine.top.tw8265191368974092141 : True := True.intro
theorem Mine.top.tw11199532085631943738 : True := True.intro
theorem Mine.top.tw23087011456773342 : True := True.intro
theorem Mine.top.tw7458633546980236471 : True := True.intro
theorem Mine.top.tw11992373642698794601 : True := True.intro
theorem Mine.top.tw17469865338272021226 : True := True.intro
theorem Mine.top.tw9059832203979395877 : True := True.intro
theorem Mine.top.tw3474246075231452896 : True := True.intro
theorem Mine.top.tw16123964013534891561 : True := True.intro
theorem Mine.top.tw2834867161891130308 : True := True.intro
theorem Mine.top.tw16273406610938067001 : True := True.intro
theorem Mine.top.tw3337584539547039419 : True := True.intro
theorem Mine.top.tw2555065506035805374 : True := True.intro
theorem Mine.top.tw12105128591322288922 : True := True.intro
theorem Mine.top.tw14597223018079223185 : True := True.intro
theorem Mine.top.tw11960245374511038805 : True := True.intro
theorem Mine.top.tw6333448901615975916 : True := True.intro
theorem Mine.top.tw11624971203582042403 : True := True.intro
theorem Mine.top.tw11219769389204665010 : True := True.intro
theorem Mine.top.tw11466170419677230873 : True := True.intro
theorem Mine.top.tw1142415686869020238 : True := True.intro
theorem Mine.top.tw7198060816514059695 : True := True.intro
theorem Mine.top.tw16325430554902658873 : True := True.intro
theorem Mine.top.tw16821654228018055803 : True := True.intro
theorem Mine.top.tw968817249337777631 : True := True.intro
theorem Mine.top.tw1149218181149386328 : True := True.intro
theorem Mine.top.tw9378254376102152143 : True := True.intro
theorem Mine.top.tw6211089042160764376 : True := True.intro
theorem Mine.top.tw2462062305354472974 : True := True.intro
theorem Mine.top.tw8184561461823581802 : True := True.intro
theorem Mine.top.tw370947364307004932 : True := True.intro
theorem Mine.top.tw8622502720953521162 : True := True.intro
theorem Mine.top.tw10861960076438210015 : True := True.intro
theorem Mine.top.tw1088946173253831356 : True := True.intro
theorem Mine.top.tw16598799759364053327 : True := True.intro
theorem Mine.top.tw4299629679881509495 : True := True.intro
theorem Mine.top.tw9063741608606530840 : True := True.intro
theorem Mine.top.tw16174758807025615021 : True := True.intro
theorem Mine.top.tw14282377253939248939 : True := True.intro
theorem Mine.top.tw12958502747184954254 : True := True.intro
theorem Mine.top.tw10448899703829047738 : True := True.intro
theorem Mine.top.tw11922380849998532372 : True := True.intro
theorem Mine.top.tw14789260269991461300 : True := True.intro
theorem Mine.top.tw5969682004907312646 : True := True.intro
theorem Mine.top.tw6883741973766446791 : True := True.intro
theorem Mine.top.tw15988258018655671626 : True := True.intro
theorem Mine.top.tw1617357707322924660 : True := True.intro
theorem Mine.top.tw6189045185395380447 : True := True.intro
theorem Mine.top.tw12718909917080609646 : True := True.intro
theorem Mine.top.tw1954699219915387809 : True := True.intro
set_option Elab.async true in
set_option maxHeartbeats 8000000 in
theorem Mine.top : PySem.Challenge.rw_uf040029_05.Holds := by
  w_on; o_law; k_head; (case hw => w_witness2)
  intro w s₀ s₁ mg mb G Y fa o pm cd doc dV kV ho hd' hcd hD hmg hg args vals as hpre hlay hrd hwl hlo
  have KX := kIn_of Y
  have T := G.T
  refine Mine.useK KX ?_ (fun kf => ?_)
  · exact {
      fn_between := ⟨⟨_, _, rfl, rfl, rfl, rfl, rfl, rfl, rfl, rfl, fun xs h => by obtain ⟨x0, ys0, e0, h0⟩ := Mine.len1 h; subst e0; obtain ⟨x1, ys1, e1, h1⟩ := Mine.len1 h0; subst e1; obtain ⟨x2, ys2, e2, h2⟩ := Mine.len1 h1; subst e2; have e := Mine.len0 h2; subst e; rfl⟩, by rfl, rfl, rfl, rfl, by decide⟩
      g_between := rfl
      k_between := rfl
      fn_is_state := ⟨⟨_, _, rfl, rfl, rfl, rfl, rfl, rfl, rfl, rfl, fun xs h => by obtain ⟨x0, ys0, e0, h0⟩ := Mine.len1 h; subst e0; have e := Mine.len0 h0; subst e; rfl⟩, by rfl, rfl, rfl, rfl, by decide⟩
      g_is_state := rfl
      k_is_state := rfl
      fn_is_rule := ⟨⟨_, _, rfl, rfl, rfl, rfl, rfl, rfl, rfl, rfl, fun xs h => by obtain ⟨x0, ys0, e0, h0⟩ := Mine.len1 h; subst e0; have e := Mine.len0 h0; subst e; rfl⟩, by rfl, rfl, rfl, rfl, by decide⟩
      g_is_rule := rfl
      k_is_rule := rfl
      fn_forth := ⟨⟨_, _, rfl, rfl, rfl, rfl, rfl, rfl, rfl, rfl, fun xs h => by obtain ⟨x0, ys0, e0, h0⟩ := Mine.len1 h; subst e0; obtain ⟨x1, ys1, e1, h1⟩ := Mine.len1 h0; subst e1; have e := Mine.len0 h1; subst e; rfl⟩, by rfl, rfl, rfl, rfl, by decide⟩
      g_forth := rfl
      k_forth := rfl
      fn_need_row := ⟨⟨_, _, rfl, rfl, rfl, rfl, rfl, rfl, rfl, rfl, fun xs h => by obtain ⟨x0, ys0, e0, h0⟩ := Mine.len1 h; subst e0; obtain ⟨x1, ys1, e1, h1⟩ := Mine.len1 h0; subst e1; have e := Mine.len0 h1; subst e; rfl⟩, by rfl, rfl, rfl, rfl, by decide⟩
      g_need_row := rfl
      k_need_row := rfl
      fn_is_deed := ⟨⟨_, _, rfl, rfl, rfl, rfl, rfl, rfl, rfl, rfl, fun xs h => by obtain ⟨x0, ys0, e0, h0⟩ := Mine.len1 h; subst e0; have e := Mine.len0 h0; subst e; rfl⟩, by rfl, rfl, rfl, rfl, by decide⟩
      g_is_deed := rfl
      k_is_deed := rfl
      fn_law_cell_at := ⟨⟨_, _, rfl, rfl, rfl, rfl, rfl, rfl, rfl, rfl, fun xs h => by obtain ⟨x0, ys0, e0, h0⟩ := Mine.len1 h; subst e0; obtain ⟨x1, ys1, e1, h1⟩ := Mine.len1 h0; subst e1; have e := Mine.len0 h1; subst e; rfl⟩, by rfl, rfl, rfl, rfl, by decide⟩
      g_law_cell_at := rfl
      k_law_cell_at := rfl
      fn_law_number := ⟨⟨_, _, rfl, rfl, rfl, rfl, rfl, rfl, rfl, rfl, fun xs h => by obtain ⟨x0, ys0, e0, h0⟩ := Mine.len1 h; subst e0; obtain ⟨x1, ys1, e1, h1⟩ := Mine.len1 h0; subst e1; have e := Mine.len0 h1; subst e; rfl⟩, by rfl, rfl, rfl, rfl, by decide⟩
      g_law_number := rfl
      k_law_number := rfl
      fn_law_whole := ⟨⟨_, _, rfl, rfl, rfl, rfl, rfl, rfl, rfl, rfl, fun xs h => by obtain ⟨x0, ys0, e0, h0⟩ := Mine.len1 h; subst e0; have e := Mine.len0 h0; subst e; rfl⟩, by rfl, rfl, rfl, rfl, by decide⟩
      g_law_whole := rfl
      k_law_whole := rfl
      fn_law_rule := ⟨⟨_, _, rfl, rfl, rfl, rfl, rfl, rfl, rfl, rfl, fun xs h => by obtain ⟨x0, ys0, e0, h0⟩ := Mine.len1 h; subst e0; have e := Mine.len0 h0; subst e; rfl⟩, by rfl, rfl, rfl, rfl, by decide⟩
      g_law_rule := rfl
      k_law_rule := rfl
      fn_law_forth := ⟨⟨_, _, rfl, rfl, rfl, rfl, rfl, rfl, rfl, rfl, fun xs h => by obtain ⟨x0, ys0, e0, h0⟩ := Mine.len1 h; subst e0; obtain ⟨x1, ys1, e1, h1⟩ := Mine.len1 h0; subst e1; have e := Mine.len0 h1; subst e; rfl⟩, by rfl, rfl, rfl, rfl, by decide⟩
      g_law_forth := rfl
      k_law_forth := rfl
      fn_law_row := ⟨⟨_, _, rfl, rfl, rfl, rfl, rfl, rfl, rfl, rfl, fun xs h => by obtain ⟨x0, ys0, e0, h0⟩ := Mine.len1 h; subst e0; obtain ⟨x1, ys1, e1, h1⟩ := Mine.len1 h0; subst e1; obtain ⟨x2, ys2, e2, h2⟩ := Mine.len1 h1; subst e2; have e := Mine.len0 h2; subst e; rfl⟩, by rfl, rfl, rfl, rfl, by decide⟩
      g_law_row := rfl
      k_law_row := rfl
      fn_law_states := ⟨⟨_, _, rfl, rfl, rfl, rfl, rfl, rfl, rfl, rfl, fun xs h => by obtain ⟨x0, ys0, e0, h0⟩ := Mine.len1 h; subst e0; obtain ⟨x1, ys1, e1, h1⟩ := Mine.len1 h0; subst e1; have e := Mine.len0 h1; subst e; rfl⟩, by rfl, rfl, rfl, rfl, by decide⟩
      g_law_states := rfl
      k_law_states := rfl
      fn_law_class := ⟨⟨_, _, rfl, rfl, rfl, rfl, rfl, rfl, rfl, rfl, fun xs h => by obtain ⟨x0, ys0, e0, h0⟩ := Mine.len1 h; subst e0; have e := Mine.len0 h0; subst e; rfl⟩, by rfl, rfl, rfl, rfl, by decide⟩
      g_law_class := rfl
      k_law_class := rfl
      fn_law_new := ⟨⟨_, _, rfl, rfl, rfl, rfl, rfl, rfl, rfl, rfl, fun xs h => by obtain ⟨x0, ys0, e0, h0⟩ := Mine.len1 h; subst e0; obtain ⟨x1, ys1, e1, h1⟩ := Mine.len1 h0; subst e1; obtain ⟨x2, ys2, e2, h2⟩ := Mine.len1 h1; subst e2; have e := Mine.len0 h2; subst e; rfl⟩, by rfl, rfl, rfl, rfl, by decide⟩
      g_law_new := rfl
      k_law_new := rfl
      fn_law_do := ⟨⟨_, _, rfl, rfl, rfl, rfl, rfl, rfl, rfl, rfl, fun xs h => by obtain ⟨x0, ys0, e0, h0⟩ := Mine.len1 h; subst e0; obtain ⟨x1, ys1, e1, h1⟩ := Mine.len1 h0; subst e1; have e := Mine.len0 h1; subst e; rfl⟩, by rfl, rfl, rfl, rfl, by decide⟩
      g_law_do := rfl
      k_law_do := rfl
      fn_law_deed := ⟨⟨_, _, rfl, rfl, rfl, rfl, rfl, rfl, rfl, rfl, fun xs h => by obtain ⟨x0, ys0, e0, h0⟩ := Mine.len1 h; subst e0; obtain ⟨x1, ys1, e1, h1⟩ := Mine.len1 h0; subst e1; have e := Mine.len0 h1; subst e; rfl⟩, by rfl, rfl, rfl, rfl, by decide⟩
      g_law_deed := rfl
      k_law_deed := rfl
      fn_law_told := ⟨⟨_, _, rfl, rfl, rfl, rfl, rfl, rfl, rfl, rfl, fun xs h => by obtain ⟨x0, ys0, e0, h0⟩ := Mine.len1 h; subst e0; obtain ⟨x1, ys1, e1, h1⟩ := Mine.len1 h0; subst e1; have e := Mine.len0 h1; subst e; rfl⟩, by rfl, rfl, rfl, rfl, by decide⟩
      g_law_told := rfl
      k_law_told := rfl
      fn_law_right := ⟨⟨_, _, rfl, rfl, rfl, rfl, rfl, rfl, rfl, rfl, fun xs h => by obtain ⟨x0, ys0, e0, h0⟩ := Mine.len1 h; subst e0; obtain ⟨x1, ys1, e1, h1⟩ := Mine.len1 h0; subst e1; obtain ⟨x2, ys2, e2, h2⟩ := Mine.len1 h1; subst e2; have e := Mine.len0 h2; subst e; rfl⟩, by rfl, rfl, rfl, rfl, by decide⟩
      g_law_right := rfl
      k_law_right := rfl
      fn_law_room := ⟨⟨_, _, rfl, rfl, rfl, rfl, rfl, rfl, rfl, rfl, fun xs h => by obtain ⟨x0, ys0, e0, h0⟩ := Mine.len1 h; subst e0; have e := Mine.len0 h0; subst e; rfl⟩, by rfl, rfl, rfl, rfl, by decide⟩
      g_law_room := rfl
      k_law_room := rfl
      fn_law_ahead := ⟨⟨_, _, rfl, rfl, rfl, rfl, rfl, rfl, rfl, rfl, fun xs h => by obtain ⟨x0, ys0, e0, h0⟩ := Mine.len1 h; subst e0; obtain ⟨x1, ys1, e1, h1⟩ := Mine.len1 h0; subst e1; have e := Mine.len0 h1; subst e; rfl⟩, by rfl, rfl, rfl, rfl, by decide⟩
      g_law_ahead := rfl
      k_law_ahead := rfl
      fn_law := ⟨⟨_, _, rfl, rfl, rfl, rfl, rfl, rfl, rfl, rfl, fun xs h => by obtain ⟨x0, ys0, e0, h0⟩ := Mine.len1 h; subst e0; have e := Mine.len0 h0; subst e; rfl⟩, by rfl, rfl, rfl, rfl, by decide⟩
      g_law := rfl
      k_law := rfl
      fn_Walker_init := ⟨⟨_, _, rfl, rfl, rfl, rfl, rfl, rfl, rfl, rfl, fun xs h => by obtain ⟨x0, ys0, e0, h0⟩ := Mine.len1 h; subst e0; obtain ⟨x1, ys1, e1, h1⟩ := Mine.len1 h0; subst e1; obtain ⟨x2, ys2, e2, h2⟩ := Mine.len1 h1; subst e2; obtain ⟨x3, ys3, e3, h3⟩ := Mine.len1 h2; subst e3; have e := Mine.len0 h3; subst e; rfl⟩, by rfl, rfl, rfl, rfl, by decide⟩
      mk_Walker := ⟨by kernel_rfl, by kernel_rfl, by kernel_rfl⟩
      fn_Walker_kept := ⟨⟨_, _, rfl, rfl, rfl, rfl, rfl, rfl, rfl, rfl, fun xs h => by obtain ⟨x0, ys0, e0, h0⟩ := Mine.len1 h; subst e0; have e := Mine.len0 h0; subst e; rfl⟩, by rfl, rfl, rfl, rfl, by decide⟩
      me_Walker_kept := ⟨by kernel_rfl, by kernel_rfl, by kernel_rfl, by kernel_rfl⟩
      fn_Walker_met := ⟨⟨_, _, rfl, rfl, rfl, rfl, rfl, rfl, rfl, rfl, fun xs h => by obtain ⟨x0, ys0, e0, h0⟩ := Mine.len1 h; subst e0; have e := Mine.len0 h0; subst e; rfl⟩, by rfl, rfl, rfl, rfl, by decide⟩
      me_Walker_met := ⟨by kernel_rfl, by kernel_rfl, by kernel_rfl, by kernel_rfl⟩
      fn_Walker_do := ⟨⟨_, _, rfl, rfl, rfl, rfl, rfl, rfl, rfl, rfl, fun xs h => by obtain ⟨x0, ys0, e0, h0⟩ := Mine.len1 h; subst e0; obtain ⟨x1, ys1, e1, h1⟩ := Mine.len1 h0; subst e1; have e := Mine.len0 h1; subst e; rfl⟩, by rfl, rfl, rfl, rfl, by decide⟩
      me_Walker_do := ⟨by kernel_rfl, by kernel_rfl, by kernel_rfl, by kernel_rfl⟩
      fn_Walker_keep_it := ⟨⟨_, _, rfl, rfl, rfl, rfl, rfl, rfl, rfl, rfl, fun xs h => by obtain ⟨x0, ys0, e0, h0⟩ := Mine.len1 h; subst e0; have e := Mine.len0 h0; subst e; rfl⟩, by rfl, rfl, rfl, rfl, by decide⟩
      me_Walker_keep_it := ⟨by kernel_rfl, by kernel_rfl, by kernel_rfl, by kernel_rfl⟩
      fn_Walker_handle := ⟨⟨_, _, rfl, rfl, rfl, rfl, rfl, rfl, rfl, rfl, fun xs h => by obtain ⟨x0, ys0, e0, h0⟩ := Mine.len1 h; subst e0; obtain ⟨x1, ys1, e1, h1⟩ := Mine.len1 h0; subst e1; obtain ⟨x2, ys2, e2, h2⟩ := Mine.len1 h1; subst e2; have e := Mine.len0 h2; subst e; rfl⟩, by rfl, rfl, rfl, rfl, by decide⟩
      me_Walker_handle := ⟨by kernel_rfl, by kernel_rfl, by kernel_rfl, by kernel_rfl⟩
      fn_Walker_go_on := ⟨⟨_, _, rfl, rfl, rfl, rfl, rfl, rfl, rfl, rfl, fun xs h => by obtain ⟨x0, ys0, e0, h0⟩ := Mine.len1 h; subst e0; obtain ⟨x1, ys1, e1, h1⟩ := Mine.len1 h0; subst e1; have e := Mine.len0 h1; subst e; rfl⟩, by rfl, rfl, rfl, rfl, by decide⟩
      me_Walker_go_on := ⟨by kernel_rfl, by kernel_rfl, by kernel_rfl, by kernel_rfl⟩
      fn_Walker_meet_it := ⟨⟨_, _, rfl, rfl, rfl, rfl, rfl, rfl, rfl, rfl, fun xs h => by obtain ⟨x0, ys0, e0, h0⟩ := Mine.len1 h; subst e0; have e := Mine.len0 h0; subst e; rfl⟩, by rfl, rfl, rfl, rfl, by decide⟩
      me_Walker_meet_it := ⟨by kernel_rfl, by kernel_rfl, by kernel_rfl, by kernel_rfl⟩
      at_Walker_done := ⟨by kernel_rfl, by kernel_rfl, by kernel_rfl, by kernel_rfl, by kernel_rfl, by kernel_rfl⟩
      at_Walker_place := ⟨by kernel_rfl, by kernel_rfl, by kernel_rfl, by kernel_rfl, by kernel_rfl, by kernel_rfl⟩
      at_Walker_room := ⟨by kernel_rfl, by kernel_rfl, by kernel_rfl, by kernel_rfl, by kernel_rfl, by kernel_rfl⟩
      at_Walker_rules := ⟨by kernel_rfl, by kernel_rfl, by kernel_rfl, by kernel_rfl, by kernel_rfl, by kernel_rfl⟩
      at_Walker_seen := ⟨by kernel_rfl, by kernel_rfl, by kernel_rfl, by kernel_rfl, by kernel_rfl, by kernel_rfl⟩
      at_Walker_shelf := ⟨by kernel_rfl, by kernel_rfl, by kernel_rfl, by kernel_rfl, by kernel_rfl, by kernel_rfl⟩
      at_Walker_state := ⟨by kernel_rfl, by kernel_rfl, by kernel_rfl, by kernel_rfl, by kernel_rfl, by kernel_rfl⟩
      at_Walker_wanted := ⟨by kernel_rfl, by kernel_rfl, by kernel_rfl, by kernel_rfl, by kernel_rfl, by kernel_rfl⟩
      g_MarkError := rfl
      k_MarkError := by kernel_rfl
      g_BadCount := rfl
      k_BadCount := by kernel_rfl
      g_BadRule := rfl
      k_BadRule := by kernel_rfl
      g_BadDeed := rfl
      k_BadDeed := by kernel_rfl
      g_Full := rfl
      k_Full := by kernel_rfl
      g_Twice := rfl
      k_Twice := by kernel_rfl
      g_NotKept := rfl
      k_NotKept := by kernel_rfl
      g_AtEnd := rfl
      k_AtEnd := by kernel_rfl
      g_NotWanted := rfl
      k_NotWanted := by kernel_rfl
      g_Walker := rfl
      k_Walker := by kernel_rfl
      ex_BadCount := by kernel_rfl
      ek_BadCount := ⟨by kernel_rfl, by kernel_rfl, by kernel_rfl, by kernel_rfl, by kernel_rfl, by kernel_rfl, by kernel_rfl, by kernel_rfl⟩
      em_BadCount := by kernel_rfl
      kit_BadCount := ⟨by kernel_rfl, by kernel_rfl, by kernel_rfl, by kernel_rfl, by kernel_rfl, by kernel_rfl, by kernel_rfl, by kernel_rfl, by kernel_rfl⟩
      ex_BadRule := by kernel_rfl
      ek_BadRule := ⟨by kernel_rfl, by kernel_rfl, by kernel_rfl, by kernel_rfl, by kernel_rfl, by kernel_rfl, by kernel_rfl, by kernel_rfl⟩
      em_BadRule := by kernel_rfl
      kit_BadRule := ⟨by kernel_rfl, by kernel_rfl, by kernel_rfl, by kernel_rfl, by kernel_rfl, by kernel_rfl, by kernel_rfl, by kernel_rfl, by kernel_rfl⟩
      ex_BadDeed := by kernel_rfl
      ek_BadDeed := ⟨by kernel_rfl, by kernel_rfl, by kernel_rfl, by kernel_rfl, by kernel_rfl, by kernel_rfl, by kernel_rfl, by kernel_rfl⟩
      em_BadDeed := by kernel_rfl
      kit_BadDeed := ⟨by kernel_rfl, by kernel_rfl, by kernel_rfl, by kernel_rfl, by kernel_rfl, by kernel_rfl, by kernel_rfl, by kernel_rfl, by kernel_rfl⟩
      ex_Full := by kernel_rfl
      ek_Full := ⟨by kernel_rfl, by kernel_rfl, by kernel_rfl, by kernel_rfl, by kernel_rfl, by kernel_rfl, by kernel_rfl, by kernel_rfl⟩
      em_Full := by kernel_rfl
      kit_Full := ⟨by kernel_rfl, by kernel_rfl, by kernel_rfl, by kernel_rfl, by kernel_rfl, by kernel_rfl, by kernel_rfl, by kernel_rfl, by kernel_rfl⟩
      ex_Twice := by kernel_rfl
      ek_Twice := ⟨by kernel_rfl, by kernel_rfl, by kernel_rfl, by kernel_rfl, by kernel_rfl, by kernel_rfl, by kernel_rfl, by kernel_rfl⟩
      em_Twice := by kernel_rfl
      kit_Twice := ⟨by kernel_rfl, by kernel_rfl, by kernel_rfl, by kernel_rfl, by kernel_rfl, by kernel_rfl, by kernel_rfl, by kernel_rfl, by kernel_rfl⟩
      ex_NotKept := by kernel_rfl
      ek_NotKept := ⟨by kernel_rfl, by kernel_rfl, by kernel_rfl, by kernel_rfl, by kernel_rfl, by kernel_rfl, by kernel_rfl, by kernel_rfl⟩
      em_NotKept := by kernel_rfl
      kit_NotKept := ⟨by kernel_rfl, by kernel_rfl, by kernel_rfl, by kernel_rfl, by kernel_rfl, by kernel_rfl, by kernel_rfl, by kernel_rfl, by kernel_rfl⟩
      ex_AtEnd := by kernel_rfl
      ek_AtEnd := ⟨by kernel_rfl, by kernel_rfl, by kernel_rfl, by kernel_rfl, by kernel_rfl, by kernel_rfl, by kernel_rfl, by kernel_rfl⟩
      em_AtEnd := by kernel_rfl
      kit_AtEnd := ⟨by kernel_rfl, by kernel_rfl, by kernel_rfl, by kernel_rfl, by kernel_rfl, by kernel_rfl, by kernel_rfl, by kernel_rfl, by kernel_rfl⟩
      ex_NotWanted := by kernel_rfl
      ek_NotWanted := ⟨by kernel_rfl, by kernel_rfl, by kernel_rfl, by kernel_rfl, by kernel_rfl, by kernel_rfl, by kernel_rfl, by kernel_rfl⟩
      em_NotWanted := by kernel_rfl
      kit_NotWanted := ⟨by kernel_rfl, by kernel_rfl, by kernel_rfl, by kernel_rfl, by kernel_rfl, by kernel_rfl, by kernel_rfl, by kernel_rfl, by kernel_rfl⟩
      g_ROUND := ⟨_, rfl⟩
      g_MOST_RULES := ⟨_, rfl⟩
      g_MOST := ⟨_, rfl⟩
      g_MOST_ROOM := ⟨_, rfl⟩
      g_isinstance := rfl
      g_len := rfl
      g_min := rfl
      g_sorted := rfl
      g_all := rfl
      g_list := rfl
      g_int := rfl
      g_str := rfl
      g_tuple := rfl
      g_range := rfl
      g_bool := rfl
      g_ValueError := rfl}
  have e1 : mg "law" = some (.ref 337) := mg_of KX T.g kf.g_law
  have e2 : fa = 337 := by
    have := hmg
    rw [show mg _ = some (Value.ref 337) from e1] at this
    cases this; rfl
  subst e2
  clear ho hd' hcd hD hmg
  wrow_args hpre hlay hrd hwl hlo
  rename_i ns _ _ _ _ _ _ _ l vals _ hL _ _ _ hI _ hn _
  refine enter_call (codeAny_mono ?_ (fun _ _ g => GoodW.toG g))
  refine Mine.enterLaw (c := { prog := _, w := w, K := _, p := _, loose := _, mean := _, mg := mg, mb := mb, base := s₁.heap, s₀ := s₁, q := true }) (k := 20) kf.fn_law rfl rfl KX T (by decide) hL hI (by refine Mine.law_ok ?_ ?_ ?_; exact kf; rfl; omega) ?_
  intro L m h' tk F
  refine goodW_bool F hg (raisesW_false ?_) ?_
  · wrow_none_raised
  · wrow_post
theorem PySem.Challenge.cw_uf040029_05_holds : PySem.Challenge.rw_uf040029_05.Holds :=
  Mine.top
