import PyProof.Rows.All
import Wide.All
import OpenK.AllK
import Wide.FinOn
import PySem.Challenge.RW_uf040029_03
open PySem PySem.W PySem.Calls PySem.Spec PyProof.Rows
set_option Elab.async false
set_option maxRecDepth 100000
set_option linter.unusedVariables false
set_option linter.unusedSimpArgs false
set_option maxHeartbeats 1000000
namespace Mine
set_option genInjectivity false
set_option genSizeOfSpec false

abbrev Led := List (Addr × Obj)
abbrev tupObj (vals : List Value) (n : Nat) : Obj := { cls := .type "tuple", data := .seq vals.toArray n }
abbrev rngObj (a b c : Int) (t u v : Tok) : Obj := { cls := .type "range", dict := none, data := .fields #[.int a t, .int b u, .int c v], slots := #[] }

theorem len0 {α : Type} {xs : List α} (h : xs.length = 0) : xs = [] := List.length_eq_zero_iff.mp h
theorem len1 {α : Type} {xs : List α} {n : Nat} (h : xs.length = n + 1) : ∃ x ys, xs = x :: ys ∧ ys.length = n := by
  cases xs with
  | nil => cases h
  | cons x ys => exact ⟨x, ys, rfl, Nat.succ.inj h⟩
/-- abstract values -/
inductive V where
  | none
  | bool (b : Bool)
  | int (i : Int)
  | str (x : Str)
  | tup (vs : List V)
  | rng (a b c : Int)
  | ref (a : Addr)
  | stat (v : Value)
  | scr (ns : List Int)

/-- abstract objects -/
inductive O where
  | list (vs : List V)
  | dictI (kvs : List (Int × V))
  | dictS (kvs : List (Str × V))
  | inst (C d : Addr)
  | exc (C : Addr)
  | attr (fs : List (Str × V))
  | any (P : Led → Obj → Prop)

abbrev St := List (Addr × O)
abbrev Loc := List (Str × V)
def setL : Loc → Str → V → Loc
  | [], x, v => [(x, v)]
  | (y, u) :: r, x, v => if y = x then (x, v) :: r else (y, u) :: setL r x v
def getL : Loc → Str → Option V
  | [], _ => none
  | (y, u) :: r, x => if y = x then some u else getL r x
theorem getL_nil (x : Str) : getL [] x = none := rfl
theorem getL_cons (y : Str) (u : V) (r : Loc) (x : Str) : getL ((y, u) :: r) x = if y = x then some u else getL r x := rfl
theorem getL_setL (ρ : Loc) (x : Str) (v : V) (y : Str) : getL (setL ρ x v) y = if y = x then some v else getL ρ y := by
  induction ρ with
  | nil => rw [setL, getL_cons, getL_nil]; by_cases h : y = x
           · subst h; simp
           · have : ¬ x = y := fun e => h e.symm
             simp [h, this]
  | cons p r ih =>
    obtain ⟨z, u⟩ := p
    rw [setL]
    by_cases hz : z = x
    · subst hz
      rw [if_pos rfl, getL_cons, getL_cons]
      by_cases h : z = y
      · subst h; simp
      · have : ¬ y = z := fun e => h e.symm
        simp [h, this]
    · rw [if_neg hz, getL_cons, ih, getL_cons]
      by_cases h : z = y
      · subst h; simp [hz]
      · simp [h]

/-- the whole, unchanging -/
structure Cx where
  prog : Program
  w : World
  K : Frag
  p : Program
  loose : List Str
  mean : ExcName → Option Value
  mg : Str → Option Value
  mb : Str → Option Value
  base : Heap
  s₀ : Shared
  q : Bool

abbrev Cx.M (c : Cx) : Model := model c.prog c.w

mutual
inductive RV (base : Heap) (imm : Led) : V → Value → Prop
  | none : RV base imm .none .none
  | bool (b : Bool) : RV base imm (.bool b) (.bool b)
  | int (i : Int) (t : Tok) : RV base imm (.int i) (.int i t)
  | str (x : Str) (t : Tok) : RV base imm (.str x) (.str x t)
  | tup {a : Addr} {vals : List Value} {n : Nat} {vs : List V} : (a, tupObj vals n) ∈ imm → RVs base imm vs vals → RV base imm (.tup vs) (.ref a)
  | rng {r : Addr} {a b c : Int} {t u v : Tok} : (r, rngObj a b c t u v) ∈ imm → RV base imm (.rng a b c) (.ref r)
  | ref (a : Addr) : RV base imm (.ref a) (.ref a)
  | stat (v : Value) : RV base imm (.stat v) v
  | scr {a : Addr} {vals : List Value} {ns : List Int} : base.IsList a vals.toArray → IntsAre vals ns → RV base imm (.scr ns) (.ref a)
inductive RVs (base : Heap) (imm : Led) : List V → List Value → Prop
  | nil : RVs base imm [] []
  | cons {v : V} {vs : List V} {x : Value} {xs : List Value} : RV base imm v x → RVs base imm vs xs → RVs base imm (v :: vs) (x :: xs)
end

theorem RV.mono {base : Heap} {imm imm' : Led} (hs : ∀ p ∈ imm, p ∈ imm') {v : V} {x : Value} (h : RV base imm v x) : RV base imm' v x :=
  RV.rec (motive_1 := fun v x _ => RV base imm' v x) (motive_2 := fun vs xs _ => RVs base imm' vs xs) .none .bool .int .str (fun hm _ ih => .tup (hs _ hm) ih) (fun hm => .rng (hs _ hm)) .ref .stat (fun h i => .scr h i) .nil (fun _ _ a b => .cons a b) h
theorem RVs.mono {base : Heap} {imm imm' : Led} (hs : ∀ p ∈ imm, p ∈ imm') {v : List V} {x : List Value} (h : RVs base imm v x) : RVs base imm' v x := by
  induction v generalizing x with
  | nil => cases h; exact .nil
  | cons a v ih => cases h with | cons p q => exact .cons (p.mono hs) (ih q)

section
variable {base : Heap} {imm : Led} {vs ws : List V} {xs ys : List Value} {v : V} {x : Value}
theorem RVs.length (h : RVs base imm vs xs) : xs.length = vs.length := by
  induction vs generalizing xs with
  | nil => cases h; rfl
  | cons v vs ih => cases h with | cons _ r => simp [ih r]
theorem RVs.append (h : RVs base imm vs xs) (k : RVs base imm ws ys) : RVs base imm (vs ++ ws) (xs ++ ys) := by
  induction vs generalizing xs with
  | nil => cases h; exact k
  | cons v vs ih => cases h with | cons a r => exact .cons a (ih r)
theorem RVs.get (h : RVs base imm vs xs) {i : Nat} {v : V} (hi : vs[i]? = some v) : ∃ x, xs[i]? = some x ∧ RV base imm v x := by
  induction vs generalizing xs i with
  | nil => simp at hi
  | cons w vs ih => cases h with
    | cons a r => cases i with
      | zero => simp at hi; subst hi; exact ⟨_, by simp, a⟩
      | succ i => simpa using ih r (by simpa using hi)
theorem RVs.get' (h : RVs base imm vs xs) {i : Nat} {x : Value} (hi : xs[i]? = some x) : ∃ v, vs[i]? = some v ∧ RV base imm v x := by
  induction vs generalizing xs i with
  | nil => cases h; simp at hi
  | cons w vs ih => cases h with
    | cons a r => cases i with
      | zero => simp at hi; subst hi; exact ⟨_, by simp, a⟩
      | succ i => simpa using ih r (by simpa using hi)
theorem RVs.one (h : RV base imm v x) : RVs base imm [v] [x] := .cons h .nil
end

theorem RVs.inv1 {base : Heap} {imm : Led} {v : V} {xs : List Value} (h : RVs base imm [v] xs) : ∃ x, xs = [x] ∧ RV base imm v x := by
  cases h with | cons a r => cases r; exact ⟨_, rfl, a⟩
theorem RVs.inv2 {base : Heap} {imm : Led} {v w : V} {xs : List Value} (h : RVs base imm [v, w] xs) : ∃ x y, xs = [x, y] ∧ RV base imm v x ∧ RV base imm w y := by
  cases h with | cons a r => obtain ⟨y, rfl, b⟩ := r.inv1; exact ⟨_, y, rfl, a, b⟩
theorem RV.refI {base : Heap} {imm : Led} {a : Addr} {x : Value} (h : RV base imm (.ref a) x) : x = .ref a := by cases h; rfl
theorem RV.intI {base : Heap} {imm : Led} {i : Int} {x : Value} (h : RV base imm (.int i) x) : ∃ t, x = .int i t := by cases h; exact ⟨_, rfl⟩
theorem RV.strI {base : Heap} {imm : Led} {i : Str} {x : Value} (h : RV base imm (.str i) x) : ∃ t, x = .str i t := by cases h; exact ⟨_, rfl⟩
theorem RV.boolI {base : Heap} {imm : Led} {i : Bool} {x : Value} (h : RV base imm (.bool i) x) : x = .bool i := by cases h; rfl
theorem RV.noneI {base : Heap} {imm : Led} {x : Value} (h : RV base imm .none x) : x = .none := by cases h; rfl
theorem RV.tupI {base : Heap} {imm : Led} {vs : List V} {x : Value} (h : RV base imm (.tup vs) x) : ∃ a vals n, x = .ref a ∧ (a, tupObj vals n) ∈ imm ∧ RVs base imm vs vals := by cases h with | tup hm r => exact ⟨_, _, _, rfl, hm, r⟩
theorem RV.scrI {base : Heap} {imm : Led} {ns : List Int} {x : Value} (h : RV base imm (.scr ns) x) : ∃ a vals, x = .ref a ∧ base.IsList a vals.toArray ∧ IntsAre vals ns := by cases h with | scr hm r => exact ⟨_, _, rfl, hm, r⟩
theorem RV.statI {base : Heap} {imm : Led} {v x : Value} (h : RV base imm (.stat v) x) : x = v := by cases h; rfl

/-- values under keys -/
inductive RKs (base : Heap) (imm : Led) {α : Type} : List (α × V) → List (α × Value) → Prop
  | nil : RKs base imm [] []
  | cons {k : α} {v : V} {x : Value} {l : List (α × V)} {r : List (α × Value)} : RV base imm v x → RKs base imm l r → RKs base imm ((k, v) :: l) ((k, x) :: r)
theorem RKs.mono {base : Heap} {imm imm' : Led} (hs : ∀ p ∈ imm, p ∈ imm') {α : Type} {l : List (α × V)} {r : List (α × Value)} (h : RKs base imm l r) : RKs base imm' l r := by
  induction h with
  | nil => exact .nil
  | cons a _ ih => exact .cons (a.mono hs) ih

/-- a dict whose keys are of one kind -/
def IsDict {α : Type} [DecidableEq α] {prog : Program} {w : World} (knd : KeyKind prog w α) (o : Obj) (kvs : List (α × Value)) : Prop :=
  o.ExactDict ∧ ∃ es ep, o.data = .dict es ep ∧ KeysOf knd es ∧ Pairs knd es.toList kvs ∧ (kvs.map (·.1)).Nodup

/-- the names of a made thing, and what they mean -/
inductive AtR (base : Heap) (imm : Led) : List (Str × V) → List DictEntry → Prop
  | nil : AtR base imm [] []
  | cons {x : Str} {v : V} {t : Tok} {hsh : Int} {val : Value} {fs : List (Str × V)} {es : List DictEntry} : RV base imm v val → AtR base imm fs es → AtR base imm ((x, v) :: fs) (⟨hsh, .str x t, val⟩ :: es)
theorem AtR.mono {base : Heap} {imm imm' : Led} (hs : ∀ p ∈ imm, p ∈ imm') {l : List (Str × V)} {r : List DictEntry} (h : AtR base imm l r) : AtR base imm' l r := by
  induction h with
  | nil => exact .nil
  | cons a _ ih => exact .cons (a.mono hs) ih
/-- an abstract object and the concrete one -/
inductive RO (c : Cx) (imm : Led) : O → Obj → Prop
  | list {vs : List V} {vals : List Value} {n : Nat} : RVs c.base imm vs vals → RO c imm (.list vs) (listOf vals.toArray n)
  | dictI {kvs : List (Int × V)} {kvals : List (Int × Value)} {o : Obj} : RKs c.base imm kvs kvals → IsDict (intKind c.prog c.w) o kvals → RO c imm (.dictI kvs) o
  | dictS {kvs : List (Str × V)} {kvals : List (Str × Value)} {o : Obj} : RKs c.base imm kvs kvals → IsDict (strKind c.prog c.w) o kvals → RO c imm (.dictS kvs) o
  | inst (C d : Addr) : RO c imm (.inst C d) (instObj C d)
  | exc {C : Addr} {o : Obj} : o.cls = .ref C → (∃ vs, o.data = .fields vs) → RO c imm (.exc C) o
  | attr {fs : List (Str × V)} {es : List DictEntry} {n : Nat} : AtR c.base imm fs es → RO c imm (.attr fs) (dictOf es n)
  | any {P : Led → Obj → Prop} {o : Obj} : (∀ imm', (∀ p ∈ imm, p ∈ imm') → P imm' o) → RO c imm (.any P) o
theorem RO.mono {c : Cx} {imm imm' : Led} (hs : ∀ p ∈ imm, p ∈ imm') {o : O} {co : Obj} (h : RO c imm o co) : RO c imm' o co := by
  cases h with
  | list r => exact .list (r.mono hs)
  | dictI r d => exact .dictI (r.mono hs) d
  | dictS r d => exact .dictS (r.mono hs) d
  | inst C d => exact .inst C d
  | exc a b => exact .exc a b
  | attr a => exact .attr (a.mono hs)
  | any a => exact .any fun imm'' h => a imm'' fun p hp => h p (hs p hp)

theorem RO.listI {c : Cx} {imm : Led} {vs : List V} {o : Obj} (h : RO c imm (.list vs) o) : ∃ vals n, RVs c.base imm vs vals ∧ o = listOf vals.toArray n := by
  cases h with | list r => exact ⟨_, _, r, rfl⟩
inductive StR (c : Cx) (imm : Led) : St → Led → Prop
  | nil : StR c imm [] []
  | cons {a : Addr} {o : O} {co : Obj} {st : St} {mt : Led} : RO c imm o co → StR c imm st mt → StR c imm ((a, o) :: st) ((a, co) :: mt)
theorem StR.mono {c : Cx} {imm imm' : Led} (hs : ∀ p ∈ imm, p ∈ imm') {st : St} {mt : Led} (h : StR c imm st mt) : StR c imm' st mt := by
  induction h with
  | nil => exact .nil
  | cons a _ ih => exact .cons (a.mono hs) ih
def get (st : St) (a : Addr) : Option O := st.lookup a
theorem StR.get {c : Cx} {imm : Led} {st : St} {mt : Led} (h : StR c imm st mt) {a : Addr} {o : O} (e : get st a = some o) : ∃ co, (a, co) ∈ mt ∧ RO c imm o co := by
  induction h with
  | nil => cases e
  | @cons b o' co st mt r _ ih =>
    unfold Mine.get at e ih
    rw [List.lookup_cons] at e
    split at e
    · rename_i q
      have q' : a = b := by simpa using q
      subst q'; cases e
      exact ⟨co, .head _, r⟩
    · obtain ⟨co', m, r'⟩ := ih e
      exact ⟨co', .tail _ m, r'⟩

/-- a frame -/
structure Fm where
  outer : List Env
  frs : List (Addr × (Str → Option Value))
  L : Addr
  fenv : Env
  env : Env
  A : Around
  cmp : Bool

/-- a dict that is a namespace -/
def NsObj (o : Obj) (m : Str → Option Value) : Prop := ∃ es ep, o.data = .dict es ep ∧ StrKeys es ∧ ∀ name, nsFind es name = m name

/-- the callers' frames -/
inductive FoR : List (Addr × (Str → Option Value)) → Led → Prop
  | nil : FoR [] []
  | cons {L : Addr} {m : Str → Option Value} {o : Obj} {fs : List (Addr × (Str → Option Value))} {fo : Led} : NsObj o m → FoR fs fo → FoR ((L, m) :: fs) ((L, o) :: fo)

/-- the frames' envs -/
def EnvOk (f : Fm) (e : Env) : Prop := e.scope.kind = .function ∧ ∃ L, e.frame = some L ∧ (L = f.L ∨ ∃ m, (L, m) ∈ f.frs)

structure Fm.Ok (c : Cx) (k : Nat) (f : Fm) : Prop where
  kin : c.K.In c.base
  top : Top c.p c.loose c.mean c.mg c.mb c.base
  envs : ∀ e ∈ f.fenv :: f.outer, EnvOk f e
  frames : f.A.frames = some (f.fenv :: f.outer)
  eframe : f.env.frame = f.fenv.frame
  ekind : f.env.scope.kind = .function
  eglob : f.env.globals = mainGlobals
  ebi : f.env.builtins = builtinsNs
  ecell : ∀ x, f.env.kindOf x = some .cell → ∃ cc, f.env.cells.lookup x = some cc
  hnd : c.q = true → f.A.handled = none
  depth : f.A.depth + k + 200 < recursionLimit
  units : f.A.units + 8 * k + 200 < cLine

/-- what a name reads -/
def ReadsName (f : Fm) (m : Str → Option Value) (cs fr : Led) (x : Str) (val : Value) : Prop :=
  (f.env.kindOf x = some .local ∧ f.env.locals = f.L ∧ m x = some val) ∨
  ((f.env.kindOf x = some .cell ∨ f.env.kindOf x = some .free) ∧ ∃ c o, f.env.cells.lookup x = some c ∧ (c, o) ∈ cs ++ fr ∧ o.data = .cell (some val))

structure LocR (base : Heap) (imm : Led) (f : Fm) (ρ : Loc) (m : Str → Option Value) (cs fr : Led) : Prop where
  reads : ∀ x v, getL ρ x = some v → ∃ val, RV base imm v val ∧ ReadsName f m cs fr x val
  cells : f.cmp = false → ∀ x c, f.env.cells.lookup x = some c → ∃ o v, (c, o) ∈ cs ∧ o.data = .cell v
  inj : f.cmp = false → ∀ x y c, f.env.cells.lookup x = some c → f.env.cells.lookup y = some c → x = y

theorem LocR.mono {base : Heap} {imm imm' : Led} {f : Fm} {ρ : Loc} {m : Str → Option Value} {cs fr : Led} (hs : ∀ p ∈ imm, p ∈ imm') (h : LocR base imm f ρ m cs fr) : LocR base imm' f ρ m cs fr :=
  ⟨fun x v e => let ⟨val, r, q⟩ := h.reads x v e; ⟨val, r.mono hs, q⟩, h.cells, h.inj⟩

abbrev whole (mt cs imm fr fo : Led) : Led := mt ++ (cs ++ (imm ++ (fr ++ fo)))

structure RelAt (c : Cx) (f : Fm) (ρ : Loc) (st : St) (imm fr : Led) (h : Heap) (m : Str → Option Value) (mt cs fo : Led) : Prop where
  frm : Fr c.base f.L h m
  news : News c.base f.L h (whole mt cs imm fr fo)
  nodup : ((whole mt cs imm fr fo).map (·.1)).Nodup
  sto : StR c imm st mt
  fos : FoR f.frs fo
  loc : LocR c.base imm f ρ m cs fr

def Rel (c : Cx) (f : Fm) (ρ : Loc) (st : St) (imm fr : Led) (s : Shared) : Prop :=
  (∃ h tk, s = { c.s₀ with heap := h, toks := tk }) ∧ ∃ m mt cs fo, RelAt c f ρ st imm fr s.heap m mt cs fo

section
variable {c : Cx} {f : Fm} {k : Nat} {ρ : Loc} {st : St} {imm fr : Led} {s : Shared} {h h' : Heap} {m : Str → Option Value} {mt cs fo : Led} {a : Addr} {o o' : Obj} {tk : Nat}

theorem RelAt.keeps (R : RelAt c f ρ st imm fr h m mt cs fo) (hk : ∀ b o, h.get? b = some o → h'.get? b = some o) : RelAt c f ρ st imm fr h' m mt cs fo :=
  ⟨R.frm.keeps hk, R.news.grown hk, R.nodup, R.sto, R.fos, R.loc⟩
theorem Rel.keeps (R : Rel c f ρ st imm fr s) (hk : ∀ b o, s.heap.get? b = some o → h'.get? b = some o) : Rel c f ρ st imm fr { s with heap := h', toks := tk } := by
  obtain ⟨⟨h0, tk0, rfl⟩, m, mt, cs, fo, r⟩ := R
  exact ⟨⟨h', tk, rfl⟩, m, mt, cs, fo, r.keeps hk⟩
theorem Rel.toks (R : Rel c f ρ st imm fr s) : Rel c f ρ st imm fr { s with toks := tk } := R.keeps (h' := s.heap) fun _ _ e => e
theorem RelAt.size (R : RelAt c f ρ st imm fr h m mt cs fo) : ∀ p ∈ whole mt cs imm fr fo, p.1 < h.objs.size := fun p hp => Heap.lt_size (R.news p hp).1
theorem RelAt.none (R : RelAt c f ρ st imm fr h m mt cs fo) : get st h.objs.size = none := by
  cases e : get st h.objs.size with
  | none => rfl
  | some o =>
    obtain ⟨co, hm, _⟩ := R.sto.get e
    exact absurd (R.size _ (List.mem_append_left _ hm)) (Nat.lt_irrefl _)

theorem newAt (F : Fr c.base f.L h m) (ho : o.isFreed = false) : (h.push o).get? h.objs.size = some o ∧ h.objs.size ≠ f.L ∧ c.base.get? h.objs.size = none := by
  refine ⟨Heap.get?_push_size _ ho, Nat.ne_of_gt F.ns.lt, ?_⟩
  cases hq : c.base.get? h.objs.size with
  | none => rfl
  | some o' => exact absurd (Heap.lt_size (F.keep _ _ hq)) (Nat.lt_irrefl _)

theorem nodup_ins {α β : Type} {l₁ l₂ : List (α × β)} {p : α × β} (h : ((l₁ ++ l₂).map (·.1)).Nodup) (hn : ∀ q ∈ l₁ ++ l₂, q.1 ≠ p.1) : ((l₁ ++ p :: l₂).map (·.1)).Nodup := by
  have e : ((l₁ ++ p :: l₂).map (·.1)).Perm ((p :: (l₁ ++ l₂)).map (·.1)) := List.Perm.map _ List.perm_middle
  refine e.nodup_iff.mpr ?_
  rw [List.map_cons, List.nodup_cons]
  refine ⟨fun hm => ?_, h⟩
  obtain ⟨q, hq, e⟩ := List.mem_map.mp hm
  exact hn q hq e

/-- one more object, anywhere in the ledger -/
theorem news_ins {l₁ l₂ : Led} (F : Fr c.base f.L h m) (N : News c.base f.L h (l₁ ++ l₂)) (nd : ((l₁ ++ l₂).map (·.1)).Nodup) (ho : o.isFreed = false) :
    News c.base f.L (h.push o) (l₁ ++ (h.objs.size, o) :: l₂) ∧ ((l₁ ++ (h.objs.size, o) :: l₂).map (·.1)).Nodup := by
  refine ⟨fun p hp => ?_, nodup_ins nd fun q hq => Nat.ne_of_lt (Heap.lt_size (N q hq).1)⟩
  have hp' : p = (h.objs.size, o) ∨ p ∈ l₁ ++ l₂ := by
    simp only [List.mem_append, List.mem_cons] at hp ⊢
    rcases hp with hp | hp | hp
    · exact .inr (.inl hp)
    · exact .inl hp
    · exact .inr (.inr hp)
  rcases hp' with rfl | hp'
  · exact newAt F ho
  · exact ⟨Heap.get?_push_of_some _ (N p hp').1, (N p hp').2⟩

theorem LocR.more {base : Heap} {p : Addr × Obj} (h : LocR base imm f ρ m cs fr) : LocR base imm f ρ m cs (p :: fr) := by
  refine ⟨fun x v e => ?_, h.cells, h.inj⟩
  obtain ⟨val, r, q⟩ := h.reads x v e
  refine ⟨val, r, ?_⟩
  rcases q with q | ⟨q1, c, o, q2, q3, q4⟩
  · exact .inl q
  · refine .inr ⟨q1, c, o, q2, ?_, q4⟩
    rcases List.mem_append.mp q3 with q3 | q3
    · exact List.mem_append_left _ q3
    · exact List.mem_append_right _ (.tail _ q3)
theorem LocR.other {base : Heap} {l₁ l₂ l₃ : Led} (h : LocR base imm f ρ m cs (l₁ ++ (a, o) :: l₂)) (hd : ∀ v, o.data ≠ .cell v) (hl : ∀ p, p ∈ l₁ ++ l₂ → p ∈ l₃) : LocR base imm f ρ m cs l₃ := by
  refine ⟨fun x v e => ?_, h.cells, h.inj⟩
  obtain ⟨val, r, q⟩ := h.reads x v e
  refine ⟨val, r, ?_⟩
  rcases q with q | ⟨q1, c, ob, q2, q3, q4⟩
  · exact .inl q
  · refine .inr ⟨q1, c, ob, q2, ?_, q4⟩
    rcases List.mem_append.mp q3 with q3 | q3
    · exact List.mem_append_left _ q3
    · refine List.mem_append_right _ (hl _ ?_)
      simp only [List.mem_append, List.mem_cons, Prod.mk.injEq] at q3 ⊢
      rcases q3 with q3 | ⟨_, q3⟩ | q3
      · exact .inl q3
      · exact absurd (q3 ▸ q4) (hd _)
      · exact .inr q3

theorem RelAt.pushImm (R : RelAt c f ρ st imm fr h m mt cs fo) (ho : o.isFreed = false) : RelAt c f ρ st ((h.objs.size, o) :: imm) fr (h.push o) m mt cs fo := by
  have hs : ∀ p ∈ imm, p ∈ (h.objs.size, o) :: imm := fun p hp => .tail _ hp
  have e : whole mt cs ((h.objs.size, o) :: imm) fr fo = (mt ++ cs) ++ (h.objs.size, o) :: (imm ++ (fr ++ fo)) := by simp
  have e' : whole mt cs imm fr fo = (mt ++ cs) ++ (imm ++ (fr ++ fo)) := by simp
  have z := news_ins R.frm (e' ▸ R.news) (e' ▸ R.nodup) ho
  exact ⟨R.frm.push _, e ▸ z.1, e ▸ z.2, R.sto.mono hs, R.fos, R.loc.mono hs⟩
theorem RelAt.pushSt (R : RelAt c f ρ st imm fr h m mt cs fo) {x : O} (ho : o.isFreed = false) (hr : RO c imm x o) : RelAt c f ρ ((h.objs.size, x) :: st) imm fr (h.push o) m ((h.objs.size, o) :: mt) cs fo := by
  have z := news_ins (l₁ := []) R.frm R.news R.nodup ho
  exact ⟨R.frm.push _, z.1, z.2, .cons hr R.sto, R.fos, R.loc⟩
theorem RelAt.pushFr (R : RelAt c f ρ st imm fr h m mt cs fo) (ho : o.isFreed = false) : RelAt c f ρ st imm ((h.objs.size, o) :: fr) (h.push o) m mt cs fo := by
  have e : whole mt cs imm ((h.objs.size, o) :: fr) fo = (mt ++ cs ++ imm) ++ (h.objs.size, o) :: (fr ++ fo) := by simp
  have e' : whole mt cs imm fr fo = (mt ++ cs ++ imm) ++ (fr ++ fo) := by simp
  have z := news_ins R.frm (e' ▸ R.news) (e' ▸ R.nodup) ho
  exact ⟨R.frm.push _, e ▸ z.1, e ▸ z.2, R.sto, R.fos, R.loc.more⟩

theorem Rel.pushImm (R : Rel c f ρ st imm fr s) (ho : o.isFreed = false := by rfl) : Rel c f ρ st ((s.heap.objs.size, o) :: imm) fr { s with heap := s.heap.push o, toks := tk } := by
  obtain ⟨⟨h0, tk0, rfl⟩, m, mt, cs, fo, r⟩ := R
  exact ⟨⟨_, tk, rfl⟩, m, mt, cs, fo, r.pushImm ho⟩
theorem Rel.pushSt (R : Rel c f ρ st imm fr s) {x : O} (hr : RO c imm x o) (ho : o.isFreed = false := by rfl) : Rel c f ρ ((s.heap.objs.size, x) :: st) imm fr { s with heap := s.heap.push o, toks := tk } := by
  obtain ⟨⟨h0, tk0, rfl⟩, m, mt, cs, fo, r⟩ := R
  exact ⟨⟨_, tk, rfl⟩, m, _, cs, fo, r.pushSt ho hr⟩
theorem Rel.pushFr (R : Rel c f ρ st imm fr s) (ho : o.isFreed = false := by rfl) : Rel c f ρ st imm ((s.heap.objs.size, o) :: fr) { s with heap := s.heap.push o, toks := tk } := by
  obtain ⟨⟨h0, tk0, rfl⟩, m, mt, cs, fo, r⟩ := R
  exact ⟨⟨_, tk, rfl⟩, m, mt, cs, fo, r.pushFr ho⟩
theorem Rel.none (R : Rel c f ρ st imm fr s) : get st s.heap.objs.size = none := by
  obtain ⟨_, m, mt, cs, fo, r⟩ := R
  exact r.none

theorem RelAt.get (R : RelAt c f ρ st imm fr h m mt cs fo) {x : O} (e : get st a = some x) : ∃ co, (a, co) ∈ mt ∧ RO c imm x co ∧ h.get? a = some co := by
  obtain ⟨co, hm, r⟩ := R.sto.get e
  exact ⟨co, hm, r, (R.news _ (List.mem_append_left _ hm)).1⟩
theorem Fr.other (F : Fr c.base f.L h m) (hs : Heap.SameBut a h h') (hL : a ≠ f.L) (hn : c.base.get? a = none) : Fr c.base f.L h' m :=
  ⟨F.ns.sameBut hs (Ne.symm hL), fun b ob e => (hs.2 b (fun q => by rw [q, hn] at e; cases e)).trans (F.keep b ob e), F.above⟩
theorem Rel.get (R : Rel c f ρ st imm fr s) {x : O} (e : Mine.get st a = some x) : ∃ co, RO c imm x co ∧ s.heap.get? a = some co := by
  obtain ⟨_, m, mt, cs, fo, r⟩ := R
  obtain ⟨co, _, h1, h2⟩ := r.get e
  exact ⟨co, h1, h2⟩
theorem Rel.isList {vs : List V} (R : Rel c f ρ st imm fr s) (hg : Mine.get st a = some (.list vs)) : ∃ vals n, RVs c.base imm vs vals ∧ s.heap.get? a = some (listOf vals.toArray n) := by
  obtain ⟨co, hr, ho⟩ := R.get hg
  obtain ⟨vals, n, r, rfl⟩ := hr.listI
  exact ⟨vals, n, r, ho⟩
theorem Rel.inImm (R : Rel c f ρ st imm fr s) (hm : (a, o) ∈ imm) : s.heap.get? a = some o := by
  obtain ⟨_, m, mt, cs, fo, r⟩ := R
  exact (r.news (a, o) (by simp [hm])).1
theorem Rel.inFr (R : Rel c f ρ st imm fr s) (hm : (a, o) ∈ fr) : s.heap.get? a = some o := by
  obtain ⟨_, m, mt, cs, fo, r⟩ := R
  exact (r.news (a, o) (by simp [hm])).1
theorem Rel.keep (R : Rel c f ρ st imm fr s) : ∀ b o, c.base.get? b = some o → s.heap.get? b = some o := by
  obtain ⟨_, m, mt, cs, fo, r⟩ := R
  exact r.frm.keep
theorem Rel.kin (R : Rel c f ρ st imm fr s) (ok : f.Ok c k) : c.K.In s.heap := ok.kin.keeps R.keep
/-- one of the frame's own changes -/
theorem Rel.frSetAt (l₁ : Led) {l₂ : Led} (R : Rel c f ρ st imm (l₁ ++ (a, o) :: l₂) s) (hs : Heap.SameBut a s.heap h') (ho : h'.get? a = some o') (hd : ∀ v, o.data ≠ .cell v) : Rel c f ρ st imm (l₁ ++ (a, o') :: l₂) { s with heap := h', toks := tk } := by
  obtain ⟨⟨h0, tk0, rfl⟩, m, mt, cs, fo, r⟩ := R
  refine ⟨⟨_, tk, rfl⟩, m, mt, cs, fo, ?_⟩
  have hw := r.news (a, o) (by simp)
  have nd := r.nodup
  have e : whole mt cs imm (l₁ ++ (a, o) :: l₂) fo = (mt ++ cs ++ imm ++ l₁) ++ (a, o) :: (l₂ ++ fo) := by simp
  have e' : whole mt cs imm (l₁ ++ (a, o') :: l₂) fo = (mt ++ cs ++ imm ++ l₁) ++ (a, o') :: (l₂ ++ fo) := by simp
  rw [e] at nd
  have h1 : ∀ p ∈ mt ++ cs ++ imm ++ l₁, p.1 ≠ a := fun p hp q => by
    rw [List.map_append, List.nodup_append] at nd
    exact nd.2.2 p.1 (List.mem_map_of_mem hp) a (by simp) q
  have h2 : ∀ p ∈ l₂ ++ fo, p.1 ≠ a := fun p hp q => by
    rw [List.map_append, List.nodup_append, List.map_cons, List.nodup_cons] at nd
    exact nd.2.1.1 (List.mem_map.mpr ⟨p, hp, q⟩)
  refine ⟨Fr.other r.frm hs hw.2.1 hw.2.2, ?_, ?_, r.sto, r.fos, r.loc.other hd ?_⟩
  · rw [e']
    have := r.news
    rw [e] at this
    exact News.setAt this h1 h2 hs ho
  · rw [e']; simp only [List.map_append, List.map_cons] at nd ⊢; exact nd
  · intro p hp
    simp only [List.mem_append, List.mem_cons] at hp ⊢
    rcases hp with hp | hp
    · exact .inl hp
    · exact .inr (.inr hp)
theorem Rel.frSet (R : Rel c f ρ st imm ((a, o) :: fr) s) (hs : Heap.SameBut a s.heap h') (ho : h'.get? a = some o') (hd : ∀ v, o.data ≠ .cell v) : Rel c f ρ st imm ((a, o') :: fr) { s with heap := h', toks := tk } := Rel.frSetAt [] R hs ho hd
/-- one of the frame's own is forgotten; it may change at that -/
theorem Rel.frEndAt (l₁ : Led) {l₂ : Led} (R : Rel c f ρ st imm (l₁ ++ (a, o) :: l₂) s) (hs : Heap.ExtBut a s.heap h') (hd : ∀ v, o.data ≠ .cell v) : Rel c f ρ st imm (l₁ ++ l₂) { s with heap := h', toks := tk } := by
  obtain ⟨⟨h0, tk0, rfl⟩, m, mt, cs, fo, r⟩ := R
  have hw := r.news (a, o) (by simp)
  have nd := r.nodup
  have e : whole mt cs imm (l₁ ++ (a, o) :: l₂) fo = (mt ++ cs ++ imm ++ l₁) ++ (a, o) :: (l₂ ++ fo) := by simp
  have e' : whole mt cs imm (l₁ ++ l₂) fo = (mt ++ cs ++ imm ++ l₁) ++ (l₂ ++ fo) := by simp
  rw [e, List.map_append, List.nodup_append, List.map_cons, List.nodup_cons] at nd
  have ne : ∀ p ∈ whole mt cs imm (l₁ ++ l₂) fo, p.1 ≠ a := fun p hp q => by
    rw [e'] at hp
    rcases List.mem_append.mp hp with hp | hp
    · exact nd.2.2 p.1 (List.mem_map_of_mem hp) a (by simp) q
    · exact nd.2.1.1 (List.mem_map.mpr ⟨p, hp, q⟩)
  have sub : ∀ p ∈ whole mt cs imm (l₁ ++ l₂) fo, p ∈ whole mt cs imm (l₁ ++ (a, o) :: l₂) fo := fun p hp => by
    rw [e'] at hp
    rw [e]
    rcases List.mem_append.mp hp with hp | hp
    · exact List.mem_append_left _ hp
    · exact List.mem_append_right _ (.tail _ hp)
  refine ⟨⟨_, tk, rfl⟩, m, mt, cs, fo, ⟨r.frm.ns.at' fun ob q => hs _ _ (fun q' => hw.2.1 q'.symm) q, fun b ob q => hs b ob (fun q' => by rw [q', hw.2.2] at q; cases q) (r.frm.keep b ob q), r.frm.above⟩, fun p hp => ?_, ?_, r.sto, r.fos, r.loc.other hd fun p hp => hp⟩
  · have z := r.news p (sub p hp)
    exact ⟨hs _ _ (ne p hp) z.1, z.2⟩
  · rw [e', List.map_append, List.nodup_append]
    exact ⟨nd.1, nd.2.1.2, fun x hx y hy => nd.2.2 x hx y (.tail _ hy)⟩
theorem Rel.frEnd (R : Rel c f ρ st imm ((a, o) :: fr) s) (hs : Heap.ExtBut a s.heap h') (hd : ∀ v, o.data ≠ .cell v) : Rel c f ρ st imm fr { s with heap := h', toks := tk } := Rel.frEndAt [] R hs hd
/-- one of the frame's own becomes an object of the store -/
theorem Rel.frSt {x : O} (R : Rel c f ρ st imm ((a, o) :: fr) s) (hd : ∀ v, o.data ≠ .cell v) (hr : RO c imm x o) : Rel c f ρ ((a, x) :: st) imm fr s ∧ Mine.get st a = Option.none := by
  obtain ⟨hs, m, mt, cs, fo, r⟩ := R
  have e : whole mt cs imm ((a, o) :: fr) fo = (mt ++ cs ++ imm) ++ (a, o) :: (fr ++ fo) := by simp
  have perm : (whole ((a, o) :: mt) cs imm fr fo).Perm (whole mt cs imm ((a, o) :: fr) fo) := by
    rw [e, show whole ((a, o) :: mt) cs imm fr fo = (a, o) :: ((mt ++ cs ++ imm) ++ (fr ++ fo)) by simp]
    exact List.perm_middle.symm
  have nd := (perm.map (·.1)).nodup_iff.mpr r.nodup
  refine ⟨⟨hs, m, (a, o) :: mt, cs, fo, r.frm, fun p hp => r.news p (perm.mem_iff.mp hp), nd, .cons hr r.sto, r.fos, LocR.other (l₁ := []) r.loc hd fun p hp => hp⟩, ?_⟩
  cases q : Mine.get st a with
  | none => rfl
  | some y =>
    obtain ⟨co, hm, _⟩ := r.sto.get q
    rw [show whole ((a, o) :: mt) cs imm fr fo = (a, o) :: whole mt cs imm fr fo from rfl, List.map_cons, List.nodup_cons] at nd
    exact absurd (List.mem_map.mpr ⟨(a, co), List.mem_append_left _ hm, rfl⟩) nd.1
end

/-- an exception's own objects; its entry's flight mark -/
inductive ExcL (e C : Addr) : Option Value → Led → Prop
  | made {oe : Obj} {vs : Array Value} {a0 : Value} (h1 : oe.cls = .ref C) (h2 : oe.data = .fields vs) (h3 : vs[1]? = some .none) (h4 : vs[0]? = some a0) : ExcL e C none [(e, oe)]
  | traced {oe oT : Obj} {vs ts : Array Value} {a0 fl : Value} {T : Addr} (h1 : oe.cls = .ref C) (h2 : oe.data = .fields vs) (h3 : vs[1]? = some (.ref T)) (h4 : vs[0]? = some a0) (h5 : oT.data = .fields ts) (h6 : ts[3]? = some fl) : ExcL e C (some fl) [(e, oe), (T, oT)]
/-- how far it is -/
def MarkOk (f : Fm) (mk : Option Value) : Prop := mk = none ∨ mk = some .none ∨ ∃ L, f.fenv.frame = some L ∧ mk = some (rawInt L)
/-- what was thrown -/
def Thrown (c : Cx) (f : Fm) (imm fr : Led) (X : Addr → Loc → St → Prop) (ev : Value) (s : Shared) : Prop :=
  ∃ e C mk E ρ st imm', ev = .ref e ∧ ExcL e C mk E ∧ MarkOk f mk ∧ (∀ p ∈ imm, p ∈ imm') ∧ Rel c f ρ st imm' (E ++ fr) s ∧ X C ρ st
theorem Thrown.mono {c : Cx} {f : Fm} {imm imm' fr : Led} {X : Addr → Loc → St → Prop} {ev : Value} {s : Shared} (hs : ∀ p ∈ imm, p ∈ imm') (h : Thrown c f imm' fr X ev s) : Thrown c f imm fr X ev s :=
  by obtain ⟨e, C, mk, E, ρ, st, imm'', a, b, d, i, r⟩ := h; exact ⟨e, C, mk, E, ρ, st, imm'', a, b, d, fun p hp => i p (hs p hp), r⟩
theorem Thrown.never {c : Cx} {f : Fm} {imm fr : Led} {ev : Value} {s : Shared} (h : Thrown c f imm fr (fun _ _ _ => False) ev s) : False :=
  by obtain ⟨_, _, _, _, _, _, _, _, _, _, _, _, h⟩ := h; exact h

def PostE (c : Cx) (f : Fm) (ρ : Loc) (imm fr : Led) (Q : V → St → Prop) (val : Value) (s : Shared) : Prop :=
  ∃ v st imm', (∀ p ∈ imm, p ∈ imm') ∧ RV c.base imm' v val ∧ Rel c f ρ st imm' fr s ∧ Q v st
theorem PostE.mono {c : Cx} {f : Fm} {ρ : Loc} {imm imm' fr : Led} {Q : V → St → Prop} {val : Value} {s : Shared} (hs : ∀ p ∈ imm, p ∈ imm') (h : PostE c f ρ imm' fr Q val s) : PostE c f ρ imm fr Q val s :=
  let ⟨v, st, imm'', a, r⟩ := h; ⟨v, st, imm'', fun p hp => a p (hs p hp), r⟩

abbrev Xp := Addr → Loc → St → Prop

/-- an expression -/
structure WPE (c : Cx) (k : Nat) (sc : Scope) (ρ : Loc) (st : St) (e : Expr) (Q : V → St → Prop) (X : Xp) : Prop where
  go : ∀ f imm fr s, f.Ok c k → f.env.scope = sc → Rel c f ρ st imm fr s →
    wpAny c.M f.A (eval e f.env) (PostE c f ρ imm fr Q) (Thrown c f imm fr X) s

/-- one value in, one out -/
structure W1 (c : Cx) (k : Nat) (t : Value → Sem Value) (a : V) (ρ : Loc) (st : St) (Q : V → St → Prop) (X : Xp) : Prop where
  go : ∀ f imm fr s x, f.Ok c k → Rel c f ρ st imm fr s → RV c.base imm a x → wpAny c.M f.A (t x) (PostE c f ρ imm fr Q) (Thrown c f imm fr X) s
/-- two values in, one out -/
structure W2 (c : Cx) (k : Nat) (t : Value → Value → Sem Value) (a b : V) (ρ : Loc) (st : St) (Q : V → St → Prop) (X : Xp) : Prop where
  go : ∀ f imm fr s x y, f.Ok c k → Rel c f ρ st imm fr s → RV c.base imm a x → RV c.base imm b y → wpAny c.M f.A (t x y) (PostE c f ρ imm fr Q) (Thrown c f imm fr X) s
/-- some values in, one out -/
structure WL (c : Cx) (k : Nat) (t : List Value → Sem Value) (as : List V) (ρ : Loc) (st : St) (Q : V → St → Prop) (X : Xp) : Prop where
  go : ∀ f imm fr s xs, f.Ok c k → Rel c f ρ st imm fr s → RVs c.base imm as xs → wpAny c.M f.A (t xs) (PostE c f ρ imm fr Q) (Thrown c f imm fr X) s
end Mine
namespace Mine
/-- two ways, by a bool -/
def cnd (b : Bool) (p q : Prop) : Prop := match b with
  | true => p
  | false => q
theorem cnd_t {p q : Prop} (h : p) : cnd true p q := h
theorem cnd_f {p q : Prop} (h : q) : cnd false p q := h
theorem of_t {p q : Prop} (h : cnd true p q) : p := h
theorem of_f {p q : Prop} (h : cnd false p q) : q := h
theorem cnd_is {b : Bool} {p q : Prop} (b' : Bool) (e : b = b') (h : cnd b' p q) : cnd b p q := e ▸ h
theorem cnd_cases {b : Bool} {p q : Prop} (h1 : b = true → p) (h2 : b = false → q) : cnd b p q := by
  cases b with
  | true => exact h1 rfl
  | false => exact h2 rfl

section
variable {c : Cx} {k : Nat} {sc : Scope} {ρ : Loc} {st : St} {Q : V → St → Prop} {X : Xp} {f : Fm} {imm fr : Led} {s : Shared} {tk : Nat}

theorem PostE.of {v : V} {x : Value} (hr : RV c.base imm v x) (R : Rel c f ρ st imm fr s) (h : Q v st) : PostE c f ρ imm fr Q x s := ⟨v, st, imm, fun _ h => h, hr, R, h⟩
theorem PostE.int {i : Int} {t : Tok} (R : Rel c f ρ st imm fr s) (h : Q (.int i) st) : PostE c f ρ imm fr Q (.int i t) { s with toks := tk } := .of (.int i t) R.toks h
theorem PostE.bool {b : Bool} (R : Rel c f ρ st imm fr s) (h : Q (.bool b) st) : PostE c f ρ imm fr Q (.bool b) s := .of (.bool b) R h
theorem PostE.none (R : Rel c f ρ st imm fr s) (h : Q .none st) : PostE c f ρ imm fr Q .none s := .of .none R h
theorem PostE.str {x : Str} {t : Tok} (R : Rel c f ρ st imm fr s) (h : Q (.str x) st) : PostE c f ρ imm fr Q (.str x t) { s with toks := tk } := .of (.str x t) R.toks h

theorem Rel.ns (R : Rel c f ρ st imm fr s) : ∃ m, Fr c.base f.L s.heap m := by
  obtain ⟨_, m, mt, cs, fo, r⟩ := R; exact ⟨m, r.frm⟩

/-- a name of the frame's -/
theorem WPE.nm {x : Str} {pos : Pos} {v : V} (e : getL ρ x = some v) (h : Q v st) (hd : (x == ("__debug__" : Str)) = false := by decide) (hn : (x == ("__classdict__" : Str)) = false := by decide) : WPE c k sc ρ st (.Name x pos) Q X := by
  refine ⟨fun f imm fr s ok hsc R => ?_⟩
  obtain ⟨hr, m, mt, cs, fo, r⟩ := id R
  obtain ⟨val, rv, q⟩ := r.loc.reads x v e
  refine wpAny_Name ?_ hd
  have P : PostE c f ρ imm fr Q val s := .of rv R h
  rcases q with ⟨q1, q2, q3⟩ | ⟨q1, cc, o, q2, q3, q4⟩
  · exact wpAny_loadName_local ok.ekind q1 (q2 ▸ r.frm.ns) q3 P
  · have hc : s.heap.get? cc = some o := (r.news (cc, o) (by
      simp only [List.mem_append] at q3 ⊢
      rcases q3 with q3 | q3
      · exact .inr (.inl q3)
      · exact .inr (.inr (.inr (.inl q3))))).1
    rcases q1 with q1 | q1
    · exact wpAny_loadName_cell ok.ekind q1 q2 ⟨o, hc, q4⟩ P
    · exact wpAny_loadName_free ok.ekind q1 q2 ⟨o, hc, q4⟩ P hn

theorem WPE.glob {x : Str} {pos : Pos} {v : V} {val : Value} (hx : sc.names.lookup x = some .globalImplicit) (e : nsIn c.K mainGlobals x = some (some val)) (hv : ∀ base imm, RV base imm v val) (h : Q v st)
    (hd : (x == ("__debug__" : Str)) = false := by decide) : WPE c k sc ρ st (.Name x pos) Q X := by
  refine ⟨fun f imm fr s ok hsc R => ?_⟩
  obtain ⟨m, F⟩ := R.ns
  have T := topRead_of ok.top
  exact Name_function_global ok.ekind (by unfold Env.kindOf; rw [hsc]; exact hx) (loadGlobal_global (env := f.env) (ok.eglob ▸ T.g.keeps F.keep) (mg_of ok.kin T.g e) (.of (hv _ _) R h)) hd
theorem WPE.blt {x : Str} {pos : Pos} {val : Value} (hx : sc.names.lookup x = some .globalImplicit) (e : nsIn c.K mainGlobals x = some none) (hv : bootBuiltins x = some val) (h : Q (.stat val) st)
    (hn : x ≠ "__name__" := by decide) (hd : (x == ("__debug__" : Str)) = false := by decide) : WPE c k sc ρ st (.Name x pos) Q X := by
  refine ⟨fun f imm fr s ok hsc R => ?_⟩
  obtain ⟨m, F⟩ := R.ns
  have T := topRead_of ok.top
  exact Name_function_global ok.ekind (by unfold Env.kindOf; rw [hsc]; exact hx) (loadGlobal_builtin (env := f.env) (ok.eglob ▸ T.g.keeps F.keep) (mg_none_of ok.kin T.g e) (ok.ebi ▸ T.b.keeps F.keep) ((T.builtins x hn).trans hv) (.of (.stat val) R h)) hd

theorem WPE.cint {i : Int} {n : Nat} {pos : Pos} (h : Q (.int i) st) : WPE c k sc ρ st (.Constant (.int i) n pos) Q X := ⟨fun _ _ _ _ _ _ R => wpAny_Constant_int (.int R h)⟩
theorem WPE.cbool {b : Bool} {n : Nat} {pos : Pos} (h : Q (.bool b) st) : WPE c k sc ρ st (.Constant (.bool b) n pos) Q X := ⟨fun _ _ _ _ _ _ R => wpAny_Constant_bool (.bool R h)⟩
theorem WPE.cnone {n : Nat} {pos : Pos} (h : Q .none st) : WPE c k sc ρ st (.Constant .none n pos) Q X := ⟨fun _ _ _ _ _ _ R => wpAny_Constant_none (.none R h)⟩

theorem WPE.bin {l r : Expr} {op : Operator} {pos : Pos} (h : WPE c k sc ρ st l (fun a st₁ => WPE c k sc ρ st₁ r (fun b st₂ => W2 c k (binaryOp op) a b ρ st₂ Q X) X) X) : WPE c k sc ρ st (.BinOp l op r pos) Q X := by
  refine ⟨fun f imm fr s ok hsc R => ?_⟩
  refine wpAny_BinOp (wpAny_mono (h.go f imm fr s ok hsc R) (fun x s₁ p => ?_) fun _ _ t => t)
  obtain ⟨a, st₁, imm₁, i₁, ra, R₁, h₁⟩ := p
  refine wpAny_mono (h₁.go f imm₁ fr s₁ ok hsc R₁) (fun y s₂ p => ?_) fun _ _ t => t.mono i₁
  obtain ⟨b, st₂, imm₂, i₂, rb, R₂, h₂⟩ := p
  exact wpAny_mono (h₂.go f imm₂ fr s₂ x y ok R₂ (ra.mono i₂) rb) (fun _ _ p => p.mono fun q hq => i₂ q (i₁ q hq)) fun _ _ t => t.mono fun q hq => i₂ q (i₁ q hq)
theorem WPE.un {e : Expr} {op : UnaryOp} {pos : Pos} (h : WPE c k sc ρ st e (fun a st₁ => W1 c k (unaryOp op) a ρ st₁ Q X) X) : WPE c k sc ρ st (.UnaryOp op e pos) Q X := by
  refine ⟨fun f imm fr s ok hsc R => ?_⟩
  refine wpAny_UnaryOp (wpAny_mono (h.go f imm fr s ok hsc R) (fun x s₁ p => ?_) fun _ _ t => t)
  obtain ⟨a, st₁, imm₁, i₁, ra, R₁, h₁⟩ := p
  exact wpAny_mono (h₁.go f imm₁ fr s₁ x ok R₁ ra) (fun _ _ p => p.mono i₁) fun _ _ t => t.mono i₁
theorem WPE.cmp {l r : Expr} {op : CmpOp} {pos : Pos} (h : WPE c k sc ρ st l (fun a st₁ => WPE c k sc ρ st₁ r (fun b st₂ => W2 c k (compareOp op) a b ρ st₂ Q X) X) X) (hm : behindInMarks op r = false := by rfl) : WPE c k sc ρ st (.Compare l [op] [r] pos) Q X := by
  refine ⟨fun f imm fr s ok hsc R => ?_⟩
  refine wpAny_Compare1 (wpAny_mono (h.go f imm fr s ok hsc R) (fun x s₁ p => ?_) fun _ _ t => t) hm
  obtain ⟨a, st₁, imm₁, i₁, ra, R₁, h₁⟩ := p
  refine wpAny_mono (h₁.go f imm₁ fr s₁ ok hsc R₁) (fun y s₂ p => ?_) fun _ _ t => t.mono i₁
  obtain ⟨b, st₂, imm₂, i₂, rb, R₂, h₂⟩ := p
  exact wpAny_mono (h₂.go f imm₂ fr s₂ x y ok R₂ (ra.mono i₂) rb) (fun _ _ p => p.mono fun q hq => i₂ q (i₁ q hq)) fun _ _ t => t.mono fun q hq => i₂ q (i₁ q hq)

theorem WPE.cstr {x : Str} {n : Nat} {pos : Pos} (h : Q (.str x) st) : WPE c k sc ρ st (.Constant (.str x) n pos) Q X := ⟨fun _ _ _ _ _ _ R => wpAny_Constant_str (.str R h)⟩

/-- ints -/
theorem W2.addI {a b : Int} (h : Q (.int (a + b)) st) : W2 c k (binaryOp .Add) (.int a) (.int b) ρ st Q X := by
  refine ⟨fun f imm fr s x y ok R ra rb => ?_⟩
  obtain ⟨_, rfl⟩ := ra.intI
  obtain ⟨_, rfl⟩ := rb.intI
  exact add_int (.int R h)
theorem W2.subI {a b : Int} (h : Q (.int (a - b)) st) : W2 c k (binaryOp .Sub) (.int a) (.int b) ρ st Q X := by
  refine ⟨fun f imm fr s x y ok R ra rb => ?_⟩
  obtain ⟨_, rfl⟩ := ra.intI
  obtain ⟨_, rfl⟩ := rb.intI
  exact sub_int (.int R h)
theorem W2.mulI {a b : Int} (hm : IntMulOk a b) (h : Q (.int (a * b)) st) : W2 c k (binaryOp .Mult) (.int a) (.int b) ρ st Q X := by
  refine ⟨fun f imm fr s x y ok R ra rb => ?_⟩
  obtain ⟨_, rfl⟩ := ra.intI
  obtain ⟨_, rfl⟩ := rb.intI
  exact mul_int (.int R h) hm
theorem W2.modI {a b : Int} (hb : b ≠ 0) (h : Q (.int (a.fmod b)) st) : W2 c k (binaryOp .Mod) (.int a) (.int b) ρ st Q X := by
  refine ⟨fun f imm fr s x y ok R ra rb => ?_⟩
  obtain ⟨_, rfl⟩ := ra.intI
  obtain ⟨_, rfl⟩ := rb.intI
  exact mod_int' hb (.int R h)
theorem W2.divI {a b : Int} (hb : b ≠ 0) (hs : b.natAbs < 1073741824) (h : Q (.int (a.fdiv b)) st) : W2 c k (binaryOp .FloorDiv) (.int a) (.int b) ρ st Q X := by
  refine ⟨fun f imm fr s x y ok R ra rb => ?_⟩
  obtain ⟨_, rfl⟩ := ra.intI
  obtain ⟨_, rfl⟩ := rb.intI
  exact floordiv_int hb (.int R h) (.inl (PyProof.noPylong_small hs))
theorem W1.negI {a : Int} (h : Q (.int (-a)) st) : W1 c k (unaryOp .USub) (.int a) ρ st Q X := by
  refine ⟨fun f imm fr s x ok R ra => ?_⟩
  obtain ⟨_, rfl⟩ := ra.intI
  exact neg_int (.int R h)
theorem W2.eqI {a b : Int} (h : Q (.bool (a == b)) st) : W2 c k (compareOp .Eq) (.int a) (.int b) ρ st Q X := by
  refine ⟨fun f imm fr s x y ok R ra rb => ?_⟩
  obtain ⟨_, rfl⟩ := ra.intI
  obtain ⟨_, rfl⟩ := rb.intI
  exact eq_int (.bool R h)
theorem W2.neI {a b : Int} (h : Q (.bool (a != b)) st) : W2 c k (compareOp .NotEq) (.int a) (.int b) ρ st Q X := by
  refine ⟨fun f imm fr s x y ok R ra rb => ?_⟩
  obtain ⟨_, rfl⟩ := ra.intI
  obtain ⟨_, rfl⟩ := rb.intI
  exact ne_int (.bool R h)
theorem W2.ltI {a b : Int} (h : Q (.bool (decide (a < b))) st) : W2 c k (compareOp .Lt) (.int a) (.int b) ρ st Q X := by
  refine ⟨fun f imm fr s x y ok R ra rb => ?_⟩
  obtain ⟨_, rfl⟩ := ra.intI
  obtain ⟨_, rfl⟩ := rb.intI
  exact lt_int (.bool R h)
theorem W2.leI {a b : Int} (h : Q (.bool (decide (a ≤ b))) st) : W2 c k (compareOp .LtE) (.int a) (.int b) ρ st Q X := by
  refine ⟨fun f imm fr s x y ok R ra rb => ?_⟩
  obtain ⟨_, rfl⟩ := ra.intI
  obtain ⟨_, rfl⟩ := rb.intI
  exact le_int (.bool R h)
theorem W2.gtI {a b : Int} (h : Q (.bool (decide (b < a))) st) : W2 c k (compareOp .Gt) (.int a) (.int b) ρ st Q X := by
  refine ⟨fun f imm fr s x y ok R ra rb => ?_⟩
  obtain ⟨_, rfl⟩ := ra.intI
  obtain ⟨_, rfl⟩ := rb.intI
  exact gt_int (.bool R h)
theorem W2.eqS {a b : Str} (h : Q (.bool (a == b)) st) : W2 c k (compareOp .Eq) (.str a) (.str b) ρ st Q X := by
  refine ⟨fun f imm fr s x y ok R ra rb => ?_⟩
  obtain ⟨_, rfl⟩ := ra.strI
  obtain ⟨_, rfl⟩ := rb.strI
  exact PyProof.Rows.eq_str (.bool R h)


/-- is: a value that is no int, no text, no object of two -/
def isOk : V → V → Bool
  | .none, .none => true
  | .none, .bool _ => true
  | .none, .int _ => true
  | .none, .str _ => true
  | .none, .tup _ => true
  | .none, .ref _ => true
  | .bool _, .none => true
  | .bool _, .bool _ => true
  | .int _, .none => true
  | .int _, .bool _ => true
  | .str _, .none => true
  | .str _, .bool _ => true
  | .tup _, .none => true
  | .tup _, .bool _ => true
  | .ref _, .none => true
  | .ref _, .bool _ => true
  | _, _ => false
def isSameV : V → V → Bool
  | .none, .none => true
  | .bool a, .bool b => a == b
  | _, _ => false
theorem is_plain {base : Heap} {imm : Led} {a b : V} {x y : Value} (ra : RV base imm a x) (rb : RV base imm b y) (ho : isOk a b = true) : plainIs x y = true ∧ (x == y) = isSameV a b := by
  cases ra <;> cases rb <;> first | (exact ⟨rfl, rfl⟩) | (cases ho; done) | (rename_i a b; cases a <;> cases b <;> exact ⟨rfl, rfl⟩)
theorem W2.is {a b : V} (ho : isOk a b = true) (h : Q (.bool (isSameV a b)) st) : W2 c k (compareOp .Is) a b ρ st Q X := by
  refine ⟨fun f imm fr s x y ok R ra rb => ?_⟩
  have q := is_plain ra rb ho
  exact wpAny_is_plain q.1 (.bool R (q.2 ▸ h))
def isNoneV : V → Bool
  | .none => true
  | _ => false
theorem isN_plain {base : Heap} {imm : Led} {a : V} {x : Value} (ra : RV base imm a x) (ho : isOk a .none = true) : plainIs x .none = true ∧ (x == .none) = isNoneV a := by
  cases ra <;> first | exact ⟨rfl, rfl⟩ | cases ho
theorem W2.isN {a : V} (ho : isOk a .none = true) (h : Q (.bool (isNoneV a)) st) : W2 c k (compareOp .Is) a .none ρ st Q X := by
  refine ⟨fun f imm fr s x y ok R ra rb => ?_⟩
  obtain rfl := rb.noneI
  have q := isN_plain ra ho
  exact wpAny_is_plain q.1 (.bool R (q.2 ▸ h))
theorem W2.isNotN {a : V} (ho : isOk a .none = true) (h : Q (.bool (!isNoneV a)) st) : W2 c k (compareOp .IsNot) a .none ρ st Q X := by
  refine ⟨fun f imm fr s x y ok R ra rb => ?_⟩
  obtain rfl := rb.noneI
  have q := isN_plain ra ho
  exact wpAny_isNot_plain q.1 (.bool R (q.2 ▸ h))

/-! truth -/
def PostB (c : Cx) (f : Fm) (ρ : Loc) (imm fr : Led) (Q : Bool → St → Prop) (b : Bool) (s : Shared) : Prop :=
  ∃ st imm', (∀ p ∈ imm, p ∈ imm') ∧ Rel c f ρ st imm' fr s ∧ Q b st
theorem PostB.mono {imm' : Led} {Q : Bool → St → Prop} {b : Bool} (hs : ∀ p ∈ imm, p ∈ imm') (h : PostB c f ρ imm' fr Q b s) : PostB c f ρ imm fr Q b s :=
  let ⟨st, imm'', a, r⟩ := h; ⟨st, imm'', fun p hp => a p (hs p hp), r⟩
structure WPB (c : Cx) (k : Nat) (sc : Scope) (ρ : Loc) (st : St) (e : Expr) (Q : Bool → St → Prop) (X : Xp) : Prop where
  go : ∀ f imm fr s, f.Ok c k → f.env.scope = sc → Rel c f ρ st imm fr s →
    wpAny c.M f.A (isTrue e f.env (eval e f.env)) (PostB c f ρ imm fr Q) (Thrown c f imm fr X) s
/-- and, or: the rest of them -/
structure WPAll (c : Cx) (k : Nat) (sc : Scope) (op : BoolOp) (ρ : Loc) (st : St) (es : List Expr) (Q : Bool → St → Prop) (X : Xp) : Prop where
  go : ∀ f imm fr s, f.Ok c k → f.env.scope = sc → Rel c f ρ st imm fr s →
    wpAny c.M f.A (allTrue op es f.env) (PostB c f ρ imm fr Q) (Thrown c f imm fr X) s
variable {B : Bool → St → Prop}

theorem WPB.val {e : Expr} (h : WPE c k sc ρ st e (fun v st₁ => ∃ b, v = .bool b ∧ B b st₁) X)
    (he : ∀ env whole, isTrue e env whole = (do let v ← whole; standAt e.pos; holding [v] (truthy v)) := by intro _ _; rfl) : WPB c k sc ρ st e B X := by
  refine ⟨fun f imm fr s ok hsc R => ?_⟩
  refine wpAny_isTrue_value (wpAny_mono (h.go f imm fr s ok hsc R) (fun x s₁ p => ?_) fun _ _ t => t) (he _ _)
  obtain ⟨v, st₁, imm₁, i₁, rv, R₁, b, rfl, h₁⟩ := p
  obtain rfl := rv.boolI
  exact wpAny_truthy_bool ⟨st₁, imm₁, i₁, R₁, h₁⟩
theorem WPB.not {e : Expr} {pos : Pos} (h : WPB c k sc ρ st e (fun b st₁ => cnd b (B false st₁) (B true st₁)) X) : WPB c k sc ρ st (.UnaryOp .Not e pos) B X := by
  refine ⟨fun f imm fr s ok hsc R => ?_⟩
  refine wpAny_isTrue_Not (wpAny_mono (h.go f imm fr s ok hsc R) (fun b s₁ p => ?_) fun _ _ t => t)
  obtain ⟨st₁, imm₁, i₁, R₁, h₁⟩ := p
  cases b with
  | true => exact ⟨st₁, imm₁, i₁, R₁, of_t h₁⟩
  | false => exact ⟨st₁, imm₁, i₁, R₁, of_f h₁⟩
theorem WPB.cmp {l r : Expr} {op : CmpOp} {pos : Pos} (h : WPE c k sc ρ st l (fun a st₁ => WPE c k sc ρ st₁ r (fun b st₂ => W2 c k (compareOp op) a b ρ st₂ (fun v st₃ => ∃ b, v = .bool b ∧ B b st₃) X) X) X) (hm : behindInMarks op r = false := by rfl) : WPB c k sc ρ st (.Compare l [op] [r] pos) B X := by
  refine ⟨fun f imm fr s ok hsc R => ?_⟩
  refine wpAny_isTrue_Compare1 (wpAny_mono (h.go f imm fr s ok hsc R) (fun x s₁ p => ?_) fun _ _ t => t) hm
  obtain ⟨a, st₁, imm₁, i₁, ra, R₁, h₁⟩ := p
  refine wpAny_mono (h₁.go f imm₁ fr s₁ ok hsc R₁) (fun y s₂ p => ?_) fun _ _ t => t.mono i₁
  obtain ⟨b, st₂, imm₂, i₂, rb, R₂, h₂⟩ := p
  refine wpAny_mono (h₂.go f imm₂ fr s₂ x y ok R₂ (ra.mono i₂) rb) (fun z s₃ p => ?_) fun _ _ t => t.mono fun q hq => i₂ q (i₁ q hq)
  obtain ⟨v, st₃, imm₃, i₃, rv, R₃, b, rfl, h₃⟩ := p
  obtain rfl := rv.boolI
  exact wpAny_truthy_bool ⟨st₃, imm₃, fun q hq => i₃ q (i₂ q (i₁ q hq)), R₃, h₃⟩
theorem WPB.op {op : BoolOp} {es : List Expr} {pos : Pos} (h : WPAll c k sc op ρ st es B X) : WPB c k sc ρ st (.BoolOp op es pos) B X := ⟨fun f imm fr s ok hsc R => wpAny_isTrue_BoolOp (h.go f imm fr s ok hsc R)⟩
theorem WPAll.and {e : Expr} {es : List Expr} (h : WPB c k sc ρ st e (fun b st₁ => cnd b (WPAll c k sc .And ρ st₁ es B X) (B false st₁)) X) : WPAll c k sc .And ρ st (e :: es) B X := by
  refine ⟨fun f imm fr s ok hsc R => ?_⟩
  refine wpAny_allTrue_And_cons (wpAny_mono (h.go f imm fr s ok hsc R) (fun b s₁ p => ?_) fun _ _ t => t)
  obtain ⟨st₁, imm₁, i₁, R₁, h₁⟩ := p
  cases b with
  | true => exact wpAny_mono ((of_t h₁).go f imm₁ fr s₁ ok hsc R₁) (fun _ _ p => p.mono i₁) fun _ _ t => t.mono i₁
  | false => exact ⟨st₁, imm₁, i₁, R₁, h₁⟩
theorem WPAll.or {e : Expr} {es : List Expr} (h : WPB c k sc ρ st e (fun b st₁ => cnd b (B true st₁) (WPAll c k sc .Or ρ st₁ es B X)) X) : WPAll c k sc .Or ρ st (e :: es) B X := by
  refine ⟨fun f imm fr s ok hsc R => ?_⟩
  refine wpAny_allTrue_Or_cons (wpAny_mono (h.go f imm fr s ok hsc R) (fun b s₁ p => ?_) fun _ _ t => t)
  obtain ⟨st₁, imm₁, i₁, R₁, h₁⟩ := p
  cases b with
  | false => exact wpAny_mono ((of_f h₁).go f imm₁ fr s₁ ok hsc R₁) (fun _ _ p => p.mono i₁) fun _ _ t => t.mono i₁
  | true => exact ⟨st₁, imm₁, i₁, R₁, h₁⟩
theorem WPAll.andNil (h : B true st) : WPAll c k sc .And ρ st [] B X := ⟨fun f imm fr s ok hsc R => wpAny_allTrue_And_nil ⟨st, imm, fun _ h => h, R, h⟩⟩
theorem WPAll.orNil (h : B false st) : WPAll c k sc .Or ρ st [] B X := ⟨fun f imm fr s ok hsc R => wpAny_allTrue_Or_nil ⟨st, imm, fun _ h => h, R, h⟩⟩
/-! and, or, if as values -/
theorem WPE.not {e : Expr} {pos : Pos} (h : WPE c k sc ρ st e (fun v st₁ => ∃ b, v = .bool b ∧ cnd b (Q (.bool false) st₁) (Q (.bool true) st₁)) X) : WPE c k sc ρ st (.UnaryOp .Not e pos) Q X := by
  refine ⟨fun f imm fr s ok hsc R => ?_⟩
  refine wpAny_UnaryOp (wpAny_mono (h.go f imm fr s ok hsc R) (fun x s₁ p => ?_) fun _ _ t => t)
  obtain ⟨v, st₁, imm₁, i₁, rv, R₁, b, rfl, h₁⟩ := p
  obtain rfl := rv.boolI
  cases b with
  | true => exact not_of (wpAny_truthy_bool (PostE.mono i₁ (.bool R₁ (of_t h₁))))
  | false => exact not_of (wpAny_truthy_bool (PostE.mono i₁ (.bool R₁ (of_f h₁))))
theorem boolOp_one {M : Model} {A : Around} {E : Value → Shared → Prop} {x : Sem Value} {pos : Pos} {op : BoolOp} {P : Value → Shared → Prop} (h : wpAny M A x P E s) : wpAny M A (boolOp pos op [x]) P E s := h
theorem boolOp_more {M : Model} {A : Around} {E : Value → Shared → Prop} {x y : Sem Value} {r : List (Sem Value)} {pos : Pos} {op : BoolOp} {P : Value → Shared → Prop}
    (h : wpAny M A x (fun v s₁ => wpAny M A (truthy v) (fun t s₂ => match op, t with | .And, false | .Or, true => P v s₂ | _, _ => wpAny M A (boolOp pos op (y :: r)) P E s₂) E s₁) E s) : wpAny M A (boolOp pos op (x :: y :: r)) P E s := by
  show wpAny M A (do
    let v ← x
    standAt pos
    let t ← holding [v] (truthy v)
    match op, t with
    | .And, false | .Or, true => pure v
    | _, _ => boolOp pos op (y :: r)) P E s
  refine wpAny_bind (wpAny_mono h (fun v s₁ h₁ => wpAny_bind (wpAny_standAt (wpAny_bind (wpAny_holding (wpAny_mono h₁ (fun t s₂ h₂ => ?_) fun _ _ x => x))))) fun _ _ x => x)
  cases op <;> cases t <;> first | exact wpAny_pure h₂ | exact h₂
theorem WPE.opOne {op : BoolOp} {e : Expr} {pos : Pos} (h : WPE c k sc ρ st e Q X) : WPE c k sc ρ st (.BoolOp op [e] pos) Q X := ⟨fun f imm fr s ok hsc R => boolOp_one (h.go f imm fr s ok hsc R)⟩
theorem WPE.and {e e' : Expr} {es : List Expr} {pos : Pos} (h : WPE c k sc ρ st e (fun v st₁ => ∃ b, v = .bool b ∧ cnd b (WPE c k sc ρ st₁ (.BoolOp .And (e' :: es) pos) Q X) (Q (.bool false) st₁)) X) : WPE c k sc ρ st (.BoolOp .And (e :: e' :: es) pos) Q X := by
  refine ⟨fun f imm fr s ok hsc R => ?_⟩
  refine boolOp_more (wpAny_mono (h.go f imm fr s ok hsc R) (fun x s₁ p => ?_) fun _ _ t => t)
  obtain ⟨v, st₁, imm₁, i₁, rv, R₁, b, rfl, h₁⟩ := p
  obtain rfl := rv.boolI
  refine wpAny_truthy_bool ?_
  cases b with
  | true => exact wpAny_mono ((of_t h₁).go f imm₁ fr s₁ ok hsc R₁) (fun _ _ p => p.mono i₁) fun _ _ t => t.mono i₁
  | false => exact PostE.mono i₁ (.bool R₁ h₁)
theorem WPE.cmp2 {l r₁ r₂ : Expr} {op₁ op₂ : CmpOp} {pos : Pos} (h : WPE c k sc ρ st l (fun a st₁ => WPE c k sc ρ st₁ r₁ (fun b st₂ => W2 c k (compareOp op₁) a b ρ st₂ (fun v st₃ => ∃ t, v = .bool t ∧ cnd t (WPE c k sc ρ st₃ r₂ (fun d st₄ => W2 c k (compareOp op₂) b d ρ st₄ Q X) X) (Q (.bool false) st₃)) X) X) X)
    (hm : lastMarks [op₁, op₂] [r₁, r₂] = false := by rfl) : WPE c k sc ρ st (.Compare l [op₁, op₂] [r₁, r₂] pos) Q X := by
  refine ⟨fun f imm fr s ok hsc R => ?_⟩
  refine Compare_chain (wpAny_mono (h.go f imm fr s ok hsc R) (fun x s₁ p => ?_) fun _ _ t => t) hm
  obtain ⟨a, st₁, imm₁, i₁, ra, R₁, h₁⟩ := p
  refine chain_link (wpAny_mono (h₁.go f imm₁ fr s₁ ok hsc R₁) (fun y s₂ p => ?_) fun _ _ t => t.mono i₁)
  obtain ⟨b, st₂, imm₂, i₂, rb, R₂, h₂⟩ := p
  refine wpAny_mono (h₂.go f imm₂ fr s₂ x y ok R₂ (ra.mono i₂) rb) (fun z s₃ p => ?_) fun _ _ t => t.mono fun q hq => i₂ q (i₁ q hq)
  obtain ⟨v, st₃, imm₃, i₃, rv, R₃, t, rfl, h₃⟩ := p
  obtain rfl := rv.boolI
  refine wpAny_truthy_bool ?_
  have i₁₃ : ∀ p ∈ imm, p ∈ imm₃ := fun q hq => i₃ q (i₂ q (i₁ q hq))
  cases t with
  | false => exact PostE.mono i₁₃ (.bool R₃ h₃)
  | true =>
    refine chain_last (wpAny_mono ((of_t h₃).go f imm₃ fr s₃ ok hsc R₃) (fun u s₄ p => ?_) fun _ _ t => t.mono i₁₃)
    obtain ⟨d, st₄, imm₄, i₄, rd, R₄, h₄⟩ := p
    exact wpAny_mono (h₄.go f imm₄ fr s₄ y u ok R₄ ((rb.mono i₃).mono i₄) rd) (fun _ _ p => p.mono fun q hq => i₄ q (i₁₃ q hq)) fun _ _ t => t.mono fun q hq => i₄ q (i₁₃ q hq)
theorem WPB.cmp2 {l r₁ r₂ : Expr} {op₁ op₂ : CmpOp} {pos : Pos} (h : WPE c k sc ρ st l (fun a st₁ => WPE c k sc ρ st₁ r₁ (fun b st₂ => W2 c k (compareOp op₁) a b ρ st₂ (fun v st₃ => ∃ t, v = .bool t ∧ cnd t (WPE c k sc ρ st₃ r₂ (fun d st₄ => W2 c k (compareOp op₂) b d ρ st₄ (fun v st₅ => ∃ t, v = .bool t ∧ B t st₅) X) X) (B false st₃)) X) X) X)
    (hm : lastMarks [op₁, op₂] [r₁, r₂] = false := by rfl) : WPB c k sc ρ st (.Compare l [op₁, op₂] [r₁, r₂] pos) B X := by
  refine ⟨fun f imm fr s ok hsc R => ?_⟩
  refine isTrue_chain (wpAny_mono (h.go f imm fr s ok hsc R) (fun x s₁ p => ?_) fun _ _ t => t) hm
  obtain ⟨a, st₁, imm₁, i₁, ra, R₁, h₁⟩ := p
  refine test_link (wpAny_mono (h₁.go f imm₁ fr s₁ ok hsc R₁) (fun y s₂ p => ?_) fun _ _ t => t.mono i₁)
  obtain ⟨b, st₂, imm₂, i₂, rb, R₂, h₂⟩ := p
  refine wpAny_mono (h₂.go f imm₂ fr s₂ x y ok R₂ (ra.mono i₂) rb) (fun z s₃ p => ?_) fun _ _ t => t.mono fun q hq => i₂ q (i₁ q hq)
  obtain ⟨v, st₃, imm₃, i₃, rv, R₃, t, rfl, h₃⟩ := p
  obtain rfl := rv.boolI
  refine wpAny_truthy_bool ?_
  have i₁₃ : ∀ p ∈ imm, p ∈ imm₃ := fun q hq => i₃ q (i₂ q (i₁ q hq))
  cases t with
  | false => exact ⟨st₃, imm₃, i₁₃, R₃, h₃⟩
  | true =>
    refine test_last (wpAny_mono ((of_t h₃).go f imm₃ fr s₃ ok hsc R₃) (fun u s₄ p => ?_) fun _ _ t => t.mono i₁₃)
    obtain ⟨d, st₄, imm₄, i₄, rd, R₄, h₄⟩ := p
    have i₁₄ : ∀ p ∈ imm, p ∈ imm₄ := fun q hq => i₄ q (i₁₃ q hq)
    refine wpAny_mono (h₄.go f imm₄ fr s₄ y u ok R₄ ((rb.mono i₃).mono i₄) rd) (fun z s₅ p => ?_) fun _ _ t => t.mono i₁₄
    obtain ⟨v, st₅, imm₅, i₅, rv, R₅, t, rfl, h₅⟩ := p
    obtain rfl := rv.boolI
    exact wpAny_truthy_bool ⟨st₅, imm₅, fun q hq => i₅ q (i₁₄ q hq), R₅, h₅⟩
end
end Mine
namespace Mine
inductive Fl where
  | next | brk | cont
  | ret (v : V)
/-- on, or out -/
def nxt (fl : Fl) (p q : Prop) : Prop := match fl with
  | .next => p
  | _ => q
theorem nxt_next {p q : Prop} (h : p) : nxt .next p q := h
theorem nxt_ret {v : V} {p q : Prop} (h : q) : nxt (.ret v) p q := h
inductive RFl (base : Heap) (imm : Led) : Fl → Flow → Prop
  | next : RFl base imm .next .next
  | brk : RFl base imm .brk .brk
  | cont : RFl base imm .cont .cont
  | ret {v : V} {x : Value} : RV base imm v x → RFl base imm (.ret v) (.ret x)

def PostS (c : Cx) (f : Fm) (imm fr : Led) (Q : Fl → Loc → St → Prop) (fl : Flow) (s : Shared) : Prop :=
  ∃ fl' ρ st imm', (∀ p ∈ imm, p ∈ imm') ∧ RFl c.base imm' fl' fl ∧ Rel c f ρ st imm' fr s ∧ Q fl' ρ st
theorem PostS.mono {c : Cx} {f : Fm} {imm imm' fr : Led} {Q : Fl → Loc → St → Prop} {fl : Flow} {s : Shared} (hs : ∀ p ∈ imm, p ∈ imm') (h : PostS c f imm' fr Q fl s) : PostS c f imm fr Q fl s :=
  let ⟨v, ρ, st, imm'', a, r⟩ := h; ⟨v, ρ, st, imm'', fun p hp => a p (hs p hp), r⟩

/-- a function's own block -/
structure Fm.Own (f : Fm) : Prop where
  same : f.env = f.fenv
  locals : f.env.locals = f.L
  cmp : f.cmp = false

/-- statements -/
structure WPS (c : Cx) (k : Nat) (sc : Scope) (ρ : Loc) (st : St) (ss : List Stmt) (Q : Fl → Loc → St → Prop) (X : Xp) : Prop where
  go : ∀ f imm fr s, f.Ok c k → f.env.scope = sc → f.Own → Rel c f ρ st imm fr s →
    wpAny c.M f.A (execs ss f.env) (PostS c f imm fr Q) (Thrown c f imm fr X) s
/-- one statement -/
structure WPs (c : Cx) (k : Nat) (sc : Scope) (ρ : Loc) (st : St) (ss : Stmt) (Q : Fl → Loc → St → Prop) (X : Xp) : Prop where
  go : ∀ f imm fr s, f.Ok c k → f.env.scope = sc → f.Own → Rel c f ρ st imm fr s →
    wpAny c.M f.A (exec ss f.env) (PostS c f imm fr Q) (Thrown c f imm fr X) s
/-- expressions, one behind the other -/
def PostL (c : Cx) (f : Fm) (ρ : Loc) (imm fr : Led) (n : Nat) (Q : List V → St → Prop) (xs : List Value) (s : Shared) : Prop :=
  ∃ vs st imm', (∀ p ∈ imm, p ∈ imm') ∧ RVs c.base imm' vs xs ∧ Rel c f ρ st imm' fr s ∧ vs.length = n ∧ Q vs st
structure WPEs (c : Cx) (k : Nat) (sc : Scope) (ρ : Loc) (st : St) (es : List Expr) (Q : List V → St → Prop) (X : Xp) : Prop where
  go : ∀ f imm fr s pos, f.Ok c k → f.env.scope = sc → Rel c f ρ st imm fr s →
    wpAny c.M f.A (spliced (backTo pos (starEach es f.env))) (PostL c f ρ imm fr es.length Q) (Thrown c f imm fr X) s

section
variable {c : Cx} {k : Nat} {sc : Scope} {ρ : Loc} {st : St} {Q : V → St → Prop} {S : Fl → Loc → St → Prop} {X : Xp} {f : Fm} {imm fr : Led} {s : Shared} {tk : Nat}

theorem PostS.next (R : Rel c f ρ st imm fr s) (h : S .next ρ st) : PostS c f imm fr S .next s := ⟨.next, ρ, st, imm, fun _ h => h, .next, R, h⟩

theorem WPS.nil (h : S .next ρ st) : WPS c k sc ρ st [] S X := ⟨fun f imm fr s ok hsc own R => wpAny_execs_nil (.next R h)⟩
theorem WPS.cons {t : Stmt} {ts : List Stmt} (h : WPs c k sc ρ st t (fun fl ρ₁ st₁ => nxt fl (WPS c k sc ρ₁ st₁ ts S X) (S fl ρ₁ st₁)) X) : WPS c k sc ρ st (t :: ts) S X := by
  refine ⟨fun f imm fr s ok hsc own R => ?_⟩
  refine wpAny_execs_cons (wpAny_mono (h.go f imm fr s ok hsc own R) (fun fl s₁ p => ?_) fun _ _ t => t)
  obtain ⟨fl', ρ₁, st₁, imm₁, i₁, rf, R₁, h₁⟩ := p
  cases rf with
  | next => exact wpAny_mono ((show WPS c k sc ρ₁ st₁ ts S X from h₁).go f imm₁ fr s₁ ok hsc own R₁) (fun _ _ p => p.mono i₁) fun _ _ t => t.mono i₁
  | brk => exact ⟨.brk, ρ₁, st₁, imm₁, i₁, .brk, R₁, h₁⟩
  | cont => exact ⟨.cont, ρ₁, st₁, imm₁, i₁, .cont, R₁, h₁⟩
  | ret r => exact ⟨_, ρ₁, st₁, imm₁, i₁, .ret r, R₁, h₁⟩

theorem WPs.ret {e : Expr} {pos : Pos} (h : WPE c k sc ρ st e (fun v st₁ => S (.ret v) ρ st₁) X) : WPs c k sc ρ st (.Return (some e) pos) S X := by
  refine ⟨fun f imm fr s ok hsc own R => ?_⟩
  refine wpAny_Return_some (wpAny_mono (h.go f imm fr s ok hsc R) (fun x s₁ p => ?_) fun _ _ t => t)
  obtain ⟨v, st₁, imm₁, i₁, rv, R₁, h₁⟩ := p
  exact ⟨.ret v, ρ, st₁, imm₁, i₁, .ret rv, R₁, h₁⟩
theorem WPs.ifs {e : Expr} {b o : List Stmt} {pos : Pos} (h : WPB c k sc ρ st e (fun v st₁ => cnd v (WPS c k sc ρ st₁ b S X) (WPS c k sc ρ st₁ o S X)) X) : WPs c k sc ρ st (.If e b o pos) S X := by
  refine ⟨fun f imm fr s ok hsc own R => ?_⟩
  refine wpAny_If (wpAny_mono (h.go f imm fr s ok hsc R) (fun b s₁ p => ?_) fun _ _ t => t)
  obtain ⟨st₁, imm₁, i₁, R₁, h₁⟩ := p
  cases b with
  | false => exact wpAny_mono ((of_f h₁).go f imm₁ fr s₁ ok hsc own R₁) (fun _ _ p => p.mono i₁) fun _ _ t => t.mono i₁
  | true => exact wpAny_mono ((of_t h₁).go f imm₁ fr s₁ ok hsc own R₁) (fun _ _ p => p.mono i₁) fun _ _ t => t.mono i₁
/-! storing a name -/
theorem getL_set_reads {base : Heap} {f : Fm} {m : Str → Option Value} {cs : Led} {x : Str} {v : V} {val : Value} (L : LocR base imm f ρ m cs fr) (hl : f.env.kindOf x = some .local) (own : f.env.locals = f.L) (rv : RV base imm v val) :
    LocR base imm f (setL ρ x v) (fun y => if y = x then some val else m y) cs fr := by
  refine ⟨fun y u e => ?_, L.cells, L.inj⟩
  rw [getL_setL] at e
  by_cases h : y = x
  · subst h
    rw [if_pos rfl] at e
    cases e
    exact ⟨val, rv, .inl ⟨hl, own, by simp⟩⟩
  · rw [if_neg h] at e
    obtain ⟨w, rw', q⟩ := L.reads y u e
    refine ⟨w, rw', ?_⟩
    rcases q with ⟨q1, q2, q3⟩ | q
    · exact .inl ⟨q1, q2, by simpa [h] using q3⟩
    · exact .inr q
theorem store_local {x : Str} {v : V} {val : Value} {P : Unit → Shared → Prop} {E : Value → Shared → Prop} (ok : f.Ok c k) (own : f.env.locals = f.L) (R : Rel c f ρ st imm fr s) (hx : f.env.kindOf x = some .local) (rv : RV c.base imm v val)
    (h : ∀ s', Rel c f (setL ρ x v) st imm fr s' → P () s') : wpAny c.M f.A (storeName f.env x val) P E s := by
  obtain ⟨⟨h0, tk0, rfl⟩, m, mt, cs, fo, r⟩ := R
  refine wpAny_storeName_local hx (own ▸ r.frm.ns) (fun h' hn hs => h _ ⟨⟨h', _, rfl⟩, (fun y => if y = x then some val else m y), mt, cs, fo, ?_⟩) (by rw [ok.ekind]; rfl)
  rw [own] at hn hs
  exact ⟨r.frm.set hn hs, r.news.set hs, r.nodup, r.sto, r.fos, getL_set_reads r.loc hx own rv⟩
theorem store_cell {x : Str} {v : V} {val : Value} {P : Unit → Shared → Prop} {E : Value → Shared → Prop} {cc : Addr} (ok : f.Ok c k) (own : f.Own) (R : Rel c f ρ st imm fr s) (hx : f.env.kindOf x = some .cell) (hc : f.env.cells.lookup x = some cc) (rv : RV c.base imm v val)
    (h : ∀ s', Rel c f (setL ρ x v) st imm fr s' → P () s') : wpAny c.M f.A (storeName f.env x val) P E s := by
  obtain ⟨⟨h0, tk0, rfl⟩, m, mt, cs, fo, r⟩ := R
  obtain ⟨o, v₀, hm, hd⟩ := r.loc.cells own.cmp x cc hc
  have hw := r.news (cc, o) (by simp [hm])
  refine wpAny_storeName_cell ok.ekind hx hc ⟨o, hw.1, hd⟩ fun h' hv hs => ?_
  obtain ⟨o', ho', hd'⟩ := hv
  obtain ⟨c1, c2, rfl⟩ := List.append_of_mem hm
  have e : whole mt (c1 ++ (cc, o) :: c2) imm fr fo = (mt ++ c1) ++ (cc, o) :: (c2 ++ (imm ++ (fr ++ fo))) := by simp
  have e' : whole mt (c1 ++ (cc, o') :: c2) imm fr fo = (mt ++ c1) ++ (cc, o') :: (c2 ++ (imm ++ (fr ++ fo))) := by simp
  have nd := r.nodup
  rw [e] at nd
  have h1 : ∀ p ∈ mt ++ c1, p.1 ≠ cc := fun p hp q => by
    rw [List.map_append, List.nodup_append] at nd
    exact nd.2.2 p.1 (List.mem_map_of_mem hp) cc (by simp) q
  have h2 : ∀ p ∈ c2 ++ (imm ++ (fr ++ fo)), p.1 ≠ cc := fun p hp q => by
    rw [List.map_append, List.nodup_append, List.map_cons, List.nodup_cons] at nd
    exact nd.2.1.1 (List.mem_map.mpr ⟨p, hp, q⟩)
  have hne : ∀ b ob, (b, ob) ∈ c1 ++ (cc, o) :: c2 → b ≠ cc → (b, ob) ∈ c1 ++ (cc, o') :: c2 := fun b ob hb n => by
    simp only [List.mem_append, List.mem_cons, Prod.mk.injEq] at hb ⊢
    rcases hb with hb | ⟨hb, _⟩ | hb
    · exact .inl hb
    · exact absurd hb n
    · exact .inr (.inr hb)
  refine h _ ⟨⟨h', _, rfl⟩, m, mt, c1 ++ (cc, o') :: c2, fo, Fr.other r.frm hs hw.2.1 hw.2.2, ?_, ?_, r.sto, r.fos, ?_⟩
  · rw [e']
    have := r.news
    rw [e] at this
    exact News.setAt this h1 h2 hs ho'
  · rw [e']; simp only [List.map_append, List.map_cons] at nd ⊢; exact nd
  · refine ⟨fun y u q => ?_, fun _ y cy q => ?_, r.loc.inj⟩
    · rw [getL_setL] at q
      by_cases hy : y = x
      · subst hy
        rw [if_pos rfl] at q
        cases q
        exact ⟨val, rv, .inr ⟨.inl hx, cc, o', hc, by simp, hd'⟩⟩
      · rw [if_neg hy] at q
        obtain ⟨w, rw', z⟩ := r.loc.reads y u q
        refine ⟨w, rw', ?_⟩
        rcases z with z | ⟨z1, c', oc, z2, z3, z4⟩
        · exact .inl z
        · refine .inr ⟨z1, c', oc, z2, ?_, z4⟩
          rcases List.mem_append.mp z3 with z3 | z3
          · exact List.mem_append_left _ (hne _ _ z3 fun e => hy (r.loc.inj own.cmp y x cc (e ▸ z2) hc))
          · exact List.mem_append_right _ z3
    · obtain ⟨oy, vy, z1, z2⟩ := r.loc.cells own.cmp y cy q
      by_cases e : cy = cc
      · subst e; exact ⟨o', _, by simp, hd'⟩
      · exact ⟨oy, vy, hne _ _ z1 e, z2⟩
/-- any name that the frame stores -/
def storesB (sc : Scope) (x : Str) : Bool := match sc.names.lookup x with | some .local | some .cell => true | _ => false
theorem store {x : Str} {v : V} {val : Value} {P : Unit → Shared → Prop} {E : Value → Shared → Prop} (ok : f.Ok c k) (own : f.Own) (R : Rel c f ρ st imm fr s) (hx : storesB f.env.scope x = true) (rv : RV c.base imm v val)
    (h : ∀ s', Rel c f (setL ρ x v) st imm fr s' → P () s') : wpAny c.M f.A (storeName f.env x val) P E s := by
  unfold storesB at hx
  cases hk : f.env.scope.names.lookup x with
  | none => rw [hk] at hx; cases hx
  | some kd =>
    rw [hk] at hx
    cases kd <;> first | (cases hx; done) | (exact store_local ok own.locals R hk rv h) | skip
    obtain ⟨cc, hcc⟩ := ok.ecell x hk
    exact store_cell ok own R hk hcc rv h

theorem WPs.asg {x : Str} {e : Expr} {np pos : Pos} (h : WPE c k sc ρ st e (fun v st₁ => S .next (setL ρ x v) st₁) X) (hx : storesB sc x = true := by rfl)
    (hs : ∀ env, swapsWith e (some (.Name x np)) pos.line env = pure false := by intro _; rfl) : WPs c k sc ρ st (.Assign [.Name x np] e pos) S X := by
  refine ⟨fun f imm fr s ok hsc own R => ?_⟩
  refine wpAny_Assign_Name (wpAny_mono (h.go f imm fr s ok hsc R) (fun val s₁ p => ?_) fun _ _ t => t) (hs _)
  obtain ⟨v, st₁, imm₁, i₁, rv, R₁, h₁⟩ := p
  exact store ok own R₁ (hsc ▸ hx) rv fun s' R' => ⟨.next, _, st₁, imm₁, i₁, .next, R', h₁⟩

/-! tuples and lists made -/
theorem WPEs.nil {P : List V → St → Prop} (h : P [] st) : WPEs c k sc ρ st [] P X := ⟨fun f imm fr s pos ok hsc R => spliced_none ⟨[], st, imm, fun _ h => h, .nil, R, rfl, h⟩⟩
theorem WPEs.cons {e : Expr} {es : List Expr} {P : List V → St → Prop} (h : WPE c k sc ρ st e (fun v st₁ => WPEs c k sc ρ st₁ es (fun vs st₂ => P (v :: vs) st₂) X) X)
    (he : ∀ env, starEach (e :: es) env = (false, eval e env) :: starEach es env := by intro _; rfl) : WPEs c k sc ρ st (e :: es) P X := by
  refine ⟨fun f imm fr s pos ok hsc R => ?_⟩
  refine spliced_more (wpAny_mono (h.go f imm fr s ok hsc R) (fun x s₁ p => ?_) fun _ _ t => t) (he _)
  obtain ⟨v, st₁, imm₁, i₁, rv, R₁, h₁⟩ := p
  refine wpAny_mono (h₁.go f imm₁ fr s₁ pos ok hsc R₁) (fun xs s₂ p => ?_) fun _ _ t => t.mono i₁
  obtain ⟨vs, st₂, imm₂, i₂, rvs, R₂, hn, h₂⟩ := p
  exact ⟨v :: vs, st₂, imm₂, fun q hq => i₂ q (i₁ q hq), .cons (rv.mono i₂) rvs, R₂, by simp [hn], h₂⟩
theorem WPE.tup {es : List Expr} {n : Nat} {pos : Pos} (h : WPEs c k sc ρ st es (fun vs st₁ => Q (.tup vs) st₁) X) (hl : es.length ≤ sizeLine := by decide) : WPE c k sc ρ st (.Tuple es n pos) Q X := by
  refine ⟨fun f imm fr s ok hsc R => ?_⟩
  refine wpAny_Tuple (wpAny_mono (h.go f imm fr s pos ok hsc R) (fun xs s₁ p => ?_) fun _ _ t => t)
  obtain ⟨vs, st₁, imm₁, i₁, rvs, R₁, hn, h₁⟩ := p
  have hs : ∀ p ∈ imm₁, p ∈ (s₁.heap.objs.size, tupObj xs 0) :: imm₁ := fun p hp => .tail _ hp
  exact ⟨by rw [rvs.length, hn]; exact hl, _, st₁, _, fun q hq => hs q (i₁ q hq), .tup (.head _) (rvs.mono hs), R₁.pushImm (tk := s₁.toks), h₁⟩
theorem WPE.lst {es : List Expr} {pos : Pos} (h : WPEs c k sc ρ st es (fun vs st₁ => ∀ a, get st₁ a = none → Q (.ref a) ((a, .list vs) :: st₁)) X) (hl : es.length ≤ sizeLine := by decide) : WPE c k sc ρ st (.List es pos) Q X := by
  refine ⟨fun f imm fr s ok hsc R => ?_⟩
  refine wpAny_List (wpAny_mono (h.go f imm fr s pos ok hsc R) (fun xs s₁ p => ?_) fun _ _ t => t)
  obtain ⟨vs, st₁, imm₁, i₁, rvs, R₁, hn, h₁⟩ := p
  exact ⟨by rw [rvs.length, hn]; exact hl, _, _, _, i₁, .ref _, R₁.pushSt (tk := s₁.toks) (.list rvs), h₁ _ R₁.none⟩
end
end Mine
namespace Mine
section
variable {c : Cx} {k : Nat} {f : Fm} {ρ : Loc} {st : St} {imm fr : Led} {s : Shared} {h h' : Heap} {m : Str → Option Value} {mt cs fo : Led} {e C : Addr} {E : Led} {mk : Option Value} {X : Xp} {tk : Nat}

theorem nodupc {l : List Nat} (h : ∀ a, l.count a ≤ 1) : l.Nodup := List.nodup_iff_count.mpr h
theorem ExcL.fields (x : ExcL e C mk E) : ∀ p ∈ E, ∃ vs, p.2.data = .fields vs := by
  intro p hp
  cases x with
  | made h1 h2 h3 h4 => simp at hp; subst hp; exact ⟨_, h2⟩
  | traced h1 h2 h3 h4 h5 h6 =>
    simp at hp
    rcases hp with rfl | rfl
    · exact ⟨_, h2⟩
    · exact ⟨_, h5⟩
theorem LocR.exc {base : Heap} {E E' : Led} (hE : ∀ p ∈ E, ∃ vs, p.2.data = .fields vs) (l : LocR base imm f ρ m cs (E ++ fr)) : LocR base imm f ρ m cs (E' ++ fr) := by
  refine ⟨fun x v q => ?_, l.cells, l.inj⟩
  obtain ⟨val, r, z⟩ := l.reads x v q
  refine ⟨val, r, ?_⟩
  rcases z with z | ⟨z1, cc, o, z2, z3, z4⟩
  · exact .inl z
  · refine .inr ⟨z1, cc, o, z2, ?_, z4⟩
    simp only [List.mem_append] at z3 ⊢
    rcases z3 with z3 | z3 | z3
    · exact .inl z3
    · obtain ⟨vs, q⟩ := hE _ z3
      rw [z4] at q; cases q
    · exact .inr (.inr z3)
theorem FoR.slots {frs : List (Addr × (Str → Option Value))} (hf : FoR frs fo) (hk : ∀ p ∈ fo, h.get? p.1 = some p.2) (u : h.UpToSlots h') : ∃ fo', FoR frs fo' ∧ fo'.map (·.1) = fo.map (·.1) ∧ ∀ p ∈ fo', h'.get? p.1 = some p.2 ∧ ∀ vs, p.2.data ≠ .fields vs := by
  induction hf with
  | nil => exact ⟨[], .nil, rfl, fun p hp => nomatch hp⟩
  | @cons L m o fs fo no _ ih =>
    obtain ⟨fo', h1, h2, h3⟩ := ih fun p hp => hk p (.tail _ hp)
    obtain ⟨es, ep, n1, n2, n3⟩ := no
    have nf : ∀ vs, o.data ≠ .fields vs := fun vs q => by rw [n1] at q; cases q
    obtain ⟨sl, hs⟩ := u L o (hk (L, o) (.head _)) nf
    refine ⟨(L, { o with slots := sl }) :: fo', .cons ⟨es, ep, n1, n2, n3⟩ h1, by simp [h2], fun p hp => ?_⟩
    rcases List.mem_cons.mp hp with rfl | hp
    · exact ⟨hs, nf⟩
    · exact h3 p hp
/-- the addresses of the frames -/
theorem env_in (ok : f.Ok c k) (R : RelAt c f ρ st imm fr h m mt cs fo) {b : Addr} (hb : b ∈ (f.fenv :: f.outer).filterMap (·.frame)) : b = f.L ∨ ∃ o, (b, o) ∈ fo := by
  obtain ⟨env, he, hf⟩ := List.mem_filterMap.mp hb
  obtain ⟨_, L, hL, hq⟩ := ok.envs env he
  rw [hL] at hf
  cases hf
  rcases hq with rfl | ⟨m', hm⟩
  · exact .inl rfl
  · right
    have : ∀ {frs : List (Addr × (Str → Option Value))} {fo : Led}, FoR frs fo → (b, m') ∈ frs → ∃ o, (b, o) ∈ fo := by
      intro frs fo hf
      induction hf with
      | nil => intro q; cases q
      | cons no _ ih =>
        intro q
        rcases List.mem_cons.mp q with q | q
        · cases q; exact ⟨_, .head _⟩
        · obtain ⟨o, ho⟩ := ih q; exact ⟨o, .tail _ ho⟩
    exact this R.fos hm
abbrev hid (f : Fm) (E : Led) (h : Heap) : Heap := hideAll h ((f.fenv :: f.outer).filterMap (·.frame) ++ E.map (·.1))
theorem funs (ok : f.Ok c k) (R : RelAt c f ρ st imm (E ++ fr) h m mt cs fo) : h.FunFrames (hid f E h) (f.fenv :: f.outer) := by
  have go : ∀ l : List Env, (∀ env ∈ l, env ∈ f.fenv :: f.outer) → h.FunFrames (hid f E h) l := by
    intro l
    induction l with
    | nil => intro _; exact trivial
    | cons env l ih =>
      intro hin
      obtain ⟨hk, L, hL, hq⟩ := ok.envs env (hin env (.head _))
      have hb : L ∈ (f.fenv :: f.outer).filterMap (·.frame) := List.mem_filterMap.mpr ⟨env, hin env (.head _), hL⟩
      refine ⟨by rw [hk]; decide, ?_, ih fun x hx => hin x (.tail _ hx)⟩
      rcases env_in ok R hb with rfl | ⟨o, ho⟩
      · obtain ⟨o, es, ep, h1, h2, _⟩ := R.frm.ns
        exact ⟨f.L, o, hL, hideAll_none _ (List.mem_append_left _ hb), h1, fun vs q => by rw [h2] at q; cases q⟩
      · have nf : ∀ {frs : List (Addr × (Str → Option Value))} {fo : Led}, FoR frs fo → (L, o) ∈ fo → ∀ vs, o.data ≠ .fields vs := by
          intro frs fo hf
          induction hf with
          | nil => intro q; cases q
          | cons no _ ih =>
            intro q
            rcases List.mem_cons.mp q with q | q
            · cases q
              obtain ⟨es, ep, n1, _⟩ := no
              intro vs z; rw [n1] at z; cases z
            · exact ih q
        exact ⟨L, o, hL, hideAll_none _ (List.mem_append_left _ hb), (R.news (L, o) (by simp [ho])).1, nf R.fos ho⟩
  exact go _ fun _ h => h

/-- the heap behind a note -/
theorem relNoted (ok : f.Ok c k) {e T : Addr} {oe oT : Obj} {vs ts : Array Value} (hE : ∀ p ∈ E, ∃ vs, p.2.data = .fields vs) (he : ∃ o, (e, o) ∈ E) (R : Rel c f ρ st imm (E ++ fr) s) (hk : (hid f E s.heap).StaysIn h') (u : s.heap.UpToSlots h')
    (ge : h'.get? e = some oe) (de : oe.data = .fields vs) (gT : h'.get? T = some oT) (dT : oT.data = .fields ts) (nT : (hid f E s.heap).get? T = none) (hTe : T ≠ e) : Rel c f ρ st imm ([(e, oe), (T, oT)] ++ fr) { s with heap := h', toks := tk } := by
  obtain ⟨⟨h0, tk0, rfl⟩, m, mt, cs, fo, r⟩ := R
  dsimp only at r hk u nT
  obtain ⟨oe0, he0⟩ := he
  have nd := List.nodup_iff_count.mp r.nodup
  have hfo : ∀ p ∈ fo, h0.get? p.1 = some p.2 := fun p hp => (r.news p (by simp [hp])).1
  obtain ⟨fo', f1, f2, f3⟩ := r.fos.slots hfo u
  have nL : ∀ p ∈ whole mt cs imm (E ++ fr) fo, p.1 ≠ f.L := fun p hp => (r.news p hp).2.1
  -- what is not hidden
  have other : ∀ p ∈ mt ++ (cs ++ (imm ++ fr)), p.1 ∉ (f.fenv :: f.outer).filterMap (·.frame) ++ E.map (·.1) := fun p hp hq => by
    have hpw : p ∈ whole mt cs imm (E ++ fr) fo := by
      simp only [List.mem_append] at hp ⊢
      rcases hp with hp | hp | hp | hp
      · exact .inl hp
      · exact .inr (.inl hp)
      · exact .inr (.inr (.inl hp))
      · exact .inr (.inr (.inr (.inl (.inr hp))))
    have c1 : 0 < ((mt ++ (cs ++ (imm ++ fr))).map (·.1)).count p.1 := List.count_pos_iff.mpr (List.mem_map_of_mem hp)
    have c0 := nd p.1
    simp only [List.map_append, List.count_append] at c0 c1
    rcases List.mem_append.mp hq with hq | hq
    · rcases env_in ok r hq with hq | ⟨o, hq⟩
      · exact nL p hpw hq
      · have : 0 < (fo.map (·.1)).count p.1 := List.count_pos_iff.mpr (List.mem_map.mpr ⟨_, hq, rfl⟩)
        omega
    · have : 0 < (E.map (·.1)).count p.1 := List.count_pos_iff.mpr hq
      omega
  have kept : ∀ p ∈ mt ++ (cs ++ (imm ++ fr)), h'.get? p.1 = some p.2 ∧ (hid f E h0).get? p.1 = some p.2 := fun p hp => by
    have hpw : p ∈ whole mt cs imm (E ++ fr) fo := by
      simp only [List.mem_append] at hp ⊢
      rcases hp with hp | hp | hp | hp
      · exact .inl hp
      · exact .inr (.inl hp)
      · exact .inr (.inr (.inl hp))
      · exact .inr (.inr (.inr (.inl (.inr hp))))
    have := hideAll_get _ (r.news p hpw).1 (other p hp)
    exact ⟨hk _ _ this, this⟩
  have hbase : ∀ b o, c.base.get? b = some o → (hid f E h0).get? b = some o := fun b o q => by
    refine hideAll_get _ (r.frm.keep b o q) fun hq => ?_
    rcases List.mem_append.mp hq with hq | hq
    · rcases env_in ok r hq with rfl | ⟨o', hq⟩
      · rw [Heap.get?_none_of_le r.frm.above] at q; cases q
      · rw [(r.news (b, o') (by simp [hq])).2.2] at q; cases q
    · obtain ⟨p, hp, rfl⟩ := List.mem_map.mp hq
      rw [(r.news p (by simp [hp])).2.2] at q; cases q
  have hT0 : c.base.get? T = none := by
    cases q : c.base.get? T with
    | none => rfl
    | some o => rw [hbase T o q] at nT; cases nT
  have ns' := u.ns r.frm.ns
  have hLf : ∀ a o vs, h'.get? a = some o → o.data = .fields vs → a ≠ f.L := fun a o vs g d q => by
    obtain ⟨o', es, ep, g', d', _⟩ := ns'
    rw [q, g'] at g
    cases g
    rw [d'] at d; cases d
  refine ⟨⟨h', tk, rfl⟩, m, mt, cs, fo', ⟨ns', fun b o q => hk _ _ (hbase b o q), r.frm.above⟩, fun p hp => ?_, nodupc fun a => ?_, r.sto, f1, LocR.exc hE r.loc⟩
  · have hp' : p ∈ mt ++ (cs ++ (imm ++ fr)) ∨ p = (e, oe) ∨ p = (T, oT) ∨ p ∈ fo' := by
      simp only [List.mem_append, List.mem_cons, List.not_mem_nil, or_false] at hp ⊢
      rcases hp with hp | hp | hp | ((hp | hp) | hp) | hp
      · exact .inl (.inl hp)
      · exact .inl (.inr (.inl hp))
      · exact .inl (.inr (.inr (.inl hp)))
      · exact .inr (.inl hp)
      · exact .inr (.inr (.inl hp))
      · exact .inl (.inr (.inr (.inr hp)))
      · exact .inr (.inr (.inr hp))
    rcases hp' with hp' | rfl | rfl | hp'
    · have hpw : p ∈ whole mt cs imm (E ++ fr) fo := by
        simp only [List.mem_append] at hp' ⊢
        rcases hp' with hp | hp | hp | hp
        · exact .inl hp
        · exact .inr (.inl hp)
        · exact .inr (.inr (.inl hp))
        · exact .inr (.inr (.inr (.inl (.inr hp))))
      exact ⟨(kept p hp').1, (r.news p hpw).2⟩
    · exact ⟨ge, hLf _ _ _ ge de, (r.news (e, oe0) (by simp [he0])).2.2⟩
    · exact ⟨gT, hLf _ _ _ gT dT, hT0⟩
    · have : p.1 ∈ fo.map (·.1) := by rw [← f2]; exact List.mem_map_of_mem hp'
      obtain ⟨q, hq, e1⟩ := List.mem_map.mp this
      have z := r.news q (by simp [hq])
      rw [show q.1 = p.1 from e1] at z
      exact ⟨(f3 p hp').1, z.2⟩
  · have c0 := nd a
    simp only [List.map_append, List.map_cons, List.map_nil, List.count_append, List.count_cons, List.count_nil, f2] at c0 ⊢
    have cT : a = T → (mt.map (·.1)).count a = 0 ∧ (cs.map (·.1)).count a = 0 ∧ (imm.map (·.1)).count a = 0 ∧ (fr.map (·.1)).count a = 0 ∧ (fo.map (·.1)).count a = 0 := fun q => by
      have n0 : ∀ p ∈ mt ++ (cs ++ (imm ++ fr)), p.1 ≠ a := fun p hp z => by
        have := (kept p hp).2
        rw [z, q, nT] at this; cases this
      have n1 : ∀ p ∈ fo', p.1 ≠ a := fun p hp z => by
        obtain ⟨g, d⟩ := f3 p hp
        rw [z, q, gT] at g
        cases g
        exact d _ dT
      refine ⟨List.count_eq_zero.mpr fun hm => ?_, List.count_eq_zero.mpr fun hm => ?_, List.count_eq_zero.mpr fun hm => ?_, List.count_eq_zero.mpr fun hm => ?_, List.count_eq_zero.mpr fun hm => ?_⟩
      · obtain ⟨p, hp, z⟩ := List.mem_map.mp hm; exact n0 p (by simp [hp]) z
      · obtain ⟨p, hp, z⟩ := List.mem_map.mp hm; exact n0 p (by simp [hp]) z
      · obtain ⟨p, hp, z⟩ := List.mem_map.mp hm; exact n0 p (by simp [hp]) z
      · obtain ⟨p, hp, z⟩ := List.mem_map.mp hm; exact n0 p (by simp [hp]) z
      · rw [← f2] at hm; obtain ⟨p, hp, z⟩ := List.mem_map.mp hm; exact n1 p hp z
    have cE : a = e → 0 < (E.map (·.1)).count a := fun q => by rw [q]; exact List.count_pos_iff.mpr (List.mem_map.mpr ⟨_, he0, rfl⟩)
    by_cases qe : e = a
    · have := cE qe.symm
      have hne : (T == a) = false := by rw [← qe]; simpa using hTe
      simp only [qe, hne, beq_self_eq_true, if_true, Bool.false_eq_true, if_false]
      omega
    · have hne : (e == a) = false := by simpa using qe
      by_cases qT : T = a
      · obtain ⟨z1, z2, z3, z4, z5⟩ := cT qT.symm
        simp only [hne, qT, beq_self_eq_true, if_true, Bool.false_eq_true, if_false, z1, z2, z3, z4, z5]
        omega
      · have hne' : (T == a) = false := by simpa using qT
        simp only [hne, hne', Bool.false_eq_true, if_false]
        omega
theorem Rel.permFr {fr' : Led} (R : Rel c f ρ st imm fr s) (hp : fr.Perm fr') : Rel c f ρ st imm fr' s := by
  obtain ⟨hs, m, mt, cs, fo, r⟩ := R
  have hw : (whole mt cs imm fr' fo).Perm (whole mt cs imm fr fo) := List.Perm.append_left _ (List.Perm.append_left _ (List.Perm.append_left _ (hp.symm.append_right _)))
  refine ⟨hs, m, mt, cs, fo, r.frm, fun p q => r.news p (hw.mem_iff.mp q), (hw.map (·.1)).nodup_iff.mpr r.nodup, r.sto, r.fos, ⟨fun x v e => ?_, r.loc.cells, r.loc.inj⟩⟩
  obtain ⟨val, rv, q⟩ := r.loc.reads x v e
  refine ⟨val, rv, ?_⟩
  rcases q with q | ⟨q1, c, o, q2, q3, q4⟩
  · exact .inl q
  · refine .inr ⟨q1, c, o, q2, ?_, q4⟩
    rcases List.mem_append.mp q3 with q3 | q3
    · exact List.mem_append_left _ q3
    · exact List.mem_append_right _ (hp.mem_iff.mp q3)
theorem LocR.app {base : Heap} {E : Led} (l : LocR base imm f ρ m cs fr) : LocR base imm f ρ m cs (E ++ fr) := by
  induction E with
  | nil => exact l
  | cons p E ih => exact ih.more
theorem Rel.two {e T : Addr} {oe oT : Obj} (R : Rel c f ρ st imm ([(e, oe), (T, oT)] ++ fr) s) : T ≠ e := by
  obtain ⟨_, m, mt, cs, fo, r⟩ := R
  intro q
  have nd := List.nodup_iff_count.mp r.nodup e
  subst q
  simp only [List.map_append, List.map_cons, List.map_nil, List.count_append, List.count_cons, List.count_nil, beq_self_eq_true, if_true] at nd
  omega

/-- noted in the frame -/
theorem noted {Q : Unit → Shared → Prop} {E' : Value → Shared → Prop} {L : Addr} (ok : f.Ok c k) (hL : f.fenv.frame = some L) (x : ExcL e C mk E) (hm : MarkOk f mk) (R : Rel c f ρ st imm (E ++ fr) s)
    (hQ : ∀ E₂ s', ExcL e C (some (rawInt L)) E₂ → Rel c f ρ st imm (E₂ ++ fr) s' → Q () s') : wpAny c.M f.A (noteFrame (.ref e) f.fenv) Q E' s := by
  have hkb : (hid f E s.heap).StaysIn s.heap := fun b o q => of_hideAll _ q
  have hef : ∀ oe b, (b, oe) ∈ E → (hid f E s.heap).get? b = none := fun oe b h => hideAll_none _ (List.mem_append_right _ (List.mem_map.mpr ⟨_, h, rfl⟩))
  have hl : s.heap.FunFrames (hid f E s.heap) (f.fenv :: f.outer) := by
    obtain ⟨_, m, mt, cs, fo, r⟩ := R
    exact funs ok r
  have hF := x.fields
  have fin : ∀ {a0 : Value} {h' : Heap}, (∃ o, (e, o) ∈ E) → Heap.NotedW (hid f E s.heap) (f.fenv :: f.outer) e (.ref C) a0 (rawInt L) s.heap h' → Q () { s with heap := h' } := by
    intro a0 h' hin hN
    obtain ⟨k1, k2, ⟨oe', vs', T', oT', ts', ge, ⟨hc, h0⟩, de, g1, nT, hTe, gT, dT, g3⟩, k4⟩ := hN
    exact hQ _ _ (.traced hc de g1 h0 dT g3) (relNoted (tk := s.toks) ok hF hin R k1 k4 ge de gT dT nT hTe)
  cases x with
  | @made oe vs a0 h1 h2 h3 h4 =>
    have he := R.inFr (a := e) (o := oe) (by simp)
    unfold noteFrame
    simp only [hL]
    refine wpAny_bind (wpAny_field he h2 h3 ?_)
    rw [if_neg (by decide)]
    refine wpAny_entryW ok.frames hl hL he hkb (hef oe _ (by simp)) h2 (Array.getElem?_eq_some_iff.mp h3).1 h4 fun h' hN => ?_
    rw [h1] at hN
    exact fin ⟨oe, by simp⟩ hN
  | @traced oe oT vs ts a0 fl T h1 h2 h3 h4 h5 h6 =>
    have he := R.inFr (a := e) (o := oe) (by simp)
    have hT := R.inFr (a := T) (o := oT) (by simp)
    have hTe := R.two
    rcases hm with hm | hm | ⟨L', hL', hm⟩
    · cases hm
    · cases hm
      exact wpAny_noteFrame_onW ok.frames hl hL ⟨oe, vs, T, oT, ts, he, ⟨h1, h4⟩, h2, h3, hef oT _ (by simp), hTe, hT, h5, h6⟩ hkb (hef oe _ (by simp)) fun h' hN => fin ⟨oe, by simp⟩ hN
    · rw [hL] at hL'; cases hL'; cases hm
      exact wpAny_noteFrame_againW (base := hid f [(e, oe), (T, oT)] s.heap) hL ⟨oe, vs, T, oT, ts, he, ⟨h1, h4⟩, h2, h3, hef oT _ (by simp), hTe, hT, h5, h6⟩ (hQ _ _ (.traced h1 h2 h3 h4 h5 h6) R)
/-- the mark is set anew -/
theorem flight {Q : Unit → Shared → Prop} {E' : Value → Shared → Prop} {fl : Value} (v : Option Addr) (x : ExcL e C (some fl) E) (R : Rel c f ρ st imm (E ++ fr) s)
    (hQ : ∀ E₂ s', ExcL e C (some (v.elim .none fun a => rawInt a)) E₂ → Rel c f ρ st imm (E₂ ++ fr) s' → Q () s') : wpAny c.M f.A (setFlight (.ref e) v) Q E' s := by
  cases x with
  | @traced oe oT vs ts a0 fl T h1 h2 h3 h4 h5 h6 =>
    have he := R.inFr (a := e) (o := oe) (by simp)
    have hT := R.inFr (a := T) (o := oT) (by simp)
    have hsz := (Array.getElem?_eq_some_iff.mp h6).1
    unfold setFlight
    refine wpAny_bind (wpAny_field he h2 h3 ?_)
    rw [if_pos (show (Value.ref T != Value.none) = true from by simp)]
    refine wpAny_setField hT h5 hsz (hQ [(e, oe), (T, oT.mapFields (·.setIfInBounds 3 (v.elim Value.none fun a => rawInt a)))] _ (.traced h1 h2 h3 h4 (Obj.data_mapFields h5 (·.setIfInBounds 3 (v.elim Value.none fun a => rawInt a))) (by simp [hsz])) ?_)
    exact Rel.frSetAt [(e, oe)] R (tk := s.toks) (.update ..) (Heap.get?_update_self _ hT (Obj.isFreed_of_fields (Obj.data_mapFields h5 _))) (by rw [h5]; intro w q; cases q)
theorem leaves {Q : Unit → Shared → Prop} {E' : Value → Shared → Prop} {L : Addr} (ok : f.Ok c k) (hL : f.fenv.frame = some L) (x : ExcL e C mk E) (hm : MarkOk f mk) (R : Rel c f ρ st imm (E ++ fr) s)
    (hQ : ∀ E₂ s', ExcL e C (some .none) E₂ → Rel c f ρ st imm (E₂ ++ fr) s' → Q () s') : wpAny c.M f.A (leaving f.fenv (.ref e)) Q E' s := by
  unfold leaving
  exact wpAny_bind (noted ok hL x hm R fun E₂ s' x₂ R₂ => flight none x₂ R₂ fun E₃ s₃ x₃ R₃ => hQ E₃ s₃ x₃ R₃)
theorem Fm.Ok.frm (ok : f.Ok c k) : ∃ L, f.fenv.frame = some L := let ⟨_, L, h, _⟩ := ok.envs f.fenv (.head _); ⟨L, h⟩
theorem outOfLoop {ev : Value} (ok : f.Ok c k) (own : f.env = f.fenv) (t : Thrown c f imm fr X ev s) : notedBy c.M f.A f.env (cameBackBy c.M f.A f.env (Thrown c f imm fr X)) ev s := by
  obtain ⟨e, C, mk, E, ρ, st, imm', rfl, x, hm, i, R, hX⟩ := t
  obtain ⟨L, hL⟩ := ok.frm
  rw [own]
  refine noted ok hL x hm R fun E₂ s' x₂ R₂ => ?_
  have x₃ := x₂
  unfold cameBackBy
  cases x₂ with
  | @traced oe oT vs ts a0 fl T h1 h2 h3 h4 h5 h6 =>
    refine wpAny_bind (wpAny_field (R₂.inFr (a := e) (o := oe) (by simp)) h2 h3 ?_)
    rw [if_neg (show ¬ (Value.ref T == Value.none) = true from by simp)]
    rw [hL]
    exact flight (some L) x₃ R₂ fun E₃ s₃ x₃ R₃ => ⟨e, C, _, E₃, ρ, st, imm', rfl, x₃, .inr (.inr ⟨L, hL, rfl⟩), i, R₃, hX⟩
theorem Thrown.drop {imm' : Led} {I : Addr} {o : Obj} {ev : Value} (hd : ∀ w, o.data ≠ .cell w) (hi : ∀ p ∈ imm, p ∈ imm') (t : Thrown c f imm' ((I, o) :: fr) X ev s) : Thrown c f imm fr X ev s := by
  obtain ⟨e, C, mk, E, ρ, st, imm'', rfl, x, hm, i, R, hX⟩ := t
  refine ⟨e, C, mk, E, ρ, st, imm'', rfl, x, hm, fun p hp => i p (hi p hp), ?_, hX⟩
  have hR := R
  obtain ⟨⟨h0, tk0, rfl⟩, _⟩ := hR
  have zz := Rel.frEndAt E R (h' := h0) (tk := tk0) (fun _ _ _ e => e) hd
  exact zz
abbrev never : Xp := fun _ _ _ => False
end
end Mine
namespace Mine
/-- a def of the text -/
structure FnAt (K : Frag) (a : Addr) (names : List Str) (sc : Scope) (body : List Stmt) : Prop where
  ex : ∃ fo fd, K.lookup a = some fo ∧ fo.data = .func fd ∧ fd.body = .stmts body ∧ fd.scope = sc ∧ fd.globals = mainGlobals ∧ fd.closure = [] ∧ fd.builtins = builtinsNs ∧
    codeIn K fd.code fd.qualname = true ∧ ∀ xs : List Value, xs.length = names.length → bindArgs fd ⟨xs, []⟩ = pure (names.zip xs)
  locB : names.all (storesB sc) = true
  co : sc.isCoroutine = false
  gen : sc.isGenerator = false
  kind : sc.kind = .function
  nodup : names.Nodup

theorem FnAt.loc {K : Frag} {a : Addr} {names : List Str} {sc : Scope} {body : List Stmt} (H : FnAt K a names sc body) : ∀ x ∈ names, storesB sc x = true := List.all_eq_true.mp H.locB
theorem zip_mem {base : Heap} {imm : Led} : ∀ {names : List Str} {vs : List V} {xs : List Value}, RVs base imm vs xs → ∀ {x : Str} {v : V}, getL (names.zip vs) x = some v → ∃ val, (x, val) ∈ names.zip xs ∧ RV base imm v val := by
  intro names
  induction names with
  | nil => intro vs xs _ x v e; simp [getL] at e
  | cons n names ih =>
    intro vs xs r x v e
    cases r with
    | nil => simp [getL] at e
    | cons rv rvs =>
      rw [List.zip_cons_cons, getL_cons] at e
      by_cases h : n = x
      · subst h
        rw [if_pos rfl] at e; cases e
        exact ⟨_, by simp, rv⟩
      · rw [if_neg h] at e
        obtain ⟨val, hm, hv⟩ := ih rvs e
        exact ⟨val, by rw [List.zip_cons_cons]; exact .tail _ hm, hv⟩
theorem zip_keys (ns : List Str) (ys : List Value) : ((ns.zip ys).map (·.1)).Sublist ns := by
  induction ns generalizing ys with
  | nil => simp
  | cons n ns ih => cases ys with
    | nil => simp
    | cons y ys => simpa using ih ys
theorem bindL_other {kd : Str → Option NameKind} {x : Str} : ∀ {b : List (Str × Value)} {m : Str → Option Value}, x ∉ b.map (·.1) → bindL kd b m x = m x
  | [], _, _ => rfl
  | (n, v) :: r, m, h => by
    simp only [List.map_cons, List.mem_cons, not_or] at h
    unfold bindL
    rw [bindL_other h.2]
    split
    · simp [h.1]
    · rfl
theorem bindC_other {kd : Str → Option NameKind} {x : Str} : ∀ {b : List (Str × Value)} {m : Str → Option Value}, x ∉ b.map (·.1) → bindC kd b m x = m x
  | [], _, _ => rfl
  | (n, v) :: r, m, h => by
    simp only [List.map_cons, List.mem_cons, not_or] at h
    unfold bindC
    rw [bindC_other h.2]
    split
    · rfl
    · simp [h.1]
theorem bindL_at {kd : Str → Option NameKind} {x : Str} {val : Value} (hk : kd x = some .local) : ∀ {b : List (Str × Value)} {m : Str → Option Value}, (b.map (·.1)).Nodup → (x, val) ∈ b → bindL kd b m x = some val
  | (n, v) :: r, m, nd, h => by
    simp only [List.map_cons, List.nodup_cons] at nd
    unfold bindL
    rcases List.mem_cons.mp h with h | h
    · cases h
      rw [bindL_other nd.1, if_pos hk]; simp
    · exact bindL_at hk nd.2 h
theorem bindC_at {kd : Str → Option NameKind} {x : Str} {val : Value} (hk : ¬ kd x = some .local) : ∀ {b : List (Str × Value)} {m : Str → Option Value}, (b.map (·.1)).Nodup → (x, val) ∈ b → bindC kd b m x = some val
  | (n, v) :: r, m, nd, h => by
    simp only [List.map_cons, List.nodup_cons] at nd
    unfold bindC
    rcases List.mem_cons.mp h with h | h
    · cases h
      rw [bindC_other nd.1, if_neg hk]; simp
    · exact bindC_at hk nd.2 h
theorem cells_look {x : Str} : ∀ (names : List (Str × NameKind)) (n : Nat) (acc : List (Str × Addr)), ((x, NameKind.cell) ∈ names ∨ (acc.lookup x).isSome = true) → ((cellsFrom n names acc).lookup x).isSome = true
  | [], n, acc, h => by
    rcases h with h | h
    · cases h
    · exact h
  | (y, kd) :: r, n, acc, h => by
    unfold cellsFrom
    split
    · rename_i hk
      refine cells_look r _ _ ?_
      rcases h with h | h
      · rcases List.mem_cons.mp h with h | h
        · cases h; right; simp
        · exact .inl h
      · right
        rw [List.lookup_cons]
        split
        · rfl
        · exact h
    · rename_i hk
      refine cells_look r _ _ ?_
      rcases h with h | h
      · rcases List.mem_cons.mp h with h | h
        · cases h; exact absurd rfl hk
        · exact .inl h
      · exact .inr h

section
variable {c : Cx} {k : Nat} {ρ : Loc} {st : St} {Q : V → St → Prop} {X : Xp} {f : Fm} {imm fr : Led} {s : Shared}

def retV : Fl → V
  | .ret v => v
  | _ => .none

/-- the callee's frame -/
abbrev Fm.call (f : Fm) (m : Str → Option Value) (L : Addr) (env : Env) : Fm := { outer := f.fenv :: f.outer, frs := (f.L, m) :: f.frs, L := L, fenv := env, env := env, A := f.A.deeper env, cmp := false }

theorem nodup_count {l : List Nat} (h : ∀ a, l.count a ≤ 1) : l.Nodup := List.nodup_iff_count.mpr h

/-- back in the caller's frame -/
theorem back {f' : Fm} {m : Str → Option Value} {ρ' : Loc} {st' : St} {imm' cs : Led} {s' : Shared} {h : Heap} (hf : f'.frs = (f.L, m) :: f.frs) (R : Rel c f' ρ' st' imm' (cs ++ fr) s') (F : Fr c.base f.L h m) (hl : LocR c.base imm f ρ m cs fr) (hi : ∀ p ∈ imm, p ∈ imm') : Rel c f ρ st' imm' fr s' := by
  obtain ⟨hr, m', mt', cs', fo', r⟩ := R
  have fos := r.fos
  rw [hf] at fos
  cases fos with
  | @cons _ _ oL _ fo no fos =>
    have hw := r.news (f.L, oL) (by simp)
    obtain ⟨es, ep, n1, n2, n3⟩ := no
    have nd := List.nodup_iff_count.mp r.nodup
    simp only [List.map_append, List.map_cons, List.count_append, List.count_cons] at nd
    refine ⟨hr, m, mt', cs, fo, ⟨⟨oL, es, ep, hw.1, n1, n2, n3⟩, r.frm.keep, F.above⟩, fun p hp => ?_, nodup_count fun a => ?_, r.sto, fos, hl.mono hi⟩
    · have hp' : p ∈ whole mt' cs' imm' (cs ++ fr) ((f.L, oL) :: fo) := by
        simp only [List.mem_append, List.mem_cons] at hp ⊢
        rcases hp with hp | hp | hp | hp | hp
        · exact .inl hp
        · exact .inr (.inr (.inr (.inl (.inl hp))))
        · exact .inr (.inr (.inl hp))
        · exact .inr (.inr (.inr (.inl (.inr hp))))
        · exact .inr (.inr (.inr (.inr (.inr hp))))
      refine ⟨(r.news p hp').1, fun e => ?_, (r.news p hp').2.2⟩
      have q := nd f.L
      simp only [beq_self_eq_true, if_true] at q
      have hin : p.1 ∈ (mt' ++ (cs ++ (imm' ++ (fr ++ fo)))).map (·.1) := List.mem_map_of_mem hp
      rw [e] at hin
      have := List.count_pos_iff.mpr hin
      simp only [List.map_append, List.count_append] at this
      omega
    · have q := nd a
      simp only [List.map_append, List.count_append]
      omega

/-- a frame begins -/
theorem enterAt {a : Addr} {names : List Str} {sc : Scope} {body : List Stmt} {vs : List V} {xs : List Value} {fd : FuncData} {s s₁ : Shared} {f : Fm} {mt fo : Led} (H : FnAt c.K a names sc body) (hsc : fd.scope = sc) (hcl : fd.closure = []) (rvs : RVs c.base imm vs xs)
    (hs : ∃ h tk, s = { c.s₀ with heap := h, toks := tk }) (hkeep : ∀ b o, c.base.get? b = some o → s.heap.get? b = some o) (hbase : c.base.objs.size ≤ s.heap.objs.size) (N : ∀ p ∈ whole mt [] imm fr fo, s.heap.get? p.1 = some p.2 ∧ c.base.get? p.1 = none) (nd : ((whole mt [] imm fr fo).map (·.1)).Nodup)
    (hst : StR c imm st mt) (hfo : FoR f.frs fo) (hL : f.L = s.heap.objs.size) (he : f.env = callEnvC fd s.heap.objs.size a)
    (x : InCallC s (callEnvC fd s.heap.objs.size a).locals (bindL (callEnvC fd s.heap.objs.size a).kindOf (names.zip xs) fun _ => none) (callEnvC fd s.heap.objs.size a).cells (bindC (callEnvC fd s.heap.objs.size a).kindOf (names.zip xs) fun _ => none) s₁) :
    Rel c f (names.zip vs) st imm fr s₁ := by
  obtain ⟨h0, tk0, rfl⟩ := hs
  obtain ⟨h₁, tk₁, rfl, hk₁⟩ := x.done
  have hloc : (callEnvC fd h0.objs.size a).locals = h0.objs.size := rfl
  have ns := x.toInCall.ns
  have above := x.above
  have apart := x.apart
  have cell := x.cell
  generalize hcells : (callEnvC fd h0.objs.size a).cells = cells at above apart cell
  have hfc : f.env.cells = cells := by rw [he]; exact hcells
  dsimp only at cell hk₁ ns N hkeep hL hbase
  have hobj : ∀ n cc, cells.lookup n = some cc → h₁.get? cc = some ((h₁.get? cc).getD default) ∧ ((h₁.get? cc).getD default).data = .cell (bindC (callEnvC fd h0.objs.size a).kindOf (names.zip xs) (fun _ => none) n) := fun n cc hn => by
    obtain ⟨o, ho, hd⟩ := cell n cc hn
    rw [ho]; exact ⟨rfl, hd⟩
  let cs : Led := (cells.filter fun p => decide (cells.lookup p.1 = some p.2)).map fun p => (p.2, (h₁.get? p.2).getD default)
  have hcs : ∀ p ∈ cs, ∃ n, cells.lookup n = some p.1 ∧ p.2 = (h₁.get? p.1).getD default := fun p hp => by
    obtain ⟨q, hq, rfl⟩ := List.mem_map.mp hp
    have := (List.mem_filter.mp hq).2
    exact ⟨q.1, by simpa using this, rfl⟩
  have hin : ∀ n cc, cells.lookup n = some cc → (cc, (h₁.get? cc).getD default) ∈ cs := fun n cc hn =>
    List.mem_map.mpr ⟨(n, cc), List.mem_filter.mpr ⟨mem_of_lookup hn, by simpa using hn⟩, rfl⟩
  have hcnd : (cs.map (·.1)).Nodup := by
    show ((((cells.filter fun p => decide (cells.lookup p.1 = some p.2)).map fun p => (p.2, (h₁.get? p.2).getD default))).map (·.1)).Nodup
    rw [List.map_map]
    exact List.pairwise_map.mpr (apart.filter _)
  have hab : ∀ p ∈ cs, h0.objs.size < p.1 := fun p hp => by
    obtain ⟨n, hn, _⟩ := hcs p hp
    have := above n p.1 (mem_of_lookup hn)
    rw [hloc] at this; exact this
  have hlt : ∀ p ∈ whole mt [] imm fr fo, p.1 < h0.objs.size := fun p hp => Heap.lt_size (N p hp).1
  have hzn : ((names.zip xs).map (·.1)).Nodup := H.nodup.sublist (zip_keys names xs)
  refine ⟨⟨h₁, tk₁, rfl⟩, _, mt, cs, fo, ⟨hL ▸ hloc ▸ ns, fun b o e => hk₁ b o (hkeep b o e), hL ▸ hbase⟩, fun p hp => ?_, nodup_count fun b => ?_, hst, hfo, ⟨fun y v e => ?_, fun _ y cc e => ?_, fun _ y z cc e e' => ?_⟩⟩
  · have hp' : p ∈ cs ∨ p ∈ whole mt [] imm fr fo := by
      simp only [List.mem_append, List.nil_append, List.not_mem_nil, false_or] at hp ⊢
      rcases hp with hp | hp | hp | hp | hp
      · exact .inr (.inl hp)
      · exact .inl hp
      · exact .inr (.inr (.inl hp))
      · exact .inr (.inr (.inr (.inl hp)))
      · exact .inr (.inr (.inr (.inr hp)))
    rcases hp' with hp' | hp'
    · obtain ⟨n, hn, e⟩ := hcs p hp'
      have z := hab p hp'
      exact ⟨e ▸ (hobj n p.1 hn).1, by rw [hL]; exact Nat.ne_of_gt z, Heap.get?_none_of_le (Nat.le_trans hbase (Nat.le_of_lt z))⟩
    · exact ⟨hk₁ _ _ (N p hp').1, by rw [hL]; exact Nat.ne_of_lt (hlt p hp'), (N p hp').2⟩
  · have z := List.nodup_iff_count.mp nd b
    have z' := List.nodup_iff_count.mp hcnd b
    have z2 : (cs.map (·.1)).count b = 0 ∨ ((whole mt [] imm fr fo).map (·.1)).count b = 0 := by
      by_cases q : h0.objs.size < b
      · right
        refine List.count_eq_zero.mpr fun hm => ?_
        obtain ⟨p, hp, e⟩ := List.mem_map.mp hm
        have := hlt p hp
        have e2 : p.1 = b := e
        rw [e2] at this
        exact Nat.lt_asymm q this
      · left
        refine List.count_eq_zero.mpr fun hm => ?_
        obtain ⟨p, hp, e⟩ := List.mem_map.mp hm
        have := hab p hp
        have e2 : p.1 = b := e
        rw [e2] at this
        exact q this
    simp only [List.map_append, List.count_append, List.map_nil, List.count_nil] at z z2 ⊢
    omega
  · obtain ⟨val, h1, h2⟩ := zip_mem rvs e
    have hy : y ∈ names := (List.of_mem_zip h1).1
    have hk := H.loc y hy
    unfold storesB at hk
    refine ⟨val, h2, ?_⟩
    cases hkd : sc.names.lookup y with
    | none => rw [hkd] at hk; cases hk
    | some kd =>
      have hkind : f.env.kindOf y = some kd := by rw [he]; show fd.scope.names.lookup y = _; rw [hsc]; exact hkd
      have hkind' : (callEnvC fd h0.objs.size a).kindOf y = some kd := he ▸ hkind
      rw [hkd] at hk
      by_cases hl : kd = .local
      · subst hl
        refine .inl ⟨hkind, ?_, bindL_at hkind' hzn h1⟩
        rw [he, hL]; rfl
      · have hce : kd = .cell := by cases kd <;> first | rfl | (cases hk; done) | exact absurd rfl hl
        subst hce
        have hlk := cells_look (x := y) fd.scope.names (h0.objs.size + 1) [] (.inl (mem_of_lookup (by rw [hsc]; exact hkd)))
        obtain ⟨cc, hcc⟩ := Option.isSome_iff_exists.mp hlk
        have hcc' : cells.lookup y = some cc := hcells ▸ hcc
        refine .inr ⟨.inl hkind, cc, _, hfc ▸ hcc', List.mem_append_left _ (hin y cc hcc'), ?_⟩
        rw [(hobj y cc hcc').2, bindC_at (by rw [hkind']; decide) hzn h1]
  · rw [hfc] at e
    exact ⟨_, _, hin y cc e, (hobj y cc e).2⟩
  · rw [hfc] at e e'
    exact name_of_addr apart (mem_of_lookup e) (mem_of_lookup e')

theorem envs_call {m : Str → Option Value} {L : Addr} {env : Env} (hk : env.scope.kind = .function) (hf : env.frame = some L) (h : ∀ e ∈ f.fenv :: f.outer, EnvOk f e) : ∀ e ∈ (f.call m L env).fenv :: (f.call m L env).outer, EnvOk (f.call m L env) e := by
  intro e he
  rcases List.mem_cons.mp he with rfl | he
  · exact ⟨hk, L, hf, .inl rfl⟩
  · obtain ⟨h1, L', h2, h3⟩ := h e he
    refine ⟨h1, L', h2, .inr ?_⟩
    rcases h3 with rfl | ⟨m', h3⟩
    · exact ⟨m, .head _⟩
    · exact ⟨m', .tail _ h3⟩
theorem CodeW.fn {a : Addr} {names : List Str} {sc : Scope} {body : List Stmt} {vs : List V} (H : FnAt c.K a names sc body) (hn : vs.length = names.length)
    (h : WPS c k sc (names.zip vs) st body (fun fl ρ' st' => Q (retV fl) st') (fun C _ st' => X C ρ st')) (ok : f.Ok c (k + 1)) (R : Rel c f ρ st imm fr s) {xs : List Value} (rvs : RVs c.base imm vs xs) :
    codeAny c.M f.A (.call (.ref a) ⟨xs, []⟩) (fun r s' => match r with | .ok (.ret v) => PostE c f ρ imm fr Q v s' | .ok _ => False | .error e => Thrown c f imm fr X e s') s := by
  obtain ⟨fo, fd, hK, hd, hb, hsc, hg, hcl, hbi, hcd, hbind⟩ := H.ex
  have hx : xs.length = names.length := rvs.length.trans hn
  have kin := R.kin ok
  obtain ⟨hs, m, mt, cs, fo, r⟩ := R
  have hzip : ∀ y ∈ names.zip xs, fd.scope.names.lookup y.1 = some .local ∨ (fd.scope.names.lookup y.1 = some .cell ∧ ((cellsFrom (s.heap.objs.size + 1) fd.scope.names []).lookup y.1).isSome = true) := fun y hy => by
    have := H.loc _ (List.of_mem_zip hy).1
    unfold storesB at this
    rw [hsc]
    cases hkd : sc.names.lookup y.1 with
    | none => rw [hkd] at this; cases this
    | some kd =>
      rw [hkd] at this
      cases kd <;> first | (cases this; done) | exact .inl rfl | exact .inr ⟨rfl, cells_look _ _ _ (.inl (mem_of_lookup hkd))⟩
  refine (codeAny_call_cells (binds := names.zip xs) (by have := ok.depth; omega) (kin _ _ hK) hd (ok.top.nolimit.keeps r.frm.keep) (codeRec_of kin hcd) hb (hbind xs hx) hcl hzip (fun s₁ x => ?_) (hsc ▸ H.co) (hsc ▸ H.gen) (hsc ▸ H.kind))
  obtain ⟨oL, es, ep, hL, hLd, hLk, hLf⟩ := r.frm.ns
  have hkd : fd.scope.kind = .function := hsc ▸ H.kind
  have ok' : (f.call m s.heap.objs.size (callEnvC fd s.heap.objs.size a)).Ok c k := by
    refine ⟨ok.kin, ok.top, envs_call hkd rfl ok.envs, Around.frames_deeper ok.frames, rfl, hkd, hg, hbi, fun x hx => ?_, ok.hnd, ?_, ?_⟩
    · exact Option.isSome_iff_exists.mp (cells_look _ _ _ (.inl (mem_of_lookup hx)))
    · show f.A.depth + 1 + k + 200 < _; have := ok.depth; omega
    · show f.A.units + 3 + 8 * k + 200 < _; have := ok.units; omega
  have R' : Rel c (f.call m s.heap.objs.size (callEnvC fd s.heap.objs.size a)) (names.zip vs) st imm (cs ++ fr) s₁ := by
    refine enterAt (fo := (f.L, oL) :: fo) H hsc hcl rvs hs r.frm.keep (Nat.le_trans r.frm.above (Nat.le_of_lt r.frm.ns.lt)) (fun p hp => ?_) (nodup_count fun b => ?_) r.sto (.cons ⟨es, ep, hLd, hLk, hLf⟩ r.fos) rfl rfl x
    · have hp' : p = (f.L, oL) ∨ p ∈ whole mt cs imm fr fo := by
        simp only [List.mem_append, List.mem_cons, List.nil_append, List.not_mem_nil, false_or] at hp ⊢
        rcases hp with hp | hp | (hp | hp) | hp | hp
        · exact .inr (.inl hp)
        · exact .inr (.inr (.inr (.inl hp)))
        · exact .inr (.inr (.inl hp))
        · exact .inr (.inr (.inr (.inr (.inl hp))))
        · exact .inl hp
        · exact .inr (.inr (.inr (.inr (.inr hp))))
      rcases hp' with rfl | hp'
      · exact ⟨hL, Heap.get?_none_of_le r.frm.above⟩
      · exact ⟨(r.news p hp').1, (r.news p hp').2.2⟩
    · have nd := List.nodup_iff_count.mp r.nodup b
      simp only [List.map_append, List.map_cons, List.count_append, List.count_cons, List.map_nil, List.count_nil] at nd ⊢
      by_cases e : f.L = b
      · subst e
        have : (List.map (fun x => x.fst) (whole mt cs imm fr fo)).count f.L = 0 := List.count_eq_zero.mpr fun hm => by
          obtain ⟨p, hp, e⟩ := List.mem_map.mp hm
          exact (r.news p hp).2.1 e
        simp only [List.map_append, List.count_append] at this
        simp only [beq_self_eq_true, if_true]
        omega
      · have : (f.L == b) = false := by simpa using e
        simp only [this]
        simp only [Bool.false_eq_true, if_false]
        omega
  refine wpAny_mono (h.go _ imm (cs ++ fr) _ ok' hsc ⟨rfl, rfl, rfl⟩ R') (fun fl s' p => ?_) fun ev s' t => ?_
  rotate_left
  · obtain ⟨e, C, mk, E, ρ', st', imm', rfl, x, hm, i', R'', hX⟩ := t
    refine leaves ok' rfl x hm R'' fun E₂ s₂ x₂ R₂ => ?_
    have pm : (E₂ ++ (cs ++ fr)).Perm (cs ++ (E₂ ++ fr)) := by
      rw [← List.append_assoc, ← List.append_assoc]
      exact List.Perm.append_right _ List.perm_append_comm
    exact ⟨e, C, some .none, E₂, ρ, st', imm', rfl, x₂, .inr (.inl rfl), i', back rfl (R₂.permFr pm) r.frm r.loc.app i', hX⟩
  obtain ⟨fl', ρ', st', imm', i', rf, R'', h'⟩ := p
  have B := back rfl R'' r.frm r.loc i'
  cases rf with
  | ret rv => exact ⟨_, st', imm', i', rv, B, h'⟩
  | next => exact ⟨.none, st', imm', i', .none, B, h'⟩
  | brk => exact ⟨.none, st', imm', i', .none, B, h'⟩
  | cont => exact ⟨.none, st', imm', i', .none, B, h'⟩

theorem CallW.fn {a : Addr} {names : List Str} {sc : Scope} {body : List Stmt} {vs : List V} (H : FnAt c.K a names sc body) (hn : vs.length = names.length)
    (h : WPS c k sc (names.zip vs) st body (fun fl ρ' st' => Q (retV fl) st') (fun C _ st' => X C ρ st')) : WL c (k + 1) (fun xs => call (.ref a) xs) vs ρ st Q X :=
  ⟨fun f imm fr s xs ok R rvs => wpAny_call (CodeW.fn H hn h ok R rvs)⟩

/-- the law itself is called -/
theorem enterLaw {a l : Addr} {name : Str} {sc : Scope} {body : List Stmt} {vals : List Value} {ns : List Int} {s : Shared} {Rr : Result → Shared → Prop} (H : FnAt c.K a [name] sc body) (hs : c.s₀ = s) (hb : c.base = s.heap) (kin : c.K.In c.base) (top : Top c.p c.loose c.mean c.mg c.mb c.base)
    (hk : 301 + k + 201 < 1000) (hl : c.base.IsList l vals.toArray) (hn : IntsAre vals ns)
    (h : WPS c k sc [(name, .scr ns)] [] body (fun fl _ _ => retV fl = .bool true) (fun _ _ _ => False))
    (hR : ∀ L m h' tk, Fr s.heap L h' m → Rr (.ok (.ret (.bool true))) { s with heap := h', toks := tk }) : codeAny c.M callerA (.call (.ref a) ⟨[.ref l], []⟩) Rr s := by
  subst hs
  obtain ⟨fo, fd, hK, hd, hbd, hsc, hg, hcl, hbi, hcd, hbind⟩ := H.ex
  rw [hb] at kin
  have hbase := hb
  have hzip : ∀ y ∈ [name].zip [Value.ref l], fd.scope.names.lookup y.1 = some .local ∨ (fd.scope.names.lookup y.1 = some .cell ∧ ((cellsFrom (c.s₀.heap.objs.size + 1) fd.scope.names []).lookup y.1).isSome = true) := fun y hy => by
    have := H.loc _ (List.of_mem_zip hy).1
    unfold storesB at this
    rw [hsc]
    cases hkd : sc.names.lookup y.1 with
    | none => rw [hkd] at this; cases this
    | some kd =>
      rw [hkd] at this
      cases kd <;> first | (cases this; done) | exact .inl rfl | exact .inr ⟨rfl, cells_look _ _ _ (.inl (mem_of_lookup hkd))⟩
  refine codeAny_call_cells (binds := [name].zip [Value.ref l]) (by decide) (kin _ _ hK) hd (hb ▸ top.nolimit) (codeRec_of kin hcd) hbd (hbind [.ref l] rfl) hcl hzip (fun s₁ x => ?_) (hsc ▸ H.co) (hsc ▸ H.gen) (hsc ▸ H.kind)
  let f : Fm := { outer := [], frs := [], L := c.s₀.heap.objs.size, fenv := callEnvC fd c.s₀.heap.objs.size a, env := callEnvC fd c.s₀.heap.objs.size a, A := callerA.deeper (callEnvC fd c.s₀.heap.objs.size a), cmp := false }
  have hkd : fd.scope.kind = .function := hsc ▸ H.kind
  have ok' : f.Ok c k := by
    refine ⟨hb ▸ kin, top, (fun e he => by rw [List.mem_singleton.mp he]; exact ⟨hkd, _, rfl, .inl rfl⟩), rfl, rfl, hkd, hg, hbi, fun x hx => ?_, fun _ => rfl, ?_, ?_⟩
    · exact Option.isSome_iff_exists.mp (cells_look _ _ _ (.inl (mem_of_lookup hx)))
    · show 1 + claimMargin + 1 + k + 200 < recursionLimit
      unfold claimMargin recursionLimit; omega
    · show 4 + 3 + 8 * k + 200 < cLine
      unfold cLine; omega
  have R' : Rel c f ([name].zip [V.scr ns]) [] [] [] s₁ :=
    enterAt (mt := []) (fo := []) H hsc hcl (.one (.scr hl hn)) ⟨_, _, rfl⟩ (fun b o e => hb ▸ e) (by rw [hb]; exact Nat.le_refl _) (fun p hp => nomatch hp) .nil .nil .nil rfl rfl x
  refine wpAny_mono (h.go f [] [] s₁ ok' hsc ⟨rfl, rfl, rfl⟩ R') (fun fl s' p => ?_) fun _ _ t => t.never.elim
  obtain ⟨fl', ρ', st', imm', i', rf, R'', h'⟩ := p
  obtain ⟨⟨h1, tk1, rfl⟩, m, mt, cs, fo, r⟩ := R''
  have F : Fr c.s₀.heap c.s₀.heap.objs.size h1 m := by
    have := r.frm
    rw [hb] at this
    exact this
  cases rf with
  | ret rv =>
    cases h'
    cases rv
    exact hR _ _ _ _ F
  | next => cases h'
  | brk => cases h'
  | cont => cases h'
end
end Mine
namespace Mine
section
variable {c : Cx} {k : Nat} {sc : Scope} {ρ : Loc} {st : St} {Q : V → St → Prop} {S : Fl → Loc → St → Prop} {X : Xp} {f : Fm} {imm fr : Led} {s : Shared} {tk : Nat}

/-! calls -/
def isStar : Expr → Bool
  | .Starred _ _ => true
  | _ => false
theorem star_cons {e : Expr} {es : List Expr} {env : Env} (h : isStar e = false) : starEach (e :: es) env = (false, eval e env) :: starEach es env := by
  cases e <;> first | rfl | (cases h)
theorem star_plain {es : List Expr} {env : Env} {pos : Pos} (h : es.any isStar = false) : (backTo pos (starEach es env)).any (·.1) = false := by
  induction es with
  | nil => rfl
  | cons e es ih =>
    simp only [List.any_cons, Bool.or_eq_false_iff] at h
    rw [star_cons h.1]
    have := ih h.2
    simp only [backTo, List.map_cons, List.any_cons, Bool.false_or] at this ⊢
    exact this

def callable (K : Frag) : Value → Bool
  | .builtin _ => true
  | .type _ => true
  | .ref a => keepIn K (.ref a)
  | _ => false

theorem callWithW {val : Value} {args : List Expr} {first : List Value} {vs₀ : List V} {pos : Pos} (hc : callable c.K val = true) (hp : args.any isStar = false) (ok : f.Ok c k) (hsc : f.env.scope = sc) (R : Rel c f ρ st imm fr s) (rf : RVs c.base imm vs₀ first)
    (hf0 : first = [] ∨ (∀ T, val ≠ .type T))
    (h : WPEs c k sc ρ st args (fun vs st₂ => WL c k (fun xs => call val xs) (vs₀ ++ vs) ρ st₂ Q X) X) :
    wpAny c.M f.A (callWith pos val first (backTo pos (starEach args f.env)) []) (PostE c f ρ imm fr Q) (Thrown c f imm fr X) s := by
  have K : ∀ xs s₁, PostL c f ρ imm fr args.length (fun vs st₂ => WL c k (fun xs => call val xs) (vs₀ ++ vs) ρ st₂ Q X) xs s₁ → wpAny c.M f.A (call val (first ++ xs)) (PostE c f ρ imm fr Q) (Thrown c f imm fr X) s₁ := by
    rintro xs s₁ ⟨vs, st₁, imm₁, i₁, rvs, R₁, hn, h₁⟩
    exact wpAny_mono (h₁.go f imm₁ fr s₁ (first ++ xs) ok R₁ ((rf.mono i₁).append rvs)) (fun _ _ p => p.mono i₁) fun _ _ t => t.mono i₁
  have H := h.go f imm fr s pos ok hsc R
  cases args with
  | nil =>
    have KK : wpAny c.M f.A (call val (first ++ [])) (PostE c f ρ imm fr Q) (Thrown c f imm fr X) s := by
      have e : wpAny c.M f.A (spliced (backTo pos (starEach [] f.env))) (fun xs s₁ => wpAny c.M f.A (call val (first ++ xs)) (PostE c f ρ imm fr Q) (Thrown c f imm fr X) s₁) (Thrown c f imm fr X) s :=
        wpAny_mono H (fun xs s₁ p => K xs s₁ p) fun _ _ t => t
      exact fun Γ p hΓ => e Γ p hΓ Γ p hΓ
    cases val <;> first | (cases hc; done) | skip
    · rename_i T
      rcases hf0 with rfl | hf0
      · exact callWith_type0 KK
      · exact absurd rfl (hf0 T)
    · exact callWith_method0 (by simpa using KK)
    · exact callWith_K0 (R.kin ok) hc KK
  | cons e es =>
    simp only [List.any_cons, Bool.or_eq_false_iff] at hp
    cases val <;> first | (cases hc; done) | skip
    · rename_i T
      rcases hf0 with rfl | hf0
      · exact callWith_type1 (wpAny_mono H (fun xs s₁ p => by simpa using K xs s₁ p) fun _ _ t => t) (star_cons hp.1) (star_plain hp.2)
      · exact absurd rfl (hf0 T)
    · exact callWith_method1 (wpAny_mono H (fun xs s₁ p => K xs s₁ p) fun _ _ t => t) (star_cons hp.1) (star_plain hp.2)
    · refine callWith_K ok.kin hc (wpAny_mono H (fun xs s₁ p => ⟨?_, K xs s₁ p⟩) fun _ _ t => t) (star_cons hp.1) (star_plain hp.2)
      obtain ⟨vs, st₁, imm₁, i₁, rvs, R₁, hn, h₁⟩ := p
      exact R₁.kin ok

theorem WPE.call {id : Str} {p pos : Pos} {args : List Expr}
    (h : WPE c k sc ρ st (.Name id p) (fun fv st₁ => ∃ val, fv = .stat val ∧ callable c.K val = true ∧ WPEs c k sc ρ st₁ args (fun vs st₂ => WL c k (fun xs => call val xs) vs ρ st₂ Q X) X) X)
    (hp : args.any isStar = false := by rfl) : WPE c k sc ρ st (.Call (.Name id p) args [] pos) Q X := by
  refine ⟨fun f imm fr s ok hsc R => ?_⟩
  refine wpAny_Call_NameR (wpAny_mono (h.go f imm fr s ok hsc R) (fun x s₁ q => ?_) fun _ _ t => t)
  obtain ⟨v, st₁, imm₁, i₁, rv, R₁, val, rfl, hc, h₁⟩ := q
  cases rv
  exact wpAny_mono (callWithW (vs₀ := []) hc hp ok hsc R₁ .nil (.inl rfl) h₁) (fun _ _ p => p.mono i₁) fun _ _ t => t.mono i₁

/-! isinstance of the plain types -/
def typV (st : St) : V → Option String
  | .none => some "NoneType"
  | .bool _ => some "bool"
  | .int _ => some "int"
  | .str _ => some "str"
  | .tup _ => some "tuple"
  | .scr _ => some "list"
  | .ref a => match get st a with
    | some (.list _) => some "list"
    | some (.dictI _) => some "dict"
    | some (.dictS _) => some "dict"
    | _ => none
  | _ => none
def isi (T U : String) : Bool := T == U || (T == "bool" && U == "int")

theorem typV_ref {a : Addr} {T : String} (R : Rel c f ρ st imm fr s) (ht : typV st (.ref a) = some T) : (T = "list" ∨ T = "dict") ∧ ∃ o, s.heap.get? a = some o ∧ o.cls = .type T := by
  simp only [typV] at ht
  cases hg : get st a with
  | none => rw [hg] at ht; cases ht
  | some o =>
    rw [hg] at ht
    obtain ⟨co, hr, ho⟩ := R.get hg
    cases hr with
    | list r => cases ht; exact ⟨.inl rfl, _, ho, rfl⟩
    | dictI r d => cases ht; exact ⟨.inr rfl, _, ho, d.1.1⟩
    | dictS r d => cases ht; exact ⟨.inr rfl, _, ho, d.1.1⟩
    | inst C d => cases ht
    | exc _ _ => cases ht
    | attr _ => cases ht
    | any _ => cases ht

def isiTypes : List String := ["int", "bool", "str", "tuple", "list"]
open IsiPair in
theorem WL.isinstance {v : V} {T U : String} (ht : typV st v = some T) (hu : isiTypes.contains U = true) (h : Q (.bool (isi T U)) st) : WL c k (fun xs => call (.builtin "isinstance") xs) [v, .stat (.type U)] ρ st Q X := by
  refine ⟨fun f imm fr s xs ok R rvs => ?_⟩
  cases rvs with
  | cons rv rvs =>
  cases rvs with
  | cons ru rvs =>
  cases rvs
  cases ru
  have P : ∀ b, isi T U = b → PostE c f ρ imm fr Q (.bool b) s := fun b e => .bool R (e ▸ h)
  have P' : ∀ b tk, isi T U = b → PostE c f ρ imm fr Q (.bool b) { s with toks := tk } := fun b tk e => .bool R.toks (e ▸ h)
  have hu' : U = "int" ∨ U = "bool" ∨ U = "str" ∨ U = "tuple" ∨ U = "list" := by
    simpa [isiTypes] using hu
  cases rv with
  | none => cases ht; rcases hu' with rfl | rfl | rfl | rfl | rfl <;> first | exact NoneType_int (P' _ _ rfl) | exact NoneType_bool (P' _ _ rfl) | exact NoneType_str (P' _ _ rfl) | exact NoneType_tuple (P' _ _ rfl) | exact NoneType_list (P' _ _ rfl)
  | bool b => cases ht; rcases hu' with rfl | rfl | rfl | rfl | rfl <;> first | exact bool_int (P _ rfl) | exact bool_bool (P _ rfl) | exact bool_str (P' _ _ rfl) | exact bool_tuple (P' _ _ rfl) | exact bool_list (P' _ _ rfl)
  | int i t => cases ht; rcases hu' with rfl | rfl | rfl | rfl | rfl <;> first | exact int_int (P _ rfl) | exact int_bool (P' _ _ rfl) | exact int_str (P' _ _ rfl) | exact int_tuple (P' _ _ rfl) | exact int_list (P' _ _ rfl)
  | str x t => cases ht; rcases hu' with rfl | rfl | rfl | rfl | rfl <;> first | exact str_int (P' _ _ rfl) | exact str_bool (P' _ _ rfl) | exact str_str (P _ rfl) | exact str_tuple (P' _ _ rfl) | exact str_list (P' _ _ rfl)
  | tup hm r =>
    cases ht
    have hg := R.inImm hm
    rcases hu' with rfl | rfl | rfl | rfl | rfl <;> first | exact tuple_int hg rfl (P' _ _ rfl) | exact tuple_bool hg rfl (P' _ _ rfl) | exact tuple_str hg rfl (P' _ _ rfl) | exact tuple_tuple hg rfl (P _ rfl) | exact tuple_list hg rfl (P' _ _ rfl)
  | scr hl hi =>
    cases ht
    obtain ⟨o, ho, hc, n, hd⟩ := hl
    have hg := R.keep _ _ ho
    rcases hu' with rfl | rfl | rfl | rfl | rfl <;> first | exact list_int hg hc (P' _ _ rfl) | exact list_bool hg hc (P' _ _ rfl) | exact list_str hg hc (P' _ _ rfl) | exact list_tuple hg hc (P' _ _ rfl) | exact list_list hg hc (P _ rfl)
  | ref a =>
    obtain ⟨hT, o, hg, hc⟩ := typV_ref R ht
    rcases hT with rfl | rfl
    · rcases hu' with rfl | rfl | rfl | rfl | rfl <;> first | exact list_int hg hc (P' _ _ rfl) | exact list_bool hg hc (P' _ _ rfl) | exact list_str hg hc (P' _ _ rfl) | exact list_tuple hg hc (P' _ _ rfl) | exact list_list hg hc (P _ rfl)
    · rcases hu' with rfl | rfl | rfl | rfl | rfl <;> first | exact dict_int hg hc (P' _ _ rfl) | exact dict_bool hg hc (P' _ _ rfl) | exact dict_str hg hc (P' _ _ rfl) | exact dict_tuple hg hc (P' _ _ rfl) | exact dict_list hg hc (P' _ _ rfl)
  | rng _ => cases ht
  | stat _ => cases ht

/-! len -/
theorem WL.lenTup {vs : List V} (hl : (vs.length : Int) < 2 ^ 63) (h : Q (.int vs.length) st) : WL c k (fun xs => call (.builtin "len") xs) [.tup vs] ρ st Q X := by
  refine ⟨fun f imm fr s xs ok R rvs => ?_⟩
  obtain ⟨_, rfl, rv⟩ := rvs.inv1
  obtain ⟨_, _, _, rfl, hm, r⟩ := rv.tupI
  · have e := r.length
    refine PyProof.Rows.len_tuple (items := _) ⟨_, R.inImm hm, rfl, _, rfl⟩ (by simpa [e] using hl) ?_
    simp only [List.size_toArray, e]
    exact .int R h
theorem WL.lenList {a : Addr} {vs : List V} (hg : get st a = some (.list vs)) (hl : (vs.length : Int) < 2 ^ 63) (h : Q (.int vs.length) st) : WL c k (fun xs => call (.builtin "len") xs) [.ref a] ρ st Q X := by
  refine ⟨fun f imm fr s xs ok R rvs => ?_⟩
  obtain ⟨_, rfl, rv⟩ := rvs.inv1
  obtain rfl := rv.refI
  obtain ⟨_, _, r, ho⟩ := R.isList hg
  · · have e := r.length
      refine PyProof.Rows.len_list (items := _) ⟨_, ho, rfl, _, rfl⟩ (by simpa [e] using hl) ?_
      simp only [List.size_toArray, e]
      exact .int R h
theorem WL.lenScr {ns : List Int} (hl : (ns.length : Int) < 2 ^ 63) (h : Q (.int ns.length) st) : WL c k (fun xs => call (.builtin "len") xs) [.scr ns] ρ st Q X := by
  refine ⟨fun f imm fr s xs ok R rvs => ?_⟩
  obtain ⟨_, rfl, rv⟩ := rvs.inv1
  obtain ⟨_, _, rfl, hi, hn⟩ := rv.scrI
  · have e := hn.length
    refine PyProof.Rows.len_list (items := _) (hi.at fun o e => R.keep _ _ e) (by simpa [e] using hl) ?_
    simp only [List.size_toArray, e]
    exact .int R h
end
end Mine
namespace Mine
section
variable {c : Cx} {k : Nat} {sc : Scope} {ρ : Loc} {st : St} {Q : V → St → Prop} {S : Fl → Loc → St → Prop} {X : Xp} {f : Fm} {imm fr : Led} {s : Shared} {tk : Nat}

/-! subscripts -/
def isSl : Expr → Bool
  | .Slice .. => true
  | _ => false
theorem sub_plain {e : Expr} (h : isSl e = false) (o i : Value) : subscripted e false o i = operate [o, i] (getItem o i) := by
  cases e <;> first | rfl | (cases h)
theorem WPE.sub {e i : Expr} {pos : Pos} (h : WPE c k sc ρ st e (fun a st₁ => WPE c k sc ρ st₁ i (fun b st₂ => W2 c k (subscriptTail e i) a b ρ st₂ Q X) X) X) : WPE c k sc ρ st (.Subscript e i pos) Q X := by
  refine ⟨fun f imm fr s ok hsc R => ?_⟩
  refine Subscript_ (wpAny_mono (h.go f imm fr s ok hsc R) (fun x s₁ p => ?_) fun _ _ t => t)
  obtain ⟨a, st₁, imm₁, i₁, ra, R₁, h₁⟩ := p
  refine wpAny_mono (h₁.go f imm₁ fr s₁ ok hsc R₁) (fun y s₂ p => ?_) fun _ _ t => t.mono i₁
  obtain ⟨b, st₂, imm₂, i₂, rb, R₂, h₂⟩ := p
  exact wpAny_mono (h₂.go f imm₂ fr s₂ x y ok R₂ (ra.mono i₂) rb) (fun _ _ p => p.mono fun q hq => i₂ q (i₁ q hq)) fun _ _ t => t.mono fun q hq => i₂ q (i₁ q hq)

theorem seqIndex_lt {i : Int} {n j : Nat} (h : seqIndex? i n = some j) : -(n : Int) ≤ i ∧ i < n ∧ j < n ∧ (0 ≤ i → j = i.toNat) ∧ (i < 0 → j = (i + n).toNat) := by
  unfold seqIndex? at h
  simp at h
  split at h <;> omega

theorem W2.subTup {e ie : Expr} {vs : List V} {i : Int} {j : Nat} {v : V} (hs : isSl ie = false) (hl : (vs.length : Int) < 2 ^ 63) (hj : seqIndex? i vs.length = some j) (hv : vs[j]? = some v) (h : Q v st) : W2 c k (subscriptTail e ie) (.tup vs) (.int i) ρ st Q X := by
  refine ⟨fun f imm fr s x y ok R ra rb => ?_⟩
  obtain ⟨_, rfl⟩ := rb.intI
  obtain ⟨_, _, _, rfl, hm, r⟩ := ra.tupI
  · obtain ⟨x, hx, rx⟩ := r.get hv
    have q := seqIndex_lt hj
    exact item_tupleT ⟨_, R.inImm hm, rfl, _, rfl⟩ (by omega) (by omega) (by rw [r.length]; exact hj) hx (.of rx R h) (sub_plain hs _ _)
theorem getItem_listJ {prog : Program} {w : World} {A : Around} {E : Value → Shared → Prop} {P : Value → Shared → Prop} {a : Addr} {items : Array Value} {i : Int} {t : Tok} {j : Nat} {x : Value} (hl : s.heap.IsList a items) (hb : (items.size : Int) < 2 ^ 63) (hj : seqIndex? i items.size = some j) (hx : items[j]? = some x) (h : P x s) :
    wpAny (model prog w) A (getItem (.ref a) (.int i t)) P E s := by
  have q := seqIndex_lt hj
  by_cases h0 : 0 ≤ i
  · exact wpAny_getItem_list hl h0 (by omega) (by rw [← q.2.2.2.1 h0]; exact hx) h
  · exact wpAny_getItem_list_neg hl (by omega) (by omega) (by omega) (by rw [← q.2.2.2.2 (by omega)]; exact hx) h
theorem W2.subList {e ie : Expr} {a : Addr} {vs : List V} {i : Int} {j : Nat} {v : V} (hg : get st a = some (.list vs)) (hs : isSl ie = false) (hl : (vs.length : Int) < 2 ^ 63) (hj : seqIndex? i vs.length = some j) (hv : vs[j]? = some v) (h : Q v st) : W2 c k (subscriptTail e ie) (.ref a) (.int i) ρ st Q X := by
  refine ⟨fun f imm fr s x y ok R ra rb => ?_⟩
  obtain ⟨_, rfl⟩ := rb.intI
  obtain rfl := ra.refI
  obtain ⟨vals, n, r, ho⟩ := R.isList hg
  · · obtain ⟨x, hx, rx⟩ := r.get hv
      have hL : s.heap.IsList a _ := ⟨_, ho, rfl, _, rfl⟩
      exact tail_any hL.typeIs slot_list_getitem.lookup (getItem_listJ hL (by simpa [r.length] using hl) (by simpa [r.length] using hj) (by simpa using hx) (.of rx R h)) (sub_plain hs _ _)
theorem W2.subScr {e ie : Expr} {ns : List Int} {i : Int} {j : Nat} {n : Int} (hs : isSl ie = false) (hl : (ns.length : Int) < 2 ^ 63) (hj : seqIndex? i ns.length = some j) (hv : ns[j]? = some n) (h : Q (.int n) st) : W2 c k (subscriptTail e ie) (.scr ns) (.int i) ρ st Q X := by
  refine ⟨fun f imm fr s x y ok R ra rb => ?_⟩
  obtain ⟨_, rfl⟩ := rb.intI
  obtain ⟨_, _, rfl, hi, hn⟩ := ra.scrI
  · obtain ⟨t, hx⟩ := hn.get j n hv
    have hL := hi.at fun o e => R.keep _ _ e
    exact tail_any hL.typeIs slot_list_getitem.lookup (getItem_listJ hL (by simpa [hn.length] using hl) (by simpa [hn.length] using hj) (by simpa using hx) (.of (.int _ _) R h)) (sub_plain hs _ _)

/-! data: what a value reads as -/
mutual
inductive Dat (st : St) : V → PyData → Prop
  | none : Dat st .none .none
  | bool (b : Bool) : Dat st (.bool b) (.bool b)
  | int (i : Int) : Dat st (.int i) (.int i)
  | str (x : Str) : Dat st (.str x) (.str x)
  | tup {vs : List V} {ds : List PyData} : Dats st vs ds → Dat st (.tup vs) (.tuple ds)
  | list {a : Addr} {vs : List V} {ds : List PyData} : get st a = some (.list vs) → Dats st vs ds → Dat st (.ref a) (.list ds)
inductive Dats (st : St) : List V → List PyData → Prop
  | nil : Dats st [] []
  | cons {v : V} {vs : List V} {d : PyData} {ds : List PyData} : Dat st v d → Dats st vs ds → Dats st (v :: vs) (d :: ds)
end
mutual
theorem Dat.reads (R : Rel c f ρ st imm fr s) : ∀ {v : V} {d : PyData} {x : Value}, Dat st v d → RV c.base imm v x → ∃ as, Reads s.heap x d as
  | _, _, x, .none, h => by obtain rfl := h.noneI; exact ⟨_, .none⟩
  | _, _, x, .bool b, h => by obtain rfl := h.boolI; exact ⟨_, .bool b⟩
  | _, _, x, .int i, h => by obtain ⟨t, rfl⟩ := h.intI; exact ⟨_, .int i t⟩
  | _, _, x, .str y, h => by obtain ⟨t, rfl⟩ := h.strI; exact ⟨_, .str y t⟩
  | _, _, x, .tup h, q => by
    obtain ⟨_, _, _, rfl, hm, r⟩ := q.tupI
    obtain ⟨as, q⟩ := Dats.reads R h r
    exact ⟨as, .tuple (R.inImm hm) rfl rfl (by simpa using q)⟩
  | _, _, x, .list hg h, q => by
    obtain rfl := q.refI
    obtain ⟨_, _, r, ho⟩ := R.isList hg
    obtain ⟨as, q⟩ := Dats.reads R h r
    exact ⟨_, .list ho rfl rfl (by simpa using q)⟩
theorem Dats.reads (R : Rel c f ρ st imm fr s) : ∀ {vs : List V} {ds : List PyData} {xs : List Value}, Dats st vs ds → RVs c.base imm vs xs → ∃ as, ReadsAll s.heap xs ds as
  | _, _, xs, .nil, q => by cases q; exact ⟨_, .nil⟩
  | _, _, xs, .cons h hs, q => by
    cases q with | cons r rs =>
    obtain ⟨as, q⟩ := Dat.reads R h r
    obtain ⟨bs, p⟩ := Dats.reads R hs rs
    exact ⟨_, .cons q p⟩
end
theorem W2.ne {a b : V} {da db : PyData} (ha : Dat st a da) (hb : Dat st b db) (sa : SeqAt.shaped da = true) (sb : SeqAt.shaped db = true) (h : Q (.bool (!PyData.eqv da db)) st) : W2 c k (compareOp .NotEq) a b ρ st Q X := by
  refine ⟨fun f imm fr s x y ok R ra rb => ?_⟩
  obtain ⟨as, r1⟩ := ha.reads R ra
  obtain ⟨bs, r2⟩ := hb.reads R rb
  exact ne_dataH r1 r2 sa sb (by have := ok.units; omega) (.bool R h)
/-! lists glued -/
theorem W2.addList {a b : Addr} {vs ws : List V} (ha : get st a = some (.list vs)) (hb : get st b = some (.list ws)) (hl : vs.length + ws.length ≤ sizeLine) (h : ∀ l, get st l = none → Q (.ref l) ((l, .list (vs ++ ws)) :: st)) : W2 c k (binaryOp .Add) (.ref a) (.ref b) ρ st Q X := by
  refine ⟨fun f imm fr s x y ok R ra rb => ?_⟩
  obtain rfl := ra.refI
  obtain rfl := rb.refI
  obtain ⟨_, _, r, ho⟩ := R.isList ha
  obtain ⟨_, _, r', ho'⟩ := R.isList hb
  · · have fr0 := R.none
      obtain ⟨⟨h0, tk0, rfl⟩, m, mt, cs, fo, rr⟩ := id R
      refine add_arrays rr.frm rr.news ⟨_, ho, rfl, _, rfl⟩ ⟨_, ho', rfl, _, rfl⟩ (fun h' F' N' => ?_) (by simpa [r.length, r'.length] using hl)
      refine ⟨_, _, imm, fun _ h => h, .ref _, ⟨⟨h', tk0, rfl⟩, m, _ :: mt, cs, fo, F', N', ?_, .cons (.list (vals := _ ++ _) (n := 0) (by simpa using r.append r')) rr.sto, rr.fos, rr.loc⟩, h _ fr0⟩
      rw [show (whole ((h0.objs.size, _) :: mt) cs imm fr fo) = (h0.objs.size, _) :: whole mt cs imm fr fo from rfl, List.map_cons, List.nodup_cons]
      refine ⟨fun hm => ?_, rr.nodup⟩
      obtain ⟨p, hp, e⟩ := List.mem_map.mp hm
      exact absurd (rr.size p hp) (by rw [e]; exact Nat.lt_irrefl _)
end
end Mine
namespace Mine
section
variable {c : Cx} {k : Nat} {sc : Scope} {ρ : Loc} {st : St} {Q : V → St → Prop} {S : Fl → Loc → St → Prop} {X : Xp}

theorem WPE.globR {x : Str} {pos : Pos} {a : Addr} (hx : sc.names.lookup x = some .globalImplicit) (e : nsIn c.K mainGlobals x = some (some (.ref a))) (h : Q (.stat (.ref a)) st)
    (hd : (x == ("__debug__" : Str)) = false := by decide) : WPE c k sc ρ st (.Name x pos) Q X := WPE.glob hx e (fun _ _ => .stat _) h hd
theorem WPE.globI {x : Str} {pos : Pos} {i : Int} {t : Tok} (hx : sc.names.lookup x = some .globalImplicit) (e : nsIn c.K mainGlobals x = some (some (.int i t))) (h : Q (.int i) st)
    (hd : (x == ("__debug__" : Str)) = false := by decide) : WPE c k sc ρ st (.Name x pos) Q X := WPE.glob hx e (fun _ _ => .int _ _) h hd
theorem WPE.callF {id : Str} {p pos : Pos} {args : List Expr} {a : Addr} (hx : sc.names.lookup id = some .globalImplicit) (e : nsIn c.K mainGlobals id = some (some (.ref a))) (hk : keepIn c.K (.ref a) = true)
    (h : WPEs c k sc ρ st args (fun vs st₂ => WL c k (fun xs => PySem.call (.ref a) xs) vs ρ st₂ Q X) X)
    (hp : args.any isStar = false := by rfl) (hd : (id == ("__debug__" : Str)) = false := by decide) : WPE c k sc ρ st (.Call (.Name id p) args [] pos) Q X :=
  WPE.call (WPE.globR hx e ⟨_, rfl, hk, h⟩ hd) hp
theorem WPE.callB {id : Str} {p pos : Pos} {args : List Expr} {b : String} (hx : sc.names.lookup id = some .globalImplicit) (e : nsIn c.K mainGlobals id = some none) (hv : bootBuiltins id = some (.builtin b))
    (h : WPEs c k sc ρ st args (fun vs st₂ => WL c k (fun xs => PySem.call (.builtin b) xs) vs ρ st₂ Q X) X)
    (hp : args.any isStar = false := by rfl) (hn : id ≠ "__name__" := by decide) (hd : (id == ("__debug__" : Str)) = false := by decide) : WPE c k sc ρ st (.Call (.Name id p) args [] pos) Q X :=
  WPE.call (WPE.blt hx e hv ⟨_, rfl, rfl, h⟩ hn hd) hp
theorem WPE.callT {id : Str} {p pos : Pos} {args : List Expr} {b : String} (hx : sc.names.lookup id = some .globalImplicit) (e : nsIn c.K mainGlobals id = some none) (hv : bootBuiltins id = some (.type b))
    (h : WPEs c k sc ρ st args (fun vs st₂ => WL c k (fun xs => PySem.call (.type b) xs) vs ρ st₂ Q X) X)
    (hp : args.any isStar = false := by rfl) (hn : id ≠ "__name__" := by decide) (hd : (id == ("__debug__" : Str)) = false := by decide) : WPE c k sc ρ st (.Call (.Name id p) args [] pos) Q X :=
  WPE.call (WPE.blt hx e hv ⟨_, rfl, rfl, h⟩ hn hd) hp
theorem WPE.bltT {x : Str} {pos : Pos} {b : String} (hx : sc.names.lookup x = some .globalImplicit) (e : nsIn c.K mainGlobals x = some none) (hv : bootBuiltins x = some (.type b)) (h : Q (.stat (.type b)) st)
    (hn : x ≠ "__name__" := by decide) (hd : (x == ("__debug__" : Str)) = false := by decide) : WPE c k sc ρ st (.Name x pos) Q X := WPE.blt hx e hv h hn hd
end
end Mine
namespace Mine
section
variable {c : Cx} {k : Nat} {sc : Scope} {ρ : Loc} {st : St} {Q : V → St → Prop} {S : Fl → Loc → St → Prop} {X : Xp} {f : Fm} {imm fr : Led} {s : Shared} {tk : Nat}

theorem RVs.strs {base : Heap} {imm : Led} : ∀ {ys : List Str} {xs : List Value}, RVs base imm (ys.map V.str) xs → StrsAre xs ys := by
  intro ys
  induction ys with
  | nil => intro xs h; cases h; exact .nil
  | cons y ys ih => intro xs h; cases h with | cons a r => obtain ⟨t, rfl⟩ := a.strI; exact .cons y t (ih r)
theorem W2.inStrs {a : Str} {ys : List Str} {vs : List V} (hv : vs = ys.map V.str) (h : Q (.bool (ys.any (· == a))) st) : W2 c k (compareOp .In) (.str a) (.tup vs) ρ st Q X := by
  subst hv
  refine ⟨fun f imm fr s x y ok R ra rb => ?_⟩
  obtain ⟨_, rfl⟩ := ra.strI
  obtain ⟨_, _, _, rfl, hm, r⟩ := rb.tupI
  exact in_tuple_strs ⟨_, R.inImm hm, rfl, _, rfl⟩ (by simpa using RVs.strs r) (.bool R h)
theorem W2.notInStrs {a : Str} {ys : List Str} {vs : List V} (hv : vs = ys.map V.str) (h : Q (.bool (!(ys.any (· == a)))) st) : W2 c k (compareOp .NotIn) (.str a) (.tup vs) ρ st Q X := by
  subst hv
  refine ⟨fun f imm fr s x y ok R ra rb => ?_⟩
  obtain ⟨_, rfl⟩ := ra.strI
  obtain ⟨_, _, _, rfl, hm, r⟩ := rb.tupI
  exact notin_tuple_strs ⟨_, R.inImm hm, rfl, _, rfl⟩ (by simpa using RVs.strs r) (.bool R h)
theorem W2.neS {a b : Str} (h : Q (.bool (a != b)) st) : W2 c k (compareOp .NotEq) (.str a) (.str b) ρ st Q X := by
  refine ⟨fun f imm fr s x y ok R ra rb => ?_⟩
  obtain ⟨_, rfl⟩ := ra.strI
  obtain ⟨_, rfl⟩ := rb.strI
  exact PyProof.Rows.ne_str (.bool R h)
theorem Fm.Ok.le {k' : Nat} (ok : f.Ok c k) (h : k' ≤ k) : f.Ok c k' := { ok with depth := by have := ok.depth; omega, units := by have := ok.units; omega }
theorem WL.le {t : List Value → Sem Value} {vs : List V} {k' : Nat} (h : WL c k' t vs ρ st Q X) (hk : k' ≤ k) : WL c k t vs ρ st Q X :=
  ⟨fun f imm fr s xs ok R rvs => h.go f imm fr s xs (ok.le hk) R rvs⟩

abbrev CF (c : Cx) (k : Nat) (a : Addr) (vs : List V) (ρ : Loc) (st : St) (Q : V → St → Prop) (X : Xp) : Prop := WL c k (fun xs => PySem.call (.ref a) xs) vs ρ st Q X
theorem seqIndex_pos {i : Int} {n : Nat} (h0 : 0 ≤ i) (h1 : i < n) : seqIndex? i n = some i.toNat := by
  unfold seqIndex?
  have h : ¬ i < 0 := by omega
  simp [h, h0, h1]
theorem seqIndex_0 {n : Nat} : seqIndex? 0 (n + 1) = some 0 := seqIndex_pos (by decide) (by omega)
theorem seqIndex_1 {n : Nat} : seqIndex? 1 (n + 2) = some 1 := seqIndex_pos (by decide) (by omega)
/-- a store that has grown -/
def Le (st st' : St) : Prop := ∀ a o, get st a = some o → get st' a = some o
theorem Le.trans {st₁ st₂ st₃ : St} (h : Le st₁ st₂) (h' : Le st₂ st₃) : Le st₁ st₃ := fun a o e => h' a o (h a o e)
theorem get_head {a : Addr} {o : O} : get ((a, o) :: st) a = some o := by simp [get]
theorem get_tail {a b : Addr} {o : O} (h : b ≠ a) : get ((a, o) :: st) b = get st b := by
  unfold get
  rw [List.lookup_cons]
  have : (b == a) = false := by simpa using h
  rw [this]
theorem Le.alloc {a : Addr} {o : O} (h : get st a = none) : Le st ((a, o) :: st) := fun b p e => by
  have : b ≠ a := fun q => by rw [q, h] at e; cases e
  rw [get_tail this]; exact e
theorem W2.tupAt {e ie : Expr} {vs : List V} {i : Int} {v : V} (hs : isSl ie = false) (hl : Nat.blt vs.length 1000000 = true) (hv : (seqIndex? i vs.length).bind (fun j => vs[j]?) = some v) (h : Q v st) : W2 c k (subscriptTail e ie) (.tup vs) (.int i) ρ st Q X := by
  have hl' : vs.length < 1000000 := by simpa [Nat.blt_eq] using hl
  cases hj : seqIndex? i vs.length with
  | none => rw [hj] at hv; cases hv
  | some j => rw [hj] at hv; exact W2.subTup hs (by omega) hj hv h
theorem W2.listAt {e ie : Expr} {a : Addr} {vs : List V} {i : Int} {v : V} (hg : get st a = some (.list vs)) (hs : isSl ie = false) (hl : Nat.blt vs.length 1000000 = true) (hv : (seqIndex? i vs.length).bind (fun j => vs[j]?) = some v) (h : Q v st) : W2 c k (subscriptTail e ie) (.ref a) (.int i) ρ st Q X := by
  have hl' : vs.length < 1000000 := by simpa [Nat.blt_eq] using hl
  cases hj : seqIndex? i vs.length with
  | none => rw [hj] at hv; cases hv
  | some j => rw [hj] at hv; exact W2.subList hg hs (by omega) hj hv h
theorem isDict_nil {α : Type} [DecidableEq α] {knd : KeyKind c.prog c.w α} : IsDict knd { cls := .type "dict", data := .dict #[] } [] :=
  ⟨⟨rfl, rfl, rfl⟩, #[], 0, rfl, fun e he => by simp at he, .nil, .nil⟩
theorem Rel.fresh (ok : f.Ok c k) (R : Rel c f ρ st imm fr s) : (s.heap.objs.size == sysModules) = false := by
  obtain ⟨_, m, mt, cs, fo, r⟩ := R
  exact r.frm.notModules (modules_low ok.top.nolimit)
theorem WPE.dict0 {pos : Pos} (h : ∀ a, get st a = none → (a == sysModules) = false → Q (.ref a) ((a, .dictI []) :: st)) : WPE c k sc ρ st (.Dict [] [] pos) Q X :=
  ⟨fun f imm fr s ok hsc R => wpAny_Dict_empty ⟨_, _, imm, fun _ h => h, .ref _, R.pushSt (tk := s.toks) (.dictI .nil isDict_nil), h _ R.none (R.fresh ok)⟩⟩
theorem W2.cat {a b : Addr} {vs ws : List V} (ha : get st a = some (.list vs)) (hb : get st b = some (.list ws)) (hl : Nat.ble (vs.length + ws.length) 1000000 = true) (h : ∀ l, get st l = none → Q (.ref l) ((l, .list (vs ++ ws)) :: st)) : W2 c k (binaryOp .Add) (.ref a) (.ref b) ρ st Q X :=
  W2.addList ha hb (Nat.le_trans (Nat.le_of_ble_eq_true hl) (by decide)) h
end
end Mine
namespace Mine
def rngItems (a b c : Int) : List V := (List.range (Builtin.Range.rangeSize a b c).toNat).map fun (i : Nat) => .int (a + i * c)
/-- the things of a thing that is gone through -/
inductive Src (st : St) : V → List V → Prop
  | list {a : Addr} {vs : List V} : get st a = some (.list vs) → Src st (.ref a) vs
  | tup {vs : List V} : Src st (.tup vs) vs
  | scr {ns : List Int} : Src st (.scr ns) (ns.map .int)
  | rng {a b c : Int} : Builtin.Range.small a b c = true → Src st (.rng a b c) (rngItems a b c)
  | str {x : Str} : Src st (.str x) (x.cps.toList.map fun n => .str ⟨#[n]⟩)

/-- an iterator's object, i taken -/
inductive ItO : Value → V → Nat → Obj → Prop
  | list {a : Addr} {i : Nat} {o : Obj} (h1 : o.cls = .type "list_iterator") (h2 : o.data = .fields #[.ref a, .int i 0]) : ItO (.ref a) (.ref a) i o
  | scr {a : Addr} {ns : List Int} {i : Nat} {o : Obj} (h1 : o.cls = .type "list_iterator") (h2 : o.data = .fields #[.ref a, .int i 0]) : ItO (.ref a) (.scr ns) i o
  | tup {a : Addr} {vs : List V} {i : Nat} {o : Obj} (h1 : o.cls = .type "tuple_iterator") (h2 : o.data = .fields #[.ref a, .int i 0]) : ItO (.ref a) (.tup vs) i o
  | rng {r : Addr} {a b c : Int} {i : Nat} : ItO (.ref r) (.rng a b c) i { cls := .type "range_iterator", dict := none, data := .fields #[rawInt (a + i * c), rawInt (Builtin.Range.rangeSize a b c - i), rawInt c], slots := #[] }
  | strA {x : Str} {t : Tok} {i : Nat} {o : Obj} (h1 : o.cls = .type "str_ascii_iterator") (h2 : o.data = .fields #[.str x t, .int i 0]) : ItO (.str x t) (.str x) i o
  | strW {x : Str} {t : Tok} {i : Nat} {o : Obj} (h1 : o.cls = .type "str_iterator") (h2 : o.data = .fields #[.str x t, .int i 0]) : ItO (.str x t) (.str x) i o
theorem ItO.fields {x : Value} {v : V} {i : Nat} {o : Obj} (h : ItO x v i o) : ∀ w, o.data ≠ .cell w := by
  cases h with
  | list _ h => intro w e; rw [h] at e; cases e
  | scr _ h => intro w e; rw [h] at e; cases e
  | tup _ h => intro w e; rw [h] at e; cases e
  | rng => intro w e; cases e
  | strA _ h => intro w e; rw [h] at e; cases e
  | strW _ h => intro w e; rw [h] at e; cases e

section
variable {c : Cx} {k : Nat} {sc : Scope} {ρ : Loc} {st : St} {Q : V → St → Prop} {S : Fl → Loc → St → Prop} {X : Xp} {f : Fm} {imm fr : Led} {s : Shared} {tk : Nat}

theorem it_start {v : V} {vs : List V} {x : Value} {E : Value → Shared → Prop} (R : Rel c f ρ st imm fr s) (rv : RV c.base imm v x) (hs : Src st v vs) :
    wpAny c.M f.A (pyIter x) (fun it s' => ∃ I o, it = .ref I ∧ ItO x v 0 o ∧ Rel c f ρ st imm ((I, o) :: fr) s') E s := by
  cases hs with
  | list hg =>
    cases rv with
    | ref =>
      obtain ⟨co, hr, ho⟩ := R.get hg
      cases hr with
      | list r => exact wpAny_pyIter_list ⟨_, ho, rfl, _, rfl⟩ ⟨_, _, rfl, .list rfl rfl, R.pushFr (tk := s.toks)⟩
  | tup =>
    cases rv with
    | tup hm r => exact wpAny_pyIter_tuple ⟨_, R.inImm hm, rfl, _, rfl⟩ ⟨_, _, rfl, .tup rfl rfl, R.pushFr (tk := s.toks)⟩
  | scr =>
    cases rv with
    | scr hl hn => exact wpAny_pyIter_list (hl.at fun o e => R.keep _ _ e) ⟨_, _, rfl, .scr rfl rfl, R.pushFr (tk := s.toks)⟩
  | @rng a b cc hsm =>
    cases rv with
    | @rng r _ _ _ _ _ _ hm =>
      refine wpAny_pyIter_range (R.inImm hm) hsm ⟨_, _, rfl, ?_, R.pushFr (tk := s.toks)⟩
      have := ItO.rng (r := r) (a := a) (b := b) (c := cc) (i := 0)
      simpa using this
  | @str z =>
    obtain ⟨t, rfl⟩ := rv.strI
    cases ha : z.cps.all (· < 128) with
    | true => exact wpAny_pyIter_ascii ha ⟨_, _, rfl, .strA rfl rfl, R.pushFr (tk := s.toks)⟩
    | false => exact wpAny_pyIter_wide ha ⟨_, _, rfl, .strW rfl rfl, R.pushFr (tk := s.toks)⟩

theorem rngItems_get {a b c : Int} {i : Nat} {u : V} (h : (rngItems a b c)[i]? = some u) : u = .int (a + i * c) ∧ (i : Int) < Builtin.Range.rangeSize a b c := by
  unfold rngItems at h
  rw [List.getElem?_map] at h
  by_cases hi : i < (Builtin.Range.rangeSize a b c).toNat
  · rw [List.getElem?_range hi] at h
    simp at h
    exact ⟨h.symm, by omega⟩
  · rw [List.getElem?_eq_none (by simpa using hi)] at h; cases h
theorem it_next {v u : V} {vs : List V} {x : Value} {I : Addr} {i : Nat} {o : Obj} {E : Value → Shared → Prop} (R : Rel c f ρ st imm ((I, o) :: fr) s) (rv : RV c.base imm v x) (hs : Src st v vs) (hi : ItO x v i o) (hu : vs[i]? = some u) :
    wpAny c.M f.A (pyNext (.ref I)) (fun r s' => ∃ y o', r = some y ∧ RV c.base imm u y ∧ ItO x v (i + 1) o' ∧ Rel c f ρ st imm ((I, o') :: fr) s') E s := by
  have hI := R.inFr (List.mem_cons_self)
  cases hi with
  | list h1 h2 =>
    cases hs with
    | list hg =>
    cases rv with
    | ref =>
      obtain ⟨co, hr, ho⟩ := R.get hg
      cases hr with
      | list r =>
        obtain ⟨y, hy, ry⟩ := r.get hu
        refine wpAny_pyNext_list_item ⟨_, hI, h1, h2⟩ ⟨_, ho, rfl, _, rfl⟩ (by simpa using hy) fun h' hit hsb => ?_
        obtain ⟨o', ho', c1, c2⟩ := hit
        exact ⟨y, o', rfl, ry, .list c1 c2, R.frSet (tk := s.toks) hsb ho' (by rw [h2]; intro _ e; cases e)⟩
  | scr h1 h2 =>
    cases hs with
    | scr =>
    cases rv with
    | scr hl hn =>
      rw [List.getElem?_map] at hu
      obtain ⟨n, hn', rfl⟩ := Option.map_eq_some_iff.mp hu
      obtain ⟨t, ht⟩ := hn.get i n hn'
      refine wpAny_pyNext_list_item ⟨_, hI, h1, h2⟩ (hl.at fun o e => R.keep _ _ e) (by simpa using ht) fun h' hit hsb => ?_
      obtain ⟨o', ho', c1, c2⟩ := hit
      exact ⟨_, o', rfl, .int _ _, .scr c1 c2, R.frSet (tk := s.toks) hsb ho' (by rw [h2]; intro _ e; cases e)⟩
  | tup h1 h2 =>
    cases hs with
    | tup =>
    cases rv with
    | tup hm r =>
      obtain ⟨y, hy, ry⟩ := r.get hu
      refine wpAny_pyNext_tuple_item ⟨_, hI, h1, h2⟩ ⟨_, R.inImm hm, rfl, _, rfl⟩ (by simpa using hy) fun h' hit hsb => ?_
      obtain ⟨o', ho', c1, c2⟩ := hit
      exact ⟨y, o', rfl, ry, .tup c1 c2, R.frSet (tk := s.toks) hsb ho' (by rw [h2]; intro _ e; cases e)⟩
  | @rng r a b cc i =>
    cases hs with
    | rng hsm =>
    obtain ⟨rfl, hlt⟩ := rngItems_get hu
    refine wpAny_pyNext_range_item hI (by omega) fun h' hit hsb => ?_
    refine ⟨_, _, rfl, .int _ _, ?_, R.frSet hsb hit (by intro _ e; cases e)⟩
    have := ItO.rng (r := r) (a := a) (b := b) (c := cc) (i := i + 1)
    have e1 : a + ((i + 1 : Nat) : Int) * cc = a + i * cc + cc := by rw [Int.natCast_add, Int.add_mul]; simp; omega
    have e2 : Builtin.Range.rangeSize a b cc - ((i + 1 : Nat) : Int) = Builtin.Range.rangeSize a b cc - i - 1 := by omega
    rw [e1, e2] at this
    exact this
  | strA h1 h2 =>
    cases hs with
    | str =>
    rw [List.getElem?_map] at hu
    obtain ⟨n, hn, rfl⟩ := Option.map_eq_some_iff.mp hu
    refine wpAny_pyNext_ascii_item ⟨_, hI, h1, h2⟩ (by rw [← Array.getElem?_toList]; exact hn) fun h' hit hsb => ?_
    obtain ⟨o', ho', c1, c2⟩ := hit
    exact ⟨_, o', rfl, .str _ _, .strA c1 c2, R.frSet hsb ho' (by rw [h2]; intro _ e; cases e)⟩
  | strW h1 h2 =>
    cases hs with
    | str =>
    rw [List.getElem?_map] at hu
    obtain ⟨n, hn, rfl⟩ := Option.map_eq_some_iff.mp hu
    refine wpAny_pyNext_wide_item ⟨_, hI, h1, h2⟩ (by rw [← Array.getElem?_toList]; exact hn) fun h' hit hsb => ?_
    obtain ⟨o', ho', c1, c2⟩ := hit
    exact ⟨_, o', rfl, .str _ _, .strW c1 c2, R.frSet hsb ho' (by rw [h2]; intro _ e; cases e)⟩
theorem it_end {v : V} {vs : List V} {x : Value} {I : Addr} {i : Nat} {o : Obj} {E : Value → Shared → Prop} (hh : f.A.handled = none) (R : Rel c f ρ st imm ((I, o) :: fr) s) (rv : RV c.base imm v x) (hs : Src st v vs) (hi : ItO x v i o) (hu : vs.length ≤ i) :
    wpAny c.M f.A (pyNext (.ref I)) (fun r s' => r = none ∧ Rel c f ρ st imm fr s') E s := by
  have hI := R.inFr (List.mem_cons_self)
  have hd := hi.fields
  cases hi with
  | list h1 h2 =>
    cases hs with
    | list hg =>
    cases rv with
    | ref =>
      obtain ⟨co, hr, ho⟩ := R.get hg
      cases hr with
      | list r => exact wpAny_pyNext_list_end hh ⟨_, hI, h1, h2⟩ ⟨_, ho, rfl, _, rfl⟩ (by simpa [r.length] using hu) fun h' hx => ⟨rfl, R.frEnd (tk := s.toks) hx hd⟩
  | scr h1 h2 =>
    cases hs with
    | scr =>
    cases rv with
    | scr hl hn => exact wpAny_pyNext_list_end hh ⟨_, hI, h1, h2⟩ (hl.at fun o e => R.keep _ _ e) (by simpa [hn.length] using hu) fun h' hx => ⟨rfl, R.frEnd (tk := s.toks) hx hd⟩
  | tup h1 h2 =>
    cases hs with
    | tup =>
    cases rv with
    | tup hm r => exact wpAny_pyNext_tuple_end hh ⟨_, hI, h1, h2⟩ ⟨_, R.inImm hm, rfl, _, rfl⟩ (by simpa [r.length] using hu) fun h' hx => ⟨rfl, R.frEnd (tk := s.toks) hx hd⟩
  | @rng r a b cc i =>
    cases hs with
    | rng hsm =>
    refine wpAny_pyNext_range_end hh hI ?_ fun h' hx => ⟨rfl, R.frEnd (tk := s.toks) hx hd⟩
    simp only [rngItems, List.length_map, List.length_range] at hu
    omega
  | strA h1 h2 =>
    cases hs with
    | str => exact wpAny_pyNext_ascii_end hh ⟨_, hI, h1, h2⟩ (Array.getElem?_eq_none (by simpa using hu)) fun h' hx => ⟨rfl, R.frEnd (tk := s.toks) hx hd⟩
  | strW h1 h2 =>
    cases hs with
    | str => exact wpAny_pyNext_wide_end hh ⟨_, hI, h1, h2⟩ (Array.getElem?_eq_none (by simpa using hu)) fun h' hx => ⟨rfl, R.frEnd (tk := s.toks) hx hd⟩
end
end Mine
namespace Mine
/-- how a turn ends -/
def lp (fl : Fl) (again : Prop) (out : Fl → Prop) : Prop := match fl with
  | .next => again
  | .cont => again
  | .brk => out .next
  | .ret v => out (.ret v)
theorem lp_next {p : Prop} {q : Fl → Prop} (h : p) : lp .next p q := h
theorem lp_ret {v : V} {p : Prop} {q : Fl → Prop} (h : q (.ret v)) : lp (.ret v) p q := h
/-- fewer locals -/
def Sub (ρ₂ ρ : Loc) : Prop := ∀ y v, getL ρ₂ y = some v → getL ρ y = some v
theorem getL_mem {ρ : Loc} {y : Str} {v : V} (h : getL ρ y = some v) : (y, v) ∈ ρ := by
  induction ρ with
  | nil => cases h
  | cons p r ih =>
    obtain ⟨x, u⟩ := p
    rw [getL_cons] at h
    by_cases e : x = y
    · subst e; rw [if_pos rfl] at h; cases h; exact .head _
    · rw [if_neg e] at h; exact .tail _ (ih h)
theorem Sub.of {ρ₂ ρ : Loc} (h : ∀ p ∈ ρ₂, getL ρ p.1 = some p.2) : Sub ρ₂ ρ := fun y v e => h (y, v) (getL_mem e)

section
variable {c : Cx} {k : Nat} {sc : Scope} {ρ : Loc} {st : St} {Q : V → St → Prop} {S : Fl → Loc → St → Prop} {X : Xp} {f : Fm} {imm fr : Led} {s : Shared} {tk : Nat}

theorem Rel.locs {ρ' : Loc} (R : Rel c f ρ st imm fr s) (h : Sub ρ' ρ) : Rel c f ρ' st imm fr s := by
  obtain ⟨hs, m, mt, cs, fo, r⟩ := R
  exact ⟨hs, m, mt, cs, fo, r.frm, r.news, r.nodup, r.sto, r.fos, ⟨fun y v e => r.loc.reads y v (h y v e), r.loc.cells, r.loc.inj⟩⟩
theorem WPS.locs {ρ' : Loc} {ss : List Stmt} (h : WPS c k sc ρ' st ss S X) (hs : Sub ρ' ρ) : WPS c k sc ρ st ss S X := ⟨fun f imm fr s ok hsc own R => h.go f imm fr s ok hsc own (R.locs hs)⟩
/-- the turns that are left -/
def FOR (c : Cx) (k : Nat) (sc : Scope) (x : Str) (body : List Stmt) (v : V) (vs : List V) (S : Fl → Loc → St → Prop) (X : Xp) : List V → Loc → St → Prop
  | [], ρ, st => S .next ρ st
  | u :: us, ρ, st => WPS c k sc (setL ρ x u) st body (fun fl ρ' st' => lp fl (∃ ρ₂, Sub ρ₂ ρ' ∧ Src st' v vs ∧ FOR c k sc x body v vs S X us ρ₂ st') (fun fl => S fl ρ' st')) X

theorem WPs.for {x : Str} {px pos : Pos} {iter : Expr} {body : List Stmt} (hq : c.q = true) (h : WPE c k sc ρ st iter (fun v st₁ => ∃ vs, Src st₁ v vs ∧ FOR c k sc x body v vs S X vs ρ st₁) X) (hx : storesB sc x = true := by rfl)
    (hs : ∀ env x, foldedSetIterable iter env x = pure x := by intro _ _; rfl) : WPs c k sc ρ st (.For (.Name x px) iter body [] pos) S X := by
  refine ⟨fun f imm fr s ok hsc own R => ?_⟩
  refine wpAny_For (wpAny_mono (h.go f imm fr s ok hsc R) (fun y s₁ p => ?_) fun _ _ t => t) (hs _)
  obtain ⟨v, st₁, imm₁, i₁, rv, R₁, vs, hsrc, hF⟩ := p
  refine wpAny_mono (it_start (E := Thrown c f imm fr X) R₁ rv hsrc) (fun it s₂ p => ?_) fun _ _ t => t
  obtain ⟨I, o, rfl, hi, R₂⟩ := p
  refine codeAny_forLoop (fun n s' => ∃ us i ρ' st' imm' o, n = us.length ∧ vs.drop i = us ∧ (∀ p ∈ imm₁, p ∈ imm') ∧ ItO y v i o ∧ Rel c f ρ' st' imm' ((I, o) :: fr) s' ∧ Src st' v vs ∧ FOR c k sc x body v vs S X us ρ' st') ?_ vs.length
    ⟨vs, 0, ρ, st₁, imm₁, o, rfl, rfl, fun _ h => h, hi, R₂, hsrc, hF⟩
  rintro n s' ⟨us, i, ρ', st', imm', o', rfl, hus, i', hi', R', hsrc', hF'⟩
  cases us with
  | nil =>
    have hle : vs.length ≤ i := by simpa using hus
    refine wpAny_mono (it_end (ok.hnd hq) R' (rv.mono i') hsrc' hi' hle) (fun r s₃ p => ?_) fun _ _ t => t
    obtain ⟨rfl, R₃⟩ := p
    exact wpAny_execs_nil ⟨.next, ρ', st', imm', fun q hq => i' q (i₁ q hq), .next, R₃, hF'⟩
  | cons u us =>
    have hu : vs[i]? = some u := by
      have := congrArg List.head? hus
      rw [List.head?_drop] at this
      simpa using this
    have hdr : vs.drop (i + 1) = us := by
      have := congrArg List.tail hus
      rwa [List.tail_drop] at this
    refine wpAny_mono (it_next R' (rv.mono i') hsrc' hi' hu) (fun r s₃ p => ?_) fun _ _ t => t
    obtain ⟨w, o₂, rfl, rw', hi₂, R₃⟩ := p
    refine wpAny_assign_Name (store ok own R₃ (hsc ▸ hx) rw' fun s₄ R₄ => ?_)
    refine wpAny_mono ((show WPS c k sc (setL ρ' x u) st' body _ X from hF').go f imm' ((I, o₂) :: fr) s₄ ok hsc own R₄) (fun fl s₅ p => ?_) fun _ _ t => outOfLoop ok own.same (t.drop hi₂.fields fun q hq => i' q (i₁ q hq))
    obtain ⟨fl', ρ₅, st₅, imm₅, i₅, rf, R₅, h₅⟩ := p
    have R₆ : Rel c f ρ₅ st₅ imm₅ fr s₅ := by
      have hR := R₅
      obtain ⟨⟨h0, tk0, rfl⟩, _⟩ := hR
      exact R₅.frEnd (h' := h0) (tk := tk0) (fun _ _ _ e => e) hi₂.fields
    cases rf with
    | next => obtain ⟨ρ₂, hsub, h1, h2⟩ := h₅; exact ⟨us.length, by simp, us, i + 1, ρ₂, st₅, imm₅, o₂, rfl, hdr, fun q hq => i₅ q (i' q hq), hi₂, R₅.locs hsub, h1, h2⟩
    | cont => obtain ⟨ρ₂, hsub, h1, h2⟩ := h₅; exact ⟨us.length, by simp, us, i + 1, ρ₂, st₅, imm₅, o₂, rfl, hdr, fun q hq => i₅ q (i' q hq), hi₂, R₅.locs hsub, h1, h2⟩
    | brk => exact ⟨.next, ρ₅, st₅, imm₅, fun q hq => i₅ q (i' q (i₁ q hq)), .next, R₆, h₅⟩
    | ret r => exact ⟨.ret _, ρ₅, st₅, imm₅, fun q hq => i₅ q (i' q (i₁ q hq)), .ret r, R₆, h₅⟩

end
end Mine
namespace Mine
section
variable {c : Cx} {k : Nat} {sc : Scope} {ρ : Loc} {st : St} {Q : V → St → Prop} {S : Fl → Loc → St → Prop} {X : Xp} {f : Fm} {imm fr : Led} {s : Shared} {tk : Nat}

end
end Mine
namespace Mine
section
variable {c : Cx} {k : Nat} {sc : Scope} {ρ : Loc} {st : St} {Q : V → St → Prop} {S : Fl → Loc → St → Prop} {X : Xp} {f : Fm} {imm fr : Led} {s : Shared} {tk : Nat}

end
end Mine
namespace Mine
section
variable {c : Cx} {k : Nat} {sc : Scope} {ρ : Loc} {st : St} {Q : V → St → Prop} {S : Fl → Loc → St → Prop} {X : Xp} {f : Fm} {imm fr : Led} {s : Shared} {tk : Nat}

/-! range -/
theorem PostE.pushImm {v : V} {x : Value} {o : Obj} (R : Rel c f ρ st imm fr s) (hv : RV c.base ((s.heap.objs.size, o) :: imm) v x) (h : Q v st) (ho : o.isFreed = false := by rfl) : PostE c f ρ imm fr Q x { s with heap := s.heap.push o, toks := tk } :=
  ⟨v, st, _, fun _ h => .tail _ h, hv, R.pushImm (tk := tk) ho, h⟩
theorem WL.range2 {a b : Int} (h : Q (.rng a b 1) st) : WL c k (fun xs => call (.type "range") xs) [.int a, .int b] ρ st Q X := by
  refine ⟨fun f imm fr s xs ok R rvs => ?_⟩
  obtain ⟨_, _, rfl, rx0, rx1⟩ := rvs.inv2
  obtain ⟨t, rfl⟩ := rx0.intI
  obtain ⟨u, rfl⟩ := rx1.intI
  exact call_range_2 (.pushImm R (.rng (.head _)) h)
theorem small_up {a n : Nat} (h : a + n < 1000000) : Builtin.Range.small (a : Int) ((a : Int) + n) 1 = true := by
  have e : Builtin.Range.rangeSize (a : Int) ((a : Int) + n) 1 = n := by
    unfold Builtin.Range.rangeSize
    rw [if_pos (by decide), Int.ediv_one]
    split <;> omega
  unfold Builtin.Range.small Builtin.Range.rangeFitsLong
  rw [e]
  simp
  omega
/-! numbers of a list -/
theorem Rel.same {h' : Heap} {m : Str → Option Value} {mt cs fo : Led} (hs : ∃ h tk, s = { c.s₀ with heap := h, toks := tk }) (r : RelAt c f ρ st imm fr s.heap m mt cs fo) (F : Fr c.base f.L h' m) (N : News c.base f.L h' (whole mt cs imm fr fo)) : Rel c f ρ st imm fr { s with heap := h', toks := tk } := by
  obtain ⟨h0, tk0, rfl⟩ := hs
  exact ⟨⟨h', tk, rfl⟩, m, mt, cs, fo, F, N, r.nodup, r.sto, r.fos, r.loc⟩
theorem WL.intBool {b : Bool} (h : Q (.int (if b then 1 else 0)) st) : WL c k (fun xs => call (.type "int") xs) [.bool b] ρ st Q X := by
  refine ⟨fun f imm fr s xs ok R rvs => ?_⟩
  obtain ⟨_, rfl, rx0⟩ := rvs.inv1
  obtain rfl := rx0.boolI
  exact call_int_bool (.int R h)

/-! methods of lists -/
theorem Rel.noneAt {D : Addr} {m : Str → Option Value} {mt cs fo : Led} {h : Heap} (rr : RelAt c f ρ st imm fr h m mt cs fo) (hlt : ∀ p ∈ whole mt cs imm fr fo, p.1 < D) : Mine.get st D = Option.none := by
  cases q : Mine.get st D with
  | none => rfl
  | some y =>
    obtain ⟨co, hm, _⟩ := rr.sto.get q
    exact absurd (hlt (D, co) (List.mem_append_left _ hm)) (Nat.lt_irrefl _)
theorem RelAt.newSt {D : Addr} {o : Obj} {x : O} {m : Str → Option Value} {mt cs fo : Led} {h h' : Heap} (rr : RelAt c f ρ st imm fr h m mt cs fo) (F : Fr c.base f.L h' m) (N : News c.base f.L h' ((D, o) :: whole mt cs imm fr fo)) (hlt : ∀ p ∈ whole mt cs imm fr fo, p.1 < D) (hr : RO c imm x o) :
    RelAt c f ρ ((D, x) :: st) imm fr h' m ((D, o) :: mt) cs fo := by
  refine ⟨F, N, ?_, .cons hr rr.sto, rr.fos, rr.loc⟩
  rw [show whole ((D, o) :: mt) cs imm fr fo = (D, o) :: whole mt cs imm fr fo from rfl, List.map_cons, List.nodup_cons]
  refine ⟨fun hm => ?_, rr.nodup⟩
  obtain ⟨p, hp, e⟩ := List.mem_map.mp hm
  have := hlt p hp
  rw [e] at this
  exact Nat.lt_irrefl _ this
theorem WPE.meth {e : Expr} {name : Str} {ap pos : Pos} {args : List Expr} {id : String} (slot : Slot "list" name id) (hty : typeOf (.builtin id) = pure (.type "method_descriptor"))
    (h : WPE c k sc ρ st e (fun v st₁ => ∃ a vs, v = .ref a ∧ get st₁ a = some (.list vs) ∧ WPEs c k sc ρ st₁ args (fun us st₂ => WL c k (fun xs => PySem.call (.builtin id) xs) (.ref a :: us) ρ st₂ Q X) X) X)
    (hp : args.any isStar = false := by rfl)
    (he : ∀ env, ∃ pl, eval (.Call (.Attribute e name ap) args [] pos) env = (do
      let ov ← eval e env
      standAt ap.atName
      let (f, first) ← holding [ov] (getMethod ov name pl)
      callWith pos f first (backTo pos (starEach args env)) []) := by intro _; exact ⟨_, rfl⟩) : WPE c k sc ρ st (.Call (.Attribute e name ap) args [] pos) Q X := by
  refine ⟨fun f imm fr s ok hsc R => ?_⟩
  obtain ⟨pl, he⟩ := he f.env
  refine MethodCall_ (pl := pl) (wpAny_mono (h.go f imm fr s ok hsc R) (fun x s₁ p => ?_) fun _ _ t => t) he
  obtain ⟨v, st₁, imm₁, i₁, rv, R₁, a, vs, rfl, hg, h₁⟩ := p
  cases rv with
  | ref =>
    obtain ⟨vals, n, r, ho⟩ := R₁.isList hg
    refine getMethod_list_of slot hty ⟨_, ho, rfl, _, rfl⟩ ⟨_, ho, rfl⟩ ?_
    refine wpAny_mono (callWithW (f := f) (val := .builtin id) (first := [.ref a]) (vs₀ := [.ref a]) rfl hp ok hsc R₁ (.one (.ref a)) (.inr fun T e => by cases e) (by simpa using h₁)) (fun _ _ p => p.mono i₁) fun _ _ t => t.mono i₁

theorem FOR.inv {x : Str} {body : List Stmt} {v : V} {vs : List V} (J : Nat → Loc → St → Prop) (h0 : J 0 ρ st)
    (step : ∀ i u ρ₁ st₁, vs[i]? = some u → J i ρ₁ st₁ → WPS c k sc (setL ρ₁ x u) st₁ body (fun fl ρ' st' => lp fl (∃ ρ₂, Sub ρ₂ ρ' ∧ Src st' v vs ∧ J (i + 1) ρ₂ st') (fun fl => S fl ρ' st')) X)
    (fin : ∀ ρ₁ st₁, J vs.length ρ₁ st₁ → S .next ρ₁ st₁) : FOR c k sc x body v vs S X vs ρ st := by
  have go : ∀ us i ρ st, vs.drop i = us → i ≤ vs.length → J i ρ st → FOR c k sc x body v vs S X us ρ st := by
    intro us
    induction us with
    | nil =>
      intro i ρ st hd hi hJ
      have : i = vs.length := by have : vs.length ≤ i := by simpa using hd
                                 omega
      subst this
      exact fin ρ st hJ
    | cons u us ih =>
      intro i ρ st hd hi hJ
      have hu : vs[i]? = some u := by
        have := congrArg List.head? hd
        rw [List.head?_drop] at this
        simpa using this
      have hdr : vs.drop (i + 1) = us := by
        have := congrArg List.tail hd
        rwa [List.tail_drop] at this
      have hil : i < vs.length := by
        rcases Nat.lt_or_ge i vs.length with q | q
        · exact q
        · rw [List.getElem?_eq_none q] at hu; cases hu
      have H := step i u ρ st hu hJ
      refine ⟨fun f imm fr s ok hsc own R => wpAny_mono (H.go f imm fr s ok hsc own R) (fun fl s' p => ?_) fun _ _ t => t⟩
      obtain ⟨fl', ρ', st', imm', i', rf, R', h'⟩ := p
      refine ⟨fl', ρ', st', imm', i', rf, R', ?_⟩
      cases fl' with
      | next => obtain ⟨ρ₂, a, b, d⟩ := h'; exact ⟨ρ₂, a, b, ih (i + 1) ρ₂ st' hdr hil d⟩
      | cont => obtain ⟨ρ₂, a, b, d⟩ := h'; exact ⟨ρ₂, a, b, ih (i + 1) ρ₂ st' hdr hil d⟩
      | brk => exact h'
      | ret => exact h'
  exact go vs 0 ρ st rfl (Nat.zero_le _) h0
/-! ranges that rise by one -/
theorem rng_up {A B : Int} {a n : Nat} (hA : A = a) (hB : B = a + n) : rngItems A B 1 = (List.range' a n).map (fun (i : Nat) => V.int i) := by
  subst hA hB
  unfold rngItems
  have e : (Builtin.Range.rangeSize (a : Int) (a + n) 1).toNat = n := by
    unfold Builtin.Range.rangeSize
    rw [if_pos (by decide), Int.ediv_one]
    split <;> omega
  rw [e, List.range'_eq_map_range, List.map_map]
  refine List.map_congr_left fun i _ => ?_
  simp
theorem Sub.nil : Sub [] ρ := fun _ _ h => by cases h
theorem Sub.cons {x : Str} {v : V} {ρ₂ : Loc} (h : getL ρ x = some v) (t : Sub ρ₂ ρ) : Sub ((x, v) :: ρ₂) ρ := fun y w e => by
  rw [getL_cons] at e
  by_cases q : x = y
  · subst q; rw [if_pos rfl] at e; cases e; exact h
  · rw [if_neg q] at e; exact t y w e
def upTo (a n : Nat) : List V := (List.range' a n).map fun (i : Nat) => V.int i
theorem Src.up {A B : Int} (a n : Nat) (hA : A = a) (hB : B = a + n) (hb : a + n < 1000000) : Src st (.rng A B 1) (upTo a n) := by
  unfold upTo
  rw [← rng_up hA hB]
  exact .rng (by subst hA hB; exact small_up hb)
theorem upTo_len {a n : Nat} : (upTo a n).length = n := by simp [upTo]
theorem upTo_get {a n i : Nat} {u : V} (h : (upTo a n)[i]? = some u) : i < n ∧ u = .int ((a + i : Nat) : Int) := by
  unfold upTo at h
  rw [List.getElem?_map] at h
  obtain ⟨j, hj, rfl⟩ := Option.map_eq_some_iff.mp h
  have hi : i < n := by
    rcases Nat.lt_or_ge i n with q | q
    · exact q
    · rw [List.getElem?_eq_none (by simpa using q)] at hj; cases hj
  rw [List.getElem?_range' hi] at hj
  simp at hj
  subst hj
  exact ⟨hi, rfl⟩
theorem Le.cons {st' : St} {a : Addr} {o : O} (h : Le st st') (hn : get st' a = none) : Le st ((a, o) :: st') := h.trans (Le.alloc hn)
end
end Mine
namespace Mine
section
variable {c : Cx} {k : Nat} {sc : Scope} {ρ : Loc} {st : St} {Q : V → St → Prop} {S : Fl → Loc → St → Prop} {X : Xp} {f : Fm} {imm fr : Led} {s : Shared} {tk : Nat}

end
end Mine
namespace Mine
section
variable {c : Cx} {k : Nat} {sc : Scope} {ρ : Loc} {st : St} {Q : V → St → Prop} {S : Fl → Loc → St → Prop} {X : Xp} {f : Fm} {imm fr : Led} {s : Shared} {tk : Nat}

/-- one more of the frame's own -/
theorem Rel.madeFr {e : Addr} {o : Obj} {h' : Heap} (R : Rel c f ρ st imm fr s) (hk : ∀ b o, s.heap.get? b = some o → h'.get? b = some o) (hn : s.heap.get? e = Option.none) (he : h'.get? e = some o) : Rel c f ρ st imm ((e, o) :: fr) { s with heap := h', toks := tk } := by
  obtain ⟨⟨h0, tk0, rfl⟩, m, mt, cs, fo, r⟩ := R
  dsimp only at hk hn r
  have r' := r.keeps (h' := h') hk
  have e1 : whole mt cs imm ((e, o) :: fr) fo = (mt ++ cs ++ imm) ++ (e, o) :: (fr ++ fo) := by simp
  have e2 : whole mt cs imm fr fo = (mt ++ cs ++ imm) ++ (fr ++ fo) := by simp
  refine ⟨⟨h', tk, rfl⟩, m, mt, cs, fo, r'.frm, ?_, ?_, r.sto, r.fos, r.loc.more⟩
  · rw [e1]
    intro p hp
    have hp' : p = (e, o) ∨ p ∈ whole mt cs imm fr fo := by
      rw [e2]
      rcases List.mem_append.mp hp with hp | hp
      · exact .inr (List.mem_append_left _ hp)
      · rcases List.mem_cons.mp hp with hp | hp
        · exact .inl hp
        · exact .inr (List.mem_append_right _ hp)
    rcases hp' with rfl | hp'
    · refine ⟨he, fun q => ?_, ?_⟩
      · obtain ⟨oL, _, _, hL, _⟩ := r.frm.ns
        rw [show e = f.L from q, hL] at hn; cases hn
      · cases hq : c.base.get? e with
        | none => rfl
        | some o' => have := r.frm.keep _ _ hq; rw [hn] at this; cases this
    · exact r'.news p hp'
  · rw [e1]
    refine nodup_ins (by rw [← e2]; exact r.nodup) fun q hq z => ?_
    have := (r.news q (by rw [e2]; exact hq)).1
    rw [show q.1 = e from z, hn] at this; cases this

abbrev vbm : List Value := [.type "ValueError", .type "Exception", .type "BaseException", .type "object"]

theorem WPs.raise {x : Str} {np cpos pos : Pos} {e₀ : Expr} {args : List Expr} {C : Addr} (hq : c.q = true) (hx : sc.names.lookup x = some .globalImplicit) (e : nsIn c.K mainGlobals x = some (some (.ref C))) (hC : excIn c.K C vbm "ValueError.__new__" = true)
    (h : WPEs c k sc ρ st (e₀ :: args) (fun _ st₁ => X C ρ st₁) X) (hp : (e₀ :: args).any isStar = false := by rfl) (hlen : (e₀ :: args).length ≤ sizeLine := by decide) (hd : (x == ("__debug__" : Str)) = false := by decide) : WPs c k sc ρ st (.Raise (some (.Call (.Name x np) (e₀ :: args) [] cpos)) none pos) S X := by
  refine ⟨fun f imm fr s ok hsc own R => ?_⟩
  have T := topRead_of ok.top
  have O := own_of_in ok.kin T e hC
  obtain ⟨tl, N, nm, q, bs, hdct, sn, sub, ab, col, dd, k0, k1, k2, k3, k5, mN, hCo, hN, hni, TL⟩ := O.obj
  have FB := PySem.F.excBase_ValueError
  refine wpAny_Raise_call_subU (C := C) (nm := nm) (q := q) (N := N) (bs := bs) (bm := tl) (hdct := hdct) (sn := sn) (sub := sub) (ab := ab) (col := col) (dd := dd) (k0 := k0) (k1 := k1) (k2 := k2) (k3 := k3) (k5 := k5) (newId := "ValueError.__new__") (bmB := vbm)
    FB (by decide) FB (mN := mN) (TL.hasType FB.hasBase) (ok.hnd hq) (star_plain hp) hni ?_
  refine wpAny_mono ((WPE.globR (Q := fun v st₁ => v = .stat (.ref C) ∧ st₁ = st) (X := X) hx e ⟨rfl, rfl⟩ hd).go f imm fr s ok hsc R) (fun y s₁ p => ?_) fun _ _ t => t
  obtain ⟨v, st₁, imm₁, i₁, rv, R₁, rfl, rfl⟩ := p
  cases rv
  refine ⟨rfl, ?_⟩
  have H := h.go f imm₁ fr s₁ cpos ok hsc R₁
  simp only [List.any_cons, Bool.or_eq_false_iff] at hp
  rw [star_cons hp.1] at H ⊢
  refine Calls.evalArgs_plain (wpAny_mono H (fun xs s₂ p => ?_) fun _ _ t => t.mono i₁)
  obtain ⟨vs, st₂, imm₂, i₂, rvs, R₂, hn, hX⟩ := p
  have hk : ∀ b o, c.base.get? b = some o → s₂.heap.get? b = some o := fun b o q => R₂.keep b o q
  refine ⟨rfl, by rw [rvs.length, hn]; exact hlen, hk _ _ hCo, hN.keeps hk, TL.keeps hk, fun h' e' hm => ?_⟩
  obtain ⟨t, ht, _, _⟩ := hm.there
  exact ⟨e', C, none, [(e', _)], ρ, st₂, imm₂, rfl, .made rfl rfl rfl rfl, .inl rfl, fun q hq => i₂ q (i₁ q hq), R₂.madeFr (tk := s₂.toks) hm.keeps hm.new ht, hX⟩

/-! under a handler -/
abbrev Cx.off (c : Cx) : Cx := { c with q := false }
abbrev Fm.under (f : Fm) (v : Option Value) : Fm := { f with A := f.A.mark v }
theorem RO.off {o : O} {co : Obj} (h : RO c imm o co) : RO c.off imm o co := by
  cases h with
  | list r => exact .list r
  | dictI r d => exact .dictI r d
  | dictS r d => exact .dictS r d
  | inst C d => exact .inst C d
  | exc a b => exact .exc a b
  | attr a => exact .attr a
  | any a => exact .any a
theorem RO.on {o : O} {co : Obj} (h : RO c.off imm o co) : RO c imm o co := by
  cases h with
  | list r => exact .list r
  | dictI r d => exact .dictI r d
  | dictS r d => exact .dictS r d
  | inst C d => exact .inst C d
  | exc a b => exact .exc a b
  | attr a => exact .attr a
  | any a => exact .any a
theorem StR.off {mt : Led} (h : StR c imm st mt) : StR c.off imm st mt := by
  induction h with
  | nil => exact .nil
  | cons a _ ih => exact .cons a.off ih
theorem StR.on {mt : Led} (h : StR c.off imm st mt) : StR c imm st mt := by
  induction h with
  | nil => exact .nil
  | cons a _ ih => exact .cons a.on ih
theorem Rel.off {v : Option Value} (R : Rel c f ρ st imm fr s) : Rel c.off (f.under v) ρ st imm fr s := by
  obtain ⟨hs, m, mt, cs, fo, r⟩ := R
  exact ⟨hs, m, mt, cs, fo, r.frm, r.news, r.nodup, r.sto.off, r.fos, ⟨r.loc.reads, r.loc.cells, r.loc.inj⟩⟩
theorem Rel.on {v : Option Value} (R : Rel c.off (f.under v) ρ st imm fr s) : Rel c f ρ st imm fr s := by
  obtain ⟨hs, m, mt, cs, fo, r⟩ := R
  exact ⟨hs, m, mt, cs, fo, r.frm, r.news, r.nodup, r.sto.on, r.fos, ⟨r.loc.reads, r.loc.cells, r.loc.inj⟩⟩
theorem Fm.Ok.off {v : Option Value} (ok : f.Ok c k) : (f.under v).Ok c.off k :=
  ⟨ok.kin, ok.top, ok.envs, ok.frames, ok.eframe, ok.ekind, ok.eglob, ok.ebi, ok.ecell, fun q => (by cases q), ok.depth, ok.units⟩

theorem WPs.tryE {body suite : List Stmt} {b₀ : Stmt} {T n : Str} {tp hpos pos : Pos} {Mx : Addr} (hT : sc.names.lookup T = some .globalImplicit) (eT : nsIn c.K mainGlobals T = some (some (.ref Mx))) (hn : sc.names.lookup n = some .local)
    (h : WPS c k sc ρ st body S (fun C ρ' st' => exmOne c.K (.ref C) (.ref Mx) = some true ∧ ∀ e, get st' e = none → WPS c.off k sc (setL ρ' n (.ref e)) ((e, .exc C) :: st') (b₀ :: suite) (fun fl _ st₂ => S fl [] st₂) never))
    (hd : (T == ("__debug__" : Str)) = false := by decide) :
    WPs c k sc ρ st (.Try body [.ExceptHandler (some (.Name T tp)) (some n) (b₀ :: suite) hpos] [] [] pos) S X := by
  refine ⟨fun f imm fr s ok hsc own R => ?_⟩
  refine wpAny_Try_except (wpAny_mono (h.go f imm fr s ok hsc own R) (fun fl s₁ p => ?_) fun ev s₁ t => ?_)
  · obtain ⟨fl', ρ₁, st₁, imm₁, i₁, rf, R₁, h₁⟩ := p
    cases rf with
    | next => exact wpAny_execs_nil ⟨.next, ρ₁, st₁, imm₁, i₁, .next, R₁, h₁⟩
    | brk => exact ⟨.brk, ρ₁, st₁, imm₁, i₁, .brk, R₁, h₁⟩
    | cont => exact ⟨.cont, ρ₁, st₁, imm₁, i₁, .cont, R₁, h₁⟩
    | ret r => exact ⟨_, ρ₁, st₁, imm₁, i₁, .ret r, R₁, h₁⟩
  · obtain ⟨e, C, mk, E, ρ', st', imm', rfl, x, hm, i', R', hmx, hW⟩ := t
    obtain ⟨L, hL⟩ := ok.frm
    have ok' := ok.off (v := some (.ref e))
    have hkind : f.env.kindOf n = some .local := by show f.env.scope.names.lookup n = _; rw [hsc]; exact hn
    rw [show noteFrame (.ref e) f.env = noteFrame (.ref e) f.fenv by rw [own.same]]
    refine noted ok hL x hm R' fun E₂ s₂ x₂ R₂ => ?_
    refine flight none x₂ R₂ fun E₃ s₃ x₃ R₃ => ?_
    refine wpAny_handleBy_cons (codeAny_handlers_test ?_) (by intro q; cases q)
    have R₃' := R₃.off (v := some (.ref e))
    refine wpAny_mono ((WPE.globR (c := c.off) (Q := fun v st₁ => v = .stat (.ref Mx) ∧ st₁ = st') (X := never) hT eT ⟨rfl, rfl⟩ hd).go (f.under (some (.ref e))) imm' (E₃ ++ fr) s₃ ok' hsc R₃') (fun y s₄ p => ?_) fun _ _ t => t.never.elim
    obtain ⟨v, st₄, imm₄, i₄, rv, R₄, rfl, rfl⟩ := p
    cases rv
    have he : ∃ oe, s₄.heap.get? e = some oe ∧ oe.cls = .ref C := by
      cases x₃ with
      | @traced oe oT vs ts a0 fl T' h1 h2 h3 h4 h5 h6 => exact ⟨oe, R₄.inFr (a := e) (o := oe) (by simp), h1⟩
    obtain ⟨oe, he, hec⟩ := he
    refine exm_one (M := c.M) (R₄.kin ok') (show Looks c.M s₄.heap (typeOf (.ref e)) (.ref C) from hec ▸ (Looks.ld he).andThen .now) hmx _ _ _ _ (fun _ _ q => q) ?_
    refine codeAny_handlers_suite_as ?_
    refine flight (c := c.off) (f := f.under (some (.ref e))) none x₃ R₄ fun E₅ s₅ x₅ R₅ => ?_
    cases x₅ with
    | @traced oe oT vs ts a0 fl T' h1 h2 h3 h4 h5 h6 =>
    have R₆ : Rel c.off (f.under (some (.ref e))) ρ' st₄ imm₄ ((e, oe) :: fr) s₅ := by
      have hR := R₅
      obtain ⟨⟨h0, tk0, rfl⟩, _⟩ := hR
      have zz := Rel.frEndAt [(e, oe)] R₅ (h' := h0) (tk := tk0) (fun _ _ _ e => e) (by rw [h5]; intro w q; cases q)
      exact zz
    obtain ⟨R₇, hnone⟩ := R₆.frSt (x := .exc C) (by rw [h2]; intro w q; cases q) (.exc h1 ⟨_, h2⟩)
    refine store_local (c := c.off) (f := f.under (some (.ref e))) (v := .ref e) ok' own.locals R₇ hkind (.ref e) fun s₈ R₈ => ?_
    refine wpAny_mono ((hW e hnone).go (f.under (some (.ref e))) imm₄ fr s₈ ok' hsc ⟨own.same, own.locals, own.cmp⟩ R₈) (fun fl s₉ p => ?_) fun _ _ t => t.never.elim
    obtain ⟨fl', ρ₉, st₉, imm₉, i₉, rf, R₉, h₉⟩ := p
    have R₁₀ := R₉.on
    obtain ⟨⟨h0, tk0, rfl⟩, m, mt, cs, fo, r⟩ := R₁₀
    refine wpAny_nameGoes hkind (own.locals ▸ r.frm.ns) (by rw [ok.ekind]; rfl) fun h' m' hn' hs' => ?_
    rw [own.locals] at hn' hs'
    exact ⟨fl', [], st₉, imm₉, fun q hq => i₉ q (i₄ q (i' q hq)), rf, ⟨⟨h', _, rfl⟩, m', mt, cs, fo, r.frm.set hn' hs', r.news.set hs', r.nodup, r.sto, r.fos, ⟨fun x v q => (by cases q), r.loc.cells, r.loc.inj⟩⟩, h₉⟩
end

/-! the class of an exception -/
structure ExcK (K : Frag) (C : Addr) : Prop where
  ga : findIn K (.ref C) "__getattribute__" = some (some (.builtin "BaseException.__getattribute__"))
  gh : findIn K (.ref C) "__getattr__" = some none
  cl : findIn K (.ref C) "__class__" = some (some (.builtin "object.__class__"))
  gt : specialIn K (.builtin "object.__class__") "__get__" = some (some (.builtin "getset_descriptor.__get__"))
  tk : takesIn K (.builtin "object.__class__") = some true
  ob : mroIn K C (.type "object") = some true
  be : mroIn K C (.type "BaseException") = some true
  is : (clsIn K C).isSome = true

section
variable {prog : Program} {w : World} {A : Around} {E : Value → Shared → Prop} {K : Frag} {e C : Addr} {h : Heap} {g : Array GenState} {d : Drawn} {t : Nat} {os : OsState}
open Builtin Builtin.ObjectAttr Builtin.Getset_descriptor
theorem exc_get {R : Result → Shared → Prop} {tp : Value} (F : ExcK K C) (X : K.In h) (L0 : Looks (model prog w) h (typeOf (.ref e)) (.ref C))
    (hq : R (.ok (.ret (.ref C))) ⟨h, g, d, t, os⟩) : codeAny (model prog w) A (.call (.builtin "getset_descriptor.__get__") ⟨[.builtin "object.__class__", .ref e, tp], []⟩) R ⟨h, g, d, t, os⟩ := by
  have L1 := looks_mroIn (M := model prog w) X F.ob
  refine codeAny_call_builtin KF.slot_gs.plain KF.entry_gs (KF.slot_gs.check _ _ _ _ _ _ _ _ KF.type_class (KF.args_gs _ _ _) ?_)
  unfold Builtin.«getset_descriptor.__get__» descrGet
  rw [dga_obj]
  refine wpAny_bind (wpAny_pure ?_)
  unfold descrGetter descrCheckInstance descrNameAndClass isInstance
  simp only [KF.owner_class]
  repeat lk
  refine ⟨Code.quiet_builtin _ (by decide +kernel), codeAny_builtin KF.entry_class ?_⟩
  unfold Builtin.«object.__class__» shownTypeOf
  repeat lk
  exact hq
theorem exc_find {M : Model} (F : ExcK K C) (X : K.In h) : Looks M h (find (.ref e) (.ref C) "__class__") (.bind (.builtin "getset_descriptor.__get__") (.builtin "object.__class__")) := by
  have L1 := looks_findIn (M := M) X F.cl
  have L2 : Looks M h (getOf (some (.builtin "object.__class__"))) (some (.builtin "getset_descriptor.__get__")) := looks_specialIn X F.gt
  have L3 := looks_takesIn (M := M) X F.tk
  refine L1.andThen (L2.andThen ?_)
  exact (show Looks M h (dataDescriptor? (some (.builtin "object.__class__")) (some (.builtin "getset_descriptor.__get__"))) (some (.builtin "getset_descriptor.__get__", .builtin "object.__class__")) from L3.andThen .now).andThen (Looks.tag .now)
theorem exc_check {M : Model} {nameV : Value} {Q : Unit → Shared → Prop} (F : ExcK K C) (X : K.In h) (L0 : Looks M h (typeOf (.ref e)) (.ref C)) (hq : Q () ⟨h, g, d, t, os⟩) :
    wpAny M A (checkBuiltinCall "BaseException.__getattribute__" ⟨[.ref e, nameV], []⟩) Q E ⟨h, g, d, t, os⟩ := by
  have hk : builtinKind "BaseException.__getattribute__" = some .slot := by decide +kernel
  have hsplit : splitId "BaseException.__getattribute__" = some ("BaseException", "__getattribute__") := by decide +kernel
  have ha := PySem.F.args_bexc_ga (.ref e) nameV
  have L1 := looks_mroIn (M := M) X F.be
  simp only [checkBuiltinCall, hk, hsplit]
  refine wpAny_bind ?_
  unfold isInstance
  repeat (first | with_reducible refine Looks.at (by assumption) ?_ | wp_step)
  exact hq
theorem exc_class {Q : Option Value → Shared → Prop} (F : ExcK K C) (X : K.In h) (L0 : Looks (model prog w) h (typeOf (.ref e)) (.ref C)) (hq : Q (some (.ref C)) ⟨h, g, d, t + 1, os⟩) :
    wpAny (model prog w) A (getAttr? (.ref e) "__class__") Q E ⟨h, g, d, t, os⟩ := by
  have L1 := looks_findIn (M := model prog w) X F.ga
  have L2 := looks_findIn (M := model prog w) X F.gh
  have L3 := exc_find (e := e) (M := model prog w) F X
  have FB := PySem.F.attr_ValueError
  unfold getAttr? getAttrBy? getAttrBy
  refine wpAny_bind (wpAny_mkText (wpAny_bind (wpAny_attempt (wpAny_holding (wpAny_bind (L0.at (wpAny_bind (L1.at ?_))))))))
  show wpAny _ _ (getAttrByItsOwn _ _ _ _ _ _) _ _ _
  unfold getAttrByItsOwn
  refine wpAny_bind ?_
  show wpAny _ _ (typeLookup (.ref C) "__getattr__") _ _ _
  refine L2.at ?_
  refine wpAny_bind (wpAny_attempt (wpAny_holding ?_))
  show wpAny _ _ (boundAndCalled (.builtin "BaseException.__getattribute__") (.ref e) _) _ _ _
  unfold boundAndCalled
  refine wpAny_bind (wpAny_of_eq (FB.ga.bind (.ref e)) ?_)
  refine wpAny_call (codeAny_call_builtin FB.ga.plain PySem.F.entry_bexc_ga (exc_check F X L0 ?_))
  unfold Builtin.«object.__getattribute__»
  refine wpAny_bind (wpAny_pure ?_)
  refine wpAny_bind (wpAny_pure ?_)
  refine wpAny_bind (L0.at (wpAny_bind (L3.at ?_)))
  refine wpAny_bind (wpAny_holding (wpAny_call (exc_get F X L0 ?_)))
  refine wpAny_pure ?_
  exact wpAny_pure (wpAny_pure hq)
theorem exc_kit (F : ExcK K C) : KitX K (.ref e) (.ref C) (fun h => ∃ oe, h.get? e = some oe ∧ oe.cls = .ref C) where
  ty := fun M h _ ⟨oe, h1, h2⟩ => h2 ▸ (Looks.ld h1).andThen .now
  it := fun M h X _ => by
    obtain ⟨cd, hc⟩ := Option.isSome_iff_exists.mp F.is
    unfold clsIn at hc
    split at hc
    · rename_i c' d' cd' sl' ho
      intro A' Q' E' s' k q
      unfold isType loadHead
      exact wpAny_bind (wpAny_loadPart (k _ _ (X _ _ ho)) (wpAny_pure q))
    · cases hc
  ne := fun h tp dd its n sl X htp => by
    obtain ⟨cd, hc⟩ := Option.isSome_iff_exists.mp F.is
    refine Bool.eq_false_iff.mpr fun q => ?_
    have e : C = tp := Value.ref.inj (beq_iff_eq.mp q)
    subst e
    unfold clsIn at hc
    split at hc
    · rename_i c' d' cd' sl' ho
      have z := (X _ _ ho).symm.trans htp
      cases z
    · cases hc
  ca := fun {prog w A E Q s} X ⟨oe, h1, h2⟩ k => by
    obtain ⟨h, g, d, t, os⟩ := s
    exact exc_class F X (h2 ▸ (Looks.ld h1).andThen .now) k
end

section
variable {c : Cx} {k : Nat} {sc : Scope} {ρ : Loc} {st : St} {Q : V → St → Prop} {S : Fl → Loc → St → Prop} {X : Xp}
theorem WL.isExc {e C : Addr} {v : Value} {b : Bool} (hg : get st e = some (.exc C)) (F : ExcK c.K C) (hb : kitOne c.K (.ref C) v = some b) (h : Q (.bool b) st) : WL c k (fun xs => call (.builtin "isinstance") xs) [.ref e, .stat v] ρ st Q X := by
  refine ⟨fun f imm fr s xs ok R rvs => ?_⟩
  obtain ⟨_, _, rfl, rx0, rx1⟩ := rvs.inv2
  obtain rfl := rx0.refI
  obtain rfl := rx1.statI
  obtain ⟨co, hr, ho⟩ := R.get hg
  cases hr with
  | exc h1 h2 => exact kia_one (exc_kit F) (R.kin ok) ⟨co, ho, h1⟩ hb (by intro q; cases q) fun tk => .of (.bool b) R.toks h

/-! count, index -/
theorem RVs.boolsV {base : Heap} {imm : Led} : ∀ {bs : List Bool} {xs : List Value}, RVs base imm (bs.map V.bool) xs → xs = bs.map Value.bool := by
  intro ns
  induction ns with
  | nil => intro xs h; cases h; rfl
  | cons y ys ih => intro xs h; cases h with | cons a r => obtain rfl := a.boolI; rw [ih r]; rfl
theorem eq_bools (A : Around) (s : Shared) (k : Bool) {bs : List Bool} : ∀ y, y ∈ (bs.map Value.bool).toArray → SeqAt.EqAt A s y (.bool k) (isBoolOf k y) := by
  intro y hy
  have : y ∈ bs.map Value.bool := by simpa using hy
  obtain ⟨b, _, rfl⟩ := List.mem_map.mp this
  exact SeqAt.EqAt.bool_bool b k
theorem WL.countB {a : Addr} {bs : List Bool} {b : Bool} {vs : List V} (hv : vs = bs.map V.bool) (hg : get st a = some (.list vs)) (h : Q (.int (bs.count b : Nat)) st) : WL c k (fun xs => call (.builtin "list.count") xs) [.ref a, .bool b] ρ st Q X := by
  subst hv
  refine ⟨fun f imm fr s xs ok R rvs => ?_⟩
  obtain ⟨_, _, rfl, rx0, rx1⟩ := rvs.inv2
  obtain rfl := rx0.refI
  obtain rfl := rx1.boolI
  obtain ⟨vals, n, r, ho⟩ := R.isList hg
  have hvals := RVs.boolsV r
  subst hvals
  refine call_meets PySem.F.slot_list_count ⟨_, ho, rfl⟩ PySem.F.entry_list_count (PySem.F.args_list_count_2 _ _) (SeqAt.list_countAt a _ n none #[] (.bool b) (isBoolOf b)) ⟨ho, eq_bools _ _ b, ?_⟩
  have e : ((bs.map Value.bool).toArray.toList.countP (isBoolOf b) : Nat) = bs.count b := by
    simp only [List.countP_map, List.count]
    congr 1
  rw [e]
  exact .int R h
theorem WL.indexB {a : Addr} {bs : List Bool} {b : Bool} {j : Nat} {vs : List V} (hv : vs = bs.map V.bool) (hg : get st a = some (.list vs)) (hj : bs.findIdx? (· == b) = some j) (hs : bs.length < 1000) (h : Q (.int (j : Nat)) st) : WL c k (fun xs => call (.builtin "list.index") xs) [.ref a, .bool b] ρ st Q X := by
  subst hv
  refine ⟨fun f imm fr s xs ok R rvs => ?_⟩
  obtain ⟨_, _, rfl, rx0, rx1⟩ := rvs.inv2
  obtain rfl := rx0.refI
  obtain rfl := rx1.boolI
  obtain ⟨vals, n, r, ho⟩ := R.isList hg
  have hvals := RVs.boolsV r
  subst hvals
  obtain ⟨hlt, hit, hno⟩ := List.findIdx?_eq_some_iff_getElem.mp hj
  refine call_meets PySem.F.slot_list_index ⟨_, ho, rfl⟩ PySem.F.entry_list_index (PySem.F.args_list_index_2 _ _) (SeqAt.list_indexAt a _ n none #[] (.bool b) (isBoolOf b) j (by simpa using hlt) (by omega) (by simpa [isBoolOf] using hit) ?_) ⟨ho, eq_bools _ _ b, ?_⟩
  · intro m hm hmj
    have := hno m hmj
    simpa [isBoolOf] using this
  · exact .int R h
end
end Mine
namespace Mine
section
variable {c : Cx} {k : Nat} {sc : Scope} {ρ : Loc} {st : St} {Q : V → St → Prop} {S : Fl → Loc → St → Prop} {X : Xp} {f : Fm} {imm fr : Led} {s : Shared} {tk : Nat}

/-! copies -/
/-! slices -/
def WPO (c : Cx) (k : Nat) (sc : Scope) (ρ : Loc) (st : St) (oe : Option Expr) (P : Option Int → St → Prop) (X : Xp) : Prop := match oe with
  | none => P none st
  | some e => WPE c k sc ρ st e (fun v st₁ => ∃ i, v = .int i ∧ P (some i) st₁) X
theorem WPO.no {P : Option Int → St → Prop} (h : P none st) : WPO c k sc ρ st none P X := h
theorem WPO.so {e : Expr} {P : Option Int → St → Prop} (h : WPE c k sc ρ st e (fun v st₁ => ∃ i, v = .int i ∧ P (some i) st₁) X) : WPO c k sc ρ st (some e) P X := h
theorem wpo {oe : Option Expr} {P : Option Int → St → Prop} (h : WPO c k sc ρ st oe P X) (ok : f.Ok c k) (hsc : f.env.scope = sc) (R : Rel c f ρ st imm fr s) :
    wpAny c.M f.A (evalPart oe f.env) (fun v s' => ∃ i st' imm', (∀ p ∈ imm, p ∈ imm') ∧ IsPart v i ∧ Rel c f ρ st' imm' fr s' ∧ P i st') (Thrown c f imm fr X) s := by
  cases oe with
  | none => exact wpAny_evalPart_none ⟨none, st, imm, fun _ h => h, .none, R, h⟩
  | some e =>
    refine wpAny_evalPart_some (wpAny_mono ((show WPE c k sc ρ st e _ X from h).go f imm fr s ok hsc R) (fun x s₁ p => ?_) fun _ _ t => t)
    obtain ⟨v, st₁, imm₁, i₁, rv, R₁, i, rfl, h₁⟩ := p
    cases rv
    exact ⟨some i, st₁, imm₁, i₁, .int _ _, R₁, h₁⟩
theorem WPE.mCount {e : Expr} {ap pos : Pos} {args : List Expr}
    (h : WPE c k sc ρ st e (fun v st₁ => ∃ a vs, v = .ref a ∧ get st₁ a = some (.list vs) ∧ WPEs c k sc ρ st₁ args (fun us st₂ => WL c k (fun xs => PySem.call (.builtin "list.count") xs) (.ref a :: us) ρ st₂ Q X) X) X)
    (hp : args.any isStar = false := by rfl)
    (he : ∀ env, ∃ pl, eval (.Call (.Attribute e "count" ap) args [] pos) env = (do
      let ov ← eval e env
      standAt ap.atName
      let (f, first) ← holding [ov] (getMethod ov "count" pl)
      callWith pos f first (backTo pos (starEach args env)) []) := by intro _; exact ⟨_, rfl⟩) : WPE c k sc ρ st (.Call (.Attribute e "count" ap) args [] pos) Q X := WPE.meth PySem.F.slot_list_count PySem.F.type_list_count h hp he
theorem WPE.mIndex {e : Expr} {ap pos : Pos} {args : List Expr}
    (h : WPE c k sc ρ st e (fun v st₁ => ∃ a vs, v = .ref a ∧ get st₁ a = some (.list vs) ∧ WPEs c k sc ρ st₁ args (fun us st₂ => WL c k (fun xs => PySem.call (.builtin "list.index") xs) (.ref a :: us) ρ st₂ Q X) X) X)
    (hp : args.any isStar = false := by rfl)
    (he : ∀ env, ∃ pl, eval (.Call (.Attribute e "index" ap) args [] pos) env = (do
      let ov ← eval e env
      standAt ap.atName
      let (f, first) ← holding [ov] (getMethod ov "index" pl)
      callWith pos f first (backTo pos (starEach args env)) []) := by intro _; exact ⟨_, rfl⟩) : WPE c k sc ρ st (.Call (.Attribute e "index" ap) args [] pos) Q X := WPE.meth PySem.F.slot_list_index PySem.F.type_list_index h hp he
/-! things that are equal to themselves -/
def flatV : V → Bool
  | .none => true
  | .bool _ => true
  | .int _ => true
  | .str _ => true
  | .ref _ => true
  | _ => false
def selfV : V → Bool
  | .tup us => us.all flatV
  | v => flatV v
theorem flat_eq {base : Heap} {A : Around} {v : V} {x y : Value} (h : flatV v = true) (rx : RV base imm v x) (ry : RV base imm v y) : SeqAt.EqAt A s x y true := by
  cases v with
  | none => obtain rfl := rx.noneI; obtain rfl := ry.noneI; exact SeqAt.EqAt.same _
  | bool b => obtain rfl := rx.boolI; obtain rfl := ry.boolI; exact SeqAt.EqAt.same _
  | int i => obtain ⟨t, rfl⟩ := rx.intI; obtain ⟨u, rfl⟩ := ry.intI; have := SeqAt.EqAt.int_int (A := A) (s := s) i t i u; rwa [beq_self_eq_true] at this
  | str i => obtain ⟨t, rfl⟩ := rx.strI; obtain ⟨u, rfl⟩ := ry.strI; have := SeqAt.EqAt.str_str (A := A) (s := s) i t i u; rwa [beq_self_eq_true] at this
  | ref a => obtain rfl := rx.refI; obtain rfl := ry.refI; exact SeqAt.EqAt.same _
  | tup _ => cases h
  | rng _ _ _ => cases h
  | stat _ => cases h
  | scr _ => cases h
theorem RVs.pair {base : Heap} {vs : List V} {xs ys : List Value} (h : RVs base imm vs xs) (h' : RVs base imm vs ys) : xs.length = ys.length ∧ ∀ j (h1 : j < xs.length) (h2 : j < ys.length), ∃ v ∈ vs, RV base imm v xs[j] ∧ RV base imm v ys[j] := by
  refine ⟨h.length.trans h'.length.symm, fun j h1 h2 => ?_⟩
  obtain ⟨v, hv, r⟩ := h.get' (List.getElem?_eq_getElem h1)
  obtain ⟨y, hy, r'⟩ := h'.get hv
  rw [List.getElem?_eq_getElem h2] at hy
  cases hy
  exact ⟨v, List.mem_of_getElem? hv, r, r'⟩
theorem all_true {n : Nat} : (List.range n).all (fun _ => true) = true := by simp
theorem self_eq {A : Around} {v : V} {x y : Value} (R : Rel c f ρ st imm fr s) (hu : A.units < cLine) (h : selfV v = true) (rx : RV c.base imm v x) (ry : RV c.base imm v y) : SeqAt.EqAt A s x y true := by
  cases v with
  | tup us =>
    obtain ⟨a, vals, n, rfl, hm, r⟩ := rx.tupI
    obtain ⟨b, vals2, n2, rfl, hm2, r2⟩ := ry.tupI
    · by_cases e : a = b
      · subst e; exact SeqAt.EqAt.same _
      · refine SeqAt.EqAt.of_refs e ?_
        obtain ⟨hl, hp⟩ := RVs.pair r r2
        have := SeqAt.RcAt.tuples (A := A) (s := s) (e := fun _ => true) (items := vals.toArray) (items2 := vals2.toArray) ⟨_, R.inImm hm, rfl, _, rfl⟩ ⟨_, R.inImm hm2, rfl, _, rfl⟩ hu (fun j h1 h2 => by
          obtain ⟨v, hv, q1, q2⟩ := hp j (by simpa using h1) (by simpa using h2)
          have := flat_eq (A := A.in1) (s := s) (List.all_eq_true.mp h v hv) q1 q2
          simpa using this)
        rw [all_true, show (vals.toArray.size == vals2.toArray.size) = true from by simpa using hl] at this
        exact this
  | none => exact flat_eq rfl rx ry
  | bool b => exact flat_eq rfl rx ry
  | int i => exact flat_eq rfl rx ry
  | str i => exact flat_eq rfl rx ry
  | ref a => exact flat_eq rfl rx ry
  | rng _ _ _ => cases h
  | stat _ => cases h
  | scr _ => cases h
theorem W2.neSelfT {vs : List V} (he : ∀ u ∈ vs, selfV u = true) (h : Q (.bool false) st) : W2 c k (compareOp .NotEq) (.tup vs) (.tup vs) ρ st Q X := by
  refine ⟨fun f imm fr s x y ok R ra rb => ?_⟩
  obtain ⟨_, _, _, rfl, hm, r1⟩ := ra.tupI
  obtain ⟨_, _, _, rfl, hm2, r2⟩ := rb.tupI
  obtain ⟨hl, hp⟩ := RVs.pair r1 r2
  have hu := ok.units
  have := SeqAt.RcNeAt.tuples (A := f.A) (s := s) (e := fun _ => true) ⟨_, R.inImm hm, rfl, _, rfl⟩ ⟨_, R.inImm hm2, rfl, _, rfl⟩ (by omega) (fun j l1 l2 => by
    obtain ⟨v, hv, q1, q2⟩ := hp j (by simpa using l1) (by simpa using l2)
    have := self_eq (A := f.A.in1) R (by show f.A.units + 1 < _; omega) (he v hv) q1 q2
    simpa using this)
  rw [all_true, show ((_ : List Value).toArray.size == (_ : List Value).toArray.size) = true from by simpa using hl] at this
  exact this _ _ _ _ (.of (.bool _) R h)
end
end Mine
namespace Mine
section
variable {base : Heap} {imm : Led} {fs : List (Str × V)} {es : List DictEntry} {x : Str} {v : V} {val : Value} {t : Tok} {hsh : Int}
theorem isStr_str {x y : Str} {t : Tok} : (Value.str y t).isStr x = (y == x) := rfl
end

section
variable {c : Cx} {k : Nat} {sc : Scope} {ρ : Loc} {st : St} {Q : V → St → Prop} {S : Fl → Loc → St → Prop} {X : Xp} {f : Fm} {imm fr : Led} {s : Shared} {tk : Nat}

end
end Mine
namespace Mine
/-! dicts with ints as keys -/
section
variable {α : Type} [DecidableEq α] {base : Heap} {imm : Led} {l : List (α × V)} {r : List (α × Value)} {k : α} {v : V} {x : Value}
end

section
variable {c : Cx} {k : Nat} {sc : Scope} {ρ : Loc} {st : St} {Q : V → St → Prop} {S : Fl → Loc → St → Prop} {X : Xp} {f : Fm} {imm fr : Led} {s : Shared} {tk : Nat}

/-! dicts with texts as keys -/
end
section
variable {c : Cx} {k : Nat} {sc : Scope} {ρ : Loc} {st : St} {Q : V → St → Prop} {S : Fl → Loc → St → Prop} {X : Xp} {f : Fm} {imm fr : Led} {s : Shared} {tk : Nat} {P : St → Prop}
end
end Mine
namespace Mine
section
variable {c : Cx} {k : Nat} {sc : Scope} {ρ : Loc} {st : St} {Q : V → St → Prop} {S : Fl → Loc → St → Prop} {X : Xp} {f : Fm} {imm fr : Led} {s : Shared} {tk : Nat}

end
end Mine
namespace Mine
/-! pairs of ints in order; the least of a list of them -/
section
variable {prog : Program} {w : World} {A : Around} {E : Value → Shared → Prop} {s : Shared}

end
end Mine
namespace Mine
section
variable {c : Cx} {k : Nat} {sc : Scope} {ρ : Loc} {st : St} {Q : V → St → Prop} {X : Xp} {f : Fm} {imm fr : Led} {s : Shared}

end
end Mine
namespace Mine
section
variable (prog : Program) (w : World)
end
section
variable {prog : Program} {w : World} {A : Around} {E : Value → Shared → Prop} {s : Shared} {n m : Nd} {a b : Addr}
end
section
variable {c : Cx} {k : Nat} {sc : Scope} {ρ : Loc} {st : St} {Q : V → St → Prop} {S : Fl → Loc → St → Prop} {X : Xp} {f : Fm} {imm fr : Led} {s : Shared} {tk : Nat}
end
end Mine
namespace Mine
/-! dicts that are written out, with texts as keys -/
section
variable {c : Cx} {k : Nat} {sc : Scope} {ρ : Loc} {st : St} {Q : V → St → Prop} {S : Fl → Loc → St → Prop} {X : Xp} {f : Fm} {imm fr : Led} {s : Shared} {tk : Nat} {P : List (Str × V) → St → Prop} {keys : List (Option Expr)} {values : List Expr}
end
end Mine
namespace Mine
/-! a list, backwards -/
section
variable {prog : Program} {w : World} {A : Around} {E : Value → Shared → Prop} {s : Shared} {I l : Addr} {items : Array Value}
end
section
variable {c : Cx} {k : Nat} {sc : Scope} {ρ : Loc} {st : St} {Q : V → St → Prop} {S : Fl → Loc → St → Prop} {X : Xp} {f : Fm} {imm fr : Led} {s : Shared} {tk : Nat} {h h' : Heap} {m : Str → Option Value} {mt cs fo : Led} {r : Addr}
end
end Mine
namespace Mine
/-! texts -/
section
variable {c : Cx} {k : Nat} {sc : Scope} {ρ : Loc} {st : St} {Q : V → St → Prop} {S : Fl → Loc → St → Prop} {X : Xp} {f : Fm} {imm fr : Led} {s : Shared} {tk : Nat}
theorem W2.catS {x y : Str} (hl : x.length + y.length ≤ 1000000) (h : Q (.str (x ++ y)) st) : W2 c k (binaryOp .Add) (.str x) (.str y) ρ st Q X := by
  refine ⟨fun f imm fr s a b ok R ra rb => ?_⟩
  obtain ⟨_, rfl⟩ := ra.strI
  obtain ⟨_, rfl⟩ := rb.strI
  exact KOpn.add (by omega) fun t' k _ => .of (.str _ _) R.toks h
theorem WL.lenS {x : Str} (hl : x.length ≤ 1000000) (h : Q (.int x.length) st) : WL c k (fun xs => call (.builtin "len") xs) [.str x] ρ st Q X := by
  refine ⟨fun f imm fr s xs ok R rvs => ?_⟩
  obtain ⟨_, rfl, rx0⟩ := rvs.inv1
  obtain ⟨_, rfl⟩ := rx0.strI
  exact P.len_str (by omega) (.of (.int _ _) R.toks h)
theorem W2.atS {e ie : Expr} {x : Str} {i : Int} {n : Nat} (hs : isSl ie = false) (hi : i.natAbs < 1000000) (hc : (seqIndex? i x.length).bind (x.cps[·]?) = some n) (h : Q (.str ⟨#[n]⟩) st) : W2 c k (subscriptTail e ie) (.str x) (.int i) ρ st Q X := by
  refine ⟨fun f imm fr s a b ok R ra rb => ?_⟩
  obtain ⟨_, rfl⟩ := ra.strI
  obtain ⟨_, rfl⟩ := rb.intI
  exact tail_any (typeIs_str _ _ _) PySem.F.slot_str_getitem.lookup (P.getItem_str (by simp; omega) hc (.of (.str _ _) R.toks h)) (sub_plain hs _ _)
theorem slq {x : Str} {p : Prop} (h : x.length ≤ 1000000) (hp : p) : cnd (decide (x.length ≤ 1000000)) p False := cnd_is true (decide_eq_true h) hp
theorem WPE.sliceS {e : Expr} {lo hi : Option Expr} {p pos : Pos}
    (h : WPE c k sc ρ st e (fun v st₁ => WPO c k sc ρ st₁ lo (fun l st₂ => WPO c k sc ρ st₂ hi (fun u st₃ => ∃ x, v = .str x ∧ cnd (decide (x.length ≤ 1000000)) (Q (.str (Txt.slice x l u)) st₃) False) X) X) X) : WPE c k sc ρ st (.Subscript e (.Slice lo hi none p) pos) Q X := by
  refine ⟨fun f imm fr s ok hsc R => ?_⟩
  refine Subscript_ (wpAny_mono (h.go f imm fr s ok hsc R) (fun x s₁ p => ?_) fun _ _ t => t)
  obtain ⟨v, st₁, imm₁, i₁, rv, R₁, h₁⟩ := p
  refine wpAny_Slice (wpAny_mono (wpo h₁ ok hsc R₁) (fun vl s₂ p => ?_) fun _ _ t => t.mono i₁)
  obtain ⟨l, st₂, imm₂, i₂, pl, R₂, h₂⟩ := p
  refine wpAny_mono (wpo h₂ ok hsc R₂) (fun vu s₃ p => ?_) fun _ _ t => t.mono fun q hq => i₂ q (i₁ q hq)
  obtain ⟨u, st₃, imm₃, i₃, pu, R₃, x, rfl, h₃⟩ := p
  have hl : x.length ≤ 1000000 := by
    by_cases q : x.length ≤ 1000000
    · exact q
    · rw [decide_eq_false q] at h₃; exact (of_f h₃).elim
  rw [decide_eq_true hl] at h₃
  have h₃ := of_t h₃
  refine wpAny_evalPart_none ?_
  obtain ⟨t, rfl⟩ := rv.strI
  refine kba_turn (value' := PySem.Expr.Name (PySem.Str.ofString "_") ⟨0, 0, 0, 0⟩) (fun _ => rfl) ?_
  obtain ⟨⟨h0, tk0, rfl⟩, m, mt, cs, fo, rr⟩ := id R₃
  have fin : ∀ h' t' kk, Fr c.base f.L h' m → News c.base f.L h' (whole mt cs imm₃ fr fo) → PostE c f ρ imm fr Q (.str (Txt.slice x l u) t') { c.s₀ with heap := h', toks := kk } := fun h' t' kk F N =>
    ⟨.str (Txt.slice x l u), st₃, imm₃, fun q hq => i₃ q (i₂ q (i₁ q hq)), .str _ _, Rel.same (s := { c.s₀ with heap := h0, toks := tk0 }) ⟨h0, tk0, rfl⟩ rr F N, h₃⟩
  have hsz : x.length ≤ sizeLine := by rw [PySem.sizeLine_eq]; omega
  cases pl with
  | none =>
    cases pu with
    | none => exact slice_strN_nn rr.frm rr.news fin (by with_unfolding_all rfl) (fun _ => rfl) hsz
    | int => exact slice_strN_ns rr.frm rr.news fin (by with_unfolding_all rfl) (fun _ => rfl) hsz
  | int =>
    cases pu with
    | none => exact slice_strN_sn rr.frm rr.news fin (by with_unfolding_all rfl) (fun _ => rfl) hsz
    | int => exact slice_strN_ss rr.frm rr.news fin (by with_unfolding_all rfl) (fun _ => rfl) hsz
theorem RVs.ofStrs {base : Heap} {imm : Led} {ys : List Str} {xs : List Value} (h : StrsAre xs ys) : RVs base imm (ys.map V.str) xs := by
  induction h with
  | nil => exact .nil
  | cons _ _ _ ih => exact .cons (.str _ _) ih
theorem WL.split {x y : Str} (hy : (y.length == 0) = false) (hl : x.length ≤ 1000000) (h : ∀ d, get st d = none → (∀ a ∈ Txt.split x y, a.length ≤ x.length) → Q (.ref d) ((d, .list ((Txt.split x y).map .str)) :: st)) : WL c k (fun xs => call (.builtin "str.split") xs) [.str x, .str y] ρ st Q X := by
  refine ⟨fun f imm fr s xs ok R rvs => ?_⟩
  obtain ⟨_, _, rfl, rx0, rx1⟩ := rvs.inv2
  obtain ⟨_, rfl⟩ := rx0.strI
  obtain ⟨_, rfl⟩ := rx1.strI
  obtain ⟨⟨h0, tk0, rfl⟩, m, mt, cs, fo, rr⟩ := id R
  refine splitN1A rr.frm rr.news hy (fun l h' kk el hst hle _ F N => ?_) (by rw [PySem.sizeLine_eq]; omega)
  rw [el] at hst hle
  exact ⟨_, _, imm, fun _ h => h, .ref _, ⟨⟨h', kk, rfl⟩, m, _, cs, fo, rr.newSt F N rr.size (.list (RVs.ofStrs hst))⟩, h _ (Rel.noneAt rr rr.size) hle⟩
theorem WL.upper {x : Str} (hf : Builtin.Str.tooLong (Txt.upper x).length = false) (h : Q (.str (Txt.upper x)) st) : WL c k (fun xs => call (.builtin "str.upper") xs) [.str x] ρ st Q X := by
  refine ⟨fun f imm fr s xs ok R rvs => ?_⟩
  obtain ⟨_, rfl, rx0⟩ := rvs.inv1
  obtain ⟨_, rfl⟩ := rx0.strI
  exact SC.upper hf (.of (.str _ _) R.toks h)
theorem WL.strInt {a : Int} (ha : a.natAbs < 1000000) (h : Q (.str (toString a)) st) : WL c k (fun xs => call (.type "str") xs) [.int a] ρ st Q X := by
  refine ⟨fun f imm fr s xs ok R rvs => ?_⟩
  obtain ⟨_, rfl, rx0⟩ := rvs.inv1
  obtain ⟨_, rfl⟩ := rx0.intI
  refine P.str_of_int ?_ (.of (.str _ _) R.toks h)
  by_cases h0 : a.natAbs = 0
  · rw [h0]; decide
  · exact Nat.lt_of_lt_of_le ((Nat.log2_lt h0).mpr (show a.natAbs < 2 ^ 20 by omega)) (by decide)
theorem WL.intStr {x : Str} {n : Int} (hn : PySem.intText? x = some n) (hl : x.length ≤ 640) (h : Q (.int n) st) : WL c k (fun xs => call (.type "int") xs) [.str x] ρ st Q X := by
  refine ⟨fun f imm fr s xs ok R rvs => ?_⟩
  obtain ⟨_, rfl, rx0⟩ := rvs.inv1
  obtain ⟨_, rfl⟩ := rx0.strI
  exact KIN.call_text hn hl (.of (.int _ _) R.toks h)
theorem W2.notInS {x y : Str} (h : Q (.bool (Builtin.Str.occurrences x y 0 x.length 1).isEmpty) st) : W2 c k (compareOp .NotIn) (.str y) (.str x) ρ st Q X := by
  refine ⟨fun f imm fr s a b ok R ra rb => ?_⟩
  obtain ⟨_, rfl⟩ := ra.strI
  obtain ⟨_, rfl⟩ := rb.strI
  refine P.notIn_str ?_
  rw [Bool.not_not]
  exact .of (.bool _) R h
theorem W2.mulS {x : Str} {n : Int} (hm : MulOk x n) (h : Q (.str (Txt.mul x n)) st) : W2 c k (binaryOp .Mult) (.str x) (.int n) ρ st Q X := by
  refine ⟨fun f imm fr s a b ok R ra rb => ?_⟩
  obtain ⟨_, rfl⟩ := ra.strI
  obtain ⟨_, rfl⟩ := rb.intI
  exact SB.mul hm fun t' kk => .of (.str _ _) R.toks h
theorem WPE.methS {e : Expr} {name : Str} {ap pos : Pos} {args : List Expr} {id : String} (slot : Slot "str" name id) (hty : typeOf (.builtin id) = pure (.type "method_descriptor"))
    (h : WPE c k sc ρ st e (fun v st₁ => ∃ x, v = .str x ∧ WPEs c k sc ρ st₁ args (fun us st₂ => WL c k (fun xs => PySem.call (.builtin id) xs) (.str x :: us) ρ st₂ Q X) X) X)
    (hp : args.any isStar = false := by rfl)
    (he : ∀ env, ∃ pl, eval (.Call (.Attribute e name ap) args [] pos) env = (do
      let ov ← eval e env
      standAt ap.atName
      let (f, first) ← holding [ov] (getMethod ov name pl)
      callWith pos f first (backTo pos (starEach args env)) []) := by intro _; exact ⟨_, rfl⟩) : WPE c k sc ρ st (.Call (.Attribute e name ap) args [] pos) Q X := by
  refine ⟨fun f imm fr s ok hsc R => ?_⟩
  obtain ⟨pl, he⟩ := he f.env
  refine MethodCall_ (pl := pl) (wpAny_mono (h.go f imm fr s ok hsc R) (fun x s₁ p => ?_) fun _ _ t => t) he
  obtain ⟨v, st₁, imm₁, i₁, rv, R₁, x, rfl, h₁⟩ := p
  obtain ⟨t, rfl⟩ := rv.strI
  refine getMethod_builtin (typeIs_str _ _ _) PySem.F.plainAttrs_str slot hty (fun a e => by cases e) ?_
  refine wpAny_mono (callWithW (f := f) (val := .builtin id) (first := [.str x t]) (vs₀ := [.str x]) rfl hp ok hsc R₁ (.one (.str x t)) (.inr fun T e => by cases e) (by simpa using h₁)) (fun _ _ p => p.mono i₁) fun _ _ t => t.mono i₁
end
end Mine
namespace Mine
set_option genInjectivity false
set_option genSizeOfSpec false
def nthS : List Stmt → Nat → Option Stmt
  | [], _ => none
  | x :: _, 0 => some x
  | _ :: l, n + 1 => nthS l n
def bodyI : Option Stmt → List Stmt
  | some (.FunctionDef _ _ b _ _ _ _ _ _ _) => b
  | _ => []
def scI : Option Stmt → Scope
  | some (.FunctionDef _ _ _ _ _ _ s _ _ _) => s
  | _ => { kind := .module, names := [], isGenerator := false, isCoroutine := false, more := [] }
def stI (i : Nat) : Option Stmt := nthS PySem.Challenge.pw_uf040029_03.main.body i
abbrev A_between : Addr := 130
def S_between : Scope := scI (stI 11)
def B_between : List Stmt := bodyI (stI 11)
abbrev A_is_deed : Addr := 137
def S_is_deed : Scope := scI (stI 14)
def B_is_deed : List Stmt := bodyI (stI 14)
abbrev A_line_of : Addr := 144
def S_line_of : Scope := scI (stI 15)
def B_line_of : List Stmt := bodyI (stI 15)
abbrev A_number_in : Addr := 151
def S_number_in : Scope := scI (stI 16)
def B_number_in : List Stmt := bodyI (stI 16)
abbrev A_deed_of : Addr := 158
def S_deed_of : Scope := scI (stI 17)
def B_deed_of : List Stmt := bodyI (stI 17)
abbrev A_law_cell_at : Addr := 165
def S_law_cell_at : Scope := scI (stI 19)
def B_law_cell_at : List Stmt := bodyI (stI 19)
abbrev A_law_number : Addr := 172
def S_law_number : Scope := scI (stI 20)
def B_law_number : List Stmt := bodyI (stI 20)
abbrev A_law_whole : Addr := 179
def S_law_whole : Scope := scI (stI 21)
def B_law_whole : List Stmt := bodyI (stI 21)
abbrev A_law_class : Addr := 186
def S_law_class : Scope := scI (stI 22)
def B_law_class : List Stmt := bodyI (stI 22)
abbrev A_law_deed : Addr := 193
def S_law_deed : Scope := scI (stI 23)
def B_law_deed : List Stmt := bodyI (stI 23)
abbrev A_law_good : Addr := 200
def S_law_good : Scope := scI (stI 24)
def B_law_good : List Stmt := bodyI (stI 24)
abbrev A_law_read : Addr := 207
def S_law_read : Scope := scI (stI 25)
def B_law_read : List Stmt := bodyI (stI 25)
abbrev A_law_told : Addr := 214
def S_law_told : Scope := scI (stI 26)
def B_law_told : List Stmt := bodyI (stI 26)
abbrev A_law_spoilt : Addr := 221
def S_law_spoilt : Scope := scI (stI 27)
def B_law_spoilt : List Stmt := bodyI (stI 27)
def S_law : Scope := scI (stI 28)
def B_law : List Stmt := bodyI (stI 28)
abbrev A_MarkError : Addr := 24
abbrev A_BadCount : Addr := 37
abbrev A_BadRule : Addr := 49
abbrev A_BadDeed : Addr := 61
abbrev A_Full : Addr := 73
abbrev A_Twice : Addr := 85
abbrev A_NotKept : Addr := 97
abbrev A_AtEnd : Addr := 109
abbrev A_NotWanted : Addr := 121
/-- what the walk asks of the text's globals -/
structure Facts (K : Frag) : Prop where
  fn_between : FnAt K 130 ["thing", "low", "high"] S_between B_between
  g_between : nsIn K mainGlobals "between" = some (some (.ref 130))
  k_between : keepIn K (.ref 130) = true
  fn_is_deed : FnAt K 137 ["thing"] S_is_deed B_is_deed
  g_is_deed : nsIn K mainGlobals "is_deed" = some (some (.ref 137))
  k_is_deed : keepIn K (.ref 137) = true
  fn_line_of : FnAt K 144 ["deed"] S_line_of B_line_of
  g_line_of : nsIn K mainGlobals "line_of" = some (some (.ref 144))
  k_line_of : keepIn K (.ref 144) = true
  fn_number_in : FnAt K 151 ["word"] S_number_in B_number_in
  g_number_in : nsIn K mainGlobals "number_in" = some (some (.ref 151))
  k_number_in : keepIn K (.ref 151) = true
  fn_deed_of : FnAt K 158 ["line"] S_deed_of B_deed_of
  g_deed_of : nsIn K mainGlobals "deed_of" = some (some (.ref 158))
  k_deed_of : keepIn K (.ref 158) = true
  fn_law_cell_at : FnAt K 165 ["_law_script", "_law_k"] S_law_cell_at B_law_cell_at
  g_law_cell_at : nsIn K mainGlobals "_law_cell_at" = some (some (.ref 165))
  k_law_cell_at : keepIn K (.ref 165) = true
  fn_law_number : FnAt K 172 ["_law_script", "_law_k"] S_law_number B_law_number
  g_law_number : nsIn K mainGlobals "_law_number" = some (some (.ref 172))
  k_law_number : keepIn K (.ref 172) = true
  fn_law_whole : FnAt K 179 ["_law_found"] S_law_whole B_law_whole
  g_law_whole : nsIn K mainGlobals "_law_whole" = some (some (.ref 179))
  k_law_whole : keepIn K (.ref 179) = true
  fn_law_class : FnAt K 186 ["_law_e"] S_law_class B_law_class
  g_law_class : nsIn K mainGlobals "_law_class" = some (some (.ref 186))
  k_law_class : keepIn K (.ref 186) = true
  fn_law_deed : FnAt K 193 ["_law_cell"] S_law_deed B_law_deed
  g_law_deed : nsIn K mainGlobals "_law_deed" = some (some (.ref 193))
  k_law_deed : keepIn K (.ref 193) = true
  fn_law_good : FnAt K 200 ["_law_deed_here"] S_law_good B_law_good
  g_law_good : nsIn K mainGlobals "_law_good" = some (some (.ref 200))
  k_law_good : keepIn K (.ref 200) = true
  fn_law_read : FnAt K 207 ["_law_line"] S_law_read B_law_read
  g_law_read : nsIn K mainGlobals "_law_read" = some (some (.ref 207))
  k_law_read : keepIn K (.ref 207) = true
  fn_law_told : FnAt K 214 ["_law_line"] S_law_told B_law_told
  g_law_told : nsIn K mainGlobals "_law_told" = some (some (.ref 214))
  k_law_told : keepIn K (.ref 214) = true
  fn_law_spoilt : FnAt K 221 ["_law_line", "_law_cell"] S_law_spoilt B_law_spoilt
  g_law_spoilt : nsIn K mainGlobals "_law_spoilt" = some (some (.ref 221))
  k_law_spoilt : keepIn K (.ref 221) = true
  fn_law : FnAt K 228 ["_law_script"] S_law B_law
  g_law : nsIn K mainGlobals "law" = some (some (.ref 228))
  k_law : keepIn K (.ref 228) = true
  g_MarkError : nsIn K mainGlobals "MarkError" = some (some (.ref A_MarkError))
  k_MarkError : keepIn K (.ref A_MarkError) = true
  g_BadCount : nsIn K mainGlobals "BadCount" = some (some (.ref A_BadCount))
  k_BadCount : keepIn K (.ref A_BadCount) = true
  g_BadRule : nsIn K mainGlobals "BadRule" = some (some (.ref A_BadRule))
  k_BadRule : keepIn K (.ref A_BadRule) = true
  g_BadDeed : nsIn K mainGlobals "BadDeed" = some (some (.ref A_BadDeed))
  k_BadDeed : keepIn K (.ref A_BadDeed) = true
  g_Full : nsIn K mainGlobals "Full" = some (some (.ref A_Full))
  k_Full : keepIn K (.ref A_Full) = true
  g_Twice : nsIn K mainGlobals "Twice" = some (some (.ref A_Twice))
  k_Twice : keepIn K (.ref A_Twice) = true
  g_NotKept : nsIn K mainGlobals "NotKept" = some (some (.ref A_NotKept))
  k_NotKept : keepIn K (.ref A_NotKept) = true
  g_AtEnd : nsIn K mainGlobals "AtEnd" = some (some (.ref A_AtEnd))
  k_AtEnd : keepIn K (.ref A_AtEnd) = true
  g_NotWanted : nsIn K mainGlobals "NotWanted" = some (some (.ref A_NotWanted))
  k_NotWanted : keepIn K (.ref A_NotWanted) = true
  ex_BadCount : excIn K A_BadCount vbm "ValueError.__new__" = true
  ek_BadCount : ExcK K A_BadCount
  em_BadCount : exmOne K (.ref A_BadCount) (.ref A_MarkError) = some true
  kit_BadCount : kitOne K (.ref A_BadCount) (.ref A_BadCount) = some true ∧ kitOne K (.ref A_BadCount) (.ref A_BadRule) = some false ∧ kitOne K (.ref A_BadCount) (.ref A_BadDeed) = some false ∧ kitOne K (.ref A_BadCount) (.ref A_Full) = some false ∧ kitOne K (.ref A_BadCount) (.ref A_Twice) = some false ∧ kitOne K (.ref A_BadCount) (.ref A_NotKept) = some false ∧ kitOne K (.ref A_BadCount) (.ref A_AtEnd) = some false ∧ kitOne K (.ref A_BadCount) (.ref A_NotWanted) = some false ∧ kitOne K (.ref A_BadCount) (.type "ValueError") = some true
  ex_BadRule : excIn K A_BadRule vbm "ValueError.__new__" = true
  ek_BadRule : ExcK K A_BadRule
  em_BadRule : exmOne K (.ref A_BadRule) (.ref A_MarkError) = some true
  kit_BadRule : kitOne K (.ref A_BadRule) (.ref A_BadCount) = some false ∧ kitOne K (.ref A_BadRule) (.ref A_BadRule) = some true ∧ kitOne K (.ref A_BadRule) (.ref A_BadDeed) = some false ∧ kitOne K (.ref A_BadRule) (.ref A_Full) = some false ∧ kitOne K (.ref A_BadRule) (.ref A_Twice) = some false ∧ kitOne K (.ref A_BadRule) (.ref A_NotKept) = some false ∧ kitOne K (.ref A_BadRule) (.ref A_AtEnd) = some false ∧ kitOne K (.ref A_BadRule) (.ref A_NotWanted) = some false ∧ kitOne K (.ref A_BadRule) (.type "ValueError") = some true
  ex_BadDeed : excIn K A_BadDeed vbm "ValueError.__new__" = true
  ek_BadDeed : ExcK K A_BadDeed
  em_BadDeed : exmOne K (.ref A_BadDeed) (.ref A_MarkError) = some true
  kit_BadDeed : kitOne K (.ref A_BadDeed) (.ref A_BadCount) = some false ∧ kitOne K (.ref A_BadDeed) (.ref A_BadRule) = some false ∧ kitOne K (.ref A_BadDeed) (.ref A_BadDeed) = some true ∧ kitOne K (.ref A_BadDeed) (.ref A_Full) = some false ∧ kitOne K (.ref A_BadDeed) (.ref A_Twice) = some false ∧ kitOne K (.ref A_BadDeed) (.ref A_NotKept) = some false ∧ kitOne K (.ref A_BadDeed) (.ref A_AtEnd) = some false ∧ kitOne K (.ref A_BadDeed) (.ref A_NotWanted) = some false ∧ kitOne K (.ref A_BadDeed) (.type "ValueError") = some true
  ex_Full : excIn K A_Full vbm "ValueError.__new__" = true
  ek_Full : ExcK K A_Full
  em_Full : exmOne K (.ref A_Full) (.ref A_MarkError) = some true
  kit_Full : kitOne K (.ref A_Full) (.ref A_BadCount) = some false ∧ kitOne K (.ref A_Full) (.ref A_BadRule) = some false ∧ kitOne K (.ref A_Full) (.ref A_BadDeed) = some false ∧ kitOne K (.ref A_Full) (.ref A_Full) = some true ∧ kitOne K (.ref A_Full) (.ref A_Twice) = some false ∧ kitOne K (.ref A_Full) (.ref A_NotKept) = some false ∧ kitOne K (.ref A_Full) (.ref A_AtEnd) = some false ∧ kitOne K (.ref A_Full) (.ref A_NotWanted) = some false ∧ kitOne K (.ref A_Full) (.type "ValueError") = some true
  ex_Twice : excIn K A_Twice vbm "ValueError.__new__" = true
  ek_Twice : ExcK K A_Twice
  em_Twice : exmOne K (.ref A_Twice) (.ref A_MarkError) = some true
  kit_Twice : kitOne K (.ref A_Twice) (.ref A_BadCount) = some false ∧ kitOne K (.ref A_Twice) (.ref A_BadRule) = some false ∧ kitOne K (.ref A_Twice) (.ref A_BadDeed) = some false ∧ kitOne K (.ref A_Twice) (.ref A_Full) = some false ∧ kitOne K (.ref A_Twice) (.ref A_Twice) = some true ∧ kitOne K (.ref A_Twice) (.ref A_NotKept) = some false ∧ kitOne K (.ref A_Twice) (.ref A_AtEnd) = some false ∧ kitOne K (.ref A_Twice) (.ref A_NotWanted) = some false ∧ kitOne K (.ref A_Twice) (.type "ValueError") = some true
  ex_NotKept : excIn K A_NotKept vbm "ValueError.__new__" = true
  ek_NotKept : ExcK K A_NotKept
  em_NotKept : exmOne K (.ref A_NotKept) (.ref A_MarkError) = some true
  kit_NotKept : kitOne K (.ref A_NotKept) (.ref A_BadCount) = some false ∧ kitOne K (.ref A_NotKept) (.ref A_BadRule) = some false ∧ kitOne K (.ref A_NotKept) (.ref A_BadDeed) = some false ∧ kitOne K (.ref A_NotKept) (.ref A_Full) = some false ∧ kitOne K (.ref A_NotKept) (.ref A_Twice) = some false ∧ kitOne K (.ref A_NotKept) (.ref A_NotKept) = some true ∧ kitOne K (.ref A_NotKept) (.ref A_AtEnd) = some false ∧ kitOne K (.ref A_NotKept) (.ref A_NotWanted) = some false ∧ kitOne K (.ref A_NotKept) (.type "ValueError") = some true
  ex_AtEnd : excIn K A_AtEnd vbm "ValueError.__new__" = true
  ek_AtEnd : ExcK K A_AtEnd
  em_AtEnd : exmOne K (.ref A_AtEnd) (.ref A_MarkError) = some true
  kit_AtEnd : kitOne K (.ref A_AtEnd) (.ref A_BadCount) = some false ∧ kitOne K (.ref A_AtEnd) (.ref A_BadRule) = some false ∧ kitOne K (.ref A_AtEnd) (.ref A_BadDeed) = some false ∧ kitOne K (.ref A_AtEnd) (.ref A_Full) = some false ∧ kitOne K (.ref A_AtEnd) (.ref A_Twice) = some false ∧ kitOne K (.ref A_AtEnd) (.ref A_NotKept) = some false ∧ kitOne K (.ref A_AtEnd) (.ref A_AtEnd) = some true ∧ kitOne K (.ref A_AtEnd) (.ref A_NotWanted) = some false ∧ kitOne K (.ref A_AtEnd) (.type "ValueError") = some true
  ex_NotWanted : excIn K A_NotWanted vbm "ValueError.__new__" = true
  ek_NotWanted : ExcK K A_NotWanted
  em_NotWanted : exmOne K (.ref A_NotWanted) (.ref A_MarkError) = some true
  kit_NotWanted : kitOne K (.ref A_NotWanted) (.ref A_BadCount) = some false ∧ kitOne K (.ref A_NotWanted) (.ref A_BadRule) = some false ∧ kitOne K (.ref A_NotWanted) (.ref A_BadDeed) = some false ∧ kitOne K (.ref A_NotWanted) (.ref A_Full) = some false ∧ kitOne K (.ref A_NotWanted) (.ref A_Twice) = some false ∧ kitOne K (.ref A_NotWanted) (.ref A_NotKept) = some false ∧ kitOne K (.ref A_NotWanted) (.ref A_AtEnd) = some false ∧ kitOne K (.ref A_NotWanted) (.ref A_NotWanted) = some true ∧ kitOne K (.ref A_NotWanted) (.type "ValueError") = some true
  g_MOST : ∃ t, nsIn K mainGlobals "MOST" = some (some (.int 100 t))
  g_isinstance : nsIn K mainGlobals "isinstance" = some none
  g_len : nsIn K mainGlobals "len" = some none
  g_int : nsIn K mainGlobals "int" = some none
  g_str : nsIn K mainGlobals "str" = some none
  g_tuple : nsIn K mainGlobals "tuple" = some none
  g_range : nsIn K mainGlobals "range" = some none
  g_bool : nsIn K mainGlobals "bool" = some none
  g_ValueError : nsIn K mainGlobals "ValueError" = some none
def Kc (c : Cx) : Prop := Facts c.K
theorem useK {K : Frag} {h : Heap} (X : K.In h) {P : Prop} (f : Facts K) (g : Facts K → P) : P := g f
section
variable {c : Cx} {k : Nat} {sc : Scope} {ρ : Loc} {st : St} {Q : V → St → Prop} {X : Xp} {p pos : Pos} {args : List Expr}
theorem c_between (hK : Kc c) (hx : sc.names.lookup ("between" : Str) = some .globalImplicit) (h : WPEs c k sc ρ st args (fun vs st₂ => WL c k (fun xs => PySem.call (.ref 130) xs) vs ρ st₂ Q X) X) (hp : args.any isStar = false := by rfl) : WPE c k sc ρ st (.Call (.Name "between" p) args [] pos) Q X :=
  WPE.callF hx (Facts.g_between hK) (Facts.k_between hK) h hp
theorem c_is_deed (hK : Kc c) (hx : sc.names.lookup ("is_deed" : Str) = some .globalImplicit) (h : WPEs c k sc ρ st args (fun vs st₂ => WL c k (fun xs => PySem.call (.ref 137) xs) vs ρ st₂ Q X) X) (hp : args.any isStar = false := by rfl) : WPE c k sc ρ st (.Call (.Name "is_deed" p) args [] pos) Q X :=
  WPE.callF hx (Facts.g_is_deed hK) (Facts.k_is_deed hK) h hp
theorem c_line_of (hK : Kc c) (hx : sc.names.lookup ("line_of" : Str) = some .globalImplicit) (h : WPEs c k sc ρ st args (fun vs st₂ => WL c k (fun xs => PySem.call (.ref 144) xs) vs ρ st₂ Q X) X) (hp : args.any isStar = false := by rfl) : WPE c k sc ρ st (.Call (.Name "line_of" p) args [] pos) Q X :=
  WPE.callF hx (Facts.g_line_of hK) (Facts.k_line_of hK) h hp
theorem c_number_in (hK : Kc c) (hx : sc.names.lookup ("number_in" : Str) = some .globalImplicit) (h : WPEs c k sc ρ st args (fun vs st₂ => WL c k (fun xs => PySem.call (.ref 151) xs) vs ρ st₂ Q X) X) (hp : args.any isStar = false := by rfl) : WPE c k sc ρ st (.Call (.Name "number_in" p) args [] pos) Q X :=
  WPE.callF hx (Facts.g_number_in hK) (Facts.k_number_in hK) h hp
theorem c_deed_of (hK : Kc c) (hx : sc.names.lookup ("deed_of" : Str) = some .globalImplicit) (h : WPEs c k sc ρ st args (fun vs st₂ => WL c k (fun xs => PySem.call (.ref 158) xs) vs ρ st₂ Q X) X) (hp : args.any isStar = false := by rfl) : WPE c k sc ρ st (.Call (.Name "deed_of" p) args [] pos) Q X :=
  WPE.callF hx (Facts.g_deed_of hK) (Facts.k_deed_of hK) h hp
theorem c_law_cell_at (hK : Kc c) (hx : sc.names.lookup ("_law_cell_at" : Str) = some .globalImplicit) (h : WPEs c k sc ρ st args (fun vs st₂ => WL c k (fun xs => PySem.call (.ref 165) xs) vs ρ st₂ Q X) X) (hp : args.any isStar = false := by rfl) : WPE c k sc ρ st (.Call (.Name "_law_cell_at" p) args [] pos) Q X :=
  WPE.callF hx (Facts.g_law_cell_at hK) (Facts.k_law_cell_at hK) h hp
theorem c_law_number (hK : Kc c) (hx : sc.names.lookup ("_law_number" : Str) = some .globalImplicit) (h : WPEs c k sc ρ st args (fun vs st₂ => WL c k (fun xs => PySem.call (.ref 172) xs) vs ρ st₂ Q X) X) (hp : args.any isStar = false := by rfl) : WPE c k sc ρ st (.Call (.Name "_law_number" p) args [] pos) Q X :=
  WPE.callF hx (Facts.g_law_number hK) (Facts.k_law_number hK) h hp
theorem c_law_whole (hK : Kc c) (hx : sc.names.lookup ("_law_whole" : Str) = some .globalImplicit) (h : WPEs c k sc ρ st args (fun vs st₂ => WL c k (fun xs => PySem.call (.ref 179) xs) vs ρ st₂ Q X) X) (hp : args.any isStar = false := by rfl) : WPE c k sc ρ st (.Call (.Name "_law_whole" p) args [] pos) Q X :=
  WPE.callF hx (Facts.g_law_whole hK) (Facts.k_law_whole hK) h hp
theorem c_law_class (hK : Kc c) (hx : sc.names.lookup ("_law_class" : Str) = some .globalImplicit) (h : WPEs c k sc ρ st args (fun vs st₂ => WL c k (fun xs => PySem.call (.ref 186) xs) vs ρ st₂ Q X) X) (hp : args.any isStar = false := by rfl) : WPE c k sc ρ st (.Call (.Name "_law_class" p) args [] pos) Q X :=
  WPE.callF hx (Facts.g_law_class hK) (Facts.k_law_class hK) h hp
theorem c_law_deed (hK : Kc c) (hx : sc.names.lookup ("_law_deed" : Str) = some .globalImplicit) (h : WPEs c k sc ρ st args (fun vs st₂ => WL c k (fun xs => PySem.call (.ref 193) xs) vs ρ st₂ Q X) X) (hp : args.any isStar = false := by rfl) : WPE c k sc ρ st (.Call (.Name "_law_deed" p) args [] pos) Q X :=
  WPE.callF hx (Facts.g_law_deed hK) (Facts.k_law_deed hK) h hp
theorem c_law_good (hK : Kc c) (hx : sc.names.lookup ("_law_good" : Str) = some .globalImplicit) (h : WPEs c k sc ρ st args (fun vs st₂ => WL c k (fun xs => PySem.call (.ref 200) xs) vs ρ st₂ Q X) X) (hp : args.any isStar = false := by rfl) : WPE c k sc ρ st (.Call (.Name "_law_good" p) args [] pos) Q X :=
  WPE.callF hx (Facts.g_law_good hK) (Facts.k_law_good hK) h hp
theorem c_law_read (hK : Kc c) (hx : sc.names.lookup ("_law_read" : Str) = some .globalImplicit) (h : WPEs c k sc ρ st args (fun vs st₂ => WL c k (fun xs => PySem.call (.ref 207) xs) vs ρ st₂ Q X) X) (hp : args.any isStar = false := by rfl) : WPE c k sc ρ st (.Call (.Name "_law_read" p) args [] pos) Q X :=
  WPE.callF hx (Facts.g_law_read hK) (Facts.k_law_read hK) h hp
theorem c_law_told (hK : Kc c) (hx : sc.names.lookup ("_law_told" : Str) = some .globalImplicit) (h : WPEs c k sc ρ st args (fun vs st₂ => WL c k (fun xs => PySem.call (.ref 214) xs) vs ρ st₂ Q X) X) (hp : args.any isStar = false := by rfl) : WPE c k sc ρ st (.Call (.Name "_law_told" p) args [] pos) Q X :=
  WPE.callF hx (Facts.g_law_told hK) (Facts.k_law_told hK) h hp
theorem c_law_spoilt (hK : Kc c) (hx : sc.names.lookup ("_law_spoilt" : Str) = some .globalImplicit) (h : WPEs c k sc ρ st args (fun vs st₂ => WL c k (fun xs => PySem.call (.ref 221) xs) vs ρ st₂ Q X) X) (hp : args.any isStar = false := by rfl) : WPE c k sc ρ st (.Call (.Name "_law_spoilt" p) args [] pos) Q X :=
  WPE.callF hx (Facts.g_law_spoilt hK) (Facts.k_law_spoilt hK) h hp
theorem n_BadCount (hK : Kc c) (hx : sc.names.lookup ("BadCount" : Str) = some .globalImplicit) (h : Q (.stat (.ref 37)) st) : WPE c k sc ρ st (.Name "BadCount" p) Q X := WPE.globR hx (Facts.g_BadCount hK) h
theorem n_BadRule (hK : Kc c) (hx : sc.names.lookup ("BadRule" : Str) = some .globalImplicit) (h : Q (.stat (.ref 49)) st) : WPE c k sc ρ st (.Name "BadRule" p) Q X := WPE.globR hx (Facts.g_BadRule hK) h
theorem n_BadDeed (hK : Kc c) (hx : sc.names.lookup ("BadDeed" : Str) = some .globalImplicit) (h : Q (.stat (.ref 61)) st) : WPE c k sc ρ st (.Name "BadDeed" p) Q X := WPE.globR hx (Facts.g_BadDeed hK) h
theorem n_Full (hK : Kc c) (hx : sc.names.lookup ("Full" : Str) = some .globalImplicit) (h : Q (.stat (.ref 73)) st) : WPE c k sc ρ st (.Name "Full" p) Q X := WPE.globR hx (Facts.g_Full hK) h
theorem n_Twice (hK : Kc c) (hx : sc.names.lookup ("Twice" : Str) = some .globalImplicit) (h : Q (.stat (.ref 85)) st) : WPE c k sc ρ st (.Name "Twice" p) Q X := WPE.globR hx (Facts.g_Twice hK) h
theorem n_NotKept (hK : Kc c) (hx : sc.names.lookup ("NotKept" : Str) = some .globalImplicit) (h : Q (.stat (.ref 97)) st) : WPE c k sc ρ st (.Name "NotKept" p) Q X := WPE.globR hx (Facts.g_NotKept hK) h
theorem n_AtEnd (hK : Kc c) (hx : sc.names.lookup ("AtEnd" : Str) = some .globalImplicit) (h : Q (.stat (.ref 109)) st) : WPE c k sc ρ st (.Name "AtEnd" p) Q X := WPE.globR hx (Facts.g_AtEnd hK) h
theorem n_NotWanted (hK : Kc c) (hx : sc.names.lookup ("NotWanted" : Str) = some .globalImplicit) (h : Q (.stat (.ref 121)) st) : WPE c k sc ρ st (.Name "NotWanted" p) Q X := WPE.globR hx (Facts.g_NotWanted hK) h
theorem n_MOST (hK : Kc c) (hx : sc.names.lookup ("MOST" : Str) = some .globalImplicit) (h : Q (.int 100) st) : WPE c k sc ρ st (.Name "MOST" p) Q X := let ⟨_, e⟩ := Facts.g_MOST hK; WPE.globI hx e h
theorem c_isinstance (hK : Kc c) (hx : sc.names.lookup ("isinstance" : Str) = some .globalImplicit) (h : WPEs c k sc ρ st args (fun vs st₂ => WL c k (fun xs => PySem.call (.builtin "isinstance") xs) vs ρ st₂ Q X) X) (hp : args.any isStar = false := by rfl) : WPE c k sc ρ st (.Call (.Name "isinstance" p) args [] pos) Q X :=
  WPE.callB hx (Facts.g_isinstance hK) (by boot_by_name) h hp
theorem c_len (hK : Kc c) (hx : sc.names.lookup ("len" : Str) = some .globalImplicit) (h : WPEs c k sc ρ st args (fun vs st₂ => WL c k (fun xs => PySem.call (.builtin "len") xs) vs ρ st₂ Q X) X) (hp : args.any isStar = false := by rfl) : WPE c k sc ρ st (.Call (.Name "len" p) args [] pos) Q X :=
  WPE.callB hx (Facts.g_len hK) (by boot_by_name) h hp
theorem c_int (hK : Kc c) (hx : sc.names.lookup ("int" : Str) = some .globalImplicit) (h : WPEs c k sc ρ st args (fun vs st₂ => WL c k (fun xs => PySem.call (.type "int") xs) vs ρ st₂ Q X) X) (hp : args.any isStar = false := by rfl) : WPE c k sc ρ st (.Call (.Name "int" p) args [] pos) Q X :=
  WPE.callT hx (Facts.g_int hK) (by boot_by_name) h hp
theorem n_int (hK : Kc c) (hx : sc.names.lookup ("int" : Str) = some .globalImplicit) (h : Q (.stat (.type "int")) st) : WPE c k sc ρ st (.Name "int" p) Q X := WPE.bltT hx (Facts.g_int hK) (by boot_by_name) h
theorem c_str (hK : Kc c) (hx : sc.names.lookup ("str" : Str) = some .globalImplicit) (h : WPEs c k sc ρ st args (fun vs st₂ => WL c k (fun xs => PySem.call (.type "str") xs) vs ρ st₂ Q X) X) (hp : args.any isStar = false := by rfl) : WPE c k sc ρ st (.Call (.Name "str" p) args [] pos) Q X :=
  WPE.callT hx (Facts.g_str hK) (by boot_by_name) h hp
theorem n_str (hK : Kc c) (hx : sc.names.lookup ("str" : Str) = some .globalImplicit) (h : Q (.stat (.type "str")) st) : WPE c k sc ρ st (.Name "str" p) Q X := WPE.bltT hx (Facts.g_str hK) (by boot_by_name) h
theorem n_tuple (hK : Kc c) (hx : sc.names.lookup ("tuple" : Str) = some .globalImplicit) (h : Q (.stat (.type "tuple")) st) : WPE c k sc ρ st (.Name "tuple" p) Q X := WPE.bltT hx (Facts.g_tuple hK) (by boot_by_name) h
theorem c_range (hK : Kc c) (hx : sc.names.lookup ("range" : Str) = some .globalImplicit) (h : WPEs c k sc ρ st args (fun vs st₂ => WL c k (fun xs => PySem.call (.type "range") xs) vs ρ st₂ Q X) X) (hp : args.any isStar = false := by rfl) : WPE c k sc ρ st (.Call (.Name "range" p) args [] pos) Q X :=
  WPE.callT hx (Facts.g_range hK) (by boot_by_name) h hp
theorem n_bool (hK : Kc c) (hx : sc.names.lookup ("bool" : Str) = some .globalImplicit) (h : Q (.stat (.type "bool")) st) : WPE c k sc ρ st (.Name "bool" p) Q X := WPE.bltT hx (Facts.g_bool hK) (by boot_by_name) h
theorem n_ValueError (hK : Kc c) (hx : sc.names.lookup ("ValueError" : Str) = some .globalImplicit) (h : Q (.stat (.type "ValueError")) st) : WPE c k sc ρ st (.Name "ValueError" p) Q X := WPE.bltT hx (Facts.g_ValueError hK) (by boot_by_name) h
end
local macro_rules | `(tactic| k_clsL) => `(tactic| first | (with_reducible first | refine WPE.cint ?_ | refine WPE.cstr ?_ | refine WPE.bin ?_ | refine WPE.cbool ?_ | refine WPE.cnone ?_ | refine WPE.opOne ?_ | refine WPE.and ?_ | refine WPE.not ?_ | refine WPE.un ?_ | refine W2.eqI ?_ | refine W2.addI ?_ | refine W2.subI ?_ | refine W2.ltI ?_ | refine W2.leI ?_ | refine W2.gtI ?_ | refine W2.neI ?_ | refine W2.eqS ?_ | refine W2.neS ?_ | refine W1.negI ?_ | refine WPAll.or ?_ | refine WPAll.and ?_ | refine WPAll.orNil ?_ | refine WPAll.andNil ?_ | refine WPO.no ?_ | refine WPO.so ?_ | refine nxt_next ?_ | refine nxt_ret ?_ | refine cnd_t ?_ | refine cnd_f ?_ | refine WPS.cons ?_ | refine WPS.nil ?_ | refine WPEs.nil ?_ | refine WPs.ret ?_ | refine WPs.ifs ?_ | refine WPB.op ?_ | refine WPB.not ?_) | ((with_reducible refine WPEs.cons ?_ ?i); (case i => intros; rfl)) | ((with_reducible first | refine WPs.asg ?_ ?h ?i | refine WPs.for ‹_› ?_ ?h ?i); (case h => rfl); (case i => intros; rfl)) | ((with_reducible first | refine WPE.cmp ?_ ?h | refine WPE.cmp2 ?_ ?h | refine WPB.cmp ?_ ?h | refine WPB.cmp2 ?_ ?h | refine W2.isN ?h ?_ | refine W2.isNotN ?h ?_ | refine W2.is ?h ?_ | refine n_BadCount ‹_› ?h ?_ | refine n_BadRule ‹_› ?h ?_ | refine n_BadDeed ‹_› ?h ?_ | refine n_Full ‹_› ?h ?_ | refine n_Twice ‹_› ?h ?_ | refine n_NotKept ‹_› ?h ?_ | refine n_AtEnd ‹_› ?h ?_ | refine n_NotWanted ‹_› ?h ?_ | refine n_MOST ‹_› ?h ?_ | refine n_int ‹_› ?h ?_ | refine n_str ‹_› ?h ?_ | refine n_tuple ‹_› ?h ?_ | refine n_bool ‹_› ?h ?_ | refine n_ValueError ‹_› ?h ?_); (case h => rfl)) | ((with_reducible first | refine c_between ‹_› ?h ?_ ?i | refine c_is_deed ‹_› ?h ?_ ?i | refine c_line_of ‹_› ?h ?_ ?i | refine c_number_in ‹_› ?h ?_ ?i | refine c_deed_of ‹_› ?h ?_ ?i | refine c_law_cell_at ‹_› ?h ?_ ?i | refine c_law_number ‹_› ?h ?_ ?i | refine c_law_whole ‹_› ?h ?_ ?i | refine c_law_class ‹_› ?h ?_ ?i | refine c_law_deed ‹_› ?h ?_ ?i | refine c_law_good ‹_› ?h ?_ ?i | refine c_law_read ‹_› ?h ?_ ?i | refine c_law_told ‹_› ?h ?_ ?i | refine c_law_spoilt ‹_› ?h ?_ ?i | refine c_isinstance ‹_› ?h ?_ ?i | refine c_len ‹_› ?h ?_ ?i | refine c_int ‹_› ?h ?_ ?i | refine c_str ‹_› ?h ?_ ?i | refine c_range ‹_› ?h ?_ ?i); (case h => rfl); (case i => intros; rfl)) | (with_reducible first | refine WPE.sliceS ?_ | refine WPE.sub ?_) | ((with_reducible first | refine WPE.tup ?_ ?d | refine WPE.lst ?_ ?d); (case d => decide)) | ((with_reducible refine' WPE.nm ?h ?_ ?d ?e); (case h => rfl); (case d => decide); (case e => decide)) | ((with_reducible first | refine WPE.mCount ?_ ?h ?i | refine WPE.mIndex ?_ ?h ?i); (case h => rfl); (case i => intros; exact ⟨_, rfl⟩)) | ((with_reducible refine WPB.val ?_ ?i); (case i => intros; rfl)) | ((with_reducible refine cnd_is true ?h ?_); (case h => rfl)) | ((with_reducible refine cnd_is false ?h ?_); (case h => rfl)) | ((with_reducible refine' W2.tupAt ?h ?i ?j ?_); (case h => rfl); (case i => rfl); (case j => rfl)) | (with_reducible refine ⟨_, rfl, ?_⟩) | ((with_reducible refine' WL.isinstance ?h ?i ?_); (case h => rfl); (case i => rfl)) | fail)
local macro_rules | `(tactic| k_places) => `(tactic| ((refine WPS.cons ?_); (repeat' k_clsL)))
local macro_rules | `(tactic| fold_depth) => `(tactic| (repeat' k_clsL))
local macro_rules | `(tactic| k_memK) => `(tactic| first | (with_reducible refine WPS.nil ?_) | ((fail_if_success (with_reducible show WPS _ _ _ _ _ _ _ _)); k_clsL))
local macro_rules | `(tactic| k_ownIn) => `(tactic| (repeat' k_memK))
local macro_rules | `(tactic| k_offL) => `(tactic| first | exact get_head | ((refine Le.alloc ?_ _ _ ?_); (first | assumption | skip); k_offL) | assumption)
section
variable {c : Cx} {k : Nat} {ρ : Loc} {st : St} {Q : V → St → Prop} {X : Xp}
/-- a cell of the script, 0 behind its end -/
def cellV (ns : List Int) (i : Int) : Int := ns.getD i.toNat 0
def numV (ns : List Int) (i : Int) : Int := if ns.length = 0 then 5003 * i else ((ns.getD (i.fmod ns.length).toNat 0 + 7919 * i.fdiv ns.length + 101 * i) * 48271).fmod 2147483647
theorem fmod_lt {a b : Int} (h : 0 < b) : 0 ≤ a.fmod b ∧ a.fmod b < b := by
  rw [Int.fmod_eq_emod_of_nonneg _ (Int.le_of_lt h)]
  exact ⟨Int.emod_nonneg _ (by omega), Int.emod_lt_of_pos _ h⟩
theorem mulOk_right {a b : Int} (h : b.natAbs < 2 ^ 63) : IntMulOk a b := by
  refine IntMulOk.of_right ?_
  unfold Builtin.Int.intBits
  split
  · omega
  · rename_i hb
    have h0 : b.natAbs ≠ 0 := by simpa using hb
    have : b.natAbs.log2 < 63 := (Nat.log2_lt h0).mpr h
    omega

theorem s_cell_at (hK : Kc c) {ns : List Int} {i : Int} (h0 : 0 ≤ i) (hl : ns.length < 1000) (h : Q (.int (cellV ns i)) st) : CF c (k + 1) A_law_cell_at [.scr ns, .int i] ρ st Q X := by
  refine CallW.fn (Facts.fn_law_cell_at hK) rfl ?_
  k_places
  fold_depth
  refine WL.lenScr (by omega) ?_
  fold_depth
  refine cnd_cases (fun hb => ?_) (fun hb => ?_)
  · have hb' : i < (ns.length : Int) := by simpa using hb
    fold_depth
    refine W2.subScr rfl (by omega) (seqIndex_pos h0 hb') (List.getElem?_eq_getElem (by omega)) ?_
    have : cellV ns i = ns[i.toNat] := by unfold cellV; rw [List.getD_eq_getElem?_getD, List.getElem?_eq_getElem (by omega)]; rfl
    rw [this] at h; exact h
  · have hb' : ¬ i < (ns.length : Int) := by simpa using hb
    fold_depth
    have : cellV ns i = 0 := by unfold cellV; rw [List.getD_eq_getElem?_getD, List.getElem?_eq_none (by omega)]; rfl
    rw [this] at h; exact h
theorem s_number (hK : Kc c) {ns : List Int} {i : Int} (h0 : 0 ≤ i) (hi : i < 1000000) (hl : ns.length < 1000) (h : Q (.int (numV ns i)) st) : CF c (k + 1) A_law_number [.scr ns, .int i] ρ st Q X := by
  refine CallW.fn (Facts.fn_law_number hK) rfl ?_
  k_places
  fold_depth
  refine WL.lenScr (by omega) ?_
  fold_depth
  refine cnd_cases (fun hb => ?_) (fun hb => ?_)
  · have hb' : ns.length = 0 := by simpa using hb
    fold_depth
    refine W2.mulI (mulOk_right (by omega)) ?_
    unfold numV at h; rw [if_pos hb'] at h; exact h
  · have hb' : ¬ ns.length = 0 := by simpa using hb
    have hm := fmod_lt (a := i) (b := ns.length) (by omega)
    unfold numV at h; rw [if_neg hb'] at h
    fold_depth
    refine WL.lenScr (by omega) ?_
    refine W2.modI (by omega) ?_
    refine W2.subScr rfl (by omega) (seqIndex_pos hm.1 hm.2) (List.getElem?_eq_getElem (by omega)) ?_
    fold_depth
    refine WL.lenScr (by omega) ?_
    refine W2.divI (by omega) (by omega) ?_
    refine W2.mulI (IntMulOk.of_left (by decide)) ?_
    fold_depth
    refine W2.mulI (IntMulOk.of_left (by decide)) ?_
    fold_depth
    refine W2.mulI (mulOk_right (by decide)) ?_
    fold_depth
    refine W2.modI (by decide) ?_
    rw [List.getD_eq_getElem?_getD, List.getElem?_eq_getElem (by omega)] at h
    exact h
end

section
variable {c : Cx} {k : Nat} {ρ : Loc} {st : St} {Q : V → St → Prop} {X : Xp}
def btwV (lo hi : Int) : V → Bool
  | .int i => decide (lo ≤ i) && decide (i ≤ hi)
  | _ => false
theorem typ_int {v : V} (h : typV st v = some "int") : ∃ i, v = .int i := by
  cases v <;> simp [typV] at h
  · exact ⟨_, rfl⟩
  · split at h <;> simp at h
theorem s_between (hK : Kc c) {v : V} {T : String} {lo hi : Int} (ht : typV st v = some T) (h : Q (.bool (btwV lo hi v)) st) : CF c (k + 1) A_between [v, .int lo, .int hi] ρ st Q X := by
  refine CallW.fn (Facts.fn_between hK) rfl ?_
  k_places
  fold_depth
  refine WL.isinstance ht rfl ⟨_, rfl, ?_⟩
  by_cases hT : T = "int"
  · subst hT
    obtain ⟨i, rfl⟩ := typ_int ht
    fold_depth
    simp only [btwV] at h
    refine cnd_cases (fun hb => ?_) (fun hb => ?_)
    · fold_depth
      rw [hb, Bool.true_and] at h; exact h
    · rw [hb, Bool.false_and] at h; exact h
  · have hf : btwV lo hi v = false := by
      cases v <;> first | rfl | (exact absurd (Option.some.inj ht).symm hT)
    rw [hf] at h
    by_cases hB : T = "bool"
    · subst hB
      fold_depth
      refine WL.isinstance ht rfl ⟨_, rfl, ?_⟩
      fold_depth
      exact h
    · have : isi T "int" = false := by simp [isi, hT, hB]
      rw [this]
      fold_depth
      exact h
end

section
variable {c : Cx} {k : Nat} {ρ : Loc} {st : St} {Q : V → St → Prop} {X : Xp}
theorem s_whole (hK : Kc c) {i : Int} (h : Q (.bool true) st) : CF c (k + 1) A_law_whole [.int i] ρ st Q X := by
  refine CallW.fn (Facts.fn_law_whole hK) rfl ?_
  k_places
  fold_depth
  exact h
end

section
variable {c : Cx} {k : Nat} {ρ : Loc} {st : St} {Q : V → St → Prop} {X : Xp}
theorem s_class (hK : Kc c) {e C : Addr} {b0 b1 b2 b3 b4 b5 b6 b7 : Bool} {j : Nat} {w : Str} (hg : get st e = some (.exc C)) (F : ExcK c.K C) (h0 : kitOne c.K (.ref C) (.ref A_BadCount) = some b0) (h1 : kitOne c.K (.ref C) (.ref A_BadRule) = some b1) (h2 : kitOne c.K (.ref C) (.ref A_BadDeed) = some b2) (h3 : kitOne c.K (.ref C) (.ref A_Full) = some b3) (h4 : kitOne c.K (.ref C) (.ref A_Twice) = some b4) (h5 : kitOne c.K (.ref C) (.ref A_NotKept) = some b5) (h6 : kitOne c.K (.ref C) (.ref A_AtEnd) = some b6) (h7 : kitOne c.K (.ref C) (.ref A_NotWanted) = some b7) (hv : kitOne c.K (.ref C) (.type "ValueError") = some true)
    (hc : ([b0, b1, b2, b3, b4, b5, b6, b7] : List Bool).count true = 1) (hj : ([b0, b1, b2, b3, b4, b5, b6, b7] : List Bool).findIdx? (· == true) = some j) (hw : (["count", "rule", "deed", "full", "twice", "notkept", "atend", "notwanted"] : List Str)[j]? = some w) (h : ∀ st', Le st st' → Q (.tup [.str "refused", .str w]) st') : CF c (k + 1) A_law_class [.ref e] ρ st Q X := by
  refine CallW.fn (Facts.fn_law_class hK) rfl ?_
  refine WPS.cons ?_
  repeat' (first | k_memK | (refine WL.isExc hg F (by assumption) ?_))
  intro a ha
  k_ownIn
  have hg1 := (Le.alloc (o := .list [.bool b0, .bool b1, .bool b2, .bool b3]) ha) _ _ hg
  refine WPS.cons ?_
  repeat' (first | k_memK | (refine WL.isExc hg1 F (by assumption) ?_))
  intro a2 ha2
  have hg2 := (Le.alloc (o := .list [.bool b4, .bool b5, .bool b6, .bool b7]) ha2) _ _ hg1
  refine W2.cat (by k_offL) (by k_offL) rfl ?_
  intro a3 ha3
  have hg3 := (Le.alloc (o := .list ([.bool b0, .bool b1, .bool b2, .bool b3] ++ [.bool b4, .bool b5, .bool b6, .bool b7])) ha3) _ _ hg2
  k_ownIn
  refine WPS.cons ?_
  k_ownIn
  refine ⟨_, _, rfl, get_head, ?_⟩
  k_ownIn
  refine WL.countB (bs := [b0, b1, b2, b3, b4, b5, b6, b7]) rfl get_head ?_
  k_ownIn
  rw [hc]
  k_ownIn
  refine WL.isExc hg3 F hv ?_
  k_ownIn
  refine WPS.cons ?_
  k_ownIn
  intro a4 ha4
  k_ownIn
  refine WPS.cons ?_
  k_ownIn
  refine ⟨_, _, rfl, (Le.alloc ha4) _ _ get_head, ?_⟩
  k_ownIn
  refine WL.indexB (bs := [b0, b1, b2, b3, b4, b5, b6, b7]) rfl ((Le.alloc ha4) _ _ get_head) hj (by simp) ?_
  have hjl : j < 8 := by
    obtain ⟨h1, _⟩ := List.findIdx?_eq_some_iff_getElem.mp hj
    exact h1
  k_ownIn
  refine W2.subList (vs := [.str "count", .str "rule", .str "deed", .str "full", .str "twice", .str "notkept", .str "atend", .str "notwanted"]) (v := .str w) get_head rfl (by decide) (seqIndex_pos (by omega) (by simp; omega)) ?_ ?_
  · have : (((["count", "rule", "deed", "full", "twice", "notkept", "atend", "notwanted"] : List Str).map V.str)[j]?) = some (.str w) := by rw [List.getElem?_map, hw]; rfl
    simpa using this
  k_ownIn
  exact h _ (((Le.alloc ha).cons ha2).cons ha3 |>.cons ha4)
end

/-! law 03: numbers in texts, as lists of signs -/
def dg (n : Nat) : List Nat := (Nat.toDigits 10 n).map Char.toNat
def dv (l : List Nat) : Nat := l.foldl (fun a c => a * 10 + (c - 48)) 0
def isDig (c : Nat) : Bool := decide (48 ≤ c) && decide (c ≤ 57)
def numI (l : List Nat) : Option Nat :=
  if (decide (1 ≤ l.length) && decide (l.length ≤ 3)) && l.all isDig && !(l.head? == some 48 && decide (1 < l.length)) then some (dv l) else none
theorem num_of : ∀ n, n < 101 → numI (dg n) = some n := by decide +kernel
theorem one_dg : ∀ a, a < 10 → [48 + a] = dg (dv [48 + a]) := by decide +kernel
theorem two_dg : ∀ a, a < 10 → ∀ b, b < 10 → 1 ≤ a → [48 + a, 48 + b] = dg (dv [48 + a, 48 + b]) := by decide +kernel
theorem three_dg : ∀ a, a < 10 → ∀ b, b < 10 → ∀ c, c < 10 → 1 ≤ a → [48 + a, 48 + b, 48 + c] = dg (dv [48 + a, 48 + b, 48 + c]) := by decide +kernel
theorem dig_of {c : Nat} (h : isDig c = true) : ∃ a, a < 10 ∧ c = 48 + a := by
  unfold isDig at h
  simp at h
  exact ⟨c - 48, by omega, by omega⟩
theorem num_is {l : List Nat} {n : Nat} (h : numI l = some n) : l = dg n := by
  unfold numI at h
  split at h
  · rename_i hc
    cases h
    simp only [Bool.and_eq_true, decide_eq_true_eq, Bool.not_eq_true', List.all_eq_true] at hc
    obtain ⟨⟨⟨h1, h3⟩, hd⟩, hz⟩ := hc
    match l, h1, h3, hd, hz with
    | [x], _, _, hd, _ =>
      obtain ⟨a, ha, rfl⟩ := dig_of (hd x (by simp))
      exact one_dg a ha
    | [x, y], _, _, hd, hz =>
      obtain ⟨a, ha, rfl⟩ := dig_of (hd x (by simp))
      obtain ⟨b, hb, rfl⟩ := dig_of (hd y (by simp))
      refine two_dg a ha b hb ?_
      rcases Nat.eq_zero_or_pos a with q | q
      · subst q; simp at hz
      · exact q
    | [x, y, z], _, _, hd, hz =>
      obtain ⟨a, ha, rfl⟩ := dig_of (hd x (by simp))
      obtain ⟨b, hb, rfl⟩ := dig_of (hd y (by simp))
      obtain ⟨d, hd', rfl⟩ := dig_of (hd z (by simp))
      refine three_dg a ha b hb d hd' ?_
      rcases Nat.eq_zero_or_pos a with q | q
      · subst q; simp at hz
      · exact q
  · cases h
theorem num_iff {l : List Nat} {n : Nat} (hn : n ≤ 100) : l = dg n ↔ numI l = some n := ⟨fun e => e ▸ num_of n (by omega), num_is⟩

section
variable {c : Cx} {k : Nat} {ρ : Loc} {st : St} {Q : V → St → Prop} {X : Xp}
def optV : Option Nat → V
  | some n => .int (n : Int)
  | none => .none
theorem dig_in {n : Nat} : (Builtin.Str.occurrences (Str.ofString "0123456789") ⟨#[n]⟩ 0 (Str.ofString "0123456789").length 1).isEmpty = !isDig n := by
  have h := StrLaws.found_one (Str.ofString "0123456789") n
  have e : (Str.ofString "0123456789").cps.toList = [48, 49, 50, 51, 52, 53, 54, 55, 56, 57] := by decide +kernel
  rw [e] at h
  have h2 : decide (n ∈ [48, 49, 50, 51, 52, 53, 54, 55, 56, 57]) = isDig n := by
    unfold isDig
    rw [Bool.eq_iff_iff]
    simp
    omega
  rw [h2] at h
  rw [← h, Bool.not_not]
theorem zero_sign {n : Nat} : ((⟨#[n]⟩ : Str) == Str.ofString "0") = (some n == some 48) := by
  have e : Str.ofString "0" = ⟨#[48]⟩ := by decide +kernel
  rw [e, Bool.eq_iff_iff]
  simp
theorem s_number_in (hK : Kc c) (hq : c.q = true) {w : Str} (hl : w.length ≤ 1000000) (h : Q (optV (numI w.cps.toList)) st) : CF c (k + 1) A_number_in [.str w] ρ st Q X := by
  have hlen : w.cps.toList.length = w.length := Array.length_toList
  refine CallW.fn (Facts.fn_number_in hK) rfl ?_
  refine WPS.cons ?_
  k_ownIn
  refine WL.lenS hl ?_
  k_ownIn
  by_cases h1 : 1 ≤ w.length
  · refine cnd_is true (by simp; omega) ?_
    k_ownIn
    by_cases h3 : w.length ≤ 3
    · refine cnd_is true (by simp; omega) ?_
      k_ownIn
      refine WPS.cons ?_
      k_ownIn
      refine ⟨_, .str, ?_⟩
      refine FOR.inv (fun i ρ₁ st₁ => st₁ = st ∧ ρ₁ = ([("word", .str w)] : Loc) ∧ (w.cps.toList.take i).all isDig = true) ⟨rfl, rfl, rfl⟩ ?_ ?_
      · rintro i u ρ₁ st₁ hu ⟨rfl, rfl, hd⟩
        rw [List.getElem?_map] at hu
        obtain ⟨n, hn, rfl⟩ := Option.map_eq_some_iff.mp hu
        refine WPS.cons ?_
        k_ownIn
        refine W2.notInS ?_
        rw [dig_in]
        cases hdn : isDig n with
        | true =>
          k_ownIn
          refine lp_next ⟨_, .cons rfl .nil, .str, rfl, rfl, ?_⟩
          rw [List.take_add_one, hn, List.all_append, hd]
          simp [hdn]
        | false =>
          k_ownIn
          k_places
          refine lp_ret (nxt_ret ?_)
          have : numI w.cps.toList = none := by
            unfold numI
            rw [if_neg]
            intro hc
            simp only [Bool.and_eq_true] at hc
            have := List.all_eq_true.mp hc.1.2 n (List.mem_of_getElem? hn)
            rw [hdn] at this; cases this
          rw [this] at h
          exact h
      · rintro ρ₁ st₁ ⟨rfl, rfl, hd⟩
        rw [List.length_map, List.take_length] at hd
        obtain ⟨n0, hn0⟩ : ∃ n, w.cps.toList[0]? = some n := ⟨_, List.getElem?_eq_getElem (by omega)⟩
        have hh : w.cps.toList.head? = some n0 := by rw [List.head?_eq_getElem?]; exact hn0
        k_ownIn
        refine WPS.cons ?_
        k_ownIn
        refine W2.atS (n := n0) rfl (by decide) ?_ ?_
        · rw [seqIndex_pos (by decide) (by omega)]
          show w.cps[0]? = some n0
          rw [← Array.getElem?_toList]; exact hn0
        k_ownIn
        rw [zero_sign]
        have base : ((decide (1 ≤ w.cps.toList.length) && decide (w.cps.toList.length ≤ 3)) && w.cps.toList.all isDig) = true := by rw [hd, hlen]; simp; omega
        have last : (some n0 == some 48 && decide (1 < w.length)) = false → WPS c k S_number_in [("word", .str w)] st₁ (B_number_in.drop 3) (fun fl _ st' => Q (retV fl) st') (fun C _ st' => X C ρ st') := by
          intro hz
          have hnum : numI w.cps.toList = some (dv w.cps.toList) := by
            unfold numI
            rw [if_pos]
            rw [base, hh, hlen, hz]; rfl
          refine WPS.cons ?_
          k_ownIn
          refine WL.intStr (n := ((dv w.cps.toList : Nat) : Int)) ?_ (by omega) ?_
          · exact intText_digits (fun ch hch => by have := List.all_eq_true.mp hd ch hch; unfold isDig at this; simpa using this) (fun e => by rw [e] at hlen; simp at hlen; omega) (by omega)
          · rw [hnum] at h
            k_ownIn
            exact h
        cases hz : (some n0 == some 48) with
        | true =>
          k_ownIn
          refine WL.lenS hl ?_
          k_ownIn
          by_cases h2 : 1 < w.length
          · refine cnd_is true (by simp; omega) ?_
            k_ownIn
            k_places
            have : numI w.cps.toList = none := by
              unfold numI
              rw [if_neg]
              rw [hh, hlen, hz, decide_eq_true h2]
              simp
            rw [this] at h
            exact h
          · refine cnd_is false (by simp; omega) ?_
            k_ownIn
            exact last (by rw [hz, decide_eq_false h2]; rfl)
        | false =>
          k_ownIn
          exact last (by rw [hz]; rfl)
    · refine cnd_is false (by simp; omega) ?_
      k_ownIn
      k_places
      have : numI w.cps.toList = none := by
        unfold numI
        rw [if_neg]
        rw [hlen, decide_eq_false h3]
        simp
      rw [this] at h
      exact h
  · refine cnd_is false (by simp; omega) ?_
    k_ownIn
    k_places
    have : numI w.cps.toList = none := by
      unfold numI
      rw [if_neg]
      rw [hlen, decide_eq_false h1]
      simp
    rw [this] at h
    exact h
end

section
variable {c : Cx} {k : Nat} {ρ : Loc} {st : St} {Q : V → St → Prop} {X : Xp}
def sndOk (lo : Int) (r : List V) : Bool := ((r.length + 1 : Nat) : Int) == 2 && (match r with | v :: _ => btwV lo 100 v | [] => false)
def deedB : V → Bool
  | .tup (.str x :: r) => if (["keep", "meet"] : List Str).any (· == x) then ((r.length + 1 : Nat) : Int) == 1 else if (["take", "drop"] : List Str).any (· == x) then sndOk 0 r else (x == Str.ofString "go" && sndOk 1 r)
  | _ => false
theorem typ_tup {v : V} (h : typV st v = some "tuple") : ∃ vs, v = .tup vs := by
  cases v <;> simp [typV] at h
  · exact ⟨_, rfl⟩
  · split at h <;> simp at h
theorem typ_str {v : V} (h : typV st v = some "str") : ∃ x, v = .str x := by
  cases v <;> simp [typV] at h
  · exact ⟨_, rfl⟩
  · split at h <;> simp at h
theorem s_is_deed (hK : Kc c) {v : V} {T : String} (ht : typV st v = some T) (hs : ∀ vs, v = .tup vs → (vs.length < 1000 ∧ ∀ u ∈ vs, (typV st u).isSome = true)) (h : Q (.bool (deedB v)) st) : CF c (k + 2) A_is_deed [v] ρ st Q X := by
  refine CallW.fn (Facts.fn_is_deed hK) rfl ?_
  k_places
  refine WL.isinstance ht rfl ⟨_, rfl, ?_⟩
  by_cases hT : T = "tuple"
  · subst hT
    obtain ⟨vs, rfl⟩ := typ_tup ht
    obtain ⟨hl, hs⟩ := hs vs rfl
    fold_depth
    refine WL.lenTup (by omega) ?_
    fold_depth
    cases vs with
    | nil =>
      fold_depth
      exact h
    | cons u r =>
      have hl' : ((u :: r).length : Int) < 2 ^ 63 := by omega
      fold_depth
      refine W2.subTup rfl hl' seqIndex_0 rfl ?_
      obtain ⟨U, hU⟩ := Option.isSome_iff_exists.mp (hs u (by simp))
      fold_depth
      refine WL.isinstance hU rfl ⟨_, rfl, ?_⟩
      by_cases hS : U = "str"
      · subst hS
        obtain ⟨x, rfl⟩ := typ_str hU
        fold_depth
        refine W2.subTup rfl hl' seqIndex_0 rfl ?_
        fold_depth
        refine W2.inStrs (ys := ["keep", "meet"]) rfl ⟨_, rfl, ?_⟩
        simp only [deedB] at h
        refine cnd_cases (fun hb => ?_) (fun hb => ?_)
        · rw [if_pos hb] at h
          fold_depth
          refine WL.lenTup hl' ?_
          fold_depth
          exact h
        · rw [if_neg (by rw [hb]; decide)] at h
          fold_depth
          refine W2.subTup rfl hl' seqIndex_0 rfl ?_
          fold_depth
          refine W2.inStrs (ys := ["take", "drop"]) rfl ⟨_, rfl, ?_⟩
          refine cnd_cases (fun hb2 => ?_) (fun hb2 => ?_)
          · rw [if_pos hb2] at h
            fold_depth
            refine WL.lenTup hl' ?_
            fold_depth
            unfold sndOk at h
            refine cnd_cases (fun hb3 => ?_) (fun hb3 => ?_)
            · have e3 : ((r.length + 1 : Nat) : Int) == 2 := hb3
              rw [e3, Bool.true_and] at h
              cases r with
              | nil => simp at e3
              | cons w r =>
                fold_depth
                refine W2.subTup rfl hl' seqIndex_1 rfl ?_
                obtain ⟨W, hW⟩ := Option.isSome_iff_exists.mp (hs w (by simp))
                fold_depth
                exact s_between hK hW h
            · have e3 : (((r.length + 1 : Nat) : Int) == 2) = false := hb3
              rw [e3, Bool.false_and] at h
              exact h
          · rw [if_neg (by rw [hb2]; decide)] at h
            fold_depth
            refine W2.subTup rfl hl' seqIndex_0 rfl ?_
            fold_depth
            refine cnd_cases (fun hb4 => ?_) (fun hb4 => ?_)
            · have e4 : (x == Str.ofString "go") = true := hb4
              rw [e4, Bool.true_and] at h
              fold_depth
              refine WL.lenTup hl' ?_
              fold_depth
              unfold sndOk at h
              refine cnd_cases (fun hb3 => ?_) (fun hb3 => ?_)
              · have e3 : ((r.length + 1 : Nat) : Int) == 2 := hb3
                rw [e3, Bool.true_and] at h
                cases r with
                | nil => simp at e3
                | cons w r =>
                  fold_depth
                  refine W2.subTup rfl hl' seqIndex_1 rfl ?_
                  obtain ⟨W, hW⟩ := Option.isSome_iff_exists.mp (hs w (by simp))
                  fold_depth
                  exact s_between hK hW h
              · have e3 : (((r.length + 1 : Nat) : Int) == 2) = false := hb3
                rw [e3, Bool.false_and] at h
                exact h
            · have e4 : (x == Str.ofString "go") = false := hb4
              rw [e4, Bool.false_and] at h
              exact h
      · have : isi U "str" = false := by simp [isi, hS]
        rw [this]
        fold_depth
        have hf : deedB (.tup (u :: r)) = false := by
          cases u <;> first | rfl | (exact absurd (Option.some.inj hU).symm hS)
        rw [hf] at h; exact h
  · have : isi T "tuple" = false := by simp [isi, hT]
    rw [this]
    fold_depth
    have hf : deedB v = false := by
      cases v <;> first | rfl | (exact absurd (Option.some.inj ht).symm hT)
    rw [hf] at h; exact h
/-- what is found in the words of a line -/
def foundV : List Str → V
  | [] => .none
  | [a] => .tup [.str a]
  | [a, b] => .tup [.str a, optV (numI b.cps.toList)]
  | a :: _ => .tup [.str a]
def okD (ps : List Str) : Bool := decide (ps.length ≤ 2) && deedB (foundV ps)
theorem blank_len : ((Str.ofString " ").length == 0) = false := by decide +kernel
theorem split_ne {x : Str} : Txt.split x (Str.ofString " ") ≠ [] := by
  unfold Txt.split
  split
  · simp
  · split
    · simp
    · intro e
      have := congrArg List.length e
      rw [length_partsBetween] at this
      simp at this
theorem optV_typ {o : Option Nat} : (typV st (optV o)).isSome = true := by cases o <;> rfl
theorem split_len {x y : Str} (hy : (y.length == 0) = false) : (Txt.split x y).length ≤ x.length + 2 := by
  unfold Txt.split
  split
  · simp
  · split
    · simp
    · have e1 := StrLaws.occ_length_le x y 0 x.length (x.length + 1)
      rw [length_partsBetween]; omega
theorem found_typ {a : Str} {r : List Str} : typV st (foundV (a :: r)) = some "tuple" := by
  match r with
  | [] => rfl
  | [b] => rfl
  | _ :: _ :: _ => rfl
theorem found_els {a : Str} {r : List Str} : ∀ vs, foundV (a :: r) = .tup vs → (vs.length < 1000 ∧ ∀ u ∈ vs, (typV st u).isSome = true) := by
  intro vs e
  match r, e with
  | [], e => cases e; exact ⟨by simp, by intro u hu; simp at hu; subst hu; rfl⟩
  | [b], e => cases e; exact ⟨by simp, by intro u hu; simp at hu; rcases hu with rfl | rfl; rfl; exact optV_typ⟩
  | _ :: _ :: _, e => cases e; exact ⟨by simp, by intro u hu; simp at hu; subst hu; rfl⟩
theorem s_deed_of (hK : Kc c) (hq : c.q = true) {x : Str} (hl : x.length ≤ 10000) (h : ∀ st', Le st st' → okD (Txt.split x (Str.ofString " ")) = true → Q (foundV (Txt.split x (Str.ofString " "))) st') (hX : ∀ st', Le st st' → okD (Txt.split x (Str.ofString " ")) = false → X A_BadDeed ρ st') : CF c (k + 3) A_deed_of [.str x] ρ st Q X := by
  refine CallW.fn (Facts.fn_deed_of hK) rfl ?_
  refine WPS.cons ?_
  k_ownIn
  refine WPS.cons ?_
  k_ownIn
  refine WPE.methS PySem.F.slot_str_split PySem.F.type_str_split ?_
  k_ownIn
  refine WL.split blank_len (by omega) ?_
  intro d hd hle
  have hne := split_ne (x := x)
  have hlen := split_len (x := x) blank_len
  generalize Txt.split x (Str.ofString " ") = ps at h hX hle hne hlen ⊢
  cases ps with
  | nil => exact absurd rfl hne
  | cons a r =>
    simp only [List.length_cons] at hlen
    have tail : ∀ (ρ₁ : Loc), Sub [("words", .ref d), ("found", foundV (a :: r))] ρ₁ → WPS c (k + 2) S_deed_of ρ₁ ((d, .list ((a :: r).map .str)) :: st) (B_deed_of.drop 4) (fun fl _ st' => Q (retV fl) st') (fun C _ st' => X C ρ st') := by
      intro ρ₁ hs
      refine WPS.locs ?_ hs
      refine WPS.cons ?_
      k_ownIn
      refine WL.lenList get_head (by simp; omega) ?_
      k_ownIn
      by_cases h2 : r.length + 1 ≤ 2
      · refine cnd_is false (by simp; omega) ?_
        k_ownIn
        refine s_is_deed hK found_typ found_els ?_
        cases hb : deedB (foundV (a :: r)) with
        | true =>
          k_ownIn
          k_places
          exact h _ (Le.alloc hd) (by unfold okD; rw [hb]; simp; omega)
        | false =>
          k_ownIn
          refine WPS.cons ?_
          refine WPs.raise hq rfl (Facts.g_BadDeed hK) (Facts.ex_BadDeed hK) ?_
          fold_depth
          exact hX _ (Le.alloc hd) (by unfold okD; rw [hb]; simp)
      · refine cnd_is true (by simp; omega) ?_
        k_ownIn
        refine WPS.cons ?_
        refine WPs.raise hq rfl (Facts.g_BadDeed hK) (Facts.ex_BadDeed hK) ?_
        fold_depth
        exact hX _ (Le.alloc hd) (by unfold okD; simp; omega)
    k_ownIn
    refine WPS.cons ?_
    k_ownIn
    refine W2.subList get_head rfl (by simp; omega) (seqIndex_pos (by decide) (by simp)) (v := .str a) rfl ?_
    k_ownIn
    refine WPS.cons ?_
    k_ownIn
    refine WL.lenList get_head (by simp; omega) ?_
    k_ownIn
    match r, hlen, hle, tail with
    | [], _, _, tail =>
      refine cnd_is false rfl ?_
      k_ownIn
      exact tail _ (Sub.of (by intro p hp; simp at hp; rcases hp with rfl | rfl <;> rfl))
    | [b], _, hle, tail =>
      refine cnd_is true rfl ?_
      refine WPS.cons ?_
      k_ownIn
      refine W2.subList get_head rfl (by simp) (seqIndex_pos (by decide) (by simp)) (v := .str a) rfl ?_
      k_ownIn
      refine W2.subList get_head rfl (by simp) (seqIndex_pos (by decide) (by simp)) (v := .str b) rfl ?_
      k_ownIn
      refine WL.le (s_number_in (k := k) hK hq (by have := hle b (by simp); omega) ?_) (by omega)
      k_ownIn
      exact tail _ (Sub.of (by intro p hp; simp at hp; rcases hp with rfl | rfl <;> rfl))
    | _ :: _ :: _, hlen, _, tail =>
      refine cnd_is false (by simp; omega) ?_
      k_ownIn
      exact tail _ (Sub.of (by intro p hp; simp at hp; rcases hp with rfl | rfl <;> rfl))
theorem refusedD (hK : Kc c) {e : Addr} (hg : get st e = some (.exc A_BadDeed)) (h : ∀ st', Le st st' → Q (.tup [.str "refused", .str "deed"]) st') : CF c (k + 1) A_law_class [.ref e] ρ st Q X := by
  obtain ⟨q0, q1, q2, q3, q4, q5, q6, q7, q8⟩ := Facts.kit_BadDeed hK
  refine s_class (C := A_BadDeed) hK hg (Facts.ek_BadDeed hK) q0 q1 q2 q3 q4 q5 q6 q7 q8 (b0 := false) (b1 := false) (b2 := true) (b3 := false) (b4 := false) (b5 := false) (b6 := false) (b7 := false) rfl rfl rfl h
def toldV (ps : List Str) : V := if okD ps then foundV ps else .tup [.str "refused", .str "deed"]
theorem s_told (hK : Kc c) (hq : c.q = true) {x : Str} (hl : x.length ≤ 10000) (h : ∀ st', Le st st' → Q (toldV (Txt.split x (Str.ofString " "))) st') : CF c (k + 4) A_law_told [.str x] ρ st Q X := by
  refine CallW.fn (Facts.fn_law_told hK) rfl ?_
  refine WPS.cons ?_
  refine WPs.tryE rfl (Facts.g_MarkError hK) rfl ?_
  have hK' : Kc c.off := hK
  k_places
  refine s_deed_of hK hq hl ?_ ?_
  · intro st' hle hok
    have := h st' hle
    unfold toldV at this
    rw [if_pos hok] at this
    fold_depth
    exact this
  · intro st' hle hno
    refine ⟨Facts.em_BadDeed hK, fun e he => ?_⟩
    k_places
    refine WL.le (refusedD (c := c.off) (k := k) hK' get_head ?_) (by omega)
    intro st₂ hle₂
    have := h st₂ (hle.trans ((Le.alloc he).trans hle₂))
    unfold toldV at this
    rw [if_neg (by rw [hno]; decide)] at this
    fold_depth
    exact this
/-- the law's own reading -/
def loOf (a : Str) : Nat := if a == Str.ofString "go" then 1 else 0
def readV : List Str → V
  | [a] => if (["keep", "meet"] : List Str).any (· == a) then .tup [.str a] else .none
  | [a, b] => if (["take", "drop", "go"] : List Str).any (· == a) then (match numI b.cps.toList with | some n => if loOf a ≤ n ∧ n ≤ 100 then .tup [.str a, .int (n : Int)] else .none | none => .none) else .none
  | _ => .none
theorem str_num {b : Str} {n : Nat} (hn : n ≤ 100) : (b == Str.ofString (toString (n : Int))) = (numI b.cps.toList == some n) := by
  rw [Bool.eq_iff_iff]
  simp only [beq_iff_eq]
  rw [← num_iff hn]
  have e := KIN.signs_num n
  constructor
  · intro q; rw [q]; exact e
  · intro q
    have : b.cps.toList = (Str.ofString (toString (n : Int))).cps.toList := q.trans e.symm
    cases b
    congr 1
    exact Array.ext' this
theorem s_read (hK : Kc c) (hq : c.q = true) {x : Str} (hl : x.length ≤ 10000) (h : ∀ st', Le st st' → Q (readV (Txt.split x (Str.ofString " "))) st') : CF c (k + 1) A_law_read [.str x] ρ st Q X := by
  refine CallW.fn (Facts.fn_law_read hK) rfl ?_
  refine WPS.cons ?_
  k_ownIn
  refine WPE.methS PySem.F.slot_str_split PySem.F.type_str_split ?_
  k_ownIn
  refine WL.split blank_len (by omega) ?_
  intro d hd hle
  have hne := split_ne (x := x)
  have hlen := split_len (x := x) blank_len
  generalize Txt.split x (Str.ofString " ") = ps at h hle hne hlen ⊢
  have h := h _ (Le.alloc (o := .list (ps.map .str)) hd)
  k_ownIn
  refine WPS.cons ?_
  k_ownIn
  refine WL.lenList get_head (by simp; omega) ?_
  k_ownIn
  match ps, hne, hlen, h with
  | [], hne, _, _ => exact absurd rfl hne
  | [a], _, _, h =>
    refine cnd_is true rfl ?_
    k_ownIn
    refine W2.subList get_head rfl (by simp) (seqIndex_pos (by decide) (by simp)) (v := .str a) rfl ?_
    k_ownIn
    refine W2.inStrs (ys := ["keep", "meet"]) rfl ?_
    k_ownIn
    simp only [readV] at h
    refine cnd_cases (fun hb => ?_) (fun hb => ?_)
    · rw [if_pos hb] at h
      k_ownIn
      k_places
      refine W2.subList get_head rfl (by simp) (seqIndex_pos (by decide) (by simp)) (v := .str a) rfl ?_
      fold_depth
      exact h
    · rw [if_neg (by rw [hb]; decide)] at h
      k_ownIn
      refine WPS.cons ?_
      k_ownIn
      refine WL.lenList get_head (by simp) ?_
      k_ownIn
      k_places
      exact h
  | [a, b], _, _, h =>
    refine cnd_is false rfl ?_
    k_ownIn
    refine WPS.cons ?_
    k_ownIn
    refine WL.lenList get_head (by simp) ?_
    k_ownIn
    refine W2.subList get_head rfl (by simp) (seqIndex_pos (by decide) (by simp)) (v := .str a) rfl ?_
    k_ownIn
    refine W2.notInStrs (ys := ["take", "drop", "go"]) rfl ?_
    k_ownIn
    simp only [readV] at h
    cases hb : (["take", "drop", "go"] : List Str).any (· == a) with
    | false =>
      rw [hb] at h
      k_ownIn
      k_places
      exact h
    | true =>
      rw [hb, if_pos rfl] at h
      k_ownIn
      refine WPS.cons ?_
      k_ownIn
      refine W2.subList get_head rfl (by simp) (seqIndex_pos (by decide) (by simp)) (v := .str a) rfl ?_
      k_ownIn
      refine WL.intBool ?_
      have hlo : (if (a == Str.ofString "go") = true then (1 : Int) else 0) = ((loOf a : Nat) : Int) := by unfold loOf; split <;> rfl
      have hlo2 : loOf a ≤ 1 := by unfold loOf; split <;> decide
      rw [hlo]
      k_ownIn
      have hsrc : ∀ st', Src st' (.rng ((loOf a : Nat) : Int) 101 1) (upTo (loOf a) (101 - loOf a)) := fun st' => Src.up (loOf a) (101 - loOf a) rfl (by omega) (by omega)
      refine WL.range2 ⟨_, hsrc _, ?_⟩
      refine FOR.inv (fun i ρ₁ st₁ => st₁ = (d, O.list ([a, b].map .str)) :: st ∧ ρ₁ = ([("_law_line", .str x), ("_law_parts", .ref d)] : Loc) ∧ ∀ n, loOf a ≤ n → n < loOf a + i → numI b.cps.toList ≠ some n) ⟨rfl, rfl, fun n q1 q2 => by omega⟩ ?_ ?_
      · rintro i u ρ₁ st₁ hu ⟨rfl, rfl, hno⟩
        obtain ⟨hi, rfl⟩ := upTo_get hu
        refine WPS.cons ?_
        k_ownIn
        refine W2.subList get_head rfl (by simp) (seqIndex_pos (by decide) (by simp)) (v := .str b) rfl ?_
        k_ownIn
        refine WL.strInt (by omega) ?_
        k_ownIn
        rw [str_num (n := loOf a + i) (by omega)]
        refine cnd_cases (fun hb => ?_) (fun hb => ?_)
        · have hnum : numI b.cps.toList = some (loOf a + i) := by simpa using hb
          rw [hnum] at h
          simp only at h
          rw [if_pos ⟨by omega, by omega⟩] at h
          refine WPS.cons ?_
          k_ownIn
          refine W2.subList get_head rfl (by simp) (seqIndex_pos (by decide) (by simp)) (v := .str a) rfl ?_
          k_ownIn
          exact lp_ret (nxt_ret h)
        · have hnum : numI b.cps.toList ≠ some (loOf a + i) := by simpa using hb
          k_ownIn
          refine lp_next ⟨_, .cons rfl (.cons rfl .nil), hsrc _, rfl, rfl, fun n q1 q2 => ?_⟩
          by_cases e : n = loOf a + i
          · subst e; exact hnum
          · exact hno n q1 (by omega)
      · rintro ρ₁ st₁ ⟨rfl, rfl, hno⟩
        rw [upTo_len] at hno
        k_places
        cases hnum : numI b.cps.toList with
        | none => rw [hnum] at h; exact h
        | some n =>
          rw [hnum] at h
          simp only at h
          rw [if_neg (fun q => hno n q.1 (by omega) hnum)] at h
          exact h
  | a :: b :: e :: r, _, hlen, h =>
    refine cnd_is false (by simp; omega) ?_
    k_ownIn
    refine WPS.cons ?_
    k_ownIn
    refine WL.lenList get_head (by simp; simp at hlen; omega) ?_
    k_ownIn
    k_places
    exact h
end

section
variable {c : Cx} {k : Nat} {ρ : Loc} {st : St} {Q : V → St → Prop} {X : Xp}
/-- both readings agree -/
inductive Agree : V → V → Prop
  | no : Agree .none (.tup [.str "refused", .str "deed"])
  | one (a : Str) : Agree (.tup [.str a]) (.tup [.str a])
  | two (a : Str) (n : Nat) : Agree (.tup [.str a, .int (n : Int)]) (.tup [.str a, .int (n : Int)])
theorem words5 (a : Str) : a = Str.ofString "keep" ∨ a = Str.ofString "meet" ∨ a = Str.ofString "take" ∨ a = Str.ofString "drop" ∨ a = Str.ofString "go" ∨ ((["keep", "meet"] : List Str).any (· == a) = false ∧ (["take", "drop"] : List Str).any (· == a) = false ∧ (["take", "drop", "go"] : List Str).any (· == a) = false ∧ (a == Str.ofString "go") = false) := by
  by_cases h1 : a = Str.ofString "keep"
  · exact .inl h1
  by_cases h2 : a = Str.ofString "meet"
  · exact .inr (.inl h2)
  by_cases h3 : a = Str.ofString "take"
  · exact .inr (.inr (.inl h3))
  by_cases h4 : a = Str.ofString "drop"
  · exact .inr (.inr (.inr (.inl h4)))
  by_cases h5 : a = Str.ofString "go"
  · exact .inr (.inr (.inr (.inr (.inl h5))))
  refine .inr (.inr (.inr (.inr (.inr ⟨?_, ?_, ?_, ?_⟩))))
  · simp [Ne.symm h1, Ne.symm h2]
  · simp [Ne.symm h3, Ne.symm h4]
  · simp [Ne.symm h3, Ne.symm h4, Ne.symm h5]
  · simp [h5]
theorem btw_opt {lo : Int} {n : Nat} : btwV lo 100 (optV (some n)) = (decide (lo ≤ (n : Int)) && decide ((n : Int) ≤ 100)) := rfl
theorem agree_two {a b : Str} (lo : Nat) (hr : readV [a, b] = (match numI b.cps.toList with | some n => if lo ≤ n ∧ n ≤ 100 then .tup [.str a, .int (n : Int)] else .none | none => .none)) (ho : okD [a, b] = btwV (lo : Int) 100 (optV (numI b.cps.toList))) : Agree (readV [a, b]) (toldV [a, b]) := by
  rw [hr]
  unfold toldV
  rw [ho]
  cases hn : numI b.cps.toList with
  | none => exact .no
  | some n =>
    rw [btw_opt]
    by_cases hc : lo ≤ n ∧ n ≤ 100
    · simp only
      rw [if_pos hc, if_pos (by simp; omega)]
      show Agree _ (.tup [.str a, optV (numI b.cps.toList)])
      rw [hn]
      exact .two a n
    · simp only
      rw [if_neg hc, if_neg (by simp; omega)]
      exact .no
theorem read_told : ∀ {ps : List Str}, ps ≠ [] → Agree (readV ps) (toldV ps)
  | [], h => absurd rfl h
  | [a], _ => by
    rcases words5 a with rfl | rfl | rfl | rfl | rfl | ⟨h1, h2, h3, h4⟩
    · exact .one _
    · exact .one _
    · exact .no
    · exact .no
    · exact .no
    · have e1 : readV [a] = .none := by simp only [readV]; rw [h1]; rfl
      have e2 : okD [a] = false := by
        unfold okD
        show (true && deedB (.tup [.str a])) = false
        simp only [deedB]
        rw [h1, h2, h4]; rfl
      rw [e1]
      unfold toldV
      rw [e2]
      exact .no
  | [a, b], _ => by
    rcases words5 a with rfl | rfl | rfl | rfl | rfl | ⟨h1, h2, h3, h4⟩
    · exact .no
    · exact .no
    · exact agree_two 0 rfl rfl
    · exact agree_two 0 rfl rfl
    · exact agree_two 1 rfl rfl
    · have e1 : readV [a, b] = .none := by simp only [readV]; rw [h3]; rfl
      have e2 : okD [a, b] = false := by
        unfold okD
        show (true && deedB (.tup [.str a, optV (numI b.cps.toList)])) = false
        simp only [deedB]
        rw [h1, h2, h4]; rfl
      rw [e1]
      unfold toldV
      rw [e2]
      exact .no
  | a :: b :: d :: r, _ => by
    have e2 : okD (a :: b :: d :: r) = false := by
      unfold okD
      rw [show decide ((a :: b :: d :: r).length ≤ 2) = false by simp]
      rfl
    unfold toldV
    rw [e2]
    exact .no
def foB : Option Stmt → List Stmt
  | some (.For _ _ b _ _) => b
  | _ => []
abbrev lineB : List Stmt := foB B_law[9]?
theorem s_line (hK : Kc c) (hq : c.q = true) {ns : List Int} {x : Str} {P : Fl → Loc → St → Prop} (hl : x.length ≤ 10000) (hP : ∀ ρ' st', Le st st' → Sub [("_law_script", .scr ns)] ρ' → P .next ρ' st') : WPS c 20 S_law [("_law_script", .scr ns), ("_law_line", .str x)] st lineB P X := by
  refine WPS.cons ?_
  k_ownIn
  refine WL.le (s_read (k := 10) hK hq hl ?_) (by omega)
  intro st₁ hle₁
  k_ownIn
  refine WPS.cons ?_
  k_ownIn
  refine WL.le (s_told (k := 10) hK hq hl ?_) (by omega)
  intro st₂ hle₂
  have hag := read_told (split_ne (x := x))
  generalize readV (Txt.split x (Str.ofString " ")) = due at hag ⊢
  generalize toldV (Txt.split x (Str.ofString " ")) = found at hag ⊢
  k_ownIn
  refine WPS.cons ?_
  cases hag with
  | no =>
    k_ownIn
    refine W2.neSelfT (by intro u hu; simp at hu; rcases hu with rfl | rfl <;> rfl) ?_
    k_ownIn
    refine WPS.cons ?_
    k_ownIn
    refine WPS.cons ?_
    k_ownIn
    exact hP _ _ (hle₁.trans hle₂) (.cons rfl .nil)
  | one a =>
    k_ownIn
    refine WPS.cons ?_
    k_ownIn
    refine W2.neSelfT (by intro u hu; simp at hu; subst hu; rfl) ?_
    k_ownIn
    refine WPS.cons ?_
    k_ownIn
    refine WL.lenTup (by simp) ?_
    k_ownIn
    exact hP _ _ (hle₁.trans hle₂) (.cons rfl .nil)
  | two a n =>
    k_ownIn
    refine WPS.cons ?_
    k_ownIn
    refine W2.neSelfT (by intro u hu; simp at hu; rcases hu with rfl | rfl <;> rfl) ?_
    k_ownIn
    refine WPS.cons ?_
    k_ownIn
    refine WL.lenTup (by simp) ?_
    k_ownIn
    refine s_whole hK ?_
    k_ownIn
    exact hP _ _ (hle₁.trans hle₂) (.cons rfl .nil)
/-- deeds that are drawn -/
inductive DD : V → Prop
  | one (w : Str) : w = Str.ofString "keep" ∨ w = Str.ofString "meet" → DD (.tup [.str w])
  | two (w : Str) (n : Nat) : w = Str.ofString "take" ∨ w = Str.ofString "drop" ∨ w = Str.ofString "go" → n < 104 → DD (.tup [.str w, .int ((n : Int) - 1)])
theorem s_law_deed (hK : Kc c) {n : Int} (h : ∀ v st', Le st st' → DD v → Q v st') : CF c (k + 1) A_law_deed [.int n] ρ st Q X := by
  refine CallW.fn (Facts.fn_law_deed hK) rfl ?_
  have rest : ∀ (w : Str) (st₁ : St), Le st st₁ → w = Str.ofString "take" ∨ w = Str.ofString "drop" ∨ w = Str.ofString "go" → WPS c k S_law_deed [("_law_cell", .int n), ("_law_word", .str w)] st₁ (B_law_deed.drop 2) (fun fl _ st' => Q (retV fl) st') (fun C _ st' => X C ρ st') := by
    intro w st₁ hle hw
    refine WPS.cons ?_
    k_ownIn
    refine W2.divI (by decide) (by decide) ?_
    k_ownIn
    refine W2.modI (by decide) ?_
    k_ownIn
    refine cnd_cases (fun hb => ?_) (fun hb => ?_)
    · refine WPS.cons ?_
      k_ownIn
      intro a ha
      k_ownIn
      refine W2.divI (by decide) (by decide) ?_
      k_ownIn
      refine W2.modI (by decide) ?_
      have hm := fmod_lt (a := n.fdiv 18) (b := 8) (by decide)
      generalize (n.fdiv 18).fmod 8 = j at hm
      have e3 : j = 0 ∨ j = 1 ∨ j = 2 ∨ j = 3 ∨ j = 4 ∨ j = 5 ∨ j = 6 ∨ j = 7 := by omega
      have fin : ∀ (m : Nat), m < 104 → ∀ st', Le st st' → Q (.tup [.str w, .int ((m : Int) - 1)]) st' := fun m hm st' hle' => h _ _ hle' (.two w m hw hm)
      rcases e3 with rfl | rfl | rfl | rfl | rfl | rfl | rfl | rfl
      · refine W2.listAt get_head rfl rfl (by rfl) ?_; k_ownIn; exact fin 1 (by decide) _ (hle.cons ha)
      · refine W2.listAt get_head rfl rfl (by rfl) ?_; k_ownIn; exact fin 2 (by decide) _ (hle.cons ha)
      · refine W2.listAt get_head rfl rfl (by rfl) ?_; k_ownIn; exact fin 10 (by decide) _ (hle.cons ha)
      · refine W2.listAt get_head rfl rfl (by rfl) ?_; k_ownIn; exact fin 11 (by decide) _ (hle.cons ha)
      · refine W2.listAt get_head rfl rfl (by rfl) ?_; k_ownIn; exact fin 100 (by decide) _ (hle.cons ha)
      · refine W2.listAt get_head rfl rfl (by rfl) ?_; k_ownIn; exact fin 101 (by decide) _ (hle.cons ha)
      · refine W2.listAt get_head rfl rfl (by rfl) ?_; k_ownIn; exact fin 102 (by decide) _ (hle.cons ha)
      · refine W2.listAt get_head rfl rfl (by rfl) ?_; k_ownIn; exact fin 0 (by decide) _ (hle.cons ha)
    · k_ownIn
      refine WPS.cons ?_
      k_ownIn
      refine W2.divI (by decide) (by decide) ?_
      k_ownIn
      refine W2.modI (by decide) ?_
      have hm := fmod_lt (a := n.fdiv 18) (b := 104) (by decide)
      generalize (n.fdiv 18).fmod 104 = j at hm
      obtain ⟨m, rfl⟩ : ∃ m : Nat, j = m := ⟨j.toNat, by omega⟩
      k_ownIn
      exact h _ _ hle (.two w m hw (by omega))
  refine WPS.cons ?_
  k_ownIn
  intro a ha
  k_ownIn
  refine W2.modI (by decide) ?_
  have hm := fmod_lt (a := n) (b := 6) (by decide)
  generalize n.fmod 6 = j at hm
  have e3 : j = 0 ∨ j = 1 ∨ j = 2 ∨ j = 3 ∨ j = 4 ∨ j = 5 := by omega
  rcases e3 with rfl | rfl | rfl | rfl | rfl | rfl
  · refine W2.listAt get_head rfl rfl (by rfl) ?_
    k_ownIn
    k_places
    exact h _ _ (Le.alloc ha) (.one _ (.inl rfl))
  · refine W2.listAt get_head rfl rfl (by rfl) ?_
    k_ownIn
    k_places
    exact h _ _ (Le.alloc ha) (.one _ (.inr rfl))
  · refine W2.listAt get_head rfl rfl (by rfl) ?_
    k_ownIn
    refine WPS.cons ?_
    k_ownIn
    exact rest _ _ (Le.alloc ha) (.inl rfl)
  · refine W2.listAt get_head rfl rfl (by rfl) ?_
    k_ownIn
    refine WPS.cons ?_
    k_ownIn
    exact rest _ _ (Le.alloc ha) (.inr (.inl rfl))
  · refine W2.listAt get_head rfl rfl (by rfl) ?_
    k_ownIn
    refine WPS.cons ?_
    k_ownIn
    exact rest _ _ (Le.alloc ha) (.inr (.inr rfl))
  · refine W2.listAt get_head rfl rfl (by rfl) ?_
    k_ownIn
    refine WPS.cons ?_
    k_ownIn
    exact rest _ _ (Le.alloc ha) (.inr (.inr rfl))
theorem s_good (hK : Kc c) {v : V} (hv : DD v) (h : Q (.bool (deedB v)) st) : CF c (k + 1) A_law_good [v] ρ st Q X := by
  refine CallW.fn (Facts.fn_law_good hK) rfl ?_
  cases hv with
  | one w hw =>
    have e : deedB (.tup [.str w]) = true := by rcases hw with rfl | rfl <;> rfl
    rw [e] at h
    k_places
    refine WL.lenTup (by simp) ?_
    fold_depth
    exact h
  | two w n hw hn =>
    refine WPS.cons ?_
    k_ownIn
    refine WL.lenTup (by simp) ?_
    k_ownIn
    refine WPS.cons ?_
    k_ownIn
    refine WPS.cons ?_
    k_ownIn
    rcases hw with rfl | rfl | rfl
    · have e : deedB (.tup [.str (Str.ofString "take"), .int ((n : Int) - 1)]) = (decide ((0 : Int) ≤ (n : Int) - 1) && decide ((n : Int) - 1 ≤ 100)) := rfl
      rw [e] at h
      k_ownIn
      refine WPS.cons ?_
      k_ownIn
      refine cnd_cases (fun hb => ?_) (fun hb => ?_)
      · rw [hb, Bool.true_and] at h; k_ownIn; exact h
      · rw [hb, Bool.false_and] at h; exact h
    · have e : deedB (.tup [.str (Str.ofString "drop"), .int ((n : Int) - 1)]) = (decide ((0 : Int) ≤ (n : Int) - 1) && decide ((n : Int) - 1 ≤ 100)) := rfl
      rw [e] at h
      k_ownIn
      refine WPS.cons ?_
      k_ownIn
      refine cnd_cases (fun hb => ?_) (fun hb => ?_)
      · rw [hb, Bool.true_and] at h; k_ownIn; exact h
      · rw [hb, Bool.false_and] at h; exact h
    · have e : deedB (.tup [.str (Str.ofString "go"), .int ((n : Int) - 1)]) = (decide ((1 : Int) ≤ (n : Int) - 1) && decide ((n : Int) - 1 ≤ 100)) := rfl
      rw [e] at h
      k_ownIn
      refine WPS.cons ?_
      k_ownIn
      refine WPS.cons ?_
      k_ownIn
      refine cnd_cases (fun hb => ?_) (fun hb => ?_)
      · rw [hb, Bool.true_and] at h; k_ownIn; exact h
      · rw [hb, Bool.false_and] at h; exact h
end

section
variable {c : Cx} {k : Nat} {ρ : Loc} {st : St} {Q : V → St → Prop} {X : Xp}
theorem catB {x y : Str} (m n : Nat) (hx : x.length ≤ m) (hy : y.length ≤ n) (hmn : m + n ≤ 10000) (h : ∀ z : Str, z.length ≤ m + n → Q (.str z) st) : W2 c k (binaryOp .Add) (.str x) (.str y) ρ st Q X :=
  W2.catS (by omega) (h _ (by rw [Str.length_append]; omega))
theorem upper_len {x : Str} : (Txt.upper x).length ≤ 3 * x.length := StrLaws.placedRaw_le3 x.cps (fun _ ch => Unicode.upperOf ch) fun _ ch => StrLaws.upperOf_le3 ch
theorem s_spoilt (hK : Kc c) (hq : c.q = true) {x : Str} {n : Int} (hl : x.length ≤ 20) (h : ∀ (y : Str) st', Le st st' → y.length ≤ 200 → Q (.str y) st') : CF c (k + 1) A_law_spoilt [.str x, .int n] ρ st Q X := by
  refine CallW.fn (Facts.fn_law_spoilt hK) rfl ?_
  refine WPS.cons ?_
  k_ownIn
  have hS0 : 1 ≤ (Str.ofString "keeptakdrogm0123456789 -+_.AZ~\t\n").length ∧ (Str.ofString "keeptakdrogm0123456789 -+_.AZ~\t\n").length ≤ 100 := by decide +kernel
  generalize Str.ofString "keeptakdrogm0123456789 -+_.AZ~\t\n" = S0 at hS0 ⊢
  refine WPS.cons ?_
  k_ownIn
  refine W2.divI (by decide) (by decide) ?_
  k_ownIn
  refine WL.lenS (by omega) ?_
  k_ownIn
  refine W2.modI (by omega) ?_
  have hat := fmod_lt (a := n.fdiv 12) (b := (x.length : Int) + 1) (by omega)
  generalize (n.fdiv 12).fmod ((x.length : Int) + 1) = at_ at hat ⊢
  k_ownIn
  refine WPS.cons ?_
  k_ownIn
  refine W2.divI (by decide) (by decide) ?_
  k_ownIn
  refine WL.lenS (by omega) ?_
  refine W2.modI (by omega) ?_
  have hsg := fmod_lt (a := n.fdiv 144) (b := (S0.length : Int)) (by omega)
  generalize (n.fdiv 144).fmod (S0.length : Int) = sg at hsg ⊢
  obtain ⟨ch, hch⟩ : ∃ ch, S0.cps[sg.toNat]? = some ch := ⟨_, Array.getElem?_eq_getElem (by show sg.toNat < S0.length; omega)⟩
  refine W2.atS (n := ch) rfl (by omega) (by rw [seqIndex_pos hsg.1 hsg.2]; exact hch) ?_
  have hsl : (⟨#[ch]⟩ : Str).length ≤ 1 := Nat.le_refl _
  generalize (⟨#[ch]⟩ : Str) = sign at hsl ⊢
  k_ownIn
  refine WPS.cons ?_
  k_ownIn
  refine WPE.methS PySem.F.slot_str_split PySem.F.type_str_split ?_
  k_ownIn
  refine WL.split blank_len (by omega) ?_
  intro d hd hple
  have hne := split_ne (x := x)
  have hpl := split_len (x := x) blank_len
  generalize Txt.split x (Str.ofString " ") = ps at hple hne hpl ⊢
  obtain ⟨p0, pr, rfl⟩ : ∃ p0 pr, ps = p0 :: pr := by cases ps with
    | nil => exact absurd rfl hne
    | cons a b => exact ⟨a, b, rfl⟩
  have hp0 := hple p0 (by simp)
  have hx0 : x.length ≤ 20 := hl
  have sl : ∀ l u, (Txt.slice x l u).length ≤ 20 := fun l u => Nat.le_trans (Txt.slice_le x l u) hl
  k_ownIn
  refine WPS.cons ?_
  k_ownIn
  -- the first three
  refine slq (by omega) ?_
  k_ownIn
  refine catB 20 1 (sl _ _) hsl (by decide) fun z1 h1 => ?_
  k_ownIn
  refine slq (by omega) ?_
  k_ownIn
  refine catB 21 20 h1 (sl _ _) (by decide) fun z2 h2 => ?_
  k_ownIn
  refine slq (by omega) ?_
  k_ownIn
  refine slq (by omega) ?_
  k_ownIn
  refine catB 20 20 (sl _ _) (sl _ _) (by decide) fun z3 h3 => ?_
  k_ownIn
  refine slq (by omega) ?_
  k_ownIn
  refine catB 20 1 (sl _ _) hsl (by decide) fun z4 h4 => ?_
  k_ownIn
  refine slq (by omega) ?_
  k_ownIn
  refine catB 21 20 h4 (sl _ _) (by decide) fun z5 h5 => ?_
  k_ownIn
  intro o1 ho1
  k_ownIn
  refine WPS.cons ?_
  k_ownIn
  have gp : ∀ (o : O), get ((o1, o) :: (d, O.list ((p0 :: pr).map .str)) :: st) d = some (.list ((p0 :: pr).map .str)) := fun o => (Le.alloc ho1) _ _ get_head
  simp only [List.length_cons] at hpl
  refine WL.lenList (gp _) (by simp; omega) ?_
  k_ownIn
  obtain ⟨la, hla⟩ : ∃ la, (p0 :: pr)[pr.length]? = some la := ⟨_, List.getElem?_eq_getElem (by simp)⟩
  have hlal := hple la (List.mem_of_getElem? hla)
  refine W2.subList (gp _) rfl (by simp; omega) (seqIndex_pos (by simp) (by simp; omega)) (v := .str la) (by rw [List.getElem?_map, show ((((p0 :: pr).map V.str).length : Int) - 1).toNat = pr.length by simp, hla]; rfl) ?_
  have gp0 : ∀ {e ie : Expr} {o : O} {Q' : V → St → Prop} {X' : Xp} {ρ' : Loc}, isSl ie = false → Q' (.str p0) ((o1, o) :: (d, O.list ((p0 :: pr).map .str)) :: st) → W2 c k (subscriptTail e ie) (.ref d) (.int 0) ρ' ((o1, o) :: (d, O.list ((p0 :: pr).map .str)) :: st) Q' X' := fun hs hq => W2.subList (gp _) hs (by simp; omega) (seqIndex_pos (by decide) (by simp)) rfl hq
  k_ownIn
  refine WPS.cons ?_
  k_ownIn
  have s7 : (Str.ofString " 7").length ≤ 2 := by decide +kernel
  refine catB 20 2 hl s7 (by decide) fun y1 k1 => ?_
  k_ownIn
  refine gp0 rfl ?_
  k_ownIn
  refine catB 20 2 (by omega) (by decide +kernel) (by decide) fun y2 k2 => ?_
  k_ownIn
  refine catB 22 20 k2 (by omega) (by decide) fun y3 k3 => ?_
  k_ownIn
  refine gp0 rfl ?_
  k_ownIn
  refine catB 20 2 (by omega) (by decide +kernel) (by decide) fun y4 k4 => ?_
  k_ownIn
  refine catB 22 20 k4 (by omega) (by decide) fun y5 k5 => ?_
  k_ownIn
  refine gp0 rfl ?_
  k_ownIn
  refine catB 20 2 (by omega) (by decide +kernel) (by decide) fun y6 k6 => ?_
  k_ownIn
  refine catB 22 20 k6 (by omega) (by decide) fun y7 k7 => ?_
  k_ownIn
  refine catB 20 2 hl (by decide +kernel) (by decide) fun y8 k8 => ?_
  k_ownIn
  intro o2 ho2
  refine W2.cat ((Le.alloc ho2) _ _ get_head) get_head rfl ?_
  intro o3 ho3
  have gp3 : get ((o3, O.list ([V.str z2, .str z3, .str z5] ++ [.str y1, .str y3, .str y5, .str y7, .str y8])) :: (o2, O.list [.str y1, .str y3, .str y5, .str y7, .str y8]) :: (o1, O.list [.str z2, .str z3, .str z5]) :: (d, O.list ((p0 :: pr).map .str)) :: st) d = some (.list ((p0 :: pr).map .str)) := (Le.alloc ho3) _ _ ((Le.alloc ho2) _ _ (gp _))
  have go3 : get ((o3, O.list ([V.str z2, .str z3, .str z5] ++ [.str y1, .str y3, .str y5, .str y7, .str y8])) :: (o2, O.list [.str y1, .str y3, .str y5, .str y7, .str y8]) :: (o1, O.list [.str z2, .str z3, .str z5]) :: (d, O.list ((p0 :: pr).map .str)) :: st) o3 = some (.list [.str z2, .str z3, .str z5, .str y1, .str y3, .str y5, .str y7, .str y8]) := get_head
  have hle3 : Le st ((o3, O.list ([V.str z2, .str z3, .str z5] ++ [.str y1, .str y3, .str y5, .str y7, .str y8])) :: (o2, O.list [.str y1, .str y3, .str y5, .str y7, .str y8]) :: (o1, O.list [.str z2, .str z3, .str z5]) :: (d, O.list ((p0 :: pr).map .str)) :: st) := ((((Le.alloc hd).cons ho1).cons ho2).cons ho3)
  generalize (o3, O.list ([V.str z2, .str z3, .str z5] ++ [.str y1, .str y3, .str y5, .str y7, .str y8])) :: (o2, O.list [.str y1, .str y3, .str y5, .str y7, .str y8]) :: (o1, O.list [.str z2, .str z3, .str z5]) :: (d, O.list ((p0 :: pr).map .str)) :: st = st₃ at gp3 go3 hle3 ⊢
  k_ownIn
  refine WPS.cons ?_
  k_ownIn
  refine catB 1 20 (by decide +kernel) hl (by decide) fun x1 j1 => ?_
  k_ownIn
  refine catB 20 1 hl (by decide +kernel) (by decide) fun x2 j2 => ?_
  k_ownIn
  refine catB 20 1 hl (by decide +kernel) (by decide) fun x3 j3 => ?_
  k_ownIn
  refine WPE.methS PySem.F.slot_str_upper PySem.F.type_str_upper ?_
  k_ownIn
  refine W2.subList gp3 rfl (by simp; omega) (seqIndex_pos (by decide) (by simp)) (v := .str p0) rfl ?_
  k_ownIn
  have hup := upper_len (x := p0)
  refine WL.upper (by unfold Builtin.Str.tooLong; simp [PySem.sizeLine_eq]; omega) ?_
  k_ownIn
  refine W2.subList gp3 rfl (by simp; omega) (seqIndex_pos (by decide) (by simp)) (v := .str p0) rfl ?_
  k_ownIn
  refine WL.lenS (by omega) ?_
  k_ownIn
  refine slq (by omega) ?_
  k_ownIn
  refine catB 60 20 (by omega) (sl _ _) (by decide) fun x4 j4 => ?_
  k_ownIn
  intro o4 ho4
  refine W2.cat ((Le.alloc ho4) _ _ go3) get_head rfl ?_
  intro o5 ho5
  k_ownIn
  refine WPS.cons ?_
  k_ownIn
  refine W2.modI (by decide) ?_
  have hm := fmod_lt (a := n) (b := 12) (by decide)
  generalize n.fmod 12 = j at hm
  have hzs : ∀ z ∈ [z2, z3, z5, y1, y3, y5, y7, y8, x1, x2, x3, x4], z.length ≤ 200 := by
    intro z hz
    simp only [List.mem_cons, List.not_mem_nil, or_false] at hz
    rcases hz with rfl | rfl | rfl | rfl | rfl | rfl | rfl | rfl | rfl | rfl | rfl | rfl <;> omega
  obtain ⟨z, hz⟩ : ∃ z, ([z2, z3, z5, y1, y3, y5, y7, y8, x1, x2, x3, x4] : List Str)[j.toNat]? = some z := ⟨_, List.getElem?_eq_getElem (by simp; omega)⟩
  refine W2.subList (vs := ([z2, z3, z5, y1, y3, y5, y7, y8, x1, x2, x3, x4] : List Str).map .str) get_head rfl (by simp) (seqIndex_pos hm.1 (by simp; omega)) (v := .str z) (by rw [List.getElem?_map, hz]; rfl) ?_
  k_ownIn
  exact h z _ ((hle3.cons ho4).cons ho5) (hzs z (List.mem_of_getElem? hz))
end

section
variable {c : Cx} {k : Nat} {ρ : Loc} {st : St} {Q : V → St → Prop} {X : Xp}
abbrev LS (c : Cx) : Scope := S_law
abbrev LB (c : Cx) (n : Nat) : List Stmt := B_law.drop n
abbrev TR : Fl → Loc → St → Prop := fun fl _ _ => retV fl = .bool true
/-- things that are no deeds -/
theorem s_odd (hK : Kc c) (hq : c.q = true) {ns : List Int} (hl : ns.length < 1000) : WPS c 20 (LS c) [("_law_script", .scr ns)] st (LB c 10) TR X := by
  refine WPS.cons ?_
  k_ownIn
  intro a1 ha1
  have L1 := Le.alloc (o := .list [.str "meet"]) ha1
  have g1 : get ((a1, .list [.str "meet"]) :: st) a1 = _ := get_head
  generalize ((a1, _) :: _ : St) = S1 at L1 g1 ⊢
  k_ownIn
  intro a2 ha2
  have L2 := Le.alloc (o := .list [.none, .str "keep", .tup [], .tup [.str "keep", .int 1], .ref a1, .tup [.str "go"], .tup [.str "go", .bool true], .tup [.str "take", .str "1"], .tup [.none, .int 1], .tup [.str "go", .int 1, .int 1]]) ha2
  have g2 : get ((a2, .list [.none, .str "keep", .tup [], .tup [.str "keep", .int 1], .ref a1, .tup [.str "go"], .tup [.str "go", .bool true], .tup [.str "take", .str "1"], .tup [.none, .int 1], .tup [.str "go", .int 1, .int 1]]) :: S1) a2 = _ := get_head
  generalize ((a2, _) :: _ : St) = S2 at L2 g2 ⊢
  k_ownIn
  refine WPS.cons ?_
  k_ownIn
  intro b1 hb1
  have L3 := Le.alloc (o := .list [.str "keep"]) hb1
  have g3 : get ((b1, .list [.str "keep"]) :: S2) b1 = _ := get_head
  generalize ((b1, _) :: _ : St) = S3 at L3 g3 ⊢
  k_ownIn
  refine WPE.dict0 ?_
  intro d1 hd1 _
  have L4 := Le.alloc (o := .dictI []) hd1
  have g4 : get ((d1, .dictI []) :: S3) d1 = _ := get_head
  generalize ((d1, _) :: _ : St) = S4 at L4 g4 ⊢
  k_ownIn
  intro b2 hb2
  have L5 := Le.alloc (o := .list [.int 1]) hb2
  have g5 : get ((b2, .list [.int 1]) :: S4) b2 = _ := get_head
  generalize ((b2, _) :: _ : St) = S5 at L5 g5 ⊢
  k_ownIn
  refine WPE.dict0 ?_
  intro d2 hd2 _
  have L6 := Le.alloc (o := .dictI []) hd2
  have g6 : get ((d2, .dictI []) :: S5) d2 = _ := get_head
  generalize ((d2, _) :: _ : St) = S6 at L6 g6 ⊢
  k_ownIn
  refine WPE.dict0 ?_
  intro d3 hd3 _
  have L7 := Le.alloc (o := .dictI []) hd3
  have g7 : get ((d3, .dictI []) :: S6) d3 = _ := get_head
  generalize ((d3, _) :: _ : St) = S7 at L7 g7 ⊢
  k_ownIn
  intro b3 hb3
  have L8 := Le.alloc (o := .list [.tup [.str "Take", .int 1], .int 5, .tup [.ref b1], .tup [.ref d1, .int 1], .tup [.str "take", .ref b2], .tup [.str "drop", .ref d2], .ref d3]) hb3
  have g8 : get ((b3, .list [.tup [.str "Take", .int 1], .int 5, .tup [.ref b1], .tup [.ref d1, .int 1], .tup [.str "take", .ref b2], .tup [.str "drop", .ref d2], .ref d3]) :: S7) b3 = _ := get_head
  generalize ((b3, _) :: _ : St) = S8 at L8 g8 ⊢
  have g2' := L8 _ _ (L7 _ _ (L6 _ _ (L5 _ _ (L4 _ _ (L3 _ _ g2)))))
  k_ownIn
  refine W2.cat g2' g8 rfl ?_
  intro o ho
  have L9 := Le.alloc (o := .list ([.none, .str "keep", .tup [], .tup [.str "keep", .int 1], .ref a1, .tup [.str "go"], .tup [.str "go", .bool true], .tup [.str "take", .str "1"], .tup [.none, .int 1], .tup [.str "go", .int 1, .int 1]] ++ [.tup [.str "Take", .int 1], .int 5, .tup [.ref b1], .tup [.ref d1, .int 1], .tup [.str "take", .ref b2], .tup [.str "drop", .ref d2], .ref d3])) ho
  have g9 : get ((o, .list ([.none, .str "keep", .tup [], .tup [.str "keep", .int 1], .ref a1, .tup [.str "go"], .tup [.str "go", .bool true], .tup [.str "take", .str "1"], .tup [.none, .int 1], .tup [.str "go", .int 1, .int 1]] ++ [.tup [.str "Take", .int 1], .int 5, .tup [.ref b1], .tup [.ref d1, .int 1], .tup [.str "take", .ref b2], .tup [.str "drop", .ref d2], .ref d3])) :: S8) o = _ := get_head
  generalize ((o, _) :: _ : St) = S9 at L9 g9 ⊢
  replace g7 := L9 _ _ (L8 _ _ g7)
  replace g6 := L9 _ _ (L8 _ _ (L7 _ _ g6))
  replace g5 := L9 _ _ (L8 _ _ (L7 _ _ (L6 _ _ g5)))
  replace g4 := L9 _ _ (L8 _ _ (L7 _ _ (L6 _ _ (L5 _ _ g4))))
  replace g3 := L9 _ _ (L8 _ _ (L7 _ _ (L6 _ _ (L5 _ _ (L4 _ _ g3)))))
  replace g1 := L9 _ _ (L8 _ _ (L7 _ _ (L6 _ _ (L5 _ _ (L4 _ _ (L3 _ _ (L2 _ _ g1)))))))
  k_ownIn
  refine WPS.cons ?_
  k_ownIn
  refine s_cell_at hK (by decide) hl ?_
  k_ownIn
  refine W2.modI (by decide) ?_
  have hm := fmod_lt (a := cellV ns 2) (b := 17) (by decide)
  generalize (cellV ns 2).fmod 17 = j at hm
  obtain ⟨v, hv⟩ : ∃ v, ((([.none, .str "keep", .tup [], .tup [.str "keep", .int 1], .ref a1, .tup [.str "go"], .tup [.str "go", .bool true], .tup [.str "take", .str "1"], .tup [.none, .int 1], .tup [.str "go", .int 1, .int 1]] ++ [.tup [.str "Take", .int 1], .int 5, .tup [.ref b1], .tup [.ref d1, .int 1], .tup [.str "take", .ref b2], .tup [.str "drop", .ref d2], .ref d3]) : List V))[j.toNat]? = some v := ⟨_, List.getElem?_eq_getElem (by simp; omega)⟩
  refine W2.subList g9 rfl (by simp) (seqIndex_pos hm.1 (by simp; omega)) hv ?_
  obtain ⟨T, ht, hs, hd⟩ : ∃ T, typV S9 v = some T ∧ (∀ vs, v = .tup vs → (vs.length < 1000 ∧ ∀ u ∈ vs, (typV S9 u).isSome = true)) ∧ deedB v = false := by
    have hmem := List.mem_of_getElem? hv
    simp only [List.cons_append, List.nil_append, List.mem_cons, List.not_mem_nil, or_false] at hmem
    rcases hmem with rfl | rfl | rfl | rfl | rfl | rfl | rfl | rfl | rfl | rfl | rfl | rfl | rfl | rfl | rfl | rfl | rfl <;> refine ⟨_, by first | rfl | (simp only [typV, g1, g7]; rfl), ?_, by first | decide +kernel | with_unfolding_all rfl⟩ <;> rintro vs ⟨⟩ <;> refine ⟨by simp, ?_⟩ <;> simp [typV, g3, g4, g5, g6]
  k_ownIn
  refine s_is_deed hK ht hs ?_
  rw [hd]
  k_ownIn
  rfl
end

section
variable {c : Cx} {k : Nat} {ρ : Loc} {st : St} {Q : V → St → Prop} {X : Xp}
theorem mul_len {x : Str} {n : Nat} (hx : x.length = 1) : (Txt.mul x (n : Int)).length = n := by
  have := len_mul x (n : Int)
  rw [hx] at this
  simp at this
  omega
theorem rest7 (hK : Kc c) (hq : c.q = true) {ns : List Int} {x : Str} {ρ₁ : Loc} (hl : ns.length < 1000) (hx : x.length ≤ 20) (hs : Sub [("_law_script", .scr ns), ("_law_text", .str x)] ρ₁) : WPS c 20 (LS c) ρ₁ st (LB c 7) TR X := by
  refine WPS.locs ?_ hs
  refine WPS.cons ?_
  k_ownIn
  refine W2.mulS (mulOk_of 1 300 (by decide +kernel) (by decide) (by decide) (by decide) (by decide)) ?_
  have e1 := mul_len (x := Str.ofString "7") (n := 300) (by decide +kernel)
  k_ownIn
  refine catB 3 300 (by decide +kernel) (Nat.le_of_eq e1) (by decide) fun y1 k1 => ?_
  k_ownIn
  refine W2.mulS (mulOk_of 1 3000 (by decide +kernel) (by decide) (by decide) (by decide) (by decide)) ?_
  have e2 := mul_len (x := Str.ofString "1") (n := 3000) (by decide +kernel)
  k_ownIn
  refine catB 5 3000 (by decide +kernel) (Nat.le_of_eq e2) (by decide) fun y2 k2 => ?_
  k_ownIn
  intro hf hhf
  k_ownIn
  refine WPS.cons ?_
  k_ownIn
  intro bl hbl
  k_ownIn
  refine W2.cat get_head ((Le.alloc hbl) _ _ get_head) rfl ?_
  intro b2 hb2
  k_ownIn
  refine s_number hK (by decide) (by decide) hl ?_
  k_ownIn
  refine W2.modI (by decide) ?_
  have hm := fmod_lt (a := numV ns 3) (b := 14) (by decide)
  generalize (numV ns 3).fmod 14 = j at hm
  obtain ⟨z, hz⟩ : ∃ z, (([" ", "\n", "  ", "\t", "keep 0", "go", "take", "drop", "go ", "take ", " 5", "5", y1, y2] : List Str))[j.toNat]? = some z := ⟨_, List.getElem?_eq_getElem (by simp; omega)⟩
  have hzs : ∀ z ∈ ([" ", "\n", "  ", "\t", "keep 0", "go", "take", "drop", "go ", "take ", " 5", "5", y1, y2] : List Str), z.length ≤ 9000 := by
    intro z hz
    simp only [List.mem_cons, List.not_mem_nil, or_false] at hz
    rcases hz with rfl | rfl | rfl | rfl | rfl | rfl | rfl | rfl | rfl | rfl | rfl | rfl | rfl | rfl <;> first | omega | decide +kernel
  refine W2.subList (vs := ([" ", "\n", "  ", "\t", "keep 0", "go", "take", "drop", "go ", "take ", " 5", "5", y1, y2] : List Str).map .str) get_head rfl (by simp) (seqIndex_pos hm.1 (by simp; omega)) (v := .str z) (by rw [List.getElem?_map, hz]; rfl) ?_
  have hzl := hzs z (List.mem_of_getElem? hz)
  k_ownIn
  refine WPS.cons ?_
  k_ownIn
  refine s_number hK (by decide) (by decide) hl ?_
  k_ownIn
  refine WL.le (s_spoilt (k := 10) hK hq hx ?_) (by omega)
  intro y st₁ hle₁ hy
  k_ownIn
  refine ⟨_, .tup, ?_⟩
  refine FOR.inv (fun i ρ₁ st₂ => Sub [("_law_script", .scr ns)] ρ₁) (.cons rfl .nil) ?_ ?_
  · rintro i u ρ₁ st₂ hu hsub
    obtain ⟨w, hw, rfl⟩ : ∃ w : Str, w.length ≤ 10000 ∧ u = .str w := by
      have hmem := List.mem_of_getElem? hu
      simp only [List.mem_cons, List.not_mem_nil, or_false] at hmem
      rcases hmem with rfl | rfl | rfl | rfl
      · exact ⟨_, by omega, rfl⟩
      · exact ⟨_, by omega, rfl⟩
      · exact ⟨_, by decide +kernel, rfl⟩
      · exact ⟨_, by omega, rfl⟩
    refine WPS.locs ?_ (ρ' := [("_law_script", .scr ns), ("_law_line", .str w)]) (.cons ?_ (.cons ?_ .nil))
    · refine s_line hK hq hw ?_
      intro ρ' st' hle hs'
      exact lp_next ⟨_, hs', .tup, .cons rfl .nil⟩
    · rw [getL_setL, if_neg (by decide)]; exact hsub _ _ rfl
    · rw [getL_setL, if_pos rfl]
  · rintro ρ₁ st₂ hsub
    k_ownIn
    exact WPS.locs (s_odd hK hq hl) hsub
end

section
variable {c : Cx} {k : Nat} {ρ : Loc} {st : St} {Q : V → St → Prop} {X : Xp}
theorem neB {b : Bool} (h : Q (.bool false) st) : W2 c k (compareOp .NotEq) (.bool b) (.bool b) ρ st Q X :=
  W2.ne (.bool b) (.bool b) rfl rfl (by cases b <;> exact h)
theorem num_len : ∀ n : Nat, n < 104 → (Str.ofString (toString ((n : Int) - 1))).length ≤ 4 := by decide +kernel
def twoT (w : Str) (n : Nat) : Str := (w ++ Str.ofString " ") ++ Str.ofString (toString ((n : Int) - 1))
theorem s_line_one (hK : Kc c) {w : Str} (h : Q (.str w) st) : CF c (k + 1) A_line_of [.tup [.str w]] ρ st Q X := by
  refine CallW.fn (Facts.fn_line_of hK) rfl ?_
  refine WPS.cons ?_
  k_ownIn
  refine WL.lenTup (by simp) ?_
  k_ownIn
  refine WPS.cons ?_
  k_ownIn
  exact h
theorem s_line_two (hK : Kc c) {w : Str} {n : Nat} (hn : n < 104) (hw : w.length ≤ 10) (h : Q (.str (twoT w n)) st) : CF c (k + 1) A_line_of [.tup [.str w, .int ((n : Int) - 1)]] ρ st Q X := by
  refine CallW.fn (Facts.fn_line_of hK) rfl ?_
  refine WPS.cons ?_
  k_ownIn
  refine WL.lenTup (by simp) ?_
  k_ownIn
  refine WPS.cons ?_
  k_ownIn
  refine W2.catS (by have : (Str.ofString " ").length = 1 := by decide +kernel
                     omega) ?_
  k_ownIn
  refine WL.strInt (by omega) ?_
  k_ownIn
  refine W2.catS (by have := num_len n hn
                     have : (Str.ofString " ").length = 1 := by decide +kernel
                     rw [Str.length_append]; omega) ?_
  k_ownIn
  exact h
theorem law_ok (hK : Kc c) (hq : c.q = true) {ns : List Int} (hl : ns.length < 1000) : WPS c 20 (S_law) [("_law_script", .scr ns)] [] B_law (fun fl _ _ => retV fl = .bool true) X := by
  refine WPS.cons ?_
  k_ownIn
  refine s_number hK (by decide) (by decide) hl ?_
  k_ownIn
  refine WL.le (s_law_deed (k := 10) hK ?_) (by omega)
  intro v st₁ hle hv
  k_ownIn
  refine WPS.cons ?_
  k_ownIn
  refine WL.le (s_good (k := 10) hK hv ?_) (by omega)
  k_ownIn
  refine WPS.cons ?_
  k_ownIn
  have ht : typV st₁ v = some "tuple" := by cases hv <;> rfl
  have hs : ∀ vs, v = .tup vs → (vs.length < 1000 ∧ ∀ u ∈ vs, (typV st₁ u).isSome = true) := by
    cases hv <;> rintro vs ⟨⟩ <;> refine ⟨by simp, ?_⟩ <;> simp [typV]
  refine WL.le (s_is_deed (k := 10) hK ht hs ?_) (by omega)
  k_ownIn
  refine WPS.cons ?_
  k_ownIn
  refine neB ?_
  k_ownIn
  cases hv with
  | one w hw =>
    have hd : deedB (.tup [.str w]) = true := by rcases hw with rfl | rfl <;> decide +kernel
    have hx : w.length ≤ 20 := by rcases hw with rfl | rfl <;> decide +kernel
    refine WPS.cons ?_
    k_ownIn
    refine WPS.cons ?_
    k_ownIn
    refine WL.lenTup (by simp) ?_
    k_ownIn
    refine WPS.cons ?_
    rw [hd]
    k_ownIn
    refine WL.le (s_line_one (k := 10) hK ?_) (by omega)
    k_ownIn
    rw [show (w != w) = false by simp]
    k_ownIn
    exact rest7 (x := w) hK hq hl hx (.cons rfl (.cons rfl .nil))
  | two w n hw hn =>
    have hx : w.length ≤ 10 := by rcases hw with rfl | rfl | rfl <;> decide +kernel
    have h1 : (Str.ofString " ").length = 1 := by decide +kernel
    have h4 := num_len n hn
    have hy : (twoT w n).length ≤ 20 := by unfold twoT; rw [Str.length_append, Str.length_append]; omega
    refine WPS.cons ?_
    k_ownIn
    refine WPS.cons ?_
    k_ownIn
    refine WL.lenTup (by simp) ?_
    k_ownIn
    refine WPS.cons ?_
    k_ownIn
    refine W2.catS (by omega) ?_
    k_ownIn
    refine WL.strInt (by omega) ?_
    k_ownIn
    refine W2.catS (by rw [Str.length_append]; omega) ?_
    k_ownIn
    refine WPS.cons ?_
    generalize hgd : deedB (.tup [.str w, .int ((n : Int) - 1)]) = bd
    cases bd with
    | true =>
      k_ownIn
      refine WL.le (s_line_two (k := 10) hK hn hx ?_) (by omega)
      k_ownIn
      rw [show (twoT w n != (w ++ Str.ofString " ") ++ Str.ofString (toString ((n : Int) - 1))) = false by simp [twoT]]
      k_ownIn
      exact rest7 (x := twoT w n) hK hq hl hy (.cons rfl (.cons rfl .nil))
    | false =>
      k_ownIn
      exact rest7 (x := twoT w n) hK hq hl hy (.cons rfl (.cons rfl .nil))
end

end Mine
def Mine.top.tw16900427199656544559 : Unit := ()
def Mine.top.tw18186074749648716422 : Unit := ()
def Mine.top.tw15569959144833144457 : Unit := ()
def Mine.top.tw14372152842798730730 : Unit := ()
def Mine.top.tw12094960947251128927 : Unit := ()
def Mine.top.tw6059260229226308591 : Unit := ()
def Mine.top.tw13501252493785611398 : Unit := ()
def Mine.top.tw4498253355057717688 : Unit := ()
def Mine.top.tw16541100652227675460 : Unit := ()
def Mine.top.tw16713831800681072344 : Unit := ()
def Mine.top.tw8443935842833279946 : Unit := ()
def Mine.top.tw13272337422414781067 : Unit := ()
def Mine.top.tw14871320189489406401 : Unit := ()
def Mine.top.tw16082718784150747160 : Unit := ()
def Mine.top.tw2243170655852947205 : Unit := ()
def Mine.top.tw18064794426631996164 : Unit := ()
def Mine.top.tw1275901062530889299 : Unit := ()
def Mine.top.tw1483126911874232274 : Unit := ()
def Mine.top.tw2812155379371279736 : Unit := ()
def Mine.top.tw11470252648414753811 : Unit := ()
def Mine.top.tw23087011456773342 : Unit := ()
def Mine.top.tw7458633546980236471 : Unit := ()
def Mine.top.tw620129878449983639 : Unit := ()
def Mine.top.tw12535971307161669396 : Unit := ()
def Mine.top.tw16123964013534891561 : Unit := ()
def Mine.top.tw16273406610938067001 : Unit := ()
def Mine.top.tw2834867161891130308 : Unit := ()
def Mine.top.tw14597223018079223185 : Unit := ()
def Mine.top.tw6333448901615975916 : Unit := ()
def Mine.top.tw11624971203582042403 : Unit := ()
def Mine.top.tw11219769389204665010 : Unit := ()
def Mine.top.tw1676862907878916244 : Unit := ()
def Mine.top.tw968817249337777631 : Unit := ()
def Mine.top.tw1149218181149386328 : Unit := ()
def Mine.top.tw9378254376102152143 : Unit := ()
def Mine.top.tw2462062305354472974 : Unit := ()
def Mine.top.tw16598799759364053327 : Unit := ()
def Mine.top.tw4299629679881509495 : Unit := ()
def Mine.top.tw3561193834555079511 : Unit := ()
def Mine.top.tw9063741608606530840 : Unit := ()
def Mine.top.tw6127594578889010139 : Unit := ()
def Mine.top.tw16044733080236030384 : Unit := ()
def Mine.top.tw16580785732701462914 : Unit := ()
def Mine.top.tw6919701780365589675 : Unit := ()
def Mine.top.tw9382581127745807760 : Unit := ()
def Mine.top.tw15988258018655671626 : Unit := ()
def Mine.top.tw5998756626017361800 : Unit := ()
def Mine.top.tw6189045185395380447 : Unit := ()
set_option Elab.async true in
set_option maxHeartbeats 8000000 in
theorem Mine.top : PySem.Challenge.rw_uf040029_03.Holds := by
  w_on; o_law; k_head; (case hw => w_witness2)
  intro w s₀ s₁ mg mb G Y fa o pm cd doc dV kV ho hd' hcd hD hmg hg args vals as hpre hlay hrd hwl hlo
  have KX := kIn_of Y
  have T := G.T
  refine Mine.useK KX ?_ (fun kf => ?_)
  · exact {
      fn_between := ⟨⟨_, _, rfl, rfl, rfl, rfl, rfl, rfl, rfl, rfl, fun xs h => by obtain ⟨x0, ys0, e0, h0⟩ := Mine.len1 h; subst e0; obtain ⟨x1, ys1, e1, h1⟩ := Mine.len1 h0; subst e1; obtain ⟨x2, ys2, e2, h2⟩ := Mine.len1 h1; subst e2; have e := Mine.len0 h2; subst e; rfl⟩, by rfl, rfl, rfl, rfl, by decide⟩
      g_between := rfl
      k_between := rfl
      fn_is_deed := ⟨⟨_, _, rfl, rfl, rfl, rfl, rfl, rfl, rfl, rfl, fun xs h => by obtain ⟨x0, ys0, e0, h0⟩ := Mine.len1 h; subst e0; have e := Mine.len0 h0; subst e; rfl⟩, by rfl, rfl, rfl, rfl, by decide⟩
      g_is_deed := rfl
      k_is_deed := rfl
      fn_line_of := ⟨⟨_, _, rfl, rfl, rfl, rfl, rfl, rfl, rfl, rfl, fun xs h => by obtain ⟨x0, ys0, e0, h0⟩ := Mine.len1 h; subst e0; have e := Mine.len0 h0; subst e; rfl⟩, by rfl, rfl, rfl, rfl, by decide⟩
      g_line_of := rfl
      k_line_of := rfl
      fn_number_in := ⟨⟨_, _, rfl, rfl, rfl, rfl, rfl, rfl, rfl, rfl, fun xs h => by obtain ⟨x0, ys0, e0, h0⟩ := Mine.len1 h; subst e0; have e := Mine.len0 h0; subst e; rfl⟩, by rfl, rfl, rfl, rfl, by decide⟩
      g_number_in := rfl
      k_number_in := rfl
      fn_deed_of := ⟨⟨_, _, rfl, rfl, rfl, rfl, rfl, rfl, rfl, rfl, fun xs h => by obtain ⟨x0, ys0, e0, h0⟩ := Mine.len1 h; subst e0; have e := Mine.len0 h0; subst e; rfl⟩, by rfl, rfl, rfl, rfl, by decide⟩
      g_deed_of := rfl
      k_deed_of := rfl
      fn_law_cell_at := ⟨⟨_, _, rfl, rfl, rfl, rfl, rfl, rfl, rfl, rfl, fun xs h => by obtain ⟨x0, ys0, e0, h0⟩ := Mine.len1 h; subst e0; obtain ⟨x1, ys1, e1, h1⟩ := Mine.len1 h0; subst e1; have e := Mine.len0 h1; subst e; rfl⟩, by rfl, rfl, rfl, rfl, by decide⟩
      g_law_cell_at := rfl
      k_law_cell_at := rfl
      fn_law_number := ⟨⟨_, _, rfl, rfl, rfl, rfl, rfl, rfl, rfl, rfl, fun xs h => by obtain ⟨x0, ys0, e0, h0⟩ := Mine.len1 h; subst e0; obtain ⟨x1, ys1, e1, h1⟩ := Mine.len1 h0; subst e1; have e := Mine.len0 h1; subst e; rfl⟩, by rfl, rfl, rfl, rfl, by decide⟩
      g_law_number := rfl
      k_law_number := rfl
      fn_law_whole := ⟨⟨_, _, rfl, rfl, rfl, rfl, rfl, rfl, rfl, rfl, fun xs h => by obtain ⟨x0, ys0, e0, h0⟩ := Mine.len1 h; subst e0; have e := Mine.len0 h0; subst e; rfl⟩, by rfl, rfl, rfl, rfl, by decide⟩
      g_law_whole := rfl
      k_law_whole := rfl
      fn_law_class := ⟨⟨_, _, rfl, rfl, rfl, rfl, rfl, rfl, rfl, rfl, fun xs h => by obtain ⟨x0, ys0, e0, h0⟩ := Mine.len1 h; subst e0; have e := Mine.len0 h0; subst e; rfl⟩, by rfl, rfl, rfl, rfl, by decide⟩
      g_law_class := rfl
      k_law_class := rfl
      fn_law_deed := ⟨⟨_, _, rfl, rfl, rfl, rfl, rfl, rfl, rfl, rfl, fun xs h => by obtain ⟨x0, ys0, e0, h0⟩ := Mine.len1 h; subst e0; have e := Mine.len0 h0; subst e; rfl⟩, by rfl, rfl, rfl, rfl, by decide⟩
      g_law_deed := rfl
      k_law_deed := rfl
      fn_law_good := ⟨⟨_, _, rfl, rfl, rfl, rfl, rfl, rfl, rfl, rfl, fun xs h => by obtain ⟨x0, ys0, e0, h0⟩ := Mine.len1 h; subst e0; have e := Mine.len0 h0; subst e; rfl⟩, by rfl, rfl, rfl, rfl, by decide⟩
      g_law_good := rfl
      k_law_good := rfl
      fn_law_read := ⟨⟨_, _, rfl, rfl, rfl, rfl, rfl, rfl, rfl, rfl, fun xs h => by obtain ⟨x0, ys0, e0, h0⟩ := Mine.len1 h; subst e0; have e := Mine.len0 h0; subst e; rfl⟩, by rfl, rfl, rfl, rfl, by decide⟩
      g_law_read := rfl
      k_law_read := rfl
      fn_law_told := ⟨⟨_, _, rfl, rfl, rfl, rfl, rfl, rfl, rfl, rfl, fun xs h => by obtain ⟨x0, ys0, e0, h0⟩ := Mine.len1 h; subst e0; have e := Mine.len0 h0; subst e; rfl⟩, by rfl, rfl, rfl, rfl, by decide⟩
      g_law_told := rfl
      k_law_told := rfl
      fn_law_spoilt := ⟨⟨_, _, rfl, rfl, rfl, rfl, rfl, rfl, rfl, rfl, fun xs h => by obtain ⟨x0, ys0, e0, h0⟩ := Mine.len1 h; subst e0; obtain ⟨x1, ys1, e1, h1⟩ := Mine.len1 h0; subst e1; have e := Mine.len0 h1; subst e; rfl⟩, by rfl, rfl, rfl, rfl, by decide⟩
      g_law_spoilt := rfl
      k_law_spoilt := rfl
      fn_law := ⟨⟨_, _, rfl, rfl, rfl, rfl, rfl, rfl, rfl, rfl, fun xs h => by obtain ⟨x0, ys0, e0, h0⟩ := Mine.len1 h; subst e0; have e := Mine.len0 h0; subst e; rfl⟩, by rfl, rfl, rfl, rfl, by decide⟩
      g_law := rfl
      k_law := rfl
      g_MarkError := rfl
      k_MarkError := by kernel_rfl
      g_BadCount := rfl
      k_BadCount := by kernel_rfl
      g_BadRule := rfl
      k_BadRule := by kernel_rfl
      g_BadDeed := rfl
      k_BadDeed := by kernel_rfl
      g_Full := rfl
      k_Full := by kernel_rfl
      g_Twice := rfl
      k_Twice := by kernel_rfl
      g_NotKept := rfl
      k_NotKept := by kernel_rfl
      g_AtEnd := rfl
      k_AtEnd := by kernel_rfl
      g_NotWanted := rfl
      k_NotWanted := by kernel_rfl
      ex_BadCount := by kernel_rfl
      ek_BadCount := ⟨by kernel_rfl, by kernel_rfl, by kernel_rfl, by kernel_rfl, by kernel_rfl, by kernel_rfl, by kernel_rfl, by kernel_rfl⟩
      em_BadCount := by kernel_rfl
      kit_BadCount := ⟨by kernel_rfl, by kernel_rfl, by kernel_rfl, by kernel_rfl, by kernel_rfl, by kernel_rfl, by kernel_rfl, by kernel_rfl, by kernel_rfl⟩
      ex_BadRule := by kernel_rfl
      ek_BadRule := ⟨by kernel_rfl, by kernel_rfl, by kernel_rfl, by kernel_rfl, by kernel_rfl, by kernel_rfl, by kernel_rfl, by kernel_rfl⟩
      em_BadRule := by kernel_rfl
      kit_BadRule := ⟨by kernel_rfl, by kernel_rfl, by kernel_rfl, by kernel_rfl, by kernel_rfl, by kernel_rfl, by kernel_rfl, by kernel_rfl, by kernel_rfl⟩
      ex_BadDeed := by kernel_rfl
      ek_BadDeed := ⟨by kernel_rfl, by kernel_rfl, by kernel_rfl, by kernel_rfl, by kernel_rfl, by kernel_rfl, by kernel_rfl, by kernel_rfl⟩
      em_BadDeed := by kernel_rfl
      kit_BadDeed := ⟨by kernel_rfl, by kernel_rfl, by kernel_rfl, by kernel_rfl, by kernel_rfl, by kernel_rfl, by kernel_rfl, by kernel_rfl, by kernel_rfl⟩
      ex_Full := by kernel_rfl
      ek_Full := ⟨by kernel_rfl, by kernel_rfl, by kernel_rfl, by kernel_rfl, by kernel_rfl, by kernel_rfl, by kernel_rfl, by kernel_rfl⟩
      em_Full := by kernel_rfl
      kit_Full := ⟨by kernel_rfl, by kernel_rfl, by kernel_rfl, by kernel_rfl, by kernel_rfl, by kernel_rfl, by kernel_rfl, by kernel_rfl, by kernel_rfl⟩
      ex_Twice := by kernel_rfl
      ek_Twice := ⟨by kernel_rfl, by kernel_rfl, by kernel_rfl, by kernel_rfl, by kernel_rfl, by kernel_rfl, by kernel_rfl, by kernel_rfl⟩
      em_Twice := by kernel_rfl
      kit_Twice := ⟨by kernel_rfl, by kernel_rfl, by kernel_rfl, by kernel_rfl, by kernel_rfl, by kernel_rfl, by kernel_rfl, by kernel_rfl, by kernel_rfl⟩
      ex_NotKept := by kernel_rfl
      ek_NotKept := ⟨by kernel_rfl, by kernel_rfl, by kernel_rfl, by kernel_rfl, by kernel_rfl, by kernel_rfl, by kernel_rfl, by kernel_rfl⟩
      em_NotKept := by kernel_rfl
      kit_NotKept := ⟨by kernel_rfl, by kernel_rfl, by kernel_rfl, by kernel_rfl, by kernel_rfl, by kernel_rfl, by kernel_rfl, by kernel_rfl, by kernel_rfl⟩
      ex_AtEnd := by kernel_rfl
      ek_AtEnd := ⟨by kernel_rfl, by kernel_rfl, by kernel_rfl, by kernel_rfl, by kernel_rfl, by kernel_rfl, by kernel_rfl, by kernel_rfl⟩
      em_AtEnd := by kernel_rfl
      kit_AtEnd := ⟨by kernel_rfl, by kernel_rfl, by kernel_rfl, by kernel_rfl, by kernel_rfl, by kernel_rfl, by kernel_rfl, by kernel_rfl, by kernel_rfl⟩
      ex_NotWanted := by kernel_rfl
      ek_NotWanted := ⟨by kernel_rfl, by kernel_rfl, by kernel_rfl, by kernel_rfl, by kernel_rfl, by kernel_rfl, by kernel_rfl, by kernel_rfl⟩
      em_NotWanted := by kernel_rfl
      kit_NotWanted := ⟨by kernel_rfl, by kernel_rfl, by kernel_rfl, by kernel_rfl, by kernel_rfl, by kernel_rfl, by kernel_rfl, by kernel_rfl, by kernel_rfl⟩
      g_MOST := ⟨_, rfl⟩
      g_isinstance := rfl
      g_len := rfl
      g_int := rfl
      g_str := rfl
      g_tuple := rfl
      g_range := rfl
      g_bool := rfl
      g_ValueError := rfl}
  have e1 : mg "law" = some (.ref 228) := mg_of KX T.g kf.g_law
  have e2 : fa = 228 := by
    have := hmg
    rw [show mg _ = some (Value.ref 228) from e1] at this
    cases this; rfl
  subst e2
  clear ho hd' hcd hD hmg
  wrow_args hpre hlay hrd hwl hlo
  rename_i ns _ _ _ _ _ _ _ l vals _ hL _ _ _ hI _ hn _
  refine enter_call (codeAny_mono ?_ (fun _ _ g => GoodW.toG g))
  refine Mine.enterLaw (c := { prog := _, w := w, K := _, p := _, loose := _, mean := _, mg := mg, mb := mb, base := s₁.heap, s₀ := s₁, q := true }) (k := 20) kf.fn_law rfl rfl KX T (by decide) hL hI (by refine Mine.law_ok ?_ ?_ ?_; exact kf; rfl; omega) ?_
  intro L m h' tk F
  refine goodW_bool F hg (raisesW_false ?_) ?_
  · wrow_none_raised
  · wrow_post
theorem PySem.Challenge.cw_uf040029_03_holds : PySem.Challenge.rw_uf040029_03.Holds :=
  Mine.top
