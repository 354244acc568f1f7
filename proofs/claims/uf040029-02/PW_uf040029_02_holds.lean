import PyProof.Rows.All
import Wide.All
import OpenK.AllK
import Wide.FinOn
import PySem.Challenge.RW_uf040029_02
open PySem PySem.W PySem.Calls PySem.Spec PyProof.Rows
set_option Elab.async false
set_option maxRecDepth 100000
set_option linter.unusedVariables false
set_option linter.unusedSimpArgs false
set_option maxHeartbeats 1000000
namespace Mine
set_option genInjectivity false
set_option genSizeOfSpec false

abbrev Led := List (Addr × Obj)
abbrev tupObj (vals : List Value) (n : Nat) : Obj := { cls := .type "tuple", data := .seq vals.toArray n }
abbrev rngObj (a b c : Int) (t u v : Tok) : Obj := { cls := .type "range", dict := none, data := .fields #[.int a t, .int b u, .int c v], slots := #[] }

theorem len0 {α : Type} {xs : List α} (h : xs.length = 0) : xs = [] := List.length_eq_zero_iff.mp h
theorem len1 {α : Type} {xs : List α} {n : Nat} (h : xs.length = n + 1) : ∃ x ys, xs = x :: ys ∧ ys.length = n := by
  cases xs with
  | nil => cases h
  | cons x ys => exact ⟨x, ys, rfl, Nat.succ.inj h⟩
/-- abstract values -/
inductive V where
  | none
  | bool (b : Bool)
  | int (i : Int)
  | str (x : Str)
  | tup (vs : List V)
  | rng (a b c : Int)
  | ref (a : Addr)
  | stat (v : Value)
  | scr (ns : List Int)

/-- abstract objects -/
inductive O where
  | list (vs : List V)
  | dictI (kvs : List (Int × V))
  | dictS (kvs : List (Str × V))
  | inst (C d : Addr)
  | exc (C : Addr)
  | attr (fs : List (Str × V))

abbrev St := List (Addr × O)
abbrev Loc := List (Str × V)
def setL : Loc → Str → V → Loc
  | [], x, v => [(x, v)]
  | (y, u) :: r, x, v => if y = x then (x, v) :: r else (y, u) :: setL r x v
def getL : Loc → Str → Option V
  | [], _ => none
  | (y, u) :: r, x => if y = x then some u else getL r x
theorem getL_nil (x : Str) : getL [] x = none := rfl
theorem getL_cons (y : Str) (u : V) (r : Loc) (x : Str) : getL ((y, u) :: r) x = if y = x then some u else getL r x := rfl
theorem getL_setL (ρ : Loc) (x : Str) (v : V) (y : Str) : getL (setL ρ x v) y = if y = x then some v else getL ρ y := by
  induction ρ with
  | nil => rw [setL, getL_cons, getL_nil]; by_cases h : y = x
           · subst h; simp
           · have : ¬ x = y := fun e => h e.symm
             simp [h, this]
  | cons p r ih =>
    obtain ⟨z, u⟩ := p
    rw [setL]
    by_cases hz : z = x
    · subst hz
      rw [if_pos rfl, getL_cons, getL_cons]
      by_cases h : z = y
      · subst h; simp
      · have : ¬ y = z := fun e => h e.symm
        simp [h, this]
    · rw [if_neg hz, getL_cons, ih, getL_cons]
      by_cases h : z = y
      · subst h; simp [hz]
      · simp [h]

/-- the whole, unchanging -/
structure Cx where
  prog : Program
  w : World
  K : Frag
  p : Program
  loose : List Str
  mean : ExcName → Option Value
  mg : Str → Option Value
  mb : Str → Option Value
  base : Heap
  s₀ : Shared
  q : Bool

abbrev Cx.M (c : Cx) : Model := model c.prog c.w

mutual
inductive RV (base : Heap) (imm : Led) : V → Value → Prop
  | none : RV base imm .none .none
  | bool (b : Bool) : RV base imm (.bool b) (.bool b)
  | int (i : Int) (t : Tok) : RV base imm (.int i) (.int i t)
  | str (x : Str) (t : Tok) : RV base imm (.str x) (.str x t)
  | tup {a : Addr} {vals : List Value} {n : Nat} {vs : List V} : (a, tupObj vals n) ∈ imm → RVs base imm vs vals → RV base imm (.tup vs) (.ref a)
  | rng {r : Addr} {a b c : Int} {t u v : Tok} : (r, rngObj a b c t u v) ∈ imm → RV base imm (.rng a b c) (.ref r)
  | ref (a : Addr) : RV base imm (.ref a) (.ref a)
  | stat (v : Value) : RV base imm (.stat v) v
  | scr {a : Addr} {vals : List Value} {ns : List Int} : base.IsList a vals.toArray → IntsAre vals ns → RV base imm (.scr ns) (.ref a)
inductive RVs (base : Heap) (imm : Led) : List V → List Value → Prop
  | nil : RVs base imm [] []
  | cons {v : V} {vs : List V} {x : Value} {xs : List Value} : RV base imm v x → RVs base imm vs xs → RVs base imm (v :: vs) (x :: xs)
end

theorem RV.mono {base : Heap} {imm imm' : Led} (hs : ∀ p ∈ imm, p ∈ imm') {v : V} {x : Value} (h : RV base imm v x) : RV base imm' v x :=
  RV.rec (motive_1 := fun v x _ => RV base imm' v x) (motive_2 := fun vs xs _ => RVs base imm' vs xs) .none .bool .int .str (fun hm _ ih => .tup (hs _ hm) ih) (fun hm => .rng (hs _ hm)) .ref .stat (fun h i => .scr h i) .nil (fun _ _ a b => .cons a b) h
theorem RVs.mono {base : Heap} {imm imm' : Led} (hs : ∀ p ∈ imm, p ∈ imm') {v : List V} {x : List Value} (h : RVs base imm v x) : RVs base imm' v x := by
  induction v generalizing x with
  | nil => cases h; exact .nil
  | cons a v ih => cases h with | cons p q => exact .cons (p.mono hs) (ih q)

section
variable {base : Heap} {imm : Led} {vs ws : List V} {xs ys : List Value} {v : V} {x : Value}
theorem RVs.length (h : RVs base imm vs xs) : xs.length = vs.length := by
  induction vs generalizing xs with
  | nil => cases h; rfl
  | cons v vs ih => cases h with | cons _ r => simp [ih r]
theorem RVs.append (h : RVs base imm vs xs) (k : RVs base imm ws ys) : RVs base imm (vs ++ ws) (xs ++ ys) := by
  induction vs generalizing xs with
  | nil => cases h; exact k
  | cons v vs ih => cases h with | cons a r => exact .cons a (ih r)
theorem RVs.get (h : RVs base imm vs xs) {i : Nat} {v : V} (hi : vs[i]? = some v) : ∃ x, xs[i]? = some x ∧ RV base imm v x := by
  induction vs generalizing xs i with
  | nil => simp at hi
  | cons w vs ih => cases h with
    | cons a r => cases i with
      | zero => simp at hi; subst hi; exact ⟨_, by simp, a⟩
      | succ i => simpa using ih r (by simpa using hi)
theorem RVs.get' (h : RVs base imm vs xs) {i : Nat} {x : Value} (hi : xs[i]? = some x) : ∃ v, vs[i]? = some v ∧ RV base imm v x := by
  induction vs generalizing xs i with
  | nil => cases h; simp at hi
  | cons w vs ih => cases h with
    | cons a r => cases i with
      | zero => simp at hi; subst hi; exact ⟨_, by simp, a⟩
      | succ i => simpa using ih r (by simpa using hi)
theorem RVs.one (h : RV base imm v x) : RVs base imm [v] [x] := .cons h .nil
end

theorem RVs.inv1 {base : Heap} {imm : Led} {v : V} {xs : List Value} (h : RVs base imm [v] xs) : ∃ x, xs = [x] ∧ RV base imm v x := by
  cases h with | cons a r => cases r; exact ⟨_, rfl, a⟩
theorem RVs.inv2 {base : Heap} {imm : Led} {v w : V} {xs : List Value} (h : RVs base imm [v, w] xs) : ∃ x y, xs = [x, y] ∧ RV base imm v x ∧ RV base imm w y := by
  cases h with | cons a r => obtain ⟨y, rfl, b⟩ := r.inv1; exact ⟨_, y, rfl, a, b⟩
theorem RV.refI {base : Heap} {imm : Led} {a : Addr} {x : Value} (h : RV base imm (.ref a) x) : x = .ref a := by cases h; rfl
theorem RV.intI {base : Heap} {imm : Led} {i : Int} {x : Value} (h : RV base imm (.int i) x) : ∃ t, x = .int i t := by cases h; exact ⟨_, rfl⟩
theorem RV.strI {base : Heap} {imm : Led} {i : Str} {x : Value} (h : RV base imm (.str i) x) : ∃ t, x = .str i t := by cases h; exact ⟨_, rfl⟩
theorem RV.boolI {base : Heap} {imm : Led} {i : Bool} {x : Value} (h : RV base imm (.bool i) x) : x = .bool i := by cases h; rfl
theorem RV.noneI {base : Heap} {imm : Led} {x : Value} (h : RV base imm .none x) : x = .none := by cases h; rfl
theorem RV.tupI {base : Heap} {imm : Led} {vs : List V} {x : Value} (h : RV base imm (.tup vs) x) : ∃ a vals n, x = .ref a ∧ (a, tupObj vals n) ∈ imm ∧ RVs base imm vs vals := by cases h with | tup hm r => exact ⟨_, _, _, rfl, hm, r⟩
theorem RV.scrI {base : Heap} {imm : Led} {ns : List Int} {x : Value} (h : RV base imm (.scr ns) x) : ∃ a vals, x = .ref a ∧ base.IsList a vals.toArray ∧ IntsAre vals ns := by cases h with | scr hm r => exact ⟨_, _, rfl, hm, r⟩
theorem RV.statI {base : Heap} {imm : Led} {v x : Value} (h : RV base imm (.stat v) x) : x = v := by cases h; rfl

/-- values under keys -/
inductive RKs (base : Heap) (imm : Led) {α : Type} : List (α × V) → List (α × Value) → Prop
  | nil : RKs base imm [] []
  | cons {k : α} {v : V} {x : Value} {l : List (α × V)} {r : List (α × Value)} : RV base imm v x → RKs base imm l r → RKs base imm ((k, v) :: l) ((k, x) :: r)
theorem RKs.mono {base : Heap} {imm imm' : Led} (hs : ∀ p ∈ imm, p ∈ imm') {α : Type} {l : List (α × V)} {r : List (α × Value)} (h : RKs base imm l r) : RKs base imm' l r := by
  induction h with
  | nil => exact .nil
  | cons a _ ih => exact .cons (a.mono hs) ih

/-- a dict whose keys are of one kind -/
def IsDict {α : Type} [DecidableEq α] {prog : Program} {w : World} (knd : KeyKind prog w α) (o : Obj) (kvs : List (α × Value)) : Prop :=
  o.ExactDict ∧ ∃ es ep, o.data = .dict es ep ∧ KeysOf knd es ∧ Pairs knd es.toList kvs ∧ (kvs.map (·.1)).Nodup

/-- the names of a made thing, and what they mean -/
inductive AtR (base : Heap) (imm : Led) : List (Str × V) → List DictEntry → Prop
  | nil : AtR base imm [] []
  | cons {x : Str} {v : V} {t : Tok} {hsh : Int} {val : Value} {fs : List (Str × V)} {es : List DictEntry} : RV base imm v val → AtR base imm fs es → AtR base imm ((x, v) :: fs) (⟨hsh, .str x t, val⟩ :: es)
theorem AtR.mono {base : Heap} {imm imm' : Led} (hs : ∀ p ∈ imm, p ∈ imm') {l : List (Str × V)} {r : List DictEntry} (h : AtR base imm l r) : AtR base imm' l r := by
  induction h with
  | nil => exact .nil
  | cons a _ ih => exact .cons (a.mono hs) ih
/-- an abstract object and the concrete one -/
inductive RO (c : Cx) (imm : Led) : O → Obj → Prop
  | list {vs : List V} {vals : List Value} {n : Nat} : RVs c.base imm vs vals → RO c imm (.list vs) (listOf vals.toArray n)
  | dictI {kvs : List (Int × V)} {kvals : List (Int × Value)} {o : Obj} : RKs c.base imm kvs kvals → IsDict (intKind c.prog c.w) o kvals → RO c imm (.dictI kvs) o
  | dictS {kvs : List (Str × V)} {kvals : List (Str × Value)} {o : Obj} : RKs c.base imm kvs kvals → IsDict (strKind c.prog c.w) o kvals → RO c imm (.dictS kvs) o
  | inst (C d : Addr) : RO c imm (.inst C d) (instObj C d)
  | exc {C : Addr} {o : Obj} : o.cls = .ref C → (∃ vs, o.data = .fields vs) → RO c imm (.exc C) o
  | attr {fs : List (Str × V)} {es : List DictEntry} {n : Nat} : AtR c.base imm fs es → RO c imm (.attr fs) (dictOf es n)
theorem RO.mono {c : Cx} {imm imm' : Led} (hs : ∀ p ∈ imm, p ∈ imm') {o : O} {co : Obj} (h : RO c imm o co) : RO c imm' o co := by
  cases h with
  | list r => exact .list (r.mono hs)
  | dictI r d => exact .dictI (r.mono hs) d
  | dictS r d => exact .dictS (r.mono hs) d
  | inst C d => exact .inst C d
  | exc a b => exact .exc a b
  | attr a => exact .attr (a.mono hs)

theorem RO.listI {c : Cx} {imm : Led} {vs : List V} {o : Obj} (h : RO c imm (.list vs) o) : ∃ vals n, RVs c.base imm vs vals ∧ o = listOf vals.toArray n := by
  cases h with | list r => exact ⟨_, _, r, rfl⟩
inductive StR (c : Cx) (imm : Led) : St → Led → Prop
  | nil : StR c imm [] []
  | cons {a : Addr} {o : O} {co : Obj} {st : St} {mt : Led} : RO c imm o co → StR c imm st mt → StR c imm ((a, o) :: st) ((a, co) :: mt)
theorem StR.mono {c : Cx} {imm imm' : Led} (hs : ∀ p ∈ imm, p ∈ imm') {st : St} {mt : Led} (h : StR c imm st mt) : StR c imm' st mt := by
  induction h with
  | nil => exact .nil
  | cons a _ ih => exact .cons (a.mono hs) ih
def get (st : St) (a : Addr) : Option O := st.lookup a
def upd (st : St) (a : Addr) (o : O) : St := st.map fun p => if p.1 = a then (a, o) else p

theorem StR.get {c : Cx} {imm : Led} {st : St} {mt : Led} (h : StR c imm st mt) {a : Addr} {o : O} (e : get st a = some o) : ∃ co, (a, co) ∈ mt ∧ RO c imm o co := by
  induction h with
  | nil => cases e
  | @cons b o' co st mt r _ ih =>
    unfold Mine.get at e ih
    rw [List.lookup_cons] at e
    split at e
    · rename_i q
      have q' : a = b := by simpa using q
      subst q'; cases e
      exact ⟨co, .head _, r⟩
    · obtain ⟨co', m, r'⟩ := ih e
      exact ⟨co', .tail _ m, r'⟩

/-- a frame -/
structure Fm where
  outer : List Env
  frs : List (Addr × (Str → Option Value))
  L : Addr
  fenv : Env
  env : Env
  A : Around
  cmp : Bool

/-- a dict that is a namespace -/
def NsObj (o : Obj) (m : Str → Option Value) : Prop := ∃ es ep, o.data = .dict es ep ∧ StrKeys es ∧ ∀ name, nsFind es name = m name

/-- the callers' frames -/
inductive FoR : List (Addr × (Str → Option Value)) → Led → Prop
  | nil : FoR [] []
  | cons {L : Addr} {m : Str → Option Value} {o : Obj} {fs : List (Addr × (Str → Option Value))} {fo : Led} : NsObj o m → FoR fs fo → FoR ((L, m) :: fs) ((L, o) :: fo)

/-- the frames' envs -/
def EnvOk (f : Fm) (e : Env) : Prop := e.scope.kind = .function ∧ ∃ L, e.frame = some L ∧ (L = f.L ∨ ∃ m, (L, m) ∈ f.frs)

structure Fm.Ok (c : Cx) (k : Nat) (f : Fm) : Prop where
  kin : c.K.In c.base
  top : Top c.p c.loose c.mean c.mg c.mb c.base
  envs : ∀ e ∈ f.fenv :: f.outer, EnvOk f e
  frames : f.A.frames = some (f.fenv :: f.outer)
  eframe : f.env.frame = f.fenv.frame
  ekind : f.env.scope.kind = .function
  eglob : f.env.globals = mainGlobals
  ebi : f.env.builtins = builtinsNs
  ecell : ∀ x, f.env.kindOf x = some .cell → ∃ cc, f.env.cells.lookup x = some cc
  hnd : c.q = true → f.A.handled = none
  depth : f.A.depth + k + 200 < recursionLimit
  units : f.A.units + 8 * k + 200 < cLine

/-- what a name reads -/
def ReadsName (f : Fm) (m : Str → Option Value) (cs fr : Led) (x : Str) (val : Value) : Prop :=
  (f.env.kindOf x = some .local ∧ f.env.locals = f.L ∧ m x = some val) ∨
  ((f.env.kindOf x = some .cell ∨ f.env.kindOf x = some .free) ∧ ∃ c o, f.env.cells.lookup x = some c ∧ (c, o) ∈ cs ++ fr ∧ o.data = .cell (some val))

structure LocR (base : Heap) (imm : Led) (f : Fm) (ρ : Loc) (m : Str → Option Value) (cs fr : Led) : Prop where
  reads : ∀ x v, getL ρ x = some v → ∃ val, RV base imm v val ∧ ReadsName f m cs fr x val
  cells : f.cmp = false → ∀ x c, f.env.cells.lookup x = some c → ∃ o v, (c, o) ∈ cs ∧ o.data = .cell v
  inj : f.cmp = false → ∀ x y c, f.env.cells.lookup x = some c → f.env.cells.lookup y = some c → x = y

theorem LocR.mono {base : Heap} {imm imm' : Led} {f : Fm} {ρ : Loc} {m : Str → Option Value} {cs fr : Led} (hs : ∀ p ∈ imm, p ∈ imm') (h : LocR base imm f ρ m cs fr) : LocR base imm' f ρ m cs fr :=
  ⟨fun x v e => let ⟨val, r, q⟩ := h.reads x v e; ⟨val, r.mono hs, q⟩, h.cells, h.inj⟩

abbrev whole (mt cs imm fr fo : Led) : Led := mt ++ (cs ++ (imm ++ (fr ++ fo)))

structure RelAt (c : Cx) (f : Fm) (ρ : Loc) (st : St) (imm fr : Led) (h : Heap) (m : Str → Option Value) (mt cs fo : Led) : Prop where
  frm : Fr c.base f.L h m
  news : News c.base f.L h (whole mt cs imm fr fo)
  nodup : ((whole mt cs imm fr fo).map (·.1)).Nodup
  sto : StR c imm st mt
  fos : FoR f.frs fo
  loc : LocR c.base imm f ρ m cs fr

def Rel (c : Cx) (f : Fm) (ρ : Loc) (st : St) (imm fr : Led) (s : Shared) : Prop :=
  (∃ h tk, s = { c.s₀ with heap := h, toks := tk }) ∧ ∃ m mt cs fo, RelAt c f ρ st imm fr s.heap m mt cs fo

section
variable {c : Cx} {f : Fm} {k : Nat} {ρ : Loc} {st : St} {imm fr : Led} {s : Shared} {h h' : Heap} {m : Str → Option Value} {mt cs fo : Led} {a : Addr} {o o' : Obj} {tk : Nat}

theorem RelAt.keeps (R : RelAt c f ρ st imm fr h m mt cs fo) (hk : ∀ b o, h.get? b = some o → h'.get? b = some o) : RelAt c f ρ st imm fr h' m mt cs fo :=
  ⟨R.frm.keeps hk, R.news.grown hk, R.nodup, R.sto, R.fos, R.loc⟩
theorem Rel.keeps (R : Rel c f ρ st imm fr s) (hk : ∀ b o, s.heap.get? b = some o → h'.get? b = some o) : Rel c f ρ st imm fr { s with heap := h', toks := tk } := by
  obtain ⟨⟨h0, tk0, rfl⟩, m, mt, cs, fo, r⟩ := R
  exact ⟨⟨h', tk, rfl⟩, m, mt, cs, fo, r.keeps hk⟩
theorem Rel.toks (R : Rel c f ρ st imm fr s) : Rel c f ρ st imm fr { s with toks := tk } := R.keeps (h' := s.heap) fun _ _ e => e
theorem RelAt.size (R : RelAt c f ρ st imm fr h m mt cs fo) : ∀ p ∈ whole mt cs imm fr fo, p.1 < h.objs.size := fun p hp => Heap.lt_size (R.news p hp).1
theorem RelAt.none (R : RelAt c f ρ st imm fr h m mt cs fo) : get st h.objs.size = none := by
  cases e : get st h.objs.size with
  | none => rfl
  | some o =>
    obtain ⟨co, hm, _⟩ := R.sto.get e
    exact absurd (R.size _ (List.mem_append_left _ hm)) (Nat.lt_irrefl _)

theorem newAt (F : Fr c.base f.L h m) (ho : o.isFreed = false) : (h.push o).get? h.objs.size = some o ∧ h.objs.size ≠ f.L ∧ c.base.get? h.objs.size = none := by
  refine ⟨Heap.get?_push_size _ ho, Nat.ne_of_gt F.ns.lt, ?_⟩
  cases hq : c.base.get? h.objs.size with
  | none => rfl
  | some o' => exact absurd (Heap.lt_size (F.keep _ _ hq)) (Nat.lt_irrefl _)

theorem nodup_ins {α β : Type} {l₁ l₂ : List (α × β)} {p : α × β} (h : ((l₁ ++ l₂).map (·.1)).Nodup) (hn : ∀ q ∈ l₁ ++ l₂, q.1 ≠ p.1) : ((l₁ ++ p :: l₂).map (·.1)).Nodup := by
  have e : ((l₁ ++ p :: l₂).map (·.1)).Perm ((p :: (l₁ ++ l₂)).map (·.1)) := List.Perm.map _ List.perm_middle
  refine e.nodup_iff.mpr ?_
  rw [List.map_cons, List.nodup_cons]
  refine ⟨fun hm => ?_, h⟩
  obtain ⟨q, hq, e⟩ := List.mem_map.mp hm
  exact hn q hq e

/-- one more object, anywhere in the ledger -/
theorem news_ins {l₁ l₂ : Led} (F : Fr c.base f.L h m) (N : News c.base f.L h (l₁ ++ l₂)) (nd : ((l₁ ++ l₂).map (·.1)).Nodup) (ho : o.isFreed = false) :
    News c.base f.L (h.push o) (l₁ ++ (h.objs.size, o) :: l₂) ∧ ((l₁ ++ (h.objs.size, o) :: l₂).map (·.1)).Nodup := by
  refine ⟨fun p hp => ?_, nodup_ins nd fun q hq => Nat.ne_of_lt (Heap.lt_size (N q hq).1)⟩
  have hp' : p = (h.objs.size, o) ∨ p ∈ l₁ ++ l₂ := by
    simp only [List.mem_append, List.mem_cons] at hp ⊢
    rcases hp with hp | hp | hp
    · exact .inr (.inl hp)
    · exact .inl hp
    · exact .inr (.inr hp)
  rcases hp' with rfl | hp'
  · exact newAt F ho
  · exact ⟨Heap.get?_push_of_some _ (N p hp').1, (N p hp').2⟩

theorem LocR.more {base : Heap} {p : Addr × Obj} (h : LocR base imm f ρ m cs fr) : LocR base imm f ρ m cs (p :: fr) := by
  refine ⟨fun x v e => ?_, h.cells, h.inj⟩
  obtain ⟨val, r, q⟩ := h.reads x v e
  refine ⟨val, r, ?_⟩
  rcases q with q | ⟨q1, c, o, q2, q3, q4⟩
  · exact .inl q
  · refine .inr ⟨q1, c, o, q2, ?_, q4⟩
    rcases List.mem_append.mp q3 with q3 | q3
    · exact List.mem_append_left _ q3
    · exact List.mem_append_right _ (.tail _ q3)
theorem LocR.other {base : Heap} {l₁ l₂ l₃ : Led} (h : LocR base imm f ρ m cs (l₁ ++ (a, o) :: l₂)) (hd : ∀ v, o.data ≠ .cell v) (hl : ∀ p, p ∈ l₁ ++ l₂ → p ∈ l₃) : LocR base imm f ρ m cs l₃ := by
  refine ⟨fun x v e => ?_, h.cells, h.inj⟩
  obtain ⟨val, r, q⟩ := h.reads x v e
  refine ⟨val, r, ?_⟩
  rcases q with q | ⟨q1, c, ob, q2, q3, q4⟩
  · exact .inl q
  · refine .inr ⟨q1, c, ob, q2, ?_, q4⟩
    rcases List.mem_append.mp q3 with q3 | q3
    · exact List.mem_append_left _ q3
    · refine List.mem_append_right _ (hl _ ?_)
      simp only [List.mem_append, List.mem_cons, Prod.mk.injEq] at q3 ⊢
      rcases q3 with q3 | ⟨_, q3⟩ | q3
      · exact .inl q3
      · exact absurd (q3 ▸ q4) (hd _)
      · exact .inr q3

theorem RelAt.pushImm (R : RelAt c f ρ st imm fr h m mt cs fo) (ho : o.isFreed = false) : RelAt c f ρ st ((h.objs.size, o) :: imm) fr (h.push o) m mt cs fo := by
  have hs : ∀ p ∈ imm, p ∈ (h.objs.size, o) :: imm := fun p hp => .tail _ hp
  have e : whole mt cs ((h.objs.size, o) :: imm) fr fo = (mt ++ cs) ++ (h.objs.size, o) :: (imm ++ (fr ++ fo)) := by simp
  have e' : whole mt cs imm fr fo = (mt ++ cs) ++ (imm ++ (fr ++ fo)) := by simp
  have z := news_ins R.frm (e' ▸ R.news) (e' ▸ R.nodup) ho
  exact ⟨R.frm.push _, e ▸ z.1, e ▸ z.2, R.sto.mono hs, R.fos, R.loc.mono hs⟩
theorem RelAt.pushSt (R : RelAt c f ρ st imm fr h m mt cs fo) {x : O} (ho : o.isFreed = false) (hr : RO c imm x o) : RelAt c f ρ ((h.objs.size, x) :: st) imm fr (h.push o) m ((h.objs.size, o) :: mt) cs fo := by
  have z := news_ins (l₁ := []) R.frm R.news R.nodup ho
  exact ⟨R.frm.push _, z.1, z.2, .cons hr R.sto, R.fos, R.loc⟩
theorem RelAt.pushFr (R : RelAt c f ρ st imm fr h m mt cs fo) (ho : o.isFreed = false) : RelAt c f ρ st imm ((h.objs.size, o) :: fr) (h.push o) m mt cs fo := by
  have e : whole mt cs imm ((h.objs.size, o) :: fr) fo = (mt ++ cs ++ imm) ++ (h.objs.size, o) :: (fr ++ fo) := by simp
  have e' : whole mt cs imm fr fo = (mt ++ cs ++ imm) ++ (fr ++ fo) := by simp
  have z := news_ins R.frm (e' ▸ R.news) (e' ▸ R.nodup) ho
  exact ⟨R.frm.push _, e ▸ z.1, e ▸ z.2, R.sto, R.fos, R.loc.more⟩

theorem Rel.pushImm (R : Rel c f ρ st imm fr s) (ho : o.isFreed = false := by rfl) : Rel c f ρ st ((s.heap.objs.size, o) :: imm) fr { s with heap := s.heap.push o, toks := tk } := by
  obtain ⟨⟨h0, tk0, rfl⟩, m, mt, cs, fo, r⟩ := R
  exact ⟨⟨_, tk, rfl⟩, m, mt, cs, fo, r.pushImm ho⟩
theorem Rel.pushSt (R : Rel c f ρ st imm fr s) {x : O} (hr : RO c imm x o) (ho : o.isFreed = false := by rfl) : Rel c f ρ ((s.heap.objs.size, x) :: st) imm fr { s with heap := s.heap.push o, toks := tk } := by
  obtain ⟨⟨h0, tk0, rfl⟩, m, mt, cs, fo, r⟩ := R
  exact ⟨⟨_, tk, rfl⟩, m, _, cs, fo, r.pushSt ho hr⟩
theorem Rel.pushFr (R : Rel c f ρ st imm fr s) (ho : o.isFreed = false := by rfl) : Rel c f ρ st imm ((s.heap.objs.size, o) :: fr) { s with heap := s.heap.push o, toks := tk } := by
  obtain ⟨⟨h0, tk0, rfl⟩, m, mt, cs, fo, r⟩ := R
  exact ⟨⟨_, tk, rfl⟩, m, mt, cs, fo, r.pushFr ho⟩
theorem Rel.none (R : Rel c f ρ st imm fr s) : get st s.heap.objs.size = none := by
  obtain ⟨_, m, mt, cs, fo, r⟩ := R
  exact r.none

theorem RelAt.get (R : RelAt c f ρ st imm fr h m mt cs fo) {x : O} (e : get st a = some x) : ∃ co, (a, co) ∈ mt ∧ RO c imm x co ∧ h.get? a = some co := by
  obtain ⟨co, hm, r⟩ := R.sto.get e
  exact ⟨co, hm, r, (R.news _ (List.mem_append_left _ hm)).1⟩
theorem StR.upd {imm : Led} {st : St} {mt : Led} (h : StR c imm st mt) {x : O} (hr : RO c imm x o) : StR c imm (upd st a x) (mt.map fun p => if p.1 = a then (a, o) else p) := by
  induction h with
  | nil => exact .nil
  | @cons b o' co st mt r _ ih =>
    simp only [Mine.upd, List.map_cons] at ih ⊢
    by_cases e : b = a
    · subst e; simp only [if_true]; exact .cons hr ih
    · simp only [if_neg e]; exact .cons r ih
theorem Fr.other (F : Fr c.base f.L h m) (hs : Heap.SameBut a h h') (hL : a ≠ f.L) (hn : c.base.get? a = none) : Fr c.base f.L h' m :=
  ⟨F.ns.sameBut hs (Ne.symm hL), fun b ob e => (hs.2 b (fun q => by rw [q, hn] at e; cases e)).trans (F.keep b ob e), F.above⟩
theorem RelAt.upd (R : RelAt c f ρ st imm fr h m mt cs fo) {x y : O} (e : Mine.get st a = some y) (hs : Heap.SameBut a h h') (ho : h'.get? a = some o) (hr : RO c imm x o) :
    RelAt c f ρ (upd st a x) imm fr h' m (mt.map fun p => if p.1 = a then (a, o) else p) cs fo := by
  obtain ⟨co, hm, _, hg⟩ := R.get e
  have hw := R.news _ (List.mem_append_left _ hm)
  have ne : ∀ p ∈ cs ++ (imm ++ (fr ++ fo)), p.1 ≠ a := fun p hp q => by
    have := R.nodup
    rw [List.map_append, List.nodup_append] at this
    exact this.2.2 a (List.mem_map_of_mem hm) p.1 (List.mem_map_of_mem hp) q.symm
  refine ⟨Fr.other R.frm hs hw.2.1 hw.2.2, ?_, ?_, R.sto.upd hr, R.fos, R.loc⟩
  · intro p hp
    rcases List.mem_append.mp hp with hp | hp
    · obtain ⟨q, hq, rfl⟩ := List.mem_map.mp hp
      by_cases e1 : q.1 = a
      · simp only [if_pos e1]; exact ⟨ho, hw.2⟩
      · simp only [if_neg e1]
        have z := R.news q (List.mem_append_left _ hq)
        exact ⟨(hs.2 _ e1).trans z.1, z.2⟩
    · have z := R.news p (List.mem_append_right _ hp)
      exact ⟨(hs.2 _ (ne p hp)).trans z.1, z.2⟩
  · have e1 : (mt.map fun p => if p.1 = a then (a, o) else p).map (·.1) = mt.map (·.1) := by
      rw [List.map_map]
      refine List.map_congr_left fun p _ => ?_
      simp only [Function.comp]
      split
      · rename_i q; exact q.symm
      · rfl
    have := R.nodup
    simp only [whole, List.map_append] at this ⊢
    rw [e1]; exact this
theorem Rel.upd (R : Rel c f ρ st imm fr s) {x y : O} (e : Mine.get st a = some y) (hs : Heap.SameBut a s.heap h') (ho : h'.get? a = some o) (hr : RO c imm x o) :
    Rel c f ρ (upd st a x) imm fr { s with heap := h', toks := tk } := by
  obtain ⟨⟨h0, tk0, rfl⟩, m, mt, cs, fo, r⟩ := R
  exact ⟨⟨_, tk, rfl⟩, m, _, cs, fo, r.upd e hs ho hr⟩
theorem Rel.get (R : Rel c f ρ st imm fr s) {x : O} (e : Mine.get st a = some x) : ∃ co, RO c imm x co ∧ s.heap.get? a = some co := by
  obtain ⟨_, m, mt, cs, fo, r⟩ := R
  obtain ⟨co, _, h1, h2⟩ := r.get e
  exact ⟨co, h1, h2⟩
theorem Rel.isList {vs : List V} (R : Rel c f ρ st imm fr s) (hg : Mine.get st a = some (.list vs)) : ∃ vals n, RVs c.base imm vs vals ∧ s.heap.get? a = some (listOf vals.toArray n) := by
  obtain ⟨co, hr, ho⟩ := R.get hg
  obtain ⟨vals, n, r, rfl⟩ := hr.listI
  exact ⟨vals, n, r, ho⟩
theorem Rel.inImm (R : Rel c f ρ st imm fr s) (hm : (a, o) ∈ imm) : s.heap.get? a = some o := by
  obtain ⟨_, m, mt, cs, fo, r⟩ := R
  exact (r.news (a, o) (by simp [hm])).1
theorem Rel.inFr (R : Rel c f ρ st imm fr s) (hm : (a, o) ∈ fr) : s.heap.get? a = some o := by
  obtain ⟨_, m, mt, cs, fo, r⟩ := R
  exact (r.news (a, o) (by simp [hm])).1
theorem Rel.keep (R : Rel c f ρ st imm fr s) : ∀ b o, c.base.get? b = some o → s.heap.get? b = some o := by
  obtain ⟨_, m, mt, cs, fo, r⟩ := R
  exact r.frm.keep
theorem Rel.kin (R : Rel c f ρ st imm fr s) (ok : f.Ok c k) : c.K.In s.heap := ok.kin.keeps R.keep
/-- one of the frame's own changes -/
theorem Rel.frSetAt (l₁ : Led) {l₂ : Led} (R : Rel c f ρ st imm (l₁ ++ (a, o) :: l₂) s) (hs : Heap.SameBut a s.heap h') (ho : h'.get? a = some o') (hd : ∀ v, o.data ≠ .cell v) : Rel c f ρ st imm (l₁ ++ (a, o') :: l₂) { s with heap := h', toks := tk } := by
  obtain ⟨⟨h0, tk0, rfl⟩, m, mt, cs, fo, r⟩ := R
  refine ⟨⟨_, tk, rfl⟩, m, mt, cs, fo, ?_⟩
  have hw := r.news (a, o) (by simp)
  have nd := r.nodup
  have e : whole mt cs imm (l₁ ++ (a, o) :: l₂) fo = (mt ++ cs ++ imm ++ l₁) ++ (a, o) :: (l₂ ++ fo) := by simp
  have e' : whole mt cs imm (l₁ ++ (a, o') :: l₂) fo = (mt ++ cs ++ imm ++ l₁) ++ (a, o') :: (l₂ ++ fo) := by simp
  rw [e] at nd
  have h1 : ∀ p ∈ mt ++ cs ++ imm ++ l₁, p.1 ≠ a := fun p hp q => by
    rw [List.map_append, List.nodup_append] at nd
    exact nd.2.2 p.1 (List.mem_map_of_mem hp) a (by simp) q
  have h2 : ∀ p ∈ l₂ ++ fo, p.1 ≠ a := fun p hp q => by
    rw [List.map_append, List.nodup_append, List.map_cons, List.nodup_cons] at nd
    exact nd.2.1.1 (List.mem_map.mpr ⟨p, hp, q⟩)
  refine ⟨Fr.other r.frm hs hw.2.1 hw.2.2, ?_, ?_, r.sto, r.fos, r.loc.other hd ?_⟩
  · rw [e']
    have := r.news
    rw [e] at this
    exact News.setAt this h1 h2 hs ho
  · rw [e']; simp only [List.map_append, List.map_cons] at nd ⊢; exact nd
  · intro p hp
    simp only [List.mem_append, List.mem_cons] at hp ⊢
    rcases hp with hp | hp
    · exact .inl hp
    · exact .inr (.inr hp)
theorem Rel.frSet (R : Rel c f ρ st imm ((a, o) :: fr) s) (hs : Heap.SameBut a s.heap h') (ho : h'.get? a = some o') (hd : ∀ v, o.data ≠ .cell v) : Rel c f ρ st imm ((a, o') :: fr) { s with heap := h', toks := tk } := Rel.frSetAt [] R hs ho hd
/-- one of the frame's own is forgotten; it may change at that -/
theorem Rel.frEndAt (l₁ : Led) {l₂ : Led} (R : Rel c f ρ st imm (l₁ ++ (a, o) :: l₂) s) (hs : Heap.ExtBut a s.heap h') (hd : ∀ v, o.data ≠ .cell v) : Rel c f ρ st imm (l₁ ++ l₂) { s with heap := h', toks := tk } := by
  obtain ⟨⟨h0, tk0, rfl⟩, m, mt, cs, fo, r⟩ := R
  have hw := r.news (a, o) (by simp)
  have nd := r.nodup
  have e : whole mt cs imm (l₁ ++ (a, o) :: l₂) fo = (mt ++ cs ++ imm ++ l₁) ++ (a, o) :: (l₂ ++ fo) := by simp
  have e' : whole mt cs imm (l₁ ++ l₂) fo = (mt ++ cs ++ imm ++ l₁) ++ (l₂ ++ fo) := by simp
  rw [e, List.map_append, List.nodup_append, List.map_cons, List.nodup_cons] at nd
  have ne : ∀ p ∈ whole mt cs imm (l₁ ++ l₂) fo, p.1 ≠ a := fun p hp q => by
    rw [e'] at hp
    rcases List.mem_append.mp hp with hp | hp
    · exact nd.2.2 p.1 (List.mem_map_of_mem hp) a (by simp) q
    · exact nd.2.1.1 (List.mem_map.mpr ⟨p, hp, q⟩)
  have sub : ∀ p ∈ whole mt cs imm (l₁ ++ l₂) fo, p ∈ whole mt cs imm (l₁ ++ (a, o) :: l₂) fo := fun p hp => by
    rw [e'] at hp
    rw [e]
    rcases List.mem_append.mp hp with hp | hp
    · exact List.mem_append_left _ hp
    · exact List.mem_append_right _ (.tail _ hp)
  refine ⟨⟨_, tk, rfl⟩, m, mt, cs, fo, ⟨r.frm.ns.at' fun ob q => hs _ _ (fun q' => hw.2.1 q'.symm) q, fun b ob q => hs b ob (fun q' => by rw [q', hw.2.2] at q; cases q) (r.frm.keep b ob q), r.frm.above⟩, fun p hp => ?_, ?_, r.sto, r.fos, r.loc.other hd fun p hp => hp⟩
  · have z := r.news p (sub p hp)
    exact ⟨hs _ _ (ne p hp) z.1, z.2⟩
  · rw [e', List.map_append, List.nodup_append]
    exact ⟨nd.1, nd.2.1.2, fun x hx y hy => nd.2.2 x hx y (.tail _ hy)⟩
theorem Rel.frEnd (R : Rel c f ρ st imm ((a, o) :: fr) s) (hs : Heap.ExtBut a s.heap h') (hd : ∀ v, o.data ≠ .cell v) : Rel c f ρ st imm fr { s with heap := h', toks := tk } := Rel.frEndAt [] R hs hd
/-- one of the frame's own becomes an object of the store -/
theorem Rel.frSt {x : O} (R : Rel c f ρ st imm ((a, o) :: fr) s) (hd : ∀ v, o.data ≠ .cell v) (hr : RO c imm x o) : Rel c f ρ ((a, x) :: st) imm fr s ∧ Mine.get st a = Option.none := by
  obtain ⟨hs, m, mt, cs, fo, r⟩ := R
  have e : whole mt cs imm ((a, o) :: fr) fo = (mt ++ cs ++ imm) ++ (a, o) :: (fr ++ fo) := by simp
  have perm : (whole ((a, o) :: mt) cs imm fr fo).Perm (whole mt cs imm ((a, o) :: fr) fo) := by
    rw [e, show whole ((a, o) :: mt) cs imm fr fo = (a, o) :: ((mt ++ cs ++ imm) ++ (fr ++ fo)) by simp]
    exact List.perm_middle.symm
  have nd := (perm.map (·.1)).nodup_iff.mpr r.nodup
  refine ⟨⟨hs, m, (a, o) :: mt, cs, fo, r.frm, fun p hp => r.news p (perm.mem_iff.mp hp), nd, .cons hr r.sto, r.fos, LocR.other (l₁ := []) r.loc hd fun p hp => hp⟩, ?_⟩
  cases q : Mine.get st a with
  | none => rfl
  | some y =>
    obtain ⟨co, hm, _⟩ := r.sto.get q
    rw [show whole ((a, o) :: mt) cs imm fr fo = (a, o) :: whole mt cs imm fr fo from rfl, List.map_cons, List.nodup_cons] at nd
    exact absurd (List.mem_map.mpr ⟨(a, co), List.mem_append_left _ hm, rfl⟩) nd.1
end

/-- an exception's own objects; its entry's flight mark -/
inductive ExcL (e C : Addr) : Option Value → Led → Prop
  | made {oe : Obj} {vs : Array Value} {a0 : Value} (h1 : oe.cls = .ref C) (h2 : oe.data = .fields vs) (h3 : vs[1]? = some .none) (h4 : vs[0]? = some a0) : ExcL e C none [(e, oe)]
  | traced {oe oT : Obj} {vs ts : Array Value} {a0 fl : Value} {T : Addr} (h1 : oe.cls = .ref C) (h2 : oe.data = .fields vs) (h3 : vs[1]? = some (.ref T)) (h4 : vs[0]? = some a0) (h5 : oT.data = .fields ts) (h6 : ts[3]? = some fl) : ExcL e C (some fl) [(e, oe), (T, oT)]
/-- how far it is -/
def MarkOk (f : Fm) (mk : Option Value) : Prop := mk = none ∨ mk = some .none ∨ ∃ L, f.fenv.frame = some L ∧ mk = some (rawInt L)
/-- what was thrown -/
def Thrown (c : Cx) (f : Fm) (imm fr : Led) (X : Addr → Loc → St → Prop) (ev : Value) (s : Shared) : Prop :=
  ∃ e C mk E ρ st imm', ev = .ref e ∧ ExcL e C mk E ∧ MarkOk f mk ∧ (∀ p ∈ imm, p ∈ imm') ∧ Rel c f ρ st imm' (E ++ fr) s ∧ X C ρ st
theorem Thrown.mono {c : Cx} {f : Fm} {imm imm' fr : Led} {X : Addr → Loc → St → Prop} {ev : Value} {s : Shared} (hs : ∀ p ∈ imm, p ∈ imm') (h : Thrown c f imm' fr X ev s) : Thrown c f imm fr X ev s :=
  by obtain ⟨e, C, mk, E, ρ, st, imm'', a, b, d, i, r⟩ := h; exact ⟨e, C, mk, E, ρ, st, imm'', a, b, d, fun p hp => i p (hs p hp), r⟩
theorem Thrown.never {c : Cx} {f : Fm} {imm fr : Led} {ev : Value} {s : Shared} (h : Thrown c f imm fr (fun _ _ _ => False) ev s) : False :=
  by obtain ⟨_, _, _, _, _, _, _, _, _, _, _, _, h⟩ := h; exact h

def PostE (c : Cx) (f : Fm) (ρ : Loc) (imm fr : Led) (Q : V → St → Prop) (val : Value) (s : Shared) : Prop :=
  ∃ v st imm', (∀ p ∈ imm, p ∈ imm') ∧ RV c.base imm' v val ∧ Rel c f ρ st imm' fr s ∧ Q v st
theorem PostE.mono {c : Cx} {f : Fm} {ρ : Loc} {imm imm' fr : Led} {Q : V → St → Prop} {val : Value} {s : Shared} (hs : ∀ p ∈ imm, p ∈ imm') (h : PostE c f ρ imm' fr Q val s) : PostE c f ρ imm fr Q val s :=
  let ⟨v, st, imm'', a, r⟩ := h; ⟨v, st, imm'', fun p hp => a p (hs p hp), r⟩

abbrev Xp := Addr → Loc → St → Prop

/-- an expression -/
structure WPE (c : Cx) (k : Nat) (sc : Scope) (ρ : Loc) (st : St) (e : Expr) (Q : V → St → Prop) (X : Xp) : Prop where
  go : ∀ f imm fr s, f.Ok c k → f.env.scope = sc → Rel c f ρ st imm fr s →
    wpAny c.M f.A (eval e f.env) (PostE c f ρ imm fr Q) (Thrown c f imm fr X) s

/-- one value in, one out -/
structure W1 (c : Cx) (k : Nat) (t : Value → Sem Value) (a : V) (ρ : Loc) (st : St) (Q : V → St → Prop) (X : Xp) : Prop where
  go : ∀ f imm fr s x, f.Ok c k → Rel c f ρ st imm fr s → RV c.base imm a x → wpAny c.M f.A (t x) (PostE c f ρ imm fr Q) (Thrown c f imm fr X) s
/-- two values in, one out -/
structure W2 (c : Cx) (k : Nat) (t : Value → Value → Sem Value) (a b : V) (ρ : Loc) (st : St) (Q : V → St → Prop) (X : Xp) : Prop where
  go : ∀ f imm fr s x y, f.Ok c k → Rel c f ρ st imm fr s → RV c.base imm a x → RV c.base imm b y → wpAny c.M f.A (t x y) (PostE c f ρ imm fr Q) (Thrown c f imm fr X) s
/-- some values in, one out -/
structure WL (c : Cx) (k : Nat) (t : List Value → Sem Value) (as : List V) (ρ : Loc) (st : St) (Q : V → St → Prop) (X : Xp) : Prop where
  go : ∀ f imm fr s xs, f.Ok c k → Rel c f ρ st imm fr s → RVs c.base imm as xs → wpAny c.M f.A (t xs) (PostE c f ρ imm fr Q) (Thrown c f imm fr X) s
end Mine
namespace Mine
/-- two ways, by a bool -/
def cnd (b : Bool) (p q : Prop) : Prop := match b with
  | true => p
  | false => q
theorem cnd_t {p q : Prop} (h : p) : cnd true p q := h
theorem cnd_f {p q : Prop} (h : q) : cnd false p q := h
theorem of_t {p q : Prop} (h : cnd true p q) : p := h
theorem of_f {p q : Prop} (h : cnd false p q) : q := h
theorem cnd_is {b : Bool} {p q : Prop} (b' : Bool) (e : b = b') (h : cnd b' p q) : cnd b p q := e ▸ h
theorem cnd_cases {b : Bool} {p q : Prop} (h1 : b = true → p) (h2 : b = false → q) : cnd b p q := by
  cases b with
  | true => exact h1 rfl
  | false => exact h2 rfl

section
variable {c : Cx} {k : Nat} {sc : Scope} {ρ : Loc} {st : St} {Q : V → St → Prop} {X : Xp} {f : Fm} {imm fr : Led} {s : Shared} {tk : Nat}

theorem PostE.of {v : V} {x : Value} (hr : RV c.base imm v x) (R : Rel c f ρ st imm fr s) (h : Q v st) : PostE c f ρ imm fr Q x s := ⟨v, st, imm, fun _ h => h, hr, R, h⟩
theorem PostE.int {i : Int} {t : Tok} (R : Rel c f ρ st imm fr s) (h : Q (.int i) st) : PostE c f ρ imm fr Q (.int i t) { s with toks := tk } := .of (.int i t) R.toks h
theorem PostE.bool {b : Bool} (R : Rel c f ρ st imm fr s) (h : Q (.bool b) st) : PostE c f ρ imm fr Q (.bool b) s := .of (.bool b) R h
theorem PostE.none (R : Rel c f ρ st imm fr s) (h : Q .none st) : PostE c f ρ imm fr Q .none s := .of .none R h
theorem PostE.str {x : Str} {t : Tok} (R : Rel c f ρ st imm fr s) (h : Q (.str x) st) : PostE c f ρ imm fr Q (.str x t) { s with toks := tk } := .of (.str x t) R.toks h

theorem Rel.ns (R : Rel c f ρ st imm fr s) : ∃ m, Fr c.base f.L s.heap m := by
  obtain ⟨_, m, mt, cs, fo, r⟩ := R; exact ⟨m, r.frm⟩

/-- a name of the frame's -/
theorem WPE.nm {x : Str} {pos : Pos} {v : V} (e : getL ρ x = some v) (h : Q v st) (hd : (x == ("__debug__" : Str)) = false := by decide) (hn : (x == ("__classdict__" : Str)) = false := by decide) : WPE c k sc ρ st (.Name x pos) Q X := by
  refine ⟨fun f imm fr s ok hsc R => ?_⟩
  obtain ⟨hr, m, mt, cs, fo, r⟩ := id R
  obtain ⟨val, rv, q⟩ := r.loc.reads x v e
  refine wpAny_Name ?_ hd
  have P : PostE c f ρ imm fr Q val s := .of rv R h
  rcases q with ⟨q1, q2, q3⟩ | ⟨q1, cc, o, q2, q3, q4⟩
  · exact wpAny_loadName_local ok.ekind q1 (q2 ▸ r.frm.ns) q3 P
  · have hc : s.heap.get? cc = some o := (r.news (cc, o) (by
      simp only [List.mem_append] at q3 ⊢
      rcases q3 with q3 | q3
      · exact .inr (.inl q3)
      · exact .inr (.inr (.inr (.inl q3))))).1
    rcases q1 with q1 | q1
    · exact wpAny_loadName_cell ok.ekind q1 q2 ⟨o, hc, q4⟩ P
    · exact wpAny_loadName_free ok.ekind q1 q2 ⟨o, hc, q4⟩ P hn

theorem WPE.glob {x : Str} {pos : Pos} {v : V} {val : Value} (hx : sc.names.lookup x = some .globalImplicit) (e : nsIn c.K mainGlobals x = some (some val)) (hv : ∀ base imm, RV base imm v val) (h : Q v st)
    (hd : (x == ("__debug__" : Str)) = false := by decide) : WPE c k sc ρ st (.Name x pos) Q X := by
  refine ⟨fun f imm fr s ok hsc R => ?_⟩
  obtain ⟨m, F⟩ := R.ns
  have T := topRead_of ok.top
  exact Name_function_global ok.ekind (by unfold Env.kindOf; rw [hsc]; exact hx) (loadGlobal_global (env := f.env) (ok.eglob ▸ T.g.keeps F.keep) (mg_of ok.kin T.g e) (.of (hv _ _) R h)) hd
theorem WPE.blt {x : Str} {pos : Pos} {val : Value} (hx : sc.names.lookup x = some .globalImplicit) (e : nsIn c.K mainGlobals x = some none) (hv : bootBuiltins x = some val) (h : Q (.stat val) st)
    (hn : x ≠ "__name__" := by decide) (hd : (x == ("__debug__" : Str)) = false := by decide) : WPE c k sc ρ st (.Name x pos) Q X := by
  refine ⟨fun f imm fr s ok hsc R => ?_⟩
  obtain ⟨m, F⟩ := R.ns
  have T := topRead_of ok.top
  exact Name_function_global ok.ekind (by unfold Env.kindOf; rw [hsc]; exact hx) (loadGlobal_builtin (env := f.env) (ok.eglob ▸ T.g.keeps F.keep) (mg_none_of ok.kin T.g e) (ok.ebi ▸ T.b.keeps F.keep) ((T.builtins x hn).trans hv) (.of (.stat val) R h)) hd

theorem WPE.cint {i : Int} {n : Nat} {pos : Pos} (h : Q (.int i) st) : WPE c k sc ρ st (.Constant (.int i) n pos) Q X := ⟨fun _ _ _ _ _ _ R => wpAny_Constant_int (.int R h)⟩
theorem WPE.cbool {b : Bool} {n : Nat} {pos : Pos} (h : Q (.bool b) st) : WPE c k sc ρ st (.Constant (.bool b) n pos) Q X := ⟨fun _ _ _ _ _ _ R => wpAny_Constant_bool (.bool R h)⟩
theorem WPE.cnone {n : Nat} {pos : Pos} (h : Q .none st) : WPE c k sc ρ st (.Constant .none n pos) Q X := ⟨fun _ _ _ _ _ _ R => wpAny_Constant_none (.none R h)⟩

theorem WPE.bin {l r : Expr} {op : Operator} {pos : Pos} (h : WPE c k sc ρ st l (fun a st₁ => WPE c k sc ρ st₁ r (fun b st₂ => W2 c k (binaryOp op) a b ρ st₂ Q X) X) X) : WPE c k sc ρ st (.BinOp l op r pos) Q X := by
  refine ⟨fun f imm fr s ok hsc R => ?_⟩
  refine wpAny_BinOp (wpAny_mono (h.go f imm fr s ok hsc R) (fun x s₁ p => ?_) fun _ _ t => t)
  obtain ⟨a, st₁, imm₁, i₁, ra, R₁, h₁⟩ := p
  refine wpAny_mono (h₁.go f imm₁ fr s₁ ok hsc R₁) (fun y s₂ p => ?_) fun _ _ t => t.mono i₁
  obtain ⟨b, st₂, imm₂, i₂, rb, R₂, h₂⟩ := p
  exact wpAny_mono (h₂.go f imm₂ fr s₂ x y ok R₂ (ra.mono i₂) rb) (fun _ _ p => p.mono fun q hq => i₂ q (i₁ q hq)) fun _ _ t => t.mono fun q hq => i₂ q (i₁ q hq)
theorem WPE.un {e : Expr} {op : UnaryOp} {pos : Pos} (h : WPE c k sc ρ st e (fun a st₁ => W1 c k (unaryOp op) a ρ st₁ Q X) X) : WPE c k sc ρ st (.UnaryOp op e pos) Q X := by
  refine ⟨fun f imm fr s ok hsc R => ?_⟩
  refine wpAny_UnaryOp (wpAny_mono (h.go f imm fr s ok hsc R) (fun x s₁ p => ?_) fun _ _ t => t)
  obtain ⟨a, st₁, imm₁, i₁, ra, R₁, h₁⟩ := p
  exact wpAny_mono (h₁.go f imm₁ fr s₁ x ok R₁ ra) (fun _ _ p => p.mono i₁) fun _ _ t => t.mono i₁
theorem WPE.cmp {l r : Expr} {op : CmpOp} {pos : Pos} (h : WPE c k sc ρ st l (fun a st₁ => WPE c k sc ρ st₁ r (fun b st₂ => W2 c k (compareOp op) a b ρ st₂ Q X) X) X) (hm : behindInMarks op r = false := by rfl) : WPE c k sc ρ st (.Compare l [op] [r] pos) Q X := by
  refine ⟨fun f imm fr s ok hsc R => ?_⟩
  refine wpAny_Compare1 (wpAny_mono (h.go f imm fr s ok hsc R) (fun x s₁ p => ?_) fun _ _ t => t) hm
  obtain ⟨a, st₁, imm₁, i₁, ra, R₁, h₁⟩ := p
  refine wpAny_mono (h₁.go f imm₁ fr s₁ ok hsc R₁) (fun y s₂ p => ?_) fun _ _ t => t.mono i₁
  obtain ⟨b, st₂, imm₂, i₂, rb, R₂, h₂⟩ := p
  exact wpAny_mono (h₂.go f imm₂ fr s₂ x y ok R₂ (ra.mono i₂) rb) (fun _ _ p => p.mono fun q hq => i₂ q (i₁ q hq)) fun _ _ t => t.mono fun q hq => i₂ q (i₁ q hq)

theorem WPE.cstr {x : Str} {n : Nat} {pos : Pos} (h : Q (.str x) st) : WPE c k sc ρ st (.Constant (.str x) n pos) Q X := ⟨fun _ _ _ _ _ _ R => wpAny_Constant_str (.str R h)⟩

/-- ints -/
theorem W2.addI {a b : Int} (h : Q (.int (a + b)) st) : W2 c k (binaryOp .Add) (.int a) (.int b) ρ st Q X := by
  refine ⟨fun f imm fr s x y ok R ra rb => ?_⟩
  obtain ⟨_, rfl⟩ := ra.intI
  obtain ⟨_, rfl⟩ := rb.intI
  exact add_int (.int R h)
theorem W2.subI {a b : Int} (h : Q (.int (a - b)) st) : W2 c k (binaryOp .Sub) (.int a) (.int b) ρ st Q X := by
  refine ⟨fun f imm fr s x y ok R ra rb => ?_⟩
  obtain ⟨_, rfl⟩ := ra.intI
  obtain ⟨_, rfl⟩ := rb.intI
  exact sub_int (.int R h)
theorem W2.mulI {a b : Int} (hm : IntMulOk a b) (h : Q (.int (a * b)) st) : W2 c k (binaryOp .Mult) (.int a) (.int b) ρ st Q X := by
  refine ⟨fun f imm fr s x y ok R ra rb => ?_⟩
  obtain ⟨_, rfl⟩ := ra.intI
  obtain ⟨_, rfl⟩ := rb.intI
  exact mul_int (.int R h) hm
theorem W2.modI {a b : Int} (hb : b ≠ 0) (h : Q (.int (a.fmod b)) st) : W2 c k (binaryOp .Mod) (.int a) (.int b) ρ st Q X := by
  refine ⟨fun f imm fr s x y ok R ra rb => ?_⟩
  obtain ⟨_, rfl⟩ := ra.intI
  obtain ⟨_, rfl⟩ := rb.intI
  exact mod_int' hb (.int R h)
theorem W2.divI {a b : Int} (hb : b ≠ 0) (hs : b.natAbs < 1073741824) (h : Q (.int (a.fdiv b)) st) : W2 c k (binaryOp .FloorDiv) (.int a) (.int b) ρ st Q X := by
  refine ⟨fun f imm fr s x y ok R ra rb => ?_⟩
  obtain ⟨_, rfl⟩ := ra.intI
  obtain ⟨_, rfl⟩ := rb.intI
  exact floordiv_int hb (.int R h) (.inl (PyProof.noPylong_small hs))
theorem W1.negI {a : Int} (h : Q (.int (-a)) st) : W1 c k (unaryOp .USub) (.int a) ρ st Q X := by
  refine ⟨fun f imm fr s x ok R ra => ?_⟩
  obtain ⟨_, rfl⟩ := ra.intI
  exact neg_int (.int R h)
theorem W2.eqI {a b : Int} (h : Q (.bool (a == b)) st) : W2 c k (compareOp .Eq) (.int a) (.int b) ρ st Q X := by
  refine ⟨fun f imm fr s x y ok R ra rb => ?_⟩
  obtain ⟨_, rfl⟩ := ra.intI
  obtain ⟨_, rfl⟩ := rb.intI
  exact eq_int (.bool R h)
theorem W2.neI {a b : Int} (h : Q (.bool (a != b)) st) : W2 c k (compareOp .NotEq) (.int a) (.int b) ρ st Q X := by
  refine ⟨fun f imm fr s x y ok R ra rb => ?_⟩
  obtain ⟨_, rfl⟩ := ra.intI
  obtain ⟨_, rfl⟩ := rb.intI
  exact ne_int (.bool R h)
theorem W2.ltI {a b : Int} (h : Q (.bool (decide (a < b))) st) : W2 c k (compareOp .Lt) (.int a) (.int b) ρ st Q X := by
  refine ⟨fun f imm fr s x y ok R ra rb => ?_⟩
  obtain ⟨_, rfl⟩ := ra.intI
  obtain ⟨_, rfl⟩ := rb.intI
  exact lt_int (.bool R h)
theorem W2.leI {a b : Int} (h : Q (.bool (decide (a ≤ b))) st) : W2 c k (compareOp .LtE) (.int a) (.int b) ρ st Q X := by
  refine ⟨fun f imm fr s x y ok R ra rb => ?_⟩
  obtain ⟨_, rfl⟩ := ra.intI
  obtain ⟨_, rfl⟩ := rb.intI
  exact le_int (.bool R h)
theorem W2.gtI {a b : Int} (h : Q (.bool (decide (b < a))) st) : W2 c k (compareOp .Gt) (.int a) (.int b) ρ st Q X := by
  refine ⟨fun f imm fr s x y ok R ra rb => ?_⟩
  obtain ⟨_, rfl⟩ := ra.intI
  obtain ⟨_, rfl⟩ := rb.intI
  exact gt_int (.bool R h)
theorem W2.eqS {a b : Str} (h : Q (.bool (a == b)) st) : W2 c k (compareOp .Eq) (.str a) (.str b) ρ st Q X := by
  refine ⟨fun f imm fr s x y ok R ra rb => ?_⟩
  obtain ⟨_, rfl⟩ := ra.strI
  obtain ⟨_, rfl⟩ := rb.strI
  exact PyProof.Rows.eq_str (.bool R h)


/-- is: a value that is no int, no text, no object of two -/
def isOk : V → V → Bool
  | .none, .none => true
  | .none, .bool _ => true
  | .none, .int _ => true
  | .none, .str _ => true
  | .none, .tup _ => true
  | .none, .ref _ => true
  | .bool _, .none => true
  | .bool _, .bool _ => true
  | .int _, .none => true
  | .int _, .bool _ => true
  | .str _, .none => true
  | .str _, .bool _ => true
  | .tup _, .none => true
  | .tup _, .bool _ => true
  | .ref _, .none => true
  | .ref _, .bool _ => true
  | _, _ => false
def isSameV : V → V → Bool
  | .none, .none => true
  | .bool a, .bool b => a == b
  | _, _ => false
def isNoneV : V → Bool
  | .none => true
  | _ => false
theorem isN_plain {base : Heap} {imm : Led} {a : V} {x : Value} (ra : RV base imm a x) (ho : isOk a .none = true) : plainIs x .none = true ∧ (x == .none) = isNoneV a := by
  cases ra <;> first | exact ⟨rfl, rfl⟩ | cases ho
theorem W2.isN {a : V} (ho : isOk a .none = true) (h : Q (.bool (isNoneV a)) st) : W2 c k (compareOp .Is) a .none ρ st Q X := by
  refine ⟨fun f imm fr s x y ok R ra rb => ?_⟩
  obtain rfl := rb.noneI
  have q := isN_plain ra ho
  exact wpAny_is_plain q.1 (.bool R (q.2 ▸ h))
theorem W2.isNotN {a : V} (ho : isOk a .none = true) (h : Q (.bool (!isNoneV a)) st) : W2 c k (compareOp .IsNot) a .none ρ st Q X := by
  refine ⟨fun f imm fr s x y ok R ra rb => ?_⟩
  obtain rfl := rb.noneI
  have q := isN_plain ra ho
  exact wpAny_isNot_plain q.1 (.bool R (q.2 ▸ h))

/-! truth -/
def PostB (c : Cx) (f : Fm) (ρ : Loc) (imm fr : Led) (Q : Bool → St → Prop) (b : Bool) (s : Shared) : Prop :=
  ∃ st imm', (∀ p ∈ imm, p ∈ imm') ∧ Rel c f ρ st imm' fr s ∧ Q b st
theorem PostB.mono {imm' : Led} {Q : Bool → St → Prop} {b : Bool} (hs : ∀ p ∈ imm, p ∈ imm') (h : PostB c f ρ imm' fr Q b s) : PostB c f ρ imm fr Q b s :=
  let ⟨st, imm'', a, r⟩ := h; ⟨st, imm'', fun p hp => a p (hs p hp), r⟩
structure WPB (c : Cx) (k : Nat) (sc : Scope) (ρ : Loc) (st : St) (e : Expr) (Q : Bool → St → Prop) (X : Xp) : Prop where
  go : ∀ f imm fr s, f.Ok c k → f.env.scope = sc → Rel c f ρ st imm fr s →
    wpAny c.M f.A (isTrue e f.env (eval e f.env)) (PostB c f ρ imm fr Q) (Thrown c f imm fr X) s
/-- and, or: the rest of them -/
structure WPAll (c : Cx) (k : Nat) (sc : Scope) (op : BoolOp) (ρ : Loc) (st : St) (es : List Expr) (Q : Bool → St → Prop) (X : Xp) : Prop where
  go : ∀ f imm fr s, f.Ok c k → f.env.scope = sc → Rel c f ρ st imm fr s →
    wpAny c.M f.A (allTrue op es f.env) (PostB c f ρ imm fr Q) (Thrown c f imm fr X) s
variable {B : Bool → St → Prop}

theorem WPB.val {e : Expr} (h : WPE c k sc ρ st e (fun v st₁ => ∃ b, v = .bool b ∧ B b st₁) X)
    (he : ∀ env whole, isTrue e env whole = (do let v ← whole; standAt e.pos; holding [v] (truthy v)) := by intro _ _; rfl) : WPB c k sc ρ st e B X := by
  refine ⟨fun f imm fr s ok hsc R => ?_⟩
  refine wpAny_isTrue_value (wpAny_mono (h.go f imm fr s ok hsc R) (fun x s₁ p => ?_) fun _ _ t => t) (he _ _)
  obtain ⟨v, st₁, imm₁, i₁, rv, R₁, b, rfl, h₁⟩ := p
  obtain rfl := rv.boolI
  exact wpAny_truthy_bool ⟨st₁, imm₁, i₁, R₁, h₁⟩
theorem WPB.not {e : Expr} {pos : Pos} (h : WPB c k sc ρ st e (fun b st₁ => cnd b (B false st₁) (B true st₁)) X) : WPB c k sc ρ st (.UnaryOp .Not e pos) B X := by
  refine ⟨fun f imm fr s ok hsc R => ?_⟩
  refine wpAny_isTrue_Not (wpAny_mono (h.go f imm fr s ok hsc R) (fun b s₁ p => ?_) fun _ _ t => t)
  obtain ⟨st₁, imm₁, i₁, R₁, h₁⟩ := p
  cases b with
  | true => exact ⟨st₁, imm₁, i₁, R₁, of_t h₁⟩
  | false => exact ⟨st₁, imm₁, i₁, R₁, of_f h₁⟩
theorem WPB.cmp {l r : Expr} {op : CmpOp} {pos : Pos} (h : WPE c k sc ρ st l (fun a st₁ => WPE c k sc ρ st₁ r (fun b st₂ => W2 c k (compareOp op) a b ρ st₂ (fun v st₃ => ∃ b, v = .bool b ∧ B b st₃) X) X) X) (hm : behindInMarks op r = false := by rfl) : WPB c k sc ρ st (.Compare l [op] [r] pos) B X := by
  refine ⟨fun f imm fr s ok hsc R => ?_⟩
  refine wpAny_isTrue_Compare1 (wpAny_mono (h.go f imm fr s ok hsc R) (fun x s₁ p => ?_) fun _ _ t => t) hm
  obtain ⟨a, st₁, imm₁, i₁, ra, R₁, h₁⟩ := p
  refine wpAny_mono (h₁.go f imm₁ fr s₁ ok hsc R₁) (fun y s₂ p => ?_) fun _ _ t => t.mono i₁
  obtain ⟨b, st₂, imm₂, i₂, rb, R₂, h₂⟩ := p
  refine wpAny_mono (h₂.go f imm₂ fr s₂ x y ok R₂ (ra.mono i₂) rb) (fun z s₃ p => ?_) fun _ _ t => t.mono fun q hq => i₂ q (i₁ q hq)
  obtain ⟨v, st₃, imm₃, i₃, rv, R₃, b, rfl, h₃⟩ := p
  obtain rfl := rv.boolI
  exact wpAny_truthy_bool ⟨st₃, imm₃, fun q hq => i₃ q (i₂ q (i₁ q hq)), R₃, h₃⟩
theorem WPB.op {op : BoolOp} {es : List Expr} {pos : Pos} (h : WPAll c k sc op ρ st es B X) : WPB c k sc ρ st (.BoolOp op es pos) B X := ⟨fun f imm fr s ok hsc R => wpAny_isTrue_BoolOp (h.go f imm fr s ok hsc R)⟩
theorem WPAll.and {e : Expr} {es : List Expr} (h : WPB c k sc ρ st e (fun b st₁ => cnd b (WPAll c k sc .And ρ st₁ es B X) (B false st₁)) X) : WPAll c k sc .And ρ st (e :: es) B X := by
  refine ⟨fun f imm fr s ok hsc R => ?_⟩
  refine wpAny_allTrue_And_cons (wpAny_mono (h.go f imm fr s ok hsc R) (fun b s₁ p => ?_) fun _ _ t => t)
  obtain ⟨st₁, imm₁, i₁, R₁, h₁⟩ := p
  cases b with
  | true => exact wpAny_mono ((of_t h₁).go f imm₁ fr s₁ ok hsc R₁) (fun _ _ p => p.mono i₁) fun _ _ t => t.mono i₁
  | false => exact ⟨st₁, imm₁, i₁, R₁, h₁⟩
theorem WPAll.or {e : Expr} {es : List Expr} (h : WPB c k sc ρ st e (fun b st₁ => cnd b (B true st₁) (WPAll c k sc .Or ρ st₁ es B X)) X) : WPAll c k sc .Or ρ st (e :: es) B X := by
  refine ⟨fun f imm fr s ok hsc R => ?_⟩
  refine wpAny_allTrue_Or_cons (wpAny_mono (h.go f imm fr s ok hsc R) (fun b s₁ p => ?_) fun _ _ t => t)
  obtain ⟨st₁, imm₁, i₁, R₁, h₁⟩ := p
  cases b with
  | false => exact wpAny_mono ((of_f h₁).go f imm₁ fr s₁ ok hsc R₁) (fun _ _ p => p.mono i₁) fun _ _ t => t.mono i₁
  | true => exact ⟨st₁, imm₁, i₁, R₁, h₁⟩
theorem WPAll.andNil (h : B true st) : WPAll c k sc .And ρ st [] B X := ⟨fun f imm fr s ok hsc R => wpAny_allTrue_And_nil ⟨st, imm, fun _ h => h, R, h⟩⟩
theorem WPAll.orNil (h : B false st) : WPAll c k sc .Or ρ st [] B X := ⟨fun f imm fr s ok hsc R => wpAny_allTrue_Or_nil ⟨st, imm, fun _ h => h, R, h⟩⟩
/-! and, or, if as values -/
theorem WPE.not {e : Expr} {pos : Pos} (h : WPE c k sc ρ st e (fun v st₁ => ∃ b, v = .bool b ∧ cnd b (Q (.bool false) st₁) (Q (.bool true) st₁)) X) : WPE c k sc ρ st (.UnaryOp .Not e pos) Q X := by
  refine ⟨fun f imm fr s ok hsc R => ?_⟩
  refine wpAny_UnaryOp (wpAny_mono (h.go f imm fr s ok hsc R) (fun x s₁ p => ?_) fun _ _ t => t)
  obtain ⟨v, st₁, imm₁, i₁, rv, R₁, b, rfl, h₁⟩ := p
  obtain rfl := rv.boolI
  cases b with
  | true => exact not_of (wpAny_truthy_bool (PostE.mono i₁ (.bool R₁ (of_t h₁))))
  | false => exact not_of (wpAny_truthy_bool (PostE.mono i₁ (.bool R₁ (of_f h₁))))
theorem boolOp_one {M : Model} {A : Around} {E : Value → Shared → Prop} {x : Sem Value} {pos : Pos} {op : BoolOp} {P : Value → Shared → Prop} (h : wpAny M A x P E s) : wpAny M A (boolOp pos op [x]) P E s := h
theorem boolOp_more {M : Model} {A : Around} {E : Value → Shared → Prop} {x y : Sem Value} {r : List (Sem Value)} {pos : Pos} {op : BoolOp} {P : Value → Shared → Prop}
    (h : wpAny M A x (fun v s₁ => wpAny M A (truthy v) (fun t s₂ => match op, t with | .And, false | .Or, true => P v s₂ | _, _ => wpAny M A (boolOp pos op (y :: r)) P E s₂) E s₁) E s) : wpAny M A (boolOp pos op (x :: y :: r)) P E s := by
  show wpAny M A (do
    let v ← x
    standAt pos
    let t ← holding [v] (truthy v)
    match op, t with
    | .And, false | .Or, true => pure v
    | _, _ => boolOp pos op (y :: r)) P E s
  refine wpAny_bind (wpAny_mono h (fun v s₁ h₁ => wpAny_bind (wpAny_standAt (wpAny_bind (wpAny_holding (wpAny_mono h₁ (fun t s₂ h₂ => ?_) fun _ _ x => x))))) fun _ _ x => x)
  cases op <;> cases t <;> first | exact wpAny_pure h₂ | exact h₂
theorem WPE.opOne {op : BoolOp} {e : Expr} {pos : Pos} (h : WPE c k sc ρ st e Q X) : WPE c k sc ρ st (.BoolOp op [e] pos) Q X := ⟨fun f imm fr s ok hsc R => boolOp_one (h.go f imm fr s ok hsc R)⟩
theorem WPE.and {e e' : Expr} {es : List Expr} {pos : Pos} (h : WPE c k sc ρ st e (fun v st₁ => ∃ b, v = .bool b ∧ cnd b (WPE c k sc ρ st₁ (.BoolOp .And (e' :: es) pos) Q X) (Q (.bool false) st₁)) X) : WPE c k sc ρ st (.BoolOp .And (e :: e' :: es) pos) Q X := by
  refine ⟨fun f imm fr s ok hsc R => ?_⟩
  refine boolOp_more (wpAny_mono (h.go f imm fr s ok hsc R) (fun x s₁ p => ?_) fun _ _ t => t)
  obtain ⟨v, st₁, imm₁, i₁, rv, R₁, b, rfl, h₁⟩ := p
  obtain rfl := rv.boolI
  refine wpAny_truthy_bool ?_
  cases b with
  | true => exact wpAny_mono ((of_t h₁).go f imm₁ fr s₁ ok hsc R₁) (fun _ _ p => p.mono i₁) fun _ _ t => t.mono i₁
  | false => exact PostE.mono i₁ (.bool R₁ h₁)
theorem WPE.cmp2 {l r₁ r₂ : Expr} {op₁ op₂ : CmpOp} {pos : Pos} (h : WPE c k sc ρ st l (fun a st₁ => WPE c k sc ρ st₁ r₁ (fun b st₂ => W2 c k (compareOp op₁) a b ρ st₂ (fun v st₃ => ∃ t, v = .bool t ∧ cnd t (WPE c k sc ρ st₃ r₂ (fun d st₄ => W2 c k (compareOp op₂) b d ρ st₄ Q X) X) (Q (.bool false) st₃)) X) X) X)
    (hm : lastMarks [op₁, op₂] [r₁, r₂] = false := by rfl) : WPE c k sc ρ st (.Compare l [op₁, op₂] [r₁, r₂] pos) Q X := by
  refine ⟨fun f imm fr s ok hsc R => ?_⟩
  refine Compare_chain (wpAny_mono (h.go f imm fr s ok hsc R) (fun x s₁ p => ?_) fun _ _ t => t) hm
  obtain ⟨a, st₁, imm₁, i₁, ra, R₁, h₁⟩ := p
  refine chain_link (wpAny_mono (h₁.go f imm₁ fr s₁ ok hsc R₁) (fun y s₂ p => ?_) fun _ _ t => t.mono i₁)
  obtain ⟨b, st₂, imm₂, i₂, rb, R₂, h₂⟩ := p
  refine wpAny_mono (h₂.go f imm₂ fr s₂ x y ok R₂ (ra.mono i₂) rb) (fun z s₃ p => ?_) fun _ _ t => t.mono fun q hq => i₂ q (i₁ q hq)
  obtain ⟨v, st₃, imm₃, i₃, rv, R₃, t, rfl, h₃⟩ := p
  obtain rfl := rv.boolI
  refine wpAny_truthy_bool ?_
  have i₁₃ : ∀ p ∈ imm, p ∈ imm₃ := fun q hq => i₃ q (i₂ q (i₁ q hq))
  cases t with
  | false => exact PostE.mono i₁₃ (.bool R₃ h₃)
  | true =>
    refine chain_last (wpAny_mono ((of_t h₃).go f imm₃ fr s₃ ok hsc R₃) (fun u s₄ p => ?_) fun _ _ t => t.mono i₁₃)
    obtain ⟨d, st₄, imm₄, i₄, rd, R₄, h₄⟩ := p
    exact wpAny_mono (h₄.go f imm₄ fr s₄ y u ok R₄ ((rb.mono i₃).mono i₄) rd) (fun _ _ p => p.mono fun q hq => i₄ q (i₁₃ q hq)) fun _ _ t => t.mono fun q hq => i₄ q (i₁₃ q hq)
end
end Mine
namespace Mine
inductive Fl where
  | next | brk | cont
  | ret (v : V)
/-- on, or out -/
def nxt (fl : Fl) (p q : Prop) : Prop := match fl with
  | .next => p
  | _ => q
theorem nxt_next {p q : Prop} (h : p) : nxt .next p q := h
theorem nxt_ret {v : V} {p q : Prop} (h : q) : nxt (.ret v) p q := h
inductive RFl (base : Heap) (imm : Led) : Fl → Flow → Prop
  | next : RFl base imm .next .next
  | brk : RFl base imm .brk .brk
  | cont : RFl base imm .cont .cont
  | ret {v : V} {x : Value} : RV base imm v x → RFl base imm (.ret v) (.ret x)

def PostS (c : Cx) (f : Fm) (imm fr : Led) (Q : Fl → Loc → St → Prop) (fl : Flow) (s : Shared) : Prop :=
  ∃ fl' ρ st imm', (∀ p ∈ imm, p ∈ imm') ∧ RFl c.base imm' fl' fl ∧ Rel c f ρ st imm' fr s ∧ Q fl' ρ st
theorem PostS.mono {c : Cx} {f : Fm} {imm imm' fr : Led} {Q : Fl → Loc → St → Prop} {fl : Flow} {s : Shared} (hs : ∀ p ∈ imm, p ∈ imm') (h : PostS c f imm' fr Q fl s) : PostS c f imm fr Q fl s :=
  let ⟨v, ρ, st, imm'', a, r⟩ := h; ⟨v, ρ, st, imm'', fun p hp => a p (hs p hp), r⟩

/-- a function's own block -/
structure Fm.Own (f : Fm) : Prop where
  same : f.env = f.fenv
  locals : f.env.locals = f.L
  cmp : f.cmp = false

/-- statements -/
structure WPS (c : Cx) (k : Nat) (sc : Scope) (ρ : Loc) (st : St) (ss : List Stmt) (Q : Fl → Loc → St → Prop) (X : Xp) : Prop where
  go : ∀ f imm fr s, f.Ok c k → f.env.scope = sc → f.Own → Rel c f ρ st imm fr s →
    wpAny c.M f.A (execs ss f.env) (PostS c f imm fr Q) (Thrown c f imm fr X) s
/-- one statement -/
structure WPs (c : Cx) (k : Nat) (sc : Scope) (ρ : Loc) (st : St) (ss : Stmt) (Q : Fl → Loc → St → Prop) (X : Xp) : Prop where
  go : ∀ f imm fr s, f.Ok c k → f.env.scope = sc → f.Own → Rel c f ρ st imm fr s →
    wpAny c.M f.A (exec ss f.env) (PostS c f imm fr Q) (Thrown c f imm fr X) s
/-- expressions, one behind the other -/
def PostL (c : Cx) (f : Fm) (ρ : Loc) (imm fr : Led) (n : Nat) (Q : List V → St → Prop) (xs : List Value) (s : Shared) : Prop :=
  ∃ vs st imm', (∀ p ∈ imm, p ∈ imm') ∧ RVs c.base imm' vs xs ∧ Rel c f ρ st imm' fr s ∧ vs.length = n ∧ Q vs st
structure WPEs (c : Cx) (k : Nat) (sc : Scope) (ρ : Loc) (st : St) (es : List Expr) (Q : List V → St → Prop) (X : Xp) : Prop where
  go : ∀ f imm fr s pos, f.Ok c k → f.env.scope = sc → Rel c f ρ st imm fr s →
    wpAny c.M f.A (spliced (backTo pos (starEach es f.env))) (PostL c f ρ imm fr es.length Q) (Thrown c f imm fr X) s

section
variable {c : Cx} {k : Nat} {sc : Scope} {ρ : Loc} {st : St} {Q : V → St → Prop} {S : Fl → Loc → St → Prop} {X : Xp} {f : Fm} {imm fr : Led} {s : Shared} {tk : Nat}

theorem PostS.next (R : Rel c f ρ st imm fr s) (h : S .next ρ st) : PostS c f imm fr S .next s := ⟨.next, ρ, st, imm, fun _ h => h, .next, R, h⟩

theorem WPS.nil (h : S .next ρ st) : WPS c k sc ρ st [] S X := ⟨fun f imm fr s ok hsc own R => wpAny_execs_nil (.next R h)⟩
theorem WPS.cons {t : Stmt} {ts : List Stmt} (h : WPs c k sc ρ st t (fun fl ρ₁ st₁ => nxt fl (WPS c k sc ρ₁ st₁ ts S X) (S fl ρ₁ st₁)) X) : WPS c k sc ρ st (t :: ts) S X := by
  refine ⟨fun f imm fr s ok hsc own R => ?_⟩
  refine wpAny_execs_cons (wpAny_mono (h.go f imm fr s ok hsc own R) (fun fl s₁ p => ?_) fun _ _ t => t)
  obtain ⟨fl', ρ₁, st₁, imm₁, i₁, rf, R₁, h₁⟩ := p
  cases rf with
  | next => exact wpAny_mono ((show WPS c k sc ρ₁ st₁ ts S X from h₁).go f imm₁ fr s₁ ok hsc own R₁) (fun _ _ p => p.mono i₁) fun _ _ t => t.mono i₁
  | brk => exact ⟨.brk, ρ₁, st₁, imm₁, i₁, .brk, R₁, h₁⟩
  | cont => exact ⟨.cont, ρ₁, st₁, imm₁, i₁, .cont, R₁, h₁⟩
  | ret r => exact ⟨_, ρ₁, st₁, imm₁, i₁, .ret r, R₁, h₁⟩

theorem WPs.ret {e : Expr} {pos : Pos} (h : WPE c k sc ρ st e (fun v st₁ => S (.ret v) ρ st₁) X) : WPs c k sc ρ st (.Return (some e) pos) S X := by
  refine ⟨fun f imm fr s ok hsc own R => ?_⟩
  refine wpAny_Return_some (wpAny_mono (h.go f imm fr s ok hsc R) (fun x s₁ p => ?_) fun _ _ t => t)
  obtain ⟨v, st₁, imm₁, i₁, rv, R₁, h₁⟩ := p
  exact ⟨.ret v, ρ, st₁, imm₁, i₁, .ret rv, R₁, h₁⟩
theorem WPs.ifs {e : Expr} {b o : List Stmt} {pos : Pos} (h : WPB c k sc ρ st e (fun v st₁ => cnd v (WPS c k sc ρ st₁ b S X) (WPS c k sc ρ st₁ o S X)) X) : WPs c k sc ρ st (.If e b o pos) S X := by
  refine ⟨fun f imm fr s ok hsc own R => ?_⟩
  refine wpAny_If (wpAny_mono (h.go f imm fr s ok hsc R) (fun b s₁ p => ?_) fun _ _ t => t)
  obtain ⟨st₁, imm₁, i₁, R₁, h₁⟩ := p
  cases b with
  | false => exact wpAny_mono ((of_f h₁).go f imm₁ fr s₁ ok hsc own R₁) (fun _ _ p => p.mono i₁) fun _ _ t => t.mono i₁
  | true => exact wpAny_mono ((of_t h₁).go f imm₁ fr s₁ ok hsc own R₁) (fun _ _ p => p.mono i₁) fun _ _ t => t.mono i₁
theorem WPs.expr {e : Expr} {pos : Pos} (h : WPE c k sc ρ st e (fun _ st₁ => S .next ρ st₁) X) (hs : ∀ env, swapsWith e none pos.line env = pure false := by intro _; rfl) : WPs c k sc ρ st (.Expr e pos) S X := by
  refine ⟨fun f imm fr s ok hsc own R => ?_⟩
  refine wpAny_Expr_any (wpAny_mono (h.go f imm fr s ok hsc R) (fun x s₁ p => ?_) fun _ _ t => t) ?_ (hs _)
  · obtain ⟨v, st₁, imm₁, i₁, rv, R₁, h₁⟩ := p
    exact ⟨.next, ρ, st₁, imm₁, i₁, .next, R₁, h₁⟩
  · unfold interactive; rw [ok.ekind]; rfl

/-! storing a name -/
theorem getL_set_reads {base : Heap} {f : Fm} {m : Str → Option Value} {cs : Led} {x : Str} {v : V} {val : Value} (L : LocR base imm f ρ m cs fr) (hl : f.env.kindOf x = some .local) (own : f.env.locals = f.L) (rv : RV base imm v val) :
    LocR base imm f (setL ρ x v) (fun y => if y = x then some val else m y) cs fr := by
  refine ⟨fun y u e => ?_, L.cells, L.inj⟩
  rw [getL_setL] at e
  by_cases h : y = x
  · subst h
    rw [if_pos rfl] at e
    cases e
    exact ⟨val, rv, .inl ⟨hl, own, by simp⟩⟩
  · rw [if_neg h] at e
    obtain ⟨w, rw', q⟩ := L.reads y u e
    refine ⟨w, rw', ?_⟩
    rcases q with ⟨q1, q2, q3⟩ | q
    · exact .inl ⟨q1, q2, by simpa [h] using q3⟩
    · exact .inr q
theorem store_local {x : Str} {v : V} {val : Value} {P : Unit → Shared → Prop} {E : Value → Shared → Prop} (ok : f.Ok c k) (own : f.env.locals = f.L) (R : Rel c f ρ st imm fr s) (hx : f.env.kindOf x = some .local) (rv : RV c.base imm v val)
    (h : ∀ s', Rel c f (setL ρ x v) st imm fr s' → P () s') : wpAny c.M f.A (storeName f.env x val) P E s := by
  obtain ⟨⟨h0, tk0, rfl⟩, m, mt, cs, fo, r⟩ := R
  refine wpAny_storeName_local hx (own ▸ r.frm.ns) (fun h' hn hs => h _ ⟨⟨h', _, rfl⟩, (fun y => if y = x then some val else m y), mt, cs, fo, ?_⟩) (by rw [ok.ekind]; rfl)
  rw [own] at hn hs
  exact ⟨r.frm.set hn hs, r.news.set hs, r.nodup, r.sto, r.fos, getL_set_reads r.loc hx own rv⟩
theorem store_cell {x : Str} {v : V} {val : Value} {P : Unit → Shared → Prop} {E : Value → Shared → Prop} {cc : Addr} (ok : f.Ok c k) (own : f.Own) (R : Rel c f ρ st imm fr s) (hx : f.env.kindOf x = some .cell) (hc : f.env.cells.lookup x = some cc) (rv : RV c.base imm v val)
    (h : ∀ s', Rel c f (setL ρ x v) st imm fr s' → P () s') : wpAny c.M f.A (storeName f.env x val) P E s := by
  obtain ⟨⟨h0, tk0, rfl⟩, m, mt, cs, fo, r⟩ := R
  obtain ⟨o, v₀, hm, hd⟩ := r.loc.cells own.cmp x cc hc
  have hw := r.news (cc, o) (by simp [hm])
  refine wpAny_storeName_cell ok.ekind hx hc ⟨o, hw.1, hd⟩ fun h' hv hs => ?_
  obtain ⟨o', ho', hd'⟩ := hv
  obtain ⟨c1, c2, rfl⟩ := List.append_of_mem hm
  have e : whole mt (c1 ++ (cc, o) :: c2) imm fr fo = (mt ++ c1) ++ (cc, o) :: (c2 ++ (imm ++ (fr ++ fo))) := by simp
  have e' : whole mt (c1 ++ (cc, o') :: c2) imm fr fo = (mt ++ c1) ++ (cc, o') :: (c2 ++ (imm ++ (fr ++ fo))) := by simp
  have nd := r.nodup
  rw [e] at nd
  have h1 : ∀ p ∈ mt ++ c1, p.1 ≠ cc := fun p hp q => by
    rw [List.map_append, List.nodup_append] at nd
    exact nd.2.2 p.1 (List.mem_map_of_mem hp) cc (by simp) q
  have h2 : ∀ p ∈ c2 ++ (imm ++ (fr ++ fo)), p.1 ≠ cc := fun p hp q => by
    rw [List.map_append, List.nodup_append, List.map_cons, List.nodup_cons] at nd
    exact nd.2.1.1 (List.mem_map.mpr ⟨p, hp, q⟩)
  have hne : ∀ b ob, (b, ob) ∈ c1 ++ (cc, o) :: c2 → b ≠ cc → (b, ob) ∈ c1 ++ (cc, o') :: c2 := fun b ob hb n => by
    simp only [List.mem_append, List.mem_cons, Prod.mk.injEq] at hb ⊢
    rcases hb with hb | ⟨hb, _⟩ | hb
    · exact .inl hb
    · exact absurd hb n
    · exact .inr (.inr hb)
  refine h _ ⟨⟨h', _, rfl⟩, m, mt, c1 ++ (cc, o') :: c2, fo, Fr.other r.frm hs hw.2.1 hw.2.2, ?_, ?_, r.sto, r.fos, ?_⟩
  · rw [e']
    have := r.news
    rw [e] at this
    exact News.setAt this h1 h2 hs ho'
  · rw [e']; simp only [List.map_append, List.map_cons] at nd ⊢; exact nd
  · refine ⟨fun y u q => ?_, fun _ y cy q => ?_, r.loc.inj⟩
    · rw [getL_setL] at q
      by_cases hy : y = x
      · subst hy
        rw [if_pos rfl] at q
        cases q
        exact ⟨val, rv, .inr ⟨.inl hx, cc, o', hc, by simp, hd'⟩⟩
      · rw [if_neg hy] at q
        obtain ⟨w, rw', z⟩ := r.loc.reads y u q
        refine ⟨w, rw', ?_⟩
        rcases z with z | ⟨z1, c', oc, z2, z3, z4⟩
        · exact .inl z
        · refine .inr ⟨z1, c', oc, z2, ?_, z4⟩
          rcases List.mem_append.mp z3 with z3 | z3
          · exact List.mem_append_left _ (hne _ _ z3 fun e => hy (r.loc.inj own.cmp y x cc (e ▸ z2) hc))
          · exact List.mem_append_right _ z3
    · obtain ⟨oy, vy, z1, z2⟩ := r.loc.cells own.cmp y cy q
      by_cases e : cy = cc
      · subst e; exact ⟨o', _, by simp, hd'⟩
      · exact ⟨oy, vy, hne _ _ z1 e, z2⟩
/-- any name that the frame stores -/
def storesB (sc : Scope) (x : Str) : Bool := match sc.names.lookup x with | some .local | some .cell => true | _ => false
theorem store {x : Str} {v : V} {val : Value} {P : Unit → Shared → Prop} {E : Value → Shared → Prop} (ok : f.Ok c k) (own : f.Own) (R : Rel c f ρ st imm fr s) (hx : storesB f.env.scope x = true) (rv : RV c.base imm v val)
    (h : ∀ s', Rel c f (setL ρ x v) st imm fr s' → P () s') : wpAny c.M f.A (storeName f.env x val) P E s := by
  unfold storesB at hx
  cases hk : f.env.scope.names.lookup x with
  | none => rw [hk] at hx; cases hx
  | some kd =>
    rw [hk] at hx
    cases kd <;> first | (cases hx; done) | (exact store_local ok own.locals R hk rv h) | skip
    obtain ⟨cc, hcc⟩ := ok.ecell x hk
    exact store_cell ok own R hk hcc rv h

theorem WPs.asg {x : Str} {e : Expr} {np pos : Pos} (h : WPE c k sc ρ st e (fun v st₁ => S .next (setL ρ x v) st₁) X) (hx : storesB sc x = true := by rfl)
    (hs : ∀ env, swapsWith e (some (.Name x np)) pos.line env = pure false := by intro _; rfl) : WPs c k sc ρ st (.Assign [.Name x np] e pos) S X := by
  refine ⟨fun f imm fr s ok hsc own R => ?_⟩
  refine wpAny_Assign_Name (wpAny_mono (h.go f imm fr s ok hsc R) (fun val s₁ p => ?_) fun _ _ t => t) (hs _)
  obtain ⟨v, st₁, imm₁, i₁, rv, R₁, h₁⟩ := p
  exact store ok own R₁ (hsc ▸ hx) rv fun s' R' => ⟨.next, _, st₁, imm₁, i₁, .next, R', h₁⟩

/-! tuples and lists made -/
theorem WPEs.nil {P : List V → St → Prop} (h : P [] st) : WPEs c k sc ρ st [] P X := ⟨fun f imm fr s pos ok hsc R => spliced_none ⟨[], st, imm, fun _ h => h, .nil, R, rfl, h⟩⟩
theorem WPEs.cons {e : Expr} {es : List Expr} {P : List V → St → Prop} (h : WPE c k sc ρ st e (fun v st₁ => WPEs c k sc ρ st₁ es (fun vs st₂ => P (v :: vs) st₂) X) X)
    (he : ∀ env, starEach (e :: es) env = (false, eval e env) :: starEach es env := by intro _; rfl) : WPEs c k sc ρ st (e :: es) P X := by
  refine ⟨fun f imm fr s pos ok hsc R => ?_⟩
  refine spliced_more (wpAny_mono (h.go f imm fr s ok hsc R) (fun x s₁ p => ?_) fun _ _ t => t) (he _)
  obtain ⟨v, st₁, imm₁, i₁, rv, R₁, h₁⟩ := p
  refine wpAny_mono (h₁.go f imm₁ fr s₁ pos ok hsc R₁) (fun xs s₂ p => ?_) fun _ _ t => t.mono i₁
  obtain ⟨vs, st₂, imm₂, i₂, rvs, R₂, hn, h₂⟩ := p
  exact ⟨v :: vs, st₂, imm₂, fun q hq => i₂ q (i₁ q hq), .cons (rv.mono i₂) rvs, R₂, by simp [hn], h₂⟩
theorem WPE.tup {es : List Expr} {n : Nat} {pos : Pos} (h : WPEs c k sc ρ st es (fun vs st₁ => Q (.tup vs) st₁) X) (hl : es.length ≤ sizeLine := by decide) : WPE c k sc ρ st (.Tuple es n pos) Q X := by
  refine ⟨fun f imm fr s ok hsc R => ?_⟩
  refine wpAny_Tuple (wpAny_mono (h.go f imm fr s pos ok hsc R) (fun xs s₁ p => ?_) fun _ _ t => t)
  obtain ⟨vs, st₁, imm₁, i₁, rvs, R₁, hn, h₁⟩ := p
  have hs : ∀ p ∈ imm₁, p ∈ (s₁.heap.objs.size, tupObj xs 0) :: imm₁ := fun p hp => .tail _ hp
  exact ⟨by rw [rvs.length, hn]; exact hl, _, st₁, _, fun q hq => hs q (i₁ q hq), .tup (.head _) (rvs.mono hs), R₁.pushImm (tk := s₁.toks), h₁⟩
theorem WPE.lst {es : List Expr} {pos : Pos} (h : WPEs c k sc ρ st es (fun vs st₁ => ∀ a, get st₁ a = none → Q (.ref a) ((a, .list vs) :: st₁)) X) (hl : es.length ≤ sizeLine := by decide) : WPE c k sc ρ st (.List es pos) Q X := by
  refine ⟨fun f imm fr s ok hsc R => ?_⟩
  refine wpAny_List (wpAny_mono (h.go f imm fr s pos ok hsc R) (fun xs s₁ p => ?_) fun _ _ t => t)
  obtain ⟨vs, st₁, imm₁, i₁, rvs, R₁, hn, h₁⟩ := p
  exact ⟨by rw [rvs.length, hn]; exact hl, _, _, _, i₁, .ref _, R₁.pushSt (tk := s₁.toks) (.list rvs), h₁ _ R₁.none⟩
end
end Mine
namespace Mine
section
variable {c : Cx} {k : Nat} {f : Fm} {ρ : Loc} {st : St} {imm fr : Led} {s : Shared} {h h' : Heap} {m : Str → Option Value} {mt cs fo : Led} {e C : Addr} {E : Led} {mk : Option Value} {X : Xp} {tk : Nat}

theorem nodupc {l : List Nat} (h : ∀ a, l.count a ≤ 1) : l.Nodup := List.nodup_iff_count.mpr h
theorem ExcL.fields (x : ExcL e C mk E) : ∀ p ∈ E, ∃ vs, p.2.data = .fields vs := by
  intro p hp
  cases x with
  | made h1 h2 h3 h4 => simp at hp; subst hp; exact ⟨_, h2⟩
  | traced h1 h2 h3 h4 h5 h6 =>
    simp at hp
    rcases hp with rfl | rfl
    · exact ⟨_, h2⟩
    · exact ⟨_, h5⟩
theorem LocR.exc {base : Heap} {E E' : Led} (hE : ∀ p ∈ E, ∃ vs, p.2.data = .fields vs) (l : LocR base imm f ρ m cs (E ++ fr)) : LocR base imm f ρ m cs (E' ++ fr) := by
  refine ⟨fun x v q => ?_, l.cells, l.inj⟩
  obtain ⟨val, r, z⟩ := l.reads x v q
  refine ⟨val, r, ?_⟩
  rcases z with z | ⟨z1, cc, o, z2, z3, z4⟩
  · exact .inl z
  · refine .inr ⟨z1, cc, o, z2, ?_, z4⟩
    simp only [List.mem_append] at z3 ⊢
    rcases z3 with z3 | z3 | z3
    · exact .inl z3
    · obtain ⟨vs, q⟩ := hE _ z3
      rw [z4] at q; cases q
    · exact .inr (.inr z3)
theorem FoR.slots {frs : List (Addr × (Str → Option Value))} (hf : FoR frs fo) (hk : ∀ p ∈ fo, h.get? p.1 = some p.2) (u : h.UpToSlots h') : ∃ fo', FoR frs fo' ∧ fo'.map (·.1) = fo.map (·.1) ∧ ∀ p ∈ fo', h'.get? p.1 = some p.2 ∧ ∀ vs, p.2.data ≠ .fields vs := by
  induction hf with
  | nil => exact ⟨[], .nil, rfl, fun p hp => nomatch hp⟩
  | @cons L m o fs fo no _ ih =>
    obtain ⟨fo', h1, h2, h3⟩ := ih fun p hp => hk p (.tail _ hp)
    obtain ⟨es, ep, n1, n2, n3⟩ := no
    have nf : ∀ vs, o.data ≠ .fields vs := fun vs q => by rw [n1] at q; cases q
    obtain ⟨sl, hs⟩ := u L o (hk (L, o) (.head _)) nf
    refine ⟨(L, { o with slots := sl }) :: fo', .cons ⟨es, ep, n1, n2, n3⟩ h1, by simp [h2], fun p hp => ?_⟩
    rcases List.mem_cons.mp hp with rfl | hp
    · exact ⟨hs, nf⟩
    · exact h3 p hp
/-- the addresses of the frames -/
theorem env_in (ok : f.Ok c k) (R : RelAt c f ρ st imm fr h m mt cs fo) {b : Addr} (hb : b ∈ (f.fenv :: f.outer).filterMap (·.frame)) : b = f.L ∨ ∃ o, (b, o) ∈ fo := by
  obtain ⟨env, he, hf⟩ := List.mem_filterMap.mp hb
  obtain ⟨_, L, hL, hq⟩ := ok.envs env he
  rw [hL] at hf
  cases hf
  rcases hq with rfl | ⟨m', hm⟩
  · exact .inl rfl
  · right
    have : ∀ {frs : List (Addr × (Str → Option Value))} {fo : Led}, FoR frs fo → (b, m') ∈ frs → ∃ o, (b, o) ∈ fo := by
      intro frs fo hf
      induction hf with
      | nil => intro q; cases q
      | cons no _ ih =>
        intro q
        rcases List.mem_cons.mp q with q | q
        · cases q; exact ⟨_, .head _⟩
        · obtain ⟨o, ho⟩ := ih q; exact ⟨o, .tail _ ho⟩
    exact this R.fos hm
abbrev hid (f : Fm) (E : Led) (h : Heap) : Heap := hideAll h ((f.fenv :: f.outer).filterMap (·.frame) ++ E.map (·.1))
theorem funs (ok : f.Ok c k) (R : RelAt c f ρ st imm (E ++ fr) h m mt cs fo) : h.FunFrames (hid f E h) (f.fenv :: f.outer) := by
  have go : ∀ l : List Env, (∀ env ∈ l, env ∈ f.fenv :: f.outer) → h.FunFrames (hid f E h) l := by
    intro l
    induction l with
    | nil => intro _; exact trivial
    | cons env l ih =>
      intro hin
      obtain ⟨hk, L, hL, hq⟩ := ok.envs env (hin env (.head _))
      have hb : L ∈ (f.fenv :: f.outer).filterMap (·.frame) := List.mem_filterMap.mpr ⟨env, hin env (.head _), hL⟩
      refine ⟨by rw [hk]; decide, ?_, ih fun x hx => hin x (.tail _ hx)⟩
      rcases env_in ok R hb with rfl | ⟨o, ho⟩
      · obtain ⟨o, es, ep, h1, h2, _⟩ := R.frm.ns
        exact ⟨f.L, o, hL, hideAll_none _ (List.mem_append_left _ hb), h1, fun vs q => by rw [h2] at q; cases q⟩
      · have nf : ∀ {frs : List (Addr × (Str → Option Value))} {fo : Led}, FoR frs fo → (L, o) ∈ fo → ∀ vs, o.data ≠ .fields vs := by
          intro frs fo hf
          induction hf with
          | nil => intro q; cases q
          | cons no _ ih =>
            intro q
            rcases List.mem_cons.mp q with q | q
            · cases q
              obtain ⟨es, ep, n1, _⟩ := no
              intro vs z; rw [n1] at z; cases z
            · exact ih q
        exact ⟨L, o, hL, hideAll_none _ (List.mem_append_left _ hb), (R.news (L, o) (by simp [ho])).1, nf R.fos ho⟩
  exact go _ fun _ h => h

/-- the heap behind a note -/
theorem relNoted (ok : f.Ok c k) {e T : Addr} {oe oT : Obj} {vs ts : Array Value} (hE : ∀ p ∈ E, ∃ vs, p.2.data = .fields vs) (he : ∃ o, (e, o) ∈ E) (R : Rel c f ρ st imm (E ++ fr) s) (hk : (hid f E s.heap).StaysIn h') (u : s.heap.UpToSlots h')
    (ge : h'.get? e = some oe) (de : oe.data = .fields vs) (gT : h'.get? T = some oT) (dT : oT.data = .fields ts) (nT : (hid f E s.heap).get? T = none) (hTe : T ≠ e) : Rel c f ρ st imm ([(e, oe), (T, oT)] ++ fr) { s with heap := h', toks := tk } := by
  obtain ⟨⟨h0, tk0, rfl⟩, m, mt, cs, fo, r⟩ := R
  dsimp only at r hk u nT
  obtain ⟨oe0, he0⟩ := he
  have nd := List.nodup_iff_count.mp r.nodup
  have hfo : ∀ p ∈ fo, h0.get? p.1 = some p.2 := fun p hp => (r.news p (by simp [hp])).1
  obtain ⟨fo', f1, f2, f3⟩ := r.fos.slots hfo u
  have nL : ∀ p ∈ whole mt cs imm (E ++ fr) fo, p.1 ≠ f.L := fun p hp => (r.news p hp).2.1
  -- what is not hidden
  have other : ∀ p ∈ mt ++ (cs ++ (imm ++ fr)), p.1 ∉ (f.fenv :: f.outer).filterMap (·.frame) ++ E.map (·.1) := fun p hp hq => by
    have hpw : p ∈ whole mt cs imm (E ++ fr) fo := by
      simp only [List.mem_append] at hp ⊢
      rcases hp with hp | hp | hp | hp
      · exact .inl hp
      · exact .inr (.inl hp)
      · exact .inr (.inr (.inl hp))
      · exact .inr (.inr (.inr (.inl (.inr hp))))
    have c1 : 0 < ((mt ++ (cs ++ (imm ++ fr))).map (·.1)).count p.1 := List.count_pos_iff.mpr (List.mem_map_of_mem hp)
    have c0 := nd p.1
    simp only [List.map_append, List.count_append] at c0 c1
    rcases List.mem_append.mp hq with hq | hq
    · rcases env_in ok r hq with hq | ⟨o, hq⟩
      · exact nL p hpw hq
      · have : 0 < (fo.map (·.1)).count p.1 := List.count_pos_iff.mpr (List.mem_map.mpr ⟨_, hq, rfl⟩)
        omega
    · have : 0 < (E.map (·.1)).count p.1 := List.count_pos_iff.mpr hq
      omega
  have kept : ∀ p ∈ mt ++ (cs ++ (imm ++ fr)), h'.get? p.1 = some p.2 ∧ (hid f E h0).get? p.1 = some p.2 := fun p hp => by
    have hpw : p ∈ whole mt cs imm (E ++ fr) fo := by
      simp only [List.mem_append] at hp ⊢
      rcases hp with hp | hp | hp | hp
      · exact .inl hp
      · exact .inr (.inl hp)
      · exact .inr (.inr (.inl hp))
      · exact .inr (.inr (.inr (.inl (.inr hp))))
    have := hideAll_get _ (r.news p hpw).1 (other p hp)
    exact ⟨hk _ _ this, this⟩
  have hbase : ∀ b o, c.base.get? b = some o → (hid f E h0).get? b = some o := fun b o q => by
    refine hideAll_get _ (r.frm.keep b o q) fun hq => ?_
    rcases List.mem_append.mp hq with hq | hq
    · rcases env_in ok r hq with rfl | ⟨o', hq⟩
      · rw [Heap.get?_none_of_le r.frm.above] at q; cases q
      · rw [(r.news (b, o') (by simp [hq])).2.2] at q; cases q
    · obtain ⟨p, hp, rfl⟩ := List.mem_map.mp hq
      rw [(r.news p (by simp [hp])).2.2] at q; cases q
  have hT0 : c.base.get? T = none := by
    cases q : c.base.get? T with
    | none => rfl
    | some o => rw [hbase T o q] at nT; cases nT
  have ns' := u.ns r.frm.ns
  have hLf : ∀ a o vs, h'.get? a = some o → o.data = .fields vs → a ≠ f.L := fun a o vs g d q => by
    obtain ⟨o', es, ep, g', d', _⟩ := ns'
    rw [q, g'] at g
    cases g
    rw [d'] at d; cases d
  refine ⟨⟨h', tk, rfl⟩, m, mt, cs, fo', ⟨ns', fun b o q => hk _ _ (hbase b o q), r.frm.above⟩, fun p hp => ?_, nodupc fun a => ?_, r.sto, f1, LocR.exc hE r.loc⟩
  · have hp' : p ∈ mt ++ (cs ++ (imm ++ fr)) ∨ p = (e, oe) ∨ p = (T, oT) ∨ p ∈ fo' := by
      simp only [List.mem_append, List.mem_cons, List.not_mem_nil, or_false] at hp ⊢
      rcases hp with hp | hp | hp | ((hp | hp) | hp) | hp
      · exact .inl (.inl hp)
      · exact .inl (.inr (.inl hp))
      · exact .inl (.inr (.inr (.inl hp)))
      · exact .inr (.inl hp)
      · exact .inr (.inr (.inl hp))
      · exact .inl (.inr (.inr (.inr hp)))
      · exact .inr (.inr (.inr hp))
    rcases hp' with hp' | rfl | rfl | hp'
    · have hpw : p ∈ whole mt cs imm (E ++ fr) fo := by
        simp only [List.mem_append] at hp' ⊢
        rcases hp' with hp | hp | hp | hp
        · exact .inl hp
        · exact .inr (.inl hp)
        · exact .inr (.inr (.inl hp))
        · exact .inr (.inr (.inr (.inl (.inr hp))))
      exact ⟨(kept p hp').1, (r.news p hpw).2⟩
    · exact ⟨ge, hLf _ _ _ ge de, (r.news (e, oe0) (by simp [he0])).2.2⟩
    · exact ⟨gT, hLf _ _ _ gT dT, hT0⟩
    · have : p.1 ∈ fo.map (·.1) := by rw [← f2]; exact List.mem_map_of_mem hp'
      obtain ⟨q, hq, e1⟩ := List.mem_map.mp this
      have z := r.news q (by simp [hq])
      rw [show q.1 = p.1 from e1] at z
      exact ⟨(f3 p hp').1, z.2⟩
  · have c0 := nd a
    simp only [List.map_append, List.map_cons, List.map_nil, List.count_append, List.count_cons, List.count_nil, f2] at c0 ⊢
    have cT : a = T → (mt.map (·.1)).count a = 0 ∧ (cs.map (·.1)).count a = 0 ∧ (imm.map (·.1)).count a = 0 ∧ (fr.map (·.1)).count a = 0 ∧ (fo.map (·.1)).count a = 0 := fun q => by
      have n0 : ∀ p ∈ mt ++ (cs ++ (imm ++ fr)), p.1 ≠ a := fun p hp z => by
        have := (kept p hp).2
        rw [z, q, nT] at this; cases this
      have n1 : ∀ p ∈ fo', p.1 ≠ a := fun p hp z => by
        obtain ⟨g, d⟩ := f3 p hp
        rw [z, q, gT] at g
        cases g
        exact d _ dT
      refine ⟨List.count_eq_zero.mpr fun hm => ?_, List.count_eq_zero.mpr fun hm => ?_, List.count_eq_zero.mpr fun hm => ?_, List.count_eq_zero.mpr fun hm => ?_, List.count_eq_zero.mpr fun hm => ?_⟩
      · obtain ⟨p, hp, z⟩ := List.mem_map.mp hm; exact n0 p (by simp [hp]) z
      · obtain ⟨p, hp, z⟩ := List.mem_map.mp hm; exact n0 p (by simp [hp]) z
      · obtain ⟨p, hp, z⟩ := List.mem_map.mp hm; exact n0 p (by simp [hp]) z
      · obtain ⟨p, hp, z⟩ := List.mem_map.mp hm; exact n0 p (by simp [hp]) z
      · rw [← f2] at hm; obtain ⟨p, hp, z⟩ := List.mem_map.mp hm; exact n1 p hp z
    have cE : a = e → 0 < (E.map (·.1)).count a := fun q => by rw [q]; exact List.count_pos_iff.mpr (List.mem_map.mpr ⟨_, he0, rfl⟩)
    by_cases qe : e = a
    · have := cE qe.symm
      have hne : (T == a) = false := by rw [← qe]; simpa using hTe
      simp only [qe, hne, beq_self_eq_true, if_true, Bool.false_eq_true, if_false]
      omega
    · have hne : (e == a) = false := by simpa using qe
      by_cases qT : T = a
      · obtain ⟨z1, z2, z3, z4, z5⟩ := cT qT.symm
        simp only [hne, qT, beq_self_eq_true, if_true, Bool.false_eq_true, if_false, z1, z2, z3, z4, z5]
        omega
      · have hne' : (T == a) = false := by simpa using qT
        simp only [hne, hne', Bool.false_eq_true, if_false]
        omega
theorem Rel.permFr {fr' : Led} (R : Rel c f ρ st imm fr s) (hp : fr.Perm fr') : Rel c f ρ st imm fr' s := by
  obtain ⟨hs, m, mt, cs, fo, r⟩ := R
  have hw : (whole mt cs imm fr' fo).Perm (whole mt cs imm fr fo) := List.Perm.append_left _ (List.Perm.append_left _ (List.Perm.append_left _ (hp.symm.append_right _)))
  refine ⟨hs, m, mt, cs, fo, r.frm, fun p q => r.news p (hw.mem_iff.mp q), (hw.map (·.1)).nodup_iff.mpr r.nodup, r.sto, r.fos, ⟨fun x v e => ?_, r.loc.cells, r.loc.inj⟩⟩
  obtain ⟨val, rv, q⟩ := r.loc.reads x v e
  refine ⟨val, rv, ?_⟩
  rcases q with q | ⟨q1, c, o, q2, q3, q4⟩
  · exact .inl q
  · refine .inr ⟨q1, c, o, q2, ?_, q4⟩
    rcases List.mem_append.mp q3 with q3 | q3
    · exact List.mem_append_left _ q3
    · exact List.mem_append_right _ (hp.mem_iff.mp q3)
theorem LocR.app {base : Heap} {E : Led} (l : LocR base imm f ρ m cs fr) : LocR base imm f ρ m cs (E ++ fr) := by
  induction E with
  | nil => exact l
  | cons p E ih => exact ih.more
theorem Rel.two {e T : Addr} {oe oT : Obj} (R : Rel c f ρ st imm ([(e, oe), (T, oT)] ++ fr) s) : T ≠ e := by
  obtain ⟨_, m, mt, cs, fo, r⟩ := R
  intro q
  have nd := List.nodup_iff_count.mp r.nodup e
  subst q
  simp only [List.map_append, List.map_cons, List.map_nil, List.count_append, List.count_cons, List.count_nil, beq_self_eq_true, if_true] at nd
  omega

/-- noted in the frame -/
theorem noted {Q : Unit → Shared → Prop} {E' : Value → Shared → Prop} {L : Addr} (ok : f.Ok c k) (hL : f.fenv.frame = some L) (x : ExcL e C mk E) (hm : MarkOk f mk) (R : Rel c f ρ st imm (E ++ fr) s)
    (hQ : ∀ E₂ s', ExcL e C (some (rawInt L)) E₂ → Rel c f ρ st imm (E₂ ++ fr) s' → Q () s') : wpAny c.M f.A (noteFrame (.ref e) f.fenv) Q E' s := by
  have hkb : (hid f E s.heap).StaysIn s.heap := fun b o q => of_hideAll _ q
  have hef : ∀ oe b, (b, oe) ∈ E → (hid f E s.heap).get? b = none := fun oe b h => hideAll_none _ (List.mem_append_right _ (List.mem_map.mpr ⟨_, h, rfl⟩))
  have hl : s.heap.FunFrames (hid f E s.heap) (f.fenv :: f.outer) := by
    obtain ⟨_, m, mt, cs, fo, r⟩ := R
    exact funs ok r
  have hF := x.fields
  have fin : ∀ {a0 : Value} {h' : Heap}, (∃ o, (e, o) ∈ E) → Heap.NotedW (hid f E s.heap) (f.fenv :: f.outer) e (.ref C) a0 (rawInt L) s.heap h' → Q () { s with heap := h' } := by
    intro a0 h' hin hN
    obtain ⟨k1, k2, ⟨oe', vs', T', oT', ts', ge, ⟨hc, h0⟩, de, g1, nT, hTe, gT, dT, g3⟩, k4⟩ := hN
    exact hQ _ _ (.traced hc de g1 h0 dT g3) (relNoted (tk := s.toks) ok hF hin R k1 k4 ge de gT dT nT hTe)
  cases x with
  | @made oe vs a0 h1 h2 h3 h4 =>
    have he := R.inFr (a := e) (o := oe) (by simp)
    unfold noteFrame
    simp only [hL]
    refine wpAny_bind (wpAny_field he h2 h3 ?_)
    rw [if_neg (by decide)]
    refine wpAny_entryW ok.frames hl hL he hkb (hef oe _ (by simp)) h2 (Array.getElem?_eq_some_iff.mp h3).1 h4 fun h' hN => ?_
    rw [h1] at hN
    exact fin ⟨oe, by simp⟩ hN
  | @traced oe oT vs ts a0 fl T h1 h2 h3 h4 h5 h6 =>
    have he := R.inFr (a := e) (o := oe) (by simp)
    have hT := R.inFr (a := T) (o := oT) (by simp)
    have hTe := R.two
    rcases hm with hm | hm | ⟨L', hL', hm⟩
    · cases hm
    · cases hm
      exact wpAny_noteFrame_onW ok.frames hl hL ⟨oe, vs, T, oT, ts, he, ⟨h1, h4⟩, h2, h3, hef oT _ (by simp), hTe, hT, h5, h6⟩ hkb (hef oe _ (by simp)) fun h' hN => fin ⟨oe, by simp⟩ hN
    · rw [hL] at hL'; cases hL'; cases hm
      exact wpAny_noteFrame_againW (base := hid f [(e, oe), (T, oT)] s.heap) hL ⟨oe, vs, T, oT, ts, he, ⟨h1, h4⟩, h2, h3, hef oT _ (by simp), hTe, hT, h5, h6⟩ (hQ _ _ (.traced h1 h2 h3 h4 h5 h6) R)
/-- the mark is set anew -/
theorem flight {Q : Unit → Shared → Prop} {E' : Value → Shared → Prop} {fl : Value} (v : Option Addr) (x : ExcL e C (some fl) E) (R : Rel c f ρ st imm (E ++ fr) s)
    (hQ : ∀ E₂ s', ExcL e C (some (v.elim .none fun a => rawInt a)) E₂ → Rel c f ρ st imm (E₂ ++ fr) s' → Q () s') : wpAny c.M f.A (setFlight (.ref e) v) Q E' s := by
  cases x with
  | @traced oe oT vs ts a0 fl T h1 h2 h3 h4 h5 h6 =>
    have he := R.inFr (a := e) (o := oe) (by simp)
    have hT := R.inFr (a := T) (o := oT) (by simp)
    have hsz := (Array.getElem?_eq_some_iff.mp h6).1
    unfold setFlight
    refine wpAny_bind (wpAny_field he h2 h3 ?_)
    rw [if_pos (show (Value.ref T != Value.none) = true from by simp)]
    refine wpAny_setField hT h5 hsz (hQ [(e, oe), (T, oT.mapFields (·.setIfInBounds 3 (v.elim Value.none fun a => rawInt a)))] _ (.traced h1 h2 h3 h4 (Obj.data_mapFields h5 (·.setIfInBounds 3 (v.elim Value.none fun a => rawInt a))) (by simp [hsz])) ?_)
    exact Rel.frSetAt [(e, oe)] R (tk := s.toks) (.update ..) (Heap.get?_update_self _ hT (Obj.isFreed_of_fields (Obj.data_mapFields h5 _))) (by rw [h5]; intro w q; cases q)
theorem leaves {Q : Unit → Shared → Prop} {E' : Value → Shared → Prop} {L : Addr} (ok : f.Ok c k) (hL : f.fenv.frame = some L) (x : ExcL e C mk E) (hm : MarkOk f mk) (R : Rel c f ρ st imm (E ++ fr) s)
    (hQ : ∀ E₂ s', ExcL e C (some .none) E₂ → Rel c f ρ st imm (E₂ ++ fr) s' → Q () s') : wpAny c.M f.A (leaving f.fenv (.ref e)) Q E' s := by
  unfold leaving
  exact wpAny_bind (noted ok hL x hm R fun E₂ s' x₂ R₂ => flight none x₂ R₂ fun E₃ s₃ x₃ R₃ => hQ E₃ s₃ x₃ R₃)
theorem Fm.Ok.frm (ok : f.Ok c k) : ∃ L, f.fenv.frame = some L := let ⟨_, L, h, _⟩ := ok.envs f.fenv (.head _); ⟨L, h⟩
theorem outOfLoop {ev : Value} (ok : f.Ok c k) (own : f.env = f.fenv) (t : Thrown c f imm fr X ev s) : notedBy c.M f.A f.env (cameBackBy c.M f.A f.env (Thrown c f imm fr X)) ev s := by
  obtain ⟨e, C, mk, E, ρ, st, imm', rfl, x, hm, i, R, hX⟩ := t
  obtain ⟨L, hL⟩ := ok.frm
  rw [own]
  refine noted ok hL x hm R fun E₂ s' x₂ R₂ => ?_
  have x₃ := x₂
  unfold cameBackBy
  cases x₂ with
  | @traced oe oT vs ts a0 fl T h1 h2 h3 h4 h5 h6 =>
    refine wpAny_bind (wpAny_field (R₂.inFr (a := e) (o := oe) (by simp)) h2 h3 ?_)
    rw [if_neg (show ¬ (Value.ref T == Value.none) = true from by simp)]
    rw [hL]
    exact flight (some L) x₃ R₂ fun E₃ s₃ x₃ R₃ => ⟨e, C, _, E₃, ρ, st, imm', rfl, x₃, .inr (.inr ⟨L, hL, rfl⟩), i, R₃, hX⟩
theorem Thrown.drop {imm' : Led} {I : Addr} {o : Obj} {ev : Value} (hd : ∀ w, o.data ≠ .cell w) (hi : ∀ p ∈ imm, p ∈ imm') (t : Thrown c f imm' ((I, o) :: fr) X ev s) : Thrown c f imm fr X ev s := by
  obtain ⟨e, C, mk, E, ρ, st, imm'', rfl, x, hm, i, R, hX⟩ := t
  refine ⟨e, C, mk, E, ρ, st, imm'', rfl, x, hm, fun p hp => i p (hi p hp), ?_, hX⟩
  have hR := R
  obtain ⟨⟨h0, tk0, rfl⟩, _⟩ := hR
  have zz := Rel.frEndAt E R (h' := h0) (tk := tk0) (fun _ _ _ e => e) hd
  exact zz
abbrev never : Xp := fun _ _ _ => False
end
end Mine
namespace Mine
/-- a def of the text -/
structure FnAt (K : Frag) (a : Addr) (names : List Str) (sc : Scope) (body : List Stmt) : Prop where
  ex : ∃ fo fd, K.lookup a = some fo ∧ fo.data = .func fd ∧ fd.body = .stmts body ∧ fd.scope = sc ∧ fd.globals = mainGlobals ∧ fd.closure = [] ∧ fd.builtins = builtinsNs ∧
    codeIn K fd.code fd.qualname = true ∧ ∀ xs : List Value, xs.length = names.length → bindArgs fd ⟨xs, []⟩ = pure (names.zip xs)
  locB : names.all (storesB sc) = true
  co : sc.isCoroutine = false
  gen : sc.isGenerator = false
  kind : sc.kind = .function
  nodup : names.Nodup

theorem FnAt.loc {K : Frag} {a : Addr} {names : List Str} {sc : Scope} {body : List Stmt} (H : FnAt K a names sc body) : ∀ x ∈ names, storesB sc x = true := List.all_eq_true.mp H.locB
theorem zip_mem {base : Heap} {imm : Led} : ∀ {names : List Str} {vs : List V} {xs : List Value}, RVs base imm vs xs → ∀ {x : Str} {v : V}, getL (names.zip vs) x = some v → ∃ val, (x, val) ∈ names.zip xs ∧ RV base imm v val := by
  intro names
  induction names with
  | nil => intro vs xs _ x v e; simp [getL] at e
  | cons n names ih =>
    intro vs xs r x v e
    cases r with
    | nil => simp [getL] at e
    | cons rv rvs =>
      rw [List.zip_cons_cons, getL_cons] at e
      by_cases h : n = x
      · subst h
        rw [if_pos rfl] at e; cases e
        exact ⟨_, by simp, rv⟩
      · rw [if_neg h] at e
        obtain ⟨val, hm, hv⟩ := ih rvs e
        exact ⟨val, by rw [List.zip_cons_cons]; exact .tail _ hm, hv⟩
theorem zip_keys (ns : List Str) (ys : List Value) : ((ns.zip ys).map (·.1)).Sublist ns := by
  induction ns generalizing ys with
  | nil => simp
  | cons n ns ih => cases ys with
    | nil => simp
    | cons y ys => simpa using ih ys
theorem bindL_other {kd : Str → Option NameKind} {x : Str} : ∀ {b : List (Str × Value)} {m : Str → Option Value}, x ∉ b.map (·.1) → bindL kd b m x = m x
  | [], _, _ => rfl
  | (n, v) :: r, m, h => by
    simp only [List.map_cons, List.mem_cons, not_or] at h
    unfold bindL
    rw [bindL_other h.2]
    split
    · simp [h.1]
    · rfl
theorem bindC_other {kd : Str → Option NameKind} {x : Str} : ∀ {b : List (Str × Value)} {m : Str → Option Value}, x ∉ b.map (·.1) → bindC kd b m x = m x
  | [], _, _ => rfl
  | (n, v) :: r, m, h => by
    simp only [List.map_cons, List.mem_cons, not_or] at h
    unfold bindC
    rw [bindC_other h.2]
    split
    · rfl
    · simp [h.1]
theorem bindL_at {kd : Str → Option NameKind} {x : Str} {val : Value} (hk : kd x = some .local) : ∀ {b : List (Str × Value)} {m : Str → Option Value}, (b.map (·.1)).Nodup → (x, val) ∈ b → bindL kd b m x = some val
  | (n, v) :: r, m, nd, h => by
    simp only [List.map_cons, List.nodup_cons] at nd
    unfold bindL
    rcases List.mem_cons.mp h with h | h
    · cases h
      rw [bindL_other nd.1, if_pos hk]; simp
    · exact bindL_at hk nd.2 h
theorem bindC_at {kd : Str → Option NameKind} {x : Str} {val : Value} (hk : ¬ kd x = some .local) : ∀ {b : List (Str × Value)} {m : Str → Option Value}, (b.map (·.1)).Nodup → (x, val) ∈ b → bindC kd b m x = some val
  | (n, v) :: r, m, nd, h => by
    simp only [List.map_cons, List.nodup_cons] at nd
    unfold bindC
    rcases List.mem_cons.mp h with h | h
    · cases h
      rw [bindC_other nd.1, if_neg hk]; simp
    · exact bindC_at hk nd.2 h
theorem cells_look {x : Str} : ∀ (names : List (Str × NameKind)) (n : Nat) (acc : List (Str × Addr)), ((x, NameKind.cell) ∈ names ∨ (acc.lookup x).isSome = true) → ((cellsFrom n names acc).lookup x).isSome = true
  | [], n, acc, h => by
    rcases h with h | h
    · cases h
    · exact h
  | (y, kd) :: r, n, acc, h => by
    unfold cellsFrom
    split
    · rename_i hk
      refine cells_look r _ _ ?_
      rcases h with h | h
      · rcases List.mem_cons.mp h with h | h
        · cases h; right; simp
        · exact .inl h
      · right
        rw [List.lookup_cons]
        split
        · rfl
        · exact h
    · rename_i hk
      refine cells_look r _ _ ?_
      rcases h with h | h
      · rcases List.mem_cons.mp h with h | h
        · cases h; exact absurd rfl hk
        · exact .inl h
      · exact .inr h

section
variable {c : Cx} {k : Nat} {ρ : Loc} {st : St} {Q : V → St → Prop} {X : Xp} {f : Fm} {imm fr : Led} {s : Shared}

def retV : Fl → V
  | .ret v => v
  | _ => .none

/-- the callee's frame -/
abbrev Fm.call (f : Fm) (m : Str → Option Value) (L : Addr) (env : Env) : Fm := { outer := f.fenv :: f.outer, frs := (f.L, m) :: f.frs, L := L, fenv := env, env := env, A := f.A.deeper env, cmp := false }

theorem nodup_count {l : List Nat} (h : ∀ a, l.count a ≤ 1) : l.Nodup := List.nodup_iff_count.mpr h

/-- back in the caller's frame -/
theorem back {f' : Fm} {m : Str → Option Value} {ρ' : Loc} {st' : St} {imm' cs : Led} {s' : Shared} {h : Heap} (hf : f'.frs = (f.L, m) :: f.frs) (R : Rel c f' ρ' st' imm' (cs ++ fr) s') (F : Fr c.base f.L h m) (hl : LocR c.base imm f ρ m cs fr) (hi : ∀ p ∈ imm, p ∈ imm') : Rel c f ρ st' imm' fr s' := by
  obtain ⟨hr, m', mt', cs', fo', r⟩ := R
  have fos := r.fos
  rw [hf] at fos
  cases fos with
  | @cons _ _ oL _ fo no fos =>
    have hw := r.news (f.L, oL) (by simp)
    obtain ⟨es, ep, n1, n2, n3⟩ := no
    have nd := List.nodup_iff_count.mp r.nodup
    simp only [List.map_append, List.map_cons, List.count_append, List.count_cons] at nd
    refine ⟨hr, m, mt', cs, fo, ⟨⟨oL, es, ep, hw.1, n1, n2, n3⟩, r.frm.keep, F.above⟩, fun p hp => ?_, nodup_count fun a => ?_, r.sto, fos, hl.mono hi⟩
    · have hp' : p ∈ whole mt' cs' imm' (cs ++ fr) ((f.L, oL) :: fo) := by
        simp only [List.mem_append, List.mem_cons] at hp ⊢
        rcases hp with hp | hp | hp | hp | hp
        · exact .inl hp
        · exact .inr (.inr (.inr (.inl (.inl hp))))
        · exact .inr (.inr (.inl hp))
        · exact .inr (.inr (.inr (.inl (.inr hp))))
        · exact .inr (.inr (.inr (.inr (.inr hp))))
      refine ⟨(r.news p hp').1, fun e => ?_, (r.news p hp').2.2⟩
      have q := nd f.L
      simp only [beq_self_eq_true, if_true] at q
      have hin : p.1 ∈ (mt' ++ (cs ++ (imm' ++ (fr ++ fo)))).map (·.1) := List.mem_map_of_mem hp
      rw [e] at hin
      have := List.count_pos_iff.mpr hin
      simp only [List.map_append, List.count_append] at this
      omega
    · have q := nd a
      simp only [List.map_append, List.count_append]
      omega

/-- a frame begins -/
theorem enterAt {a : Addr} {names : List Str} {sc : Scope} {body : List Stmt} {vs : List V} {xs : List Value} {fd : FuncData} {s s₁ : Shared} {f : Fm} {mt fo : Led} (H : FnAt c.K a names sc body) (hsc : fd.scope = sc) (hcl : fd.closure = []) (rvs : RVs c.base imm vs xs)
    (hs : ∃ h tk, s = { c.s₀ with heap := h, toks := tk }) (hkeep : ∀ b o, c.base.get? b = some o → s.heap.get? b = some o) (hbase : c.base.objs.size ≤ s.heap.objs.size) (N : ∀ p ∈ whole mt [] imm fr fo, s.heap.get? p.1 = some p.2 ∧ c.base.get? p.1 = none) (nd : ((whole mt [] imm fr fo).map (·.1)).Nodup)
    (hst : StR c imm st mt) (hfo : FoR f.frs fo) (hL : f.L = s.heap.objs.size) (he : f.env = callEnvC fd s.heap.objs.size a)
    (x : InCallC s (callEnvC fd s.heap.objs.size a).locals (bindL (callEnvC fd s.heap.objs.size a).kindOf (names.zip xs) fun _ => none) (callEnvC fd s.heap.objs.size a).cells (bindC (callEnvC fd s.heap.objs.size a).kindOf (names.zip xs) fun _ => none) s₁) :
    Rel c f (names.zip vs) st imm fr s₁ := by
  obtain ⟨h0, tk0, rfl⟩ := hs
  obtain ⟨h₁, tk₁, rfl, hk₁⟩ := x.done
  have hloc : (callEnvC fd h0.objs.size a).locals = h0.objs.size := rfl
  have ns := x.toInCall.ns
  have above := x.above
  have apart := x.apart
  have cell := x.cell
  generalize hcells : (callEnvC fd h0.objs.size a).cells = cells at above apart cell
  have hfc : f.env.cells = cells := by rw [he]; exact hcells
  dsimp only at cell hk₁ ns N hkeep hL hbase
  have hobj : ∀ n cc, cells.lookup n = some cc → h₁.get? cc = some ((h₁.get? cc).getD default) ∧ ((h₁.get? cc).getD default).data = .cell (bindC (callEnvC fd h0.objs.size a).kindOf (names.zip xs) (fun _ => none) n) := fun n cc hn => by
    obtain ⟨o, ho, hd⟩ := cell n cc hn
    rw [ho]; exact ⟨rfl, hd⟩
  let cs : Led := (cells.filter fun p => decide (cells.lookup p.1 = some p.2)).map fun p => (p.2, (h₁.get? p.2).getD default)
  have hcs : ∀ p ∈ cs, ∃ n, cells.lookup n = some p.1 ∧ p.2 = (h₁.get? p.1).getD default := fun p hp => by
    obtain ⟨q, hq, rfl⟩ := List.mem_map.mp hp
    have := (List.mem_filter.mp hq).2
    exact ⟨q.1, by simpa using this, rfl⟩
  have hin : ∀ n cc, cells.lookup n = some cc → (cc, (h₁.get? cc).getD default) ∈ cs := fun n cc hn =>
    List.mem_map.mpr ⟨(n, cc), List.mem_filter.mpr ⟨mem_of_lookup hn, by simpa using hn⟩, rfl⟩
  have hcnd : (cs.map (·.1)).Nodup := by
    show ((((cells.filter fun p => decide (cells.lookup p.1 = some p.2)).map fun p => (p.2, (h₁.get? p.2).getD default))).map (·.1)).Nodup
    rw [List.map_map]
    exact List.pairwise_map.mpr (apart.filter _)
  have hab : ∀ p ∈ cs, h0.objs.size < p.1 := fun p hp => by
    obtain ⟨n, hn, _⟩ := hcs p hp
    have := above n p.1 (mem_of_lookup hn)
    rw [hloc] at this; exact this
  have hlt : ∀ p ∈ whole mt [] imm fr fo, p.1 < h0.objs.size := fun p hp => Heap.lt_size (N p hp).1
  have hzn : ((names.zip xs).map (·.1)).Nodup := H.nodup.sublist (zip_keys names xs)
  refine ⟨⟨h₁, tk₁, rfl⟩, _, mt, cs, fo, ⟨hL ▸ hloc ▸ ns, fun b o e => hk₁ b o (hkeep b o e), hL ▸ hbase⟩, fun p hp => ?_, nodup_count fun b => ?_, hst, hfo, ⟨fun y v e => ?_, fun _ y cc e => ?_, fun _ y z cc e e' => ?_⟩⟩
  · have hp' : p ∈ cs ∨ p ∈ whole mt [] imm fr fo := by
      simp only [List.mem_append, List.nil_append, List.not_mem_nil, false_or] at hp ⊢
      rcases hp with hp | hp | hp | hp | hp
      · exact .inr (.inl hp)
      · exact .inl hp
      · exact .inr (.inr (.inl hp))
      · exact .inr (.inr (.inr (.inl hp)))
      · exact .inr (.inr (.inr (.inr hp)))
    rcases hp' with hp' | hp'
    · obtain ⟨n, hn, e⟩ := hcs p hp'
      have z := hab p hp'
      exact ⟨e ▸ (hobj n p.1 hn).1, by rw [hL]; exact Nat.ne_of_gt z, Heap.get?_none_of_le (Nat.le_trans hbase (Nat.le_of_lt z))⟩
    · exact ⟨hk₁ _ _ (N p hp').1, by rw [hL]; exact Nat.ne_of_lt (hlt p hp'), (N p hp').2⟩
  · have z := List.nodup_iff_count.mp nd b
    have z' := List.nodup_iff_count.mp hcnd b
    have z2 : (cs.map (·.1)).count b = 0 ∨ ((whole mt [] imm fr fo).map (·.1)).count b = 0 := by
      by_cases q : h0.objs.size < b
      · right
        refine List.count_eq_zero.mpr fun hm => ?_
        obtain ⟨p, hp, e⟩ := List.mem_map.mp hm
        have := hlt p hp
        have e2 : p.1 = b := e
        rw [e2] at this
        exact Nat.lt_asymm q this
      · left
        refine List.count_eq_zero.mpr fun hm => ?_
        obtain ⟨p, hp, e⟩ := List.mem_map.mp hm
        have := hab p hp
        have e2 : p.1 = b := e
        rw [e2] at this
        exact q this
    simp only [List.map_append, List.count_append, List.map_nil, List.count_nil] at z z2 ⊢
    omega
  · obtain ⟨val, h1, h2⟩ := zip_mem rvs e
    have hy : y ∈ names := (List.of_mem_zip h1).1
    have hk := H.loc y hy
    unfold storesB at hk
    refine ⟨val, h2, ?_⟩
    cases hkd : sc.names.lookup y with
    | none => rw [hkd] at hk; cases hk
    | some kd =>
      have hkind : f.env.kindOf y = some kd := by rw [he]; show fd.scope.names.lookup y = _; rw [hsc]; exact hkd
      have hkind' : (callEnvC fd h0.objs.size a).kindOf y = some kd := he ▸ hkind
      rw [hkd] at hk
      by_cases hl : kd = .local
      · subst hl
        refine .inl ⟨hkind, ?_, bindL_at hkind' hzn h1⟩
        rw [he, hL]; rfl
      · have hce : kd = .cell := by cases kd <;> first | rfl | (cases hk; done) | exact absurd rfl hl
        subst hce
        have hlk := cells_look (x := y) fd.scope.names (h0.objs.size + 1) [] (.inl (mem_of_lookup (by rw [hsc]; exact hkd)))
        obtain ⟨cc, hcc⟩ := Option.isSome_iff_exists.mp hlk
        have hcc' : cells.lookup y = some cc := hcells ▸ hcc
        refine .inr ⟨.inl hkind, cc, _, hfc ▸ hcc', List.mem_append_left _ (hin y cc hcc'), ?_⟩
        rw [(hobj y cc hcc').2, bindC_at (by rw [hkind']; decide) hzn h1]
  · rw [hfc] at e
    exact ⟨_, _, hin y cc e, (hobj y cc e).2⟩
  · rw [hfc] at e e'
    exact name_of_addr apart (mem_of_lookup e) (mem_of_lookup e')

theorem envs_call {m : Str → Option Value} {L : Addr} {env : Env} (hk : env.scope.kind = .function) (hf : env.frame = some L) (h : ∀ e ∈ f.fenv :: f.outer, EnvOk f e) : ∀ e ∈ (f.call m L env).fenv :: (f.call m L env).outer, EnvOk (f.call m L env) e := by
  intro e he
  rcases List.mem_cons.mp he with rfl | he
  · exact ⟨hk, L, hf, .inl rfl⟩
  · obtain ⟨h1, L', h2, h3⟩ := h e he
    refine ⟨h1, L', h2, .inr ?_⟩
    rcases h3 with rfl | ⟨m', h3⟩
    · exact ⟨m, .head _⟩
    · exact ⟨m', .tail _ h3⟩
theorem CodeW.fn {a : Addr} {names : List Str} {sc : Scope} {body : List Stmt} {vs : List V} (H : FnAt c.K a names sc body) (hn : vs.length = names.length)
    (h : WPS c k sc (names.zip vs) st body (fun fl ρ' st' => Q (retV fl) st') (fun C _ st' => X C ρ st')) (ok : f.Ok c (k + 1)) (R : Rel c f ρ st imm fr s) {xs : List Value} (rvs : RVs c.base imm vs xs) :
    codeAny c.M f.A (.call (.ref a) ⟨xs, []⟩) (fun r s' => match r with | .ok (.ret v) => PostE c f ρ imm fr Q v s' | .ok _ => False | .error e => Thrown c f imm fr X e s') s := by
  obtain ⟨fo, fd, hK, hd, hb, hsc, hg, hcl, hbi, hcd, hbind⟩ := H.ex
  have hx : xs.length = names.length := rvs.length.trans hn
  have kin := R.kin ok
  obtain ⟨hs, m, mt, cs, fo, r⟩ := R
  have hzip : ∀ y ∈ names.zip xs, fd.scope.names.lookup y.1 = some .local ∨ (fd.scope.names.lookup y.1 = some .cell ∧ ((cellsFrom (s.heap.objs.size + 1) fd.scope.names []).lookup y.1).isSome = true) := fun y hy => by
    have := H.loc _ (List.of_mem_zip hy).1
    unfold storesB at this
    rw [hsc]
    cases hkd : sc.names.lookup y.1 with
    | none => rw [hkd] at this; cases this
    | some kd =>
      rw [hkd] at this
      cases kd <;> first | (cases this; done) | exact .inl rfl | exact .inr ⟨rfl, cells_look _ _ _ (.inl (mem_of_lookup hkd))⟩
  refine (codeAny_call_cells (binds := names.zip xs) (by have := ok.depth; omega) (kin _ _ hK) hd (ok.top.nolimit.keeps r.frm.keep) (codeRec_of kin hcd) hb (hbind xs hx) hcl hzip (fun s₁ x => ?_) (hsc ▸ H.co) (hsc ▸ H.gen) (hsc ▸ H.kind))
  obtain ⟨oL, es, ep, hL, hLd, hLk, hLf⟩ := r.frm.ns
  have hkd : fd.scope.kind = .function := hsc ▸ H.kind
  have ok' : (f.call m s.heap.objs.size (callEnvC fd s.heap.objs.size a)).Ok c k := by
    refine ⟨ok.kin, ok.top, envs_call hkd rfl ok.envs, Around.frames_deeper ok.frames, rfl, hkd, hg, hbi, fun x hx => ?_, ok.hnd, ?_, ?_⟩
    · exact Option.isSome_iff_exists.mp (cells_look _ _ _ (.inl (mem_of_lookup hx)))
    · show f.A.depth + 1 + k + 200 < _; have := ok.depth; omega
    · show f.A.units + 3 + 8 * k + 200 < _; have := ok.units; omega
  have R' : Rel c (f.call m s.heap.objs.size (callEnvC fd s.heap.objs.size a)) (names.zip vs) st imm (cs ++ fr) s₁ := by
    refine enterAt (fo := (f.L, oL) :: fo) H hsc hcl rvs hs r.frm.keep (Nat.le_trans r.frm.above (Nat.le_of_lt r.frm.ns.lt)) (fun p hp => ?_) (nodup_count fun b => ?_) r.sto (.cons ⟨es, ep, hLd, hLk, hLf⟩ r.fos) rfl rfl x
    · have hp' : p = (f.L, oL) ∨ p ∈ whole mt cs imm fr fo := by
        simp only [List.mem_append, List.mem_cons, List.nil_append, List.not_mem_nil, false_or] at hp ⊢
        rcases hp with hp | hp | (hp | hp) | hp | hp
        · exact .inr (.inl hp)
        · exact .inr (.inr (.inr (.inl hp)))
        · exact .inr (.inr (.inl hp))
        · exact .inr (.inr (.inr (.inr (.inl hp))))
        · exact .inl hp
        · exact .inr (.inr (.inr (.inr (.inr hp))))
      rcases hp' with rfl | hp'
      · exact ⟨hL, Heap.get?_none_of_le r.frm.above⟩
      · exact ⟨(r.news p hp').1, (r.news p hp').2.2⟩
    · have nd := List.nodup_iff_count.mp r.nodup b
      simp only [List.map_append, List.map_cons, List.count_append, List.count_cons, List.map_nil, List.count_nil] at nd ⊢
      by_cases e : f.L = b
      · subst e
        have : (List.map (fun x => x.fst) (whole mt cs imm fr fo)).count f.L = 0 := List.count_eq_zero.mpr fun hm => by
          obtain ⟨p, hp, e⟩ := List.mem_map.mp hm
          exact (r.news p hp).2.1 e
        simp only [List.map_append, List.count_append] at this
        simp only [beq_self_eq_true, if_true]
        omega
      · have : (f.L == b) = false := by simpa using e
        simp only [this]
        simp only [Bool.false_eq_true, if_false]
        omega
  refine wpAny_mono (h.go _ imm (cs ++ fr) _ ok' hsc ⟨rfl, rfl, rfl⟩ R') (fun fl s' p => ?_) fun ev s' t => ?_
  rotate_left
  · obtain ⟨e, C, mk, E, ρ', st', imm', rfl, x, hm, i', R'', hX⟩ := t
    refine leaves ok' rfl x hm R'' fun E₂ s₂ x₂ R₂ => ?_
    have pm : (E₂ ++ (cs ++ fr)).Perm (cs ++ (E₂ ++ fr)) := by
      rw [← List.append_assoc, ← List.append_assoc]
      exact List.Perm.append_right _ List.perm_append_comm
    exact ⟨e, C, some .none, E₂, ρ, st', imm', rfl, x₂, .inr (.inl rfl), i', back rfl (R₂.permFr pm) r.frm r.loc.app i', hX⟩
  obtain ⟨fl', ρ', st', imm', i', rf, R'', h'⟩ := p
  have B := back rfl R'' r.frm r.loc i'
  cases rf with
  | ret rv => exact ⟨_, st', imm', i', rv, B, h'⟩
  | next => exact ⟨.none, st', imm', i', .none, B, h'⟩
  | brk => exact ⟨.none, st', imm', i', .none, B, h'⟩
  | cont => exact ⟨.none, st', imm', i', .none, B, h'⟩

theorem CallW.fn {a : Addr} {names : List Str} {sc : Scope} {body : List Stmt} {vs : List V} (H : FnAt c.K a names sc body) (hn : vs.length = names.length)
    (h : WPS c k sc (names.zip vs) st body (fun fl ρ' st' => Q (retV fl) st') (fun C _ st' => X C ρ st')) : WL c (k + 1) (fun xs => call (.ref a) xs) vs ρ st Q X :=
  ⟨fun f imm fr s xs ok R rvs => wpAny_call (CodeW.fn H hn h ok R rvs)⟩

/-- the law itself is called -/
theorem enterLaw {a l : Addr} {name : Str} {sc : Scope} {body : List Stmt} {vals : List Value} {ns : List Int} {s : Shared} {Rr : Result → Shared → Prop} (H : FnAt c.K a [name] sc body) (hs : c.s₀ = s) (hb : c.base = s.heap) (kin : c.K.In c.base) (top : Top c.p c.loose c.mean c.mg c.mb c.base)
    (hk : 301 + k + 201 < 1000) (hl : c.base.IsList l vals.toArray) (hn : IntsAre vals ns)
    (h : WPS c k sc [(name, .scr ns)] [] body (fun fl _ _ => retV fl = .bool true) (fun _ _ _ => False))
    (hR : ∀ L m h' tk, Fr s.heap L h' m → Rr (.ok (.ret (.bool true))) { s with heap := h', toks := tk }) : codeAny c.M callerA (.call (.ref a) ⟨[.ref l], []⟩) Rr s := by
  subst hs
  obtain ⟨fo, fd, hK, hd, hbd, hsc, hg, hcl, hbi, hcd, hbind⟩ := H.ex
  rw [hb] at kin
  have hbase := hb
  have hzip : ∀ y ∈ [name].zip [Value.ref l], fd.scope.names.lookup y.1 = some .local ∨ (fd.scope.names.lookup y.1 = some .cell ∧ ((cellsFrom (c.s₀.heap.objs.size + 1) fd.scope.names []).lookup y.1).isSome = true) := fun y hy => by
    have := H.loc _ (List.of_mem_zip hy).1
    unfold storesB at this
    rw [hsc]
    cases hkd : sc.names.lookup y.1 with
    | none => rw [hkd] at this; cases this
    | some kd =>
      rw [hkd] at this
      cases kd <;> first | (cases this; done) | exact .inl rfl | exact .inr ⟨rfl, cells_look _ _ _ (.inl (mem_of_lookup hkd))⟩
  refine codeAny_call_cells (binds := [name].zip [Value.ref l]) (by decide) (kin _ _ hK) hd (hb ▸ top.nolimit) (codeRec_of kin hcd) hbd (hbind [.ref l] rfl) hcl hzip (fun s₁ x => ?_) (hsc ▸ H.co) (hsc ▸ H.gen) (hsc ▸ H.kind)
  let f : Fm := { outer := [], frs := [], L := c.s₀.heap.objs.size, fenv := callEnvC fd c.s₀.heap.objs.size a, env := callEnvC fd c.s₀.heap.objs.size a, A := callerA.deeper (callEnvC fd c.s₀.heap.objs.size a), cmp := false }
  have hkd : fd.scope.kind = .function := hsc ▸ H.kind
  have ok' : f.Ok c k := by
    refine ⟨hb ▸ kin, top, (fun e he => by rw [List.mem_singleton.mp he]; exact ⟨hkd, _, rfl, .inl rfl⟩), rfl, rfl, hkd, hg, hbi, fun x hx => ?_, fun _ => rfl, ?_, ?_⟩
    · exact Option.isSome_iff_exists.mp (cells_look _ _ _ (.inl (mem_of_lookup hx)))
    · show 1 + claimMargin + 1 + k + 200 < recursionLimit
      unfold claimMargin recursionLimit; omega
    · show 4 + 3 + 8 * k + 200 < cLine
      unfold cLine; omega
  have R' : Rel c f ([name].zip [V.scr ns]) [] [] [] s₁ :=
    enterAt (mt := []) (fo := []) H hsc hcl (.one (.scr hl hn)) ⟨_, _, rfl⟩ (fun b o e => hb ▸ e) (by rw [hb]; exact Nat.le_refl _) (fun p hp => nomatch hp) .nil .nil .nil rfl rfl x
  refine wpAny_mono (h.go f [] [] s₁ ok' hsc ⟨rfl, rfl, rfl⟩ R') (fun fl s' p => ?_) fun _ _ t => t.never.elim
  obtain ⟨fl', ρ', st', imm', i', rf, R'', h'⟩ := p
  obtain ⟨⟨h1, tk1, rfl⟩, m, mt, cs, fo, r⟩ := R''
  have F : Fr c.s₀.heap c.s₀.heap.objs.size h1 m := by
    have := r.frm
    rw [hb] at this
    exact this
  cases rf with
  | ret rv =>
    cases h'
    cases rv
    exact hR _ _ _ _ F
  | next => cases h'
  | brk => cases h'
  | cont => cases h'
end
end Mine
namespace Mine
section
variable {c : Cx} {k : Nat} {sc : Scope} {ρ : Loc} {st : St} {Q : V → St → Prop} {S : Fl → Loc → St → Prop} {X : Xp} {f : Fm} {imm fr : Led} {s : Shared} {tk : Nat}

/-! calls -/
def isStar : Expr → Bool
  | .Starred _ _ => true
  | _ => false
theorem star_cons {e : Expr} {es : List Expr} {env : Env} (h : isStar e = false) : starEach (e :: es) env = (false, eval e env) :: starEach es env := by
  cases e <;> first | rfl | (cases h)
theorem star_plain {es : List Expr} {env : Env} {pos : Pos} (h : es.any isStar = false) : (backTo pos (starEach es env)).any (·.1) = false := by
  induction es with
  | nil => rfl
  | cons e es ih =>
    simp only [List.any_cons, Bool.or_eq_false_iff] at h
    rw [star_cons h.1]
    have := ih h.2
    simp only [backTo, List.map_cons, List.any_cons, Bool.false_or] at this ⊢
    exact this

def callable (K : Frag) : Value → Bool
  | .builtin _ => true
  | .type _ => true
  | .ref a => keepIn K (.ref a)
  | _ => false

theorem callWithW {val : Value} {args : List Expr} {first : List Value} {vs₀ : List V} {pos : Pos} (hc : callable c.K val = true) (hp : args.any isStar = false) (ok : f.Ok c k) (hsc : f.env.scope = sc) (R : Rel c f ρ st imm fr s) (rf : RVs c.base imm vs₀ first)
    (hf0 : first = [] ∨ (∀ T, val ≠ .type T))
    (h : WPEs c k sc ρ st args (fun vs st₂ => WL c k (fun xs => call val xs) (vs₀ ++ vs) ρ st₂ Q X) X) :
    wpAny c.M f.A (callWith pos val first (backTo pos (starEach args f.env)) []) (PostE c f ρ imm fr Q) (Thrown c f imm fr X) s := by
  have K : ∀ xs s₁, PostL c f ρ imm fr args.length (fun vs st₂ => WL c k (fun xs => call val xs) (vs₀ ++ vs) ρ st₂ Q X) xs s₁ → wpAny c.M f.A (call val (first ++ xs)) (PostE c f ρ imm fr Q) (Thrown c f imm fr X) s₁ := by
    rintro xs s₁ ⟨vs, st₁, imm₁, i₁, rvs, R₁, hn, h₁⟩
    exact wpAny_mono (h₁.go f imm₁ fr s₁ (first ++ xs) ok R₁ ((rf.mono i₁).append rvs)) (fun _ _ p => p.mono i₁) fun _ _ t => t.mono i₁
  have H := h.go f imm fr s pos ok hsc R
  cases args with
  | nil =>
    have KK : wpAny c.M f.A (call val (first ++ [])) (PostE c f ρ imm fr Q) (Thrown c f imm fr X) s := by
      have e : wpAny c.M f.A (spliced (backTo pos (starEach [] f.env))) (fun xs s₁ => wpAny c.M f.A (call val (first ++ xs)) (PostE c f ρ imm fr Q) (Thrown c f imm fr X) s₁) (Thrown c f imm fr X) s :=
        wpAny_mono H (fun xs s₁ p => K xs s₁ p) fun _ _ t => t
      exact fun Γ p hΓ => e Γ p hΓ Γ p hΓ
    cases val <;> first | (cases hc; done) | skip
    · rename_i T
      rcases hf0 with rfl | hf0
      · exact callWith_type0 KK
      · exact absurd rfl (hf0 T)
    · exact callWith_method0 (by simpa using KK)
    · exact callWith_K0 (R.kin ok) hc KK
  | cons e es =>
    simp only [List.any_cons, Bool.or_eq_false_iff] at hp
    cases val <;> first | (cases hc; done) | skip
    · rename_i T
      rcases hf0 with rfl | hf0
      · exact callWith_type1 (wpAny_mono H (fun xs s₁ p => by simpa using K xs s₁ p) fun _ _ t => t) (star_cons hp.1) (star_plain hp.2)
      · exact absurd rfl (hf0 T)
    · exact callWith_method1 (wpAny_mono H (fun xs s₁ p => K xs s₁ p) fun _ _ t => t) (star_cons hp.1) (star_plain hp.2)
    · refine callWith_K ok.kin hc (wpAny_mono H (fun xs s₁ p => ⟨?_, K xs s₁ p⟩) fun _ _ t => t) (star_cons hp.1) (star_plain hp.2)
      obtain ⟨vs, st₁, imm₁, i₁, rvs, R₁, hn, h₁⟩ := p
      exact R₁.kin ok

theorem WPE.call {id : Str} {p pos : Pos} {args : List Expr}
    (h : WPE c k sc ρ st (.Name id p) (fun fv st₁ => ∃ val, fv = .stat val ∧ callable c.K val = true ∧ WPEs c k sc ρ st₁ args (fun vs st₂ => WL c k (fun xs => call val xs) vs ρ st₂ Q X) X) X)
    (hp : args.any isStar = false := by rfl) : WPE c k sc ρ st (.Call (.Name id p) args [] pos) Q X := by
  refine ⟨fun f imm fr s ok hsc R => ?_⟩
  refine wpAny_Call_NameR (wpAny_mono (h.go f imm fr s ok hsc R) (fun x s₁ q => ?_) fun _ _ t => t)
  obtain ⟨v, st₁, imm₁, i₁, rv, R₁, val, rfl, hc, h₁⟩ := q
  cases rv
  exact wpAny_mono (callWithW (vs₀ := []) hc hp ok hsc R₁ .nil (.inl rfl) h₁) (fun _ _ p => p.mono i₁) fun _ _ t => t.mono i₁

/-! isinstance of the plain types -/
def typV (st : St) : V → Option String
  | .none => some "NoneType"
  | .bool _ => some "bool"
  | .int _ => some "int"
  | .str _ => some "str"
  | .tup _ => some "tuple"
  | .scr _ => some "list"
  | .ref a => match get st a with
    | some (.list _) => some "list"
    | some (.dictI _) => some "dict"
    | some (.dictS _) => some "dict"
    | _ => none
  | _ => none
def isi (T U : String) : Bool := T == U || (T == "bool" && U == "int")

theorem typV_ref {a : Addr} {T : String} (R : Rel c f ρ st imm fr s) (ht : typV st (.ref a) = some T) : (T = "list" ∨ T = "dict") ∧ ∃ o, s.heap.get? a = some o ∧ o.cls = .type T := by
  simp only [typV] at ht
  cases hg : get st a with
  | none => rw [hg] at ht; cases ht
  | some o =>
    rw [hg] at ht
    obtain ⟨co, hr, ho⟩ := R.get hg
    cases hr with
    | list r => cases ht; exact ⟨.inl rfl, _, ho, rfl⟩
    | dictI r d => cases ht; exact ⟨.inr rfl, _, ho, d.1.1⟩
    | dictS r d => cases ht; exact ⟨.inr rfl, _, ho, d.1.1⟩
    | inst C d => cases ht
    | exc _ _ => cases ht
    | attr _ => cases ht

def isiTypes : List String := ["int", "bool", "str", "tuple", "list"]
open IsiPair in
theorem WL.isinstance {v : V} {T U : String} (ht : typV st v = some T) (hu : isiTypes.contains U = true) (h : Q (.bool (isi T U)) st) : WL c k (fun xs => call (.builtin "isinstance") xs) [v, .stat (.type U)] ρ st Q X := by
  refine ⟨fun f imm fr s xs ok R rvs => ?_⟩
  cases rvs with
  | cons rv rvs =>
  cases rvs with
  | cons ru rvs =>
  cases rvs
  cases ru
  have P : ∀ b, isi T U = b → PostE c f ρ imm fr Q (.bool b) s := fun b e => .bool R (e ▸ h)
  have P' : ∀ b tk, isi T U = b → PostE c f ρ imm fr Q (.bool b) { s with toks := tk } := fun b tk e => .bool R.toks (e ▸ h)
  have hu' : U = "int" ∨ U = "bool" ∨ U = "str" ∨ U = "tuple" ∨ U = "list" := by
    simpa [isiTypes] using hu
  cases rv with
  | none => cases ht; rcases hu' with rfl | rfl | rfl | rfl | rfl <;> first | exact NoneType_int (P' _ _ rfl) | exact NoneType_bool (P' _ _ rfl) | exact NoneType_str (P' _ _ rfl) | exact NoneType_tuple (P' _ _ rfl) | exact NoneType_list (P' _ _ rfl)
  | bool b => cases ht; rcases hu' with rfl | rfl | rfl | rfl | rfl <;> first | exact bool_int (P _ rfl) | exact bool_bool (P _ rfl) | exact bool_str (P' _ _ rfl) | exact bool_tuple (P' _ _ rfl) | exact bool_list (P' _ _ rfl)
  | int i t => cases ht; rcases hu' with rfl | rfl | rfl | rfl | rfl <;> first | exact int_int (P _ rfl) | exact int_bool (P' _ _ rfl) | exact int_str (P' _ _ rfl) | exact int_tuple (P' _ _ rfl) | exact int_list (P' _ _ rfl)
  | str x t => cases ht; rcases hu' with rfl | rfl | rfl | rfl | rfl <;> first | exact str_int (P' _ _ rfl) | exact str_bool (P' _ _ rfl) | exact str_str (P _ rfl) | exact str_tuple (P' _ _ rfl) | exact str_list (P' _ _ rfl)
  | tup hm r =>
    cases ht
    have hg := R.inImm hm
    rcases hu' with rfl | rfl | rfl | rfl | rfl <;> first | exact tuple_int hg rfl (P' _ _ rfl) | exact tuple_bool hg rfl (P' _ _ rfl) | exact tuple_str hg rfl (P' _ _ rfl) | exact tuple_tuple hg rfl (P _ rfl) | exact tuple_list hg rfl (P' _ _ rfl)
  | scr hl hi =>
    cases ht
    obtain ⟨o, ho, hc, n, hd⟩ := hl
    have hg := R.keep _ _ ho
    rcases hu' with rfl | rfl | rfl | rfl | rfl <;> first | exact list_int hg hc (P' _ _ rfl) | exact list_bool hg hc (P' _ _ rfl) | exact list_str hg hc (P' _ _ rfl) | exact list_tuple hg hc (P' _ _ rfl) | exact list_list hg hc (P _ rfl)
  | ref a =>
    obtain ⟨hT, o, hg, hc⟩ := typV_ref R ht
    rcases hT with rfl | rfl
    · rcases hu' with rfl | rfl | rfl | rfl | rfl <;> first | exact list_int hg hc (P' _ _ rfl) | exact list_bool hg hc (P' _ _ rfl) | exact list_str hg hc (P' _ _ rfl) | exact list_tuple hg hc (P' _ _ rfl) | exact list_list hg hc (P _ rfl)
    · rcases hu' with rfl | rfl | rfl | rfl | rfl <;> first | exact dict_int hg hc (P' _ _ rfl) | exact dict_bool hg hc (P' _ _ rfl) | exact dict_str hg hc (P' _ _ rfl) | exact dict_tuple hg hc (P' _ _ rfl) | exact dict_list hg hc (P' _ _ rfl)
  | rng _ => cases ht
  | stat _ => cases ht

/-! len -/
theorem WL.lenTup {vs : List V} (hl : (vs.length : Int) < 2 ^ 63) (h : Q (.int vs.length) st) : WL c k (fun xs => call (.builtin "len") xs) [.tup vs] ρ st Q X := by
  refine ⟨fun f imm fr s xs ok R rvs => ?_⟩
  obtain ⟨_, rfl, rv⟩ := rvs.inv1
  obtain ⟨_, _, _, rfl, hm, r⟩ := rv.tupI
  · have e := r.length
    refine PyProof.Rows.len_tuple (items := _) ⟨_, R.inImm hm, rfl, _, rfl⟩ (by simpa [e] using hl) ?_
    simp only [List.size_toArray, e]
    exact .int R h
theorem WL.lenList {a : Addr} {vs : List V} (hg : get st a = some (.list vs)) (hl : (vs.length : Int) < 2 ^ 63) (h : Q (.int vs.length) st) : WL c k (fun xs => call (.builtin "len") xs) [.ref a] ρ st Q X := by
  refine ⟨fun f imm fr s xs ok R rvs => ?_⟩
  obtain ⟨_, rfl, rv⟩ := rvs.inv1
  obtain rfl := rv.refI
  obtain ⟨_, _, r, ho⟩ := R.isList hg
  · · have e := r.length
      refine PyProof.Rows.len_list (items := _) ⟨_, ho, rfl, _, rfl⟩ (by simpa [e] using hl) ?_
      simp only [List.size_toArray, e]
      exact .int R h
theorem WL.lenScr {ns : List Int} (hl : (ns.length : Int) < 2 ^ 63) (h : Q (.int ns.length) st) : WL c k (fun xs => call (.builtin "len") xs) [.scr ns] ρ st Q X := by
  refine ⟨fun f imm fr s xs ok R rvs => ?_⟩
  obtain ⟨_, rfl, rv⟩ := rvs.inv1
  obtain ⟨_, _, rfl, hi, hn⟩ := rv.scrI
  · have e := hn.length
    refine PyProof.Rows.len_list (items := _) (hi.at fun o e => R.keep _ _ e) (by simpa [e] using hl) ?_
    simp only [List.size_toArray, e]
    exact .int R h
end
end Mine
namespace Mine
section
variable {c : Cx} {k : Nat} {sc : Scope} {ρ : Loc} {st : St} {Q : V → St → Prop} {S : Fl → Loc → St → Prop} {X : Xp} {f : Fm} {imm fr : Led} {s : Shared} {tk : Nat}

/-! subscripts -/
def isSl : Expr → Bool
  | .Slice .. => true
  | _ => false
theorem sub_plain {e : Expr} (h : isSl e = false) (o i : Value) : subscripted e false o i = operate [o, i] (getItem o i) := by
  cases e <;> first | rfl | (cases h)
theorem WPE.sub {e i : Expr} {pos : Pos} (h : WPE c k sc ρ st e (fun a st₁ => WPE c k sc ρ st₁ i (fun b st₂ => W2 c k (subscriptTail e i) a b ρ st₂ Q X) X) X) : WPE c k sc ρ st (.Subscript e i pos) Q X := by
  refine ⟨fun f imm fr s ok hsc R => ?_⟩
  refine Subscript_ (wpAny_mono (h.go f imm fr s ok hsc R) (fun x s₁ p => ?_) fun _ _ t => t)
  obtain ⟨a, st₁, imm₁, i₁, ra, R₁, h₁⟩ := p
  refine wpAny_mono (h₁.go f imm₁ fr s₁ ok hsc R₁) (fun y s₂ p => ?_) fun _ _ t => t.mono i₁
  obtain ⟨b, st₂, imm₂, i₂, rb, R₂, h₂⟩ := p
  exact wpAny_mono (h₂.go f imm₂ fr s₂ x y ok R₂ (ra.mono i₂) rb) (fun _ _ p => p.mono fun q hq => i₂ q (i₁ q hq)) fun _ _ t => t.mono fun q hq => i₂ q (i₁ q hq)

theorem seqIndex_lt {i : Int} {n j : Nat} (h : seqIndex? i n = some j) : -(n : Int) ≤ i ∧ i < n ∧ j < n ∧ (0 ≤ i → j = i.toNat) ∧ (i < 0 → j = (i + n).toNat) := by
  unfold seqIndex? at h
  simp at h
  split at h <;> omega

theorem W2.subTup {e ie : Expr} {vs : List V} {i : Int} {j : Nat} {v : V} (hs : isSl ie = false) (hl : (vs.length : Int) < 2 ^ 63) (hj : seqIndex? i vs.length = some j) (hv : vs[j]? = some v) (h : Q v st) : W2 c k (subscriptTail e ie) (.tup vs) (.int i) ρ st Q X := by
  refine ⟨fun f imm fr s x y ok R ra rb => ?_⟩
  obtain ⟨_, rfl⟩ := rb.intI
  obtain ⟨_, _, _, rfl, hm, r⟩ := ra.tupI
  · obtain ⟨x, hx, rx⟩ := r.get hv
    have q := seqIndex_lt hj
    exact item_tupleT ⟨_, R.inImm hm, rfl, _, rfl⟩ (by omega) (by omega) (by rw [r.length]; exact hj) hx (.of rx R h) (sub_plain hs _ _)
theorem getItem_listJ {prog : Program} {w : World} {A : Around} {E : Value → Shared → Prop} {P : Value → Shared → Prop} {a : Addr} {items : Array Value} {i : Int} {t : Tok} {j : Nat} {x : Value} (hl : s.heap.IsList a items) (hb : (items.size : Int) < 2 ^ 63) (hj : seqIndex? i items.size = some j) (hx : items[j]? = some x) (h : P x s) :
    wpAny (model prog w) A (getItem (.ref a) (.int i t)) P E s := by
  have q := seqIndex_lt hj
  by_cases h0 : 0 ≤ i
  · exact wpAny_getItem_list hl h0 (by omega) (by rw [← q.2.2.2.1 h0]; exact hx) h
  · exact wpAny_getItem_list_neg hl (by omega) (by omega) (by omega) (by rw [← q.2.2.2.2 (by omega)]; exact hx) h
theorem W2.subList {e ie : Expr} {a : Addr} {vs : List V} {i : Int} {j : Nat} {v : V} (hg : get st a = some (.list vs)) (hs : isSl ie = false) (hl : (vs.length : Int) < 2 ^ 63) (hj : seqIndex? i vs.length = some j) (hv : vs[j]? = some v) (h : Q v st) : W2 c k (subscriptTail e ie) (.ref a) (.int i) ρ st Q X := by
  refine ⟨fun f imm fr s x y ok R ra rb => ?_⟩
  obtain ⟨_, rfl⟩ := rb.intI
  obtain rfl := ra.refI
  obtain ⟨vals, n, r, ho⟩ := R.isList hg
  · · obtain ⟨x, hx, rx⟩ := r.get hv
      have hL : s.heap.IsList a _ := ⟨_, ho, rfl, _, rfl⟩
      exact tail_any hL.typeIs slot_list_getitem.lookup (getItem_listJ hL (by simpa [r.length] using hl) (by simpa [r.length] using hj) (by simpa using hx) (.of rx R h)) (sub_plain hs _ _)
theorem W2.subScr {e ie : Expr} {ns : List Int} {i : Int} {j : Nat} {n : Int} (hs : isSl ie = false) (hl : (ns.length : Int) < 2 ^ 63) (hj : seqIndex? i ns.length = some j) (hv : ns[j]? = some n) (h : Q (.int n) st) : W2 c k (subscriptTail e ie) (.scr ns) (.int i) ρ st Q X := by
  refine ⟨fun f imm fr s x y ok R ra rb => ?_⟩
  obtain ⟨_, rfl⟩ := rb.intI
  obtain ⟨_, _, rfl, hi, hn⟩ := ra.scrI
  · obtain ⟨t, hx⟩ := hn.get j n hv
    have hL := hi.at fun o e => R.keep _ _ e
    exact tail_any hL.typeIs slot_list_getitem.lookup (getItem_listJ hL (by simpa [hn.length] using hl) (by simpa [hn.length] using hj) (by simpa using hx) (.of (.int _ _) R h)) (sub_plain hs _ _)

/-! data: what a value reads as -/
mutual
inductive Dat (st : St) : V → PyData → Prop
  | none : Dat st .none .none
  | bool (b : Bool) : Dat st (.bool b) (.bool b)
  | int (i : Int) : Dat st (.int i) (.int i)
  | str (x : Str) : Dat st (.str x) (.str x)
  | tup {vs : List V} {ds : List PyData} : Dats st vs ds → Dat st (.tup vs) (.tuple ds)
  | list {a : Addr} {vs : List V} {ds : List PyData} : get st a = some (.list vs) → Dats st vs ds → Dat st (.ref a) (.list ds)
inductive Dats (st : St) : List V → List PyData → Prop
  | nil : Dats st [] []
  | cons {v : V} {vs : List V} {d : PyData} {ds : List PyData} : Dat st v d → Dats st vs ds → Dats st (v :: vs) (d :: ds)
end
mutual
theorem Dat.reads (R : Rel c f ρ st imm fr s) : ∀ {v : V} {d : PyData} {x : Value}, Dat st v d → RV c.base imm v x → ∃ as, Reads s.heap x d as
  | _, _, x, .none, h => by obtain rfl := h.noneI; exact ⟨_, .none⟩
  | _, _, x, .bool b, h => by obtain rfl := h.boolI; exact ⟨_, .bool b⟩
  | _, _, x, .int i, h => by obtain ⟨t, rfl⟩ := h.intI; exact ⟨_, .int i t⟩
  | _, _, x, .str y, h => by obtain ⟨t, rfl⟩ := h.strI; exact ⟨_, .str y t⟩
  | _, _, x, .tup h, q => by
    obtain ⟨_, _, _, rfl, hm, r⟩ := q.tupI
    obtain ⟨as, q⟩ := Dats.reads R h r
    exact ⟨as, .tuple (R.inImm hm) rfl rfl (by simpa using q)⟩
  | _, _, x, .list hg h, q => by
    obtain rfl := q.refI
    obtain ⟨_, _, r, ho⟩ := R.isList hg
    obtain ⟨as, q⟩ := Dats.reads R h r
    exact ⟨_, .list ho rfl rfl (by simpa using q)⟩
theorem Dats.reads (R : Rel c f ρ st imm fr s) : ∀ {vs : List V} {ds : List PyData} {xs : List Value}, Dats st vs ds → RVs c.base imm vs xs → ∃ as, ReadsAll s.heap xs ds as
  | _, _, xs, .nil, q => by cases q; exact ⟨_, .nil⟩
  | _, _, xs, .cons h hs, q => by
    cases q with | cons r rs =>
    obtain ⟨as, q⟩ := Dat.reads R h r
    obtain ⟨bs, p⟩ := Dats.reads R hs rs
    exact ⟨_, .cons q p⟩
end
theorem W2.eq {a b : V} {da db : PyData} (ha : Dat st a da) (hb : Dat st b db) (sa : SeqAt.shaped da = true) (sb : SeqAt.shaped db = true) (h : Q (.bool (PyData.eqv da db)) st) : W2 c k (compareOp .Eq) a b ρ st Q X := by
  refine ⟨fun f imm fr s x y ok R ra rb => ?_⟩
  obtain ⟨as, r1⟩ := ha.reads R ra
  obtain ⟨bs, r2⟩ := hb.reads R rb
  exact eq_dataH r1 r2 sa sb (by have := ok.units; omega) (.bool R h)
theorem W2.ne {a b : V} {da db : PyData} (ha : Dat st a da) (hb : Dat st b db) (sa : SeqAt.shaped da = true) (sb : SeqAt.shaped db = true) (h : Q (.bool (!PyData.eqv da db)) st) : W2 c k (compareOp .NotEq) a b ρ st Q X := by
  refine ⟨fun f imm fr s x y ok R ra rb => ?_⟩
  obtain ⟨as, r1⟩ := ha.reads R ra
  obtain ⟨bs, r2⟩ := hb.reads R rb
  exact ne_dataH r1 r2 sa sb (by have := ok.units; omega) (.bool R h)
/-! lists glued -/
theorem W2.addList {a b : Addr} {vs ws : List V} (ha : get st a = some (.list vs)) (hb : get st b = some (.list ws)) (hl : vs.length + ws.length ≤ sizeLine) (h : ∀ l, get st l = none → Q (.ref l) ((l, .list (vs ++ ws)) :: st)) : W2 c k (binaryOp .Add) (.ref a) (.ref b) ρ st Q X := by
  refine ⟨fun f imm fr s x y ok R ra rb => ?_⟩
  obtain rfl := ra.refI
  obtain rfl := rb.refI
  obtain ⟨_, _, r, ho⟩ := R.isList ha
  obtain ⟨_, _, r', ho'⟩ := R.isList hb
  · · have fr0 := R.none
      obtain ⟨⟨h0, tk0, rfl⟩, m, mt, cs, fo, rr⟩ := id R
      refine add_arrays rr.frm rr.news ⟨_, ho, rfl, _, rfl⟩ ⟨_, ho', rfl, _, rfl⟩ (fun h' F' N' => ?_) (by simpa [r.length, r'.length] using hl)
      refine ⟨_, _, imm, fun _ h => h, .ref _, ⟨⟨h', tk0, rfl⟩, m, _ :: mt, cs, fo, F', N', ?_, .cons (.list (vals := _ ++ _) (n := 0) (by simpa using r.append r')) rr.sto, rr.fos, rr.loc⟩, h _ fr0⟩
      rw [show (whole ((h0.objs.size, _) :: mt) cs imm fr fo) = (h0.objs.size, _) :: whole mt cs imm fr fo from rfl, List.map_cons, List.nodup_cons]
      refine ⟨fun hm => ?_, rr.nodup⟩
      obtain ⟨p, hp, e⟩ := List.mem_map.mp hm
      exact absurd (rr.size p hp) (by rw [e]; exact Nat.lt_irrefl _)
end
end Mine
namespace Mine
section
variable {c : Cx} {k : Nat} {sc : Scope} {ρ : Loc} {st : St} {Q : V → St → Prop} {S : Fl → Loc → St → Prop} {X : Xp}

theorem WPE.globR {x : Str} {pos : Pos} {a : Addr} (hx : sc.names.lookup x = some .globalImplicit) (e : nsIn c.K mainGlobals x = some (some (.ref a))) (h : Q (.stat (.ref a)) st)
    (hd : (x == ("__debug__" : Str)) = false := by decide) : WPE c k sc ρ st (.Name x pos) Q X := WPE.glob hx e (fun _ _ => .stat _) h hd
theorem WPE.globI {x : Str} {pos : Pos} {i : Int} {t : Tok} (hx : sc.names.lookup x = some .globalImplicit) (e : nsIn c.K mainGlobals x = some (some (.int i t))) (h : Q (.int i) st)
    (hd : (x == ("__debug__" : Str)) = false := by decide) : WPE c k sc ρ st (.Name x pos) Q X := WPE.glob hx e (fun _ _ => .int _ _) h hd
theorem WPE.callF {id : Str} {p pos : Pos} {args : List Expr} {a : Addr} (hx : sc.names.lookup id = some .globalImplicit) (e : nsIn c.K mainGlobals id = some (some (.ref a))) (hk : keepIn c.K (.ref a) = true)
    (h : WPEs c k sc ρ st args (fun vs st₂ => WL c k (fun xs => PySem.call (.ref a) xs) vs ρ st₂ Q X) X)
    (hp : args.any isStar = false := by rfl) (hd : (id == ("__debug__" : Str)) = false := by decide) : WPE c k sc ρ st (.Call (.Name id p) args [] pos) Q X :=
  WPE.call (WPE.globR hx e ⟨_, rfl, hk, h⟩ hd) hp
theorem WPE.callB {id : Str} {p pos : Pos} {args : List Expr} {b : String} (hx : sc.names.lookup id = some .globalImplicit) (e : nsIn c.K mainGlobals id = some none) (hv : bootBuiltins id = some (.builtin b))
    (h : WPEs c k sc ρ st args (fun vs st₂ => WL c k (fun xs => PySem.call (.builtin b) xs) vs ρ st₂ Q X) X)
    (hp : args.any isStar = false := by rfl) (hn : id ≠ "__name__" := by decide) (hd : (id == ("__debug__" : Str)) = false := by decide) : WPE c k sc ρ st (.Call (.Name id p) args [] pos) Q X :=
  WPE.call (WPE.blt hx e hv ⟨_, rfl, rfl, h⟩ hn hd) hp
theorem WPE.callT {id : Str} {p pos : Pos} {args : List Expr} {b : String} (hx : sc.names.lookup id = some .globalImplicit) (e : nsIn c.K mainGlobals id = some none) (hv : bootBuiltins id = some (.type b))
    (h : WPEs c k sc ρ st args (fun vs st₂ => WL c k (fun xs => PySem.call (.type b) xs) vs ρ st₂ Q X) X)
    (hp : args.any isStar = false := by rfl) (hn : id ≠ "__name__" := by decide) (hd : (id == ("__debug__" : Str)) = false := by decide) : WPE c k sc ρ st (.Call (.Name id p) args [] pos) Q X :=
  WPE.call (WPE.blt hx e hv ⟨_, rfl, rfl, h⟩ hn hd) hp
theorem WPE.bltT {x : Str} {pos : Pos} {b : String} (hx : sc.names.lookup x = some .globalImplicit) (e : nsIn c.K mainGlobals x = some none) (hv : bootBuiltins x = some (.type b)) (h : Q (.stat (.type b)) st)
    (hn : x ≠ "__name__" := by decide) (hd : (x == ("__debug__" : Str)) = false := by decide) : WPE c k sc ρ st (.Name x pos) Q X := WPE.blt hx e hv h hn hd
end
end Mine
namespace Mine
def namesIn : List Expr → Option (List Str)
  | [] => some []
  | .Name n _ :: r => (namesIn r).map (n :: ·)
  | _ :: _ => none
def setAll : Loc → List Str → List V → Loc
  | ρ, n :: ns, v :: vs => setAll (setL ρ n v) ns vs
  | ρ, _, _ => ρ

section
variable {c : Cx} {k : Nat} {sc : Scope} {ρ : Loc} {st : St} {Q : V → St → Prop} {S : Fl → Loc → St → Prop} {X : Xp} {f : Fm} {imm fr : Led} {s : Shared} {tk : Nat}

theorem assignEach_names {env : Env} : ∀ {es : List Expr} {ns : List Str}, namesIn es = some ns → (assignEach es env).length = ns.length ∧ (assignEach es env).findIdx? (·.1) = none
  | [], ns, h => by cases h; exact ⟨rfl, rfl⟩
  | .Name n p :: r, ns, h => by
    simp only [namesIn, Option.map_eq_some_iff] at h
    obtain ⟨ns', h', rfl⟩ := h
    obtain ⟨h1, h2⟩ := assignEach_names (env := env) h'
    have e : assignEach (.Name n p :: r) env = (false, assign (.Name n p) env) :: assignEach r env := rfl
    rw [e]
    refine ⟨by simp [h1], ?_⟩
    rw [List.findIdx?_cons, h2]; rfl
  | .BoolOp .. :: _, _, h => by cases h
  | .NamedExpr .. :: _, _, h => by cases h
  | .BinOp .. :: _, _, h => by cases h
  | .UnaryOp .. :: _, _, h => by cases h
  | .Lambda .. :: _, _, h => by cases h
  | .IfExp .. :: _, _, h => by cases h
  | .Dict .. :: _, _, h => by cases h
  | .Set .. :: _, _, h => by cases h
  | .ListComp .. :: _, _, h => by cases h
  | .SetComp .. :: _, _, h => by cases h
  | .DictComp .. :: _, _, h => by cases h
  | .GeneratorExp .. :: _, _, h => by cases h
  | .Await .. :: _, _, h => by cases h
  | .Yield .. :: _, _, h => by cases h
  | .YieldFrom .. :: _, _, h => by cases h
  | .Compare .. :: _, _, h => by cases h
  | .Call .. :: _, _, h => by cases h
  | .FormattedValue .. :: _, _, h => by cases h
  | .JoinedStr .. :: _, _, h => by cases h
  | .Constant .. :: _, _, h => by cases h
  | .Attribute .. :: _, _, h => by cases h
  | .Subscript .. :: _, _, h => by cases h
  | .Starred .. :: _, _, h => by cases h
  | .List .. :: _, _, h => by cases h
  | .Tuple .. :: _, _, h => by cases h
  | .Slice .. :: _, _, h => by cases h

theorem assign_names {P : Unit → Shared → Prop} {E : Value → Shared → Prop} (ok : f.Ok c k) (own : f.Own) : ∀ {es : List Expr} {ns : List Str} {vs : List V} {xs : List Value} {ρ : Loc} {s : Shared}, namesIn es = some ns → ns.all (storesB f.env.scope) = true → vs.length = ns.length → RVs c.base imm vs xs → Rel c f ρ st imm fr s →
    (∀ s', Rel c f (setAll ρ ns vs) st imm fr s' → P () s') → wpAny c.M f.A (assignInOrder ((assignEach es f.env).map (·.2)) xs) P E s := by
  intro es
  induction es with
  | nil =>
    intro ns vs xs ρ s h _ hl r R k
    cases h
    cases vs with
    | nil => cases r; exact wpAny_assignInOrder_none (k s R)
    | cons => simp at hl
  | cons e es ih =>
    intro ns vs xs ρ s h hs hl r R hk
    cases e <;> first | (cases h; done) | skip
    rename_i n p
    simp only [namesIn, Option.map_eq_some_iff] at h
    obtain ⟨ns', h', rfl⟩ := h
    cases r with
    | nil => simp at hl
    | cons rv rvs =>
      simp only [List.all_cons, Bool.and_eq_true] at hs
      show wpAny c.M f.A (assignInOrder (assign (.Name n p) f.env :: (assignEach es f.env).map (·.2)) (_ :: _)) P E s
      refine wpAny_assignInOrder_more (wpAny_assign_Name ?_)
      exact store ok own R hs.1 rv fun s' R' => ih h' hs.2 (by simpa using hl) rvs R' hk

theorem WPs.unpack {es : List Expr} {n : Nat} {tp pos : Pos} {e : Expr} {ns : List Str} (hq : c.q = true) (hn : namesIn es = some ns) (hst : ns.all (storesB sc) = true)
    (h : WPE c k sc ρ st e (fun v st₁ => ∃ vs, v = .tup vs ∧ vs.length = ns.length ∧ S .next (setAll ρ ns vs) st₁) X)
    (hs : ∀ env, swapsWithSole [.Tuple es n tp] e pos.line env = pure false := by intro _; rfl) (hw : ∀ env, swappedStores [.Tuple es n tp] e env = pure none := by intro _; rfl) : WPs c k sc ρ st (.Assign [.Tuple es n tp] e pos) S X := by
  refine ⟨fun f imm fr s ok hsc own R => ?_⟩
  refine Assign_Tuple (wpAny_mono (h.go f imm fr s ok hsc R) (fun x s₁ p => ?_) fun _ _ t => t) (hs _) (hw _)
  obtain ⟨v, st₁, imm₁, i₁, rv, R₁, vs, rfl, hl, h₁⟩ := p
  obtain ⟨_, _, _, rfl, hm, r⟩ := rv.tupI
  · have hA := assignEach_names (env := f.env) hn
    refine wpAny_assign_Tuple (ok.hnd hq) ⟨_, R₁.inImm hm, rfl, _, rfl⟩ (by rw [hA.1]; simp [r.length, hl]) hA.2 (fun h' hx => ?_)
    have R₂ : Rel c f ρ st₁ imm₁ fr { s₁ with heap := h' } := R₁.keeps (tk := s₁.toks) fun b o e => hx b o (Nat.ne_of_lt (Heap.lt_size e)) e
    exact assign_names ok own hn (hsc ▸ hst) hl (by simpa using r) R₂ fun s' R' => ⟨.next, _, st₁, imm₁, i₁, .next, R', h₁⟩

theorem RVs.strs {base : Heap} {imm : Led} : ∀ {ys : List Str} {xs : List Value}, RVs base imm (ys.map V.str) xs → StrsAre xs ys := by
  intro ys
  induction ys with
  | nil => intro xs h; cases h; exact .nil
  | cons y ys ih => intro xs h; cases h with | cons a r => obtain ⟨t, rfl⟩ := a.strI; exact .cons y t (ih r)
theorem W2.inStrs {a : Str} {ys : List Str} {vs : List V} (hv : vs = ys.map V.str) (h : Q (.bool (ys.any (· == a))) st) : W2 c k (compareOp .In) (.str a) (.tup vs) ρ st Q X := by
  subst hv
  refine ⟨fun f imm fr s x y ok R ra rb => ?_⟩
  obtain ⟨_, rfl⟩ := ra.strI
  obtain ⟨_, _, _, rfl, hm, r⟩ := rb.tupI
  exact in_tuple_strs ⟨_, R.inImm hm, rfl, _, rfl⟩ (by simpa using RVs.strs r) (.bool R h)
theorem W2.neS {a b : Str} (h : Q (.bool (a != b)) st) : W2 c k (compareOp .NotEq) (.str a) (.str b) ρ st Q X := by
  refine ⟨fun f imm fr s x y ok R ra rb => ?_⟩
  obtain ⟨_, rfl⟩ := ra.strI
  obtain ⟨_, rfl⟩ := rb.strI
  exact PyProof.Rows.ne_str (.bool R h)
theorem Fm.Ok.le {k' : Nat} (ok : f.Ok c k) (h : k' ≤ k) : f.Ok c k' := { ok with depth := by have := ok.depth; omega, units := by have := ok.units; omega }
theorem WL.le {t : List Value → Sem Value} {vs : List V} {k' : Nat} (h : WL c k' t vs ρ st Q X) (hk : k' ≤ k) : WL c k t vs ρ st Q X :=
  ⟨fun f imm fr s xs ok R rvs => h.go f imm fr s xs (ok.le hk) R rvs⟩

abbrev CF (c : Cx) (k : Nat) (a : Addr) (vs : List V) (ρ : Loc) (st : St) (Q : V → St → Prop) (X : Xp) : Prop := WL c k (fun xs => PySem.call (.ref a) xs) vs ρ st Q X
theorem seqIndex_pos {i : Int} {n : Nat} (h0 : 0 ≤ i) (h1 : i < n) : seqIndex? i n = some i.toNat := by
  unfold seqIndex?
  have h : ¬ i < 0 := by omega
  simp [h, h0, h1]
theorem seqIndex_neg {i : Int} {n : Nat} (h0 : i < 0) (h1 : -(n : Int) ≤ i) : seqIndex? i n = some (i + n).toNat := by
  unfold seqIndex?
  have h2 : 0 ≤ i + (n : Int) := by omega
  have h3 : i + (n : Int) < n := by omega
  simp [h0, h2, h3]
theorem seqIndex_0 {n : Nat} : seqIndex? 0 (n + 1) = some 0 := seqIndex_pos (by decide) (by omega)
theorem seqIndex_1 {n : Nat} : seqIndex? 1 (n + 2) = some 1 := seqIndex_pos (by decide) (by omega)
/-- a store that has grown -/
def Le (st st' : St) : Prop := ∀ a o, get st a = some o → get st' a = some o
theorem Le.refl : Le st st := fun _ _ h => h
theorem Le.trans {st₁ st₂ st₃ : St} (h : Le st₁ st₂) (h' : Le st₂ st₃) : Le st₁ st₃ := fun a o e => h' a o (h a o e)
theorem get_head {a : Addr} {o : O} : get ((a, o) :: st) a = some o := by simp [get]
theorem get_tail {a b : Addr} {o : O} (h : b ≠ a) : get ((a, o) :: st) b = get st b := by
  unfold get
  rw [List.lookup_cons]
  have : (b == a) = false := by simpa using h
  rw [this]
theorem Le.alloc {a : Addr} {o : O} (h : get st a = none) : Le st ((a, o) :: st) := fun b p e => by
  have : b ≠ a := fun q => by rw [q, h] at e; cases e
  rw [get_tail this]; exact e
theorem get_upd {a b : Addr} {o : O} : get (upd st a o) b = if b = a then (get st a).map (fun _ => o) else get st b := by
  induction st with
  | nil => simp [get, upd]
  | cons p r ih =>
    obtain ⟨x, y⟩ := p
    by_cases h1 : x = a
    · subst h1
      have e : upd ((x, y) :: r) x o = (x, o) :: upd r x o := by simp [upd]
      rw [e]
      by_cases h2 : b = x
      · subst h2; rw [get_head, get_head, if_pos rfl]; rfl
      · rw [get_tail h2, ih, if_neg h2, if_neg h2, get_tail h2]
    · have e : upd ((x, y) :: r) a o = (x, y) :: upd r a o := by simp [upd, h1]
      rw [e]
      by_cases h2 : b = x
      · subst h2; rw [get_head, if_neg h1, get_head]
      · rw [get_tail h2, ih, get_tail h2, get_tail (fun q => h1 q.symm)]
theorem get_upd_self {a : Addr} {o o' : O} (h : get st a = some o') : get (upd st a o) a = some o := by rw [get_upd, if_pos rfl, h]; rfl
theorem get_upd_ne {a b : Addr} {o : O} (h : b ≠ a) : get (upd st a o) b = get st b := by rw [get_upd, if_neg h]
theorem W2.tupAt {e ie : Expr} {vs : List V} {i : Int} {v : V} (hs : isSl ie = false) (hl : Nat.blt vs.length 1000000 = true) (hv : (seqIndex? i vs.length).bind (fun j => vs[j]?) = some v) (h : Q v st) : W2 c k (subscriptTail e ie) (.tup vs) (.int i) ρ st Q X := by
  have hl' : vs.length < 1000000 := by simpa [Nat.blt_eq] using hl
  cases hj : seqIndex? i vs.length with
  | none => rw [hj] at hv; cases hv
  | some j => rw [hj] at hv; exact W2.subTup hs (by omega) hj hv h
theorem W2.listAt {e ie : Expr} {a : Addr} {vs : List V} {i : Int} {v : V} (hg : get st a = some (.list vs)) (hs : isSl ie = false) (hl : Nat.blt vs.length 1000000 = true) (hv : (seqIndex? i vs.length).bind (fun j => vs[j]?) = some v) (h : Q v st) : W2 c k (subscriptTail e ie) (.ref a) (.int i) ρ st Q X := by
  have hl' : vs.length < 1000000 := by simpa [Nat.blt_eq] using hl
  cases hj : seqIndex? i vs.length with
  | none => rw [hj] at hv; cases hv
  | some j => rw [hj] at hv; exact W2.subList hg hs (by omega) hj hv h
theorem isDict_nil {α : Type} [DecidableEq α] {knd : KeyKind c.prog c.w α} : IsDict knd { cls := .type "dict", data := .dict #[] } [] :=
  ⟨⟨rfl, rfl, rfl⟩, #[], 0, rfl, fun e he => by simp at he, .nil, .nil⟩
theorem WPE.dict0 {pos : Pos} (h : ∀ a, get st a = none → Q (.ref a) ((a, .dictI []) :: st)) : WPE c k sc ρ st (.Dict [] [] pos) Q X :=
  ⟨fun f imm fr s ok hsc R => wpAny_Dict_empty ⟨_, _, imm, fun _ h => h, .ref _, R.pushSt (tk := s.toks) (.dictI .nil isDict_nil), h _ R.none⟩⟩
theorem W2.cat {a b : Addr} {vs ws : List V} (ha : get st a = some (.list vs)) (hb : get st b = some (.list ws)) (hl : Nat.ble (vs.length + ws.length) 1000000 = true) (h : ∀ l, get st l = none → Q (.ref l) ((l, .list (vs ++ ws)) :: st)) : W2 c k (binaryOp .Add) (.ref a) (.ref b) ρ st Q X :=
  W2.addList ha hb (Nat.le_trans (Nat.le_of_ble_eq_true hl) (by decide)) h
end
end Mine
namespace Mine
def rngItems (a b c : Int) : List V := (List.range (Builtin.Range.rangeSize a b c).toNat).map fun (i : Nat) => .int (a + i * c)
/-- the things of a thing that is gone through -/
inductive Src (st : St) : V → List V → Prop
  | list {a : Addr} {vs : List V} : get st a = some (.list vs) → Src st (.ref a) vs
  | tup {vs : List V} : Src st (.tup vs) vs
  | scr {ns : List Int} : Src st (.scr ns) (ns.map .int)
  | rng {a b c : Int} : Builtin.Range.small a b c = true → Src st (.rng a b c) (rngItems a b c)

/-- an iterator's object, i taken -/
inductive ItO : Value → V → Nat → Obj → Prop
  | list {a : Addr} {i : Nat} {o : Obj} (h1 : o.cls = .type "list_iterator") (h2 : o.data = .fields #[.ref a, .int i 0]) : ItO (.ref a) (.ref a) i o
  | scr {a : Addr} {ns : List Int} {i : Nat} {o : Obj} (h1 : o.cls = .type "list_iterator") (h2 : o.data = .fields #[.ref a, .int i 0]) : ItO (.ref a) (.scr ns) i o
  | tup {a : Addr} {vs : List V} {i : Nat} {o : Obj} (h1 : o.cls = .type "tuple_iterator") (h2 : o.data = .fields #[.ref a, .int i 0]) : ItO (.ref a) (.tup vs) i o
  | rng {r : Addr} {a b c : Int} {i : Nat} : ItO (.ref r) (.rng a b c) i { cls := .type "range_iterator", dict := none, data := .fields #[rawInt (a + i * c), rawInt (Builtin.Range.rangeSize a b c - i), rawInt c], slots := #[] }
theorem ItO.fields {x : Value} {v : V} {i : Nat} {o : Obj} (h : ItO x v i o) : ∀ w, o.data ≠ .cell w := by
  cases h with
  | list _ h => intro w e; rw [h] at e; cases e
  | scr _ h => intro w e; rw [h] at e; cases e
  | tup _ h => intro w e; rw [h] at e; cases e
  | rng => intro w e; cases e

section
variable {c : Cx} {k : Nat} {sc : Scope} {ρ : Loc} {st : St} {Q : V → St → Prop} {S : Fl → Loc → St → Prop} {X : Xp} {f : Fm} {imm fr : Led} {s : Shared} {tk : Nat}

theorem it_start {v : V} {vs : List V} {x : Value} {E : Value → Shared → Prop} (R : Rel c f ρ st imm fr s) (rv : RV c.base imm v x) (hs : Src st v vs) :
    wpAny c.M f.A (pyIter x) (fun it s' => ∃ I o, it = .ref I ∧ ItO x v 0 o ∧ Rel c f ρ st imm ((I, o) :: fr) s') E s := by
  cases hs with
  | list hg =>
    cases rv with
    | ref =>
      obtain ⟨co, hr, ho⟩ := R.get hg
      cases hr with
      | list r => exact wpAny_pyIter_list ⟨_, ho, rfl, _, rfl⟩ ⟨_, _, rfl, .list rfl rfl, R.pushFr (tk := s.toks)⟩
  | tup =>
    cases rv with
    | tup hm r => exact wpAny_pyIter_tuple ⟨_, R.inImm hm, rfl, _, rfl⟩ ⟨_, _, rfl, .tup rfl rfl, R.pushFr (tk := s.toks)⟩
  | scr =>
    cases rv with
    | scr hl hn => exact wpAny_pyIter_list (hl.at fun o e => R.keep _ _ e) ⟨_, _, rfl, .scr rfl rfl, R.pushFr (tk := s.toks)⟩
  | @rng a b cc hsm =>
    cases rv with
    | @rng r _ _ _ _ _ _ hm =>
      refine wpAny_pyIter_range (R.inImm hm) hsm ⟨_, _, rfl, ?_, R.pushFr (tk := s.toks)⟩
      have := ItO.rng (r := r) (a := a) (b := b) (c := cc) (i := 0)
      simpa using this

theorem rngItems_get {a b c : Int} {i : Nat} {u : V} (h : (rngItems a b c)[i]? = some u) : u = .int (a + i * c) ∧ (i : Int) < Builtin.Range.rangeSize a b c := by
  unfold rngItems at h
  rw [List.getElem?_map] at h
  by_cases hi : i < (Builtin.Range.rangeSize a b c).toNat
  · rw [List.getElem?_range hi] at h
    simp at h
    exact ⟨h.symm, by omega⟩
  · rw [List.getElem?_eq_none (by simpa using hi)] at h; cases h
theorem it_next {v u : V} {vs : List V} {x : Value} {I : Addr} {i : Nat} {o : Obj} {E : Value → Shared → Prop} (R : Rel c f ρ st imm ((I, o) :: fr) s) (rv : RV c.base imm v x) (hs : Src st v vs) (hi : ItO x v i o) (hu : vs[i]? = some u) :
    wpAny c.M f.A (pyNext (.ref I)) (fun r s' => ∃ y o', r = some y ∧ RV c.base imm u y ∧ ItO x v (i + 1) o' ∧ Rel c f ρ st imm ((I, o') :: fr) s') E s := by
  have hI := R.inFr (List.mem_cons_self)
  cases hi with
  | list h1 h2 =>
    cases hs with
    | list hg =>
    cases rv with
    | ref =>
      obtain ⟨co, hr, ho⟩ := R.get hg
      cases hr with
      | list r =>
        obtain ⟨y, hy, ry⟩ := r.get hu
        refine wpAny_pyNext_list_item ⟨_, hI, h1, h2⟩ ⟨_, ho, rfl, _, rfl⟩ (by simpa using hy) fun h' hit hsb => ?_
        obtain ⟨o', ho', c1, c2⟩ := hit
        exact ⟨y, o', rfl, ry, .list c1 c2, R.frSet (tk := s.toks) hsb ho' (by rw [h2]; intro _ e; cases e)⟩
  | scr h1 h2 =>
    cases hs with
    | scr =>
    cases rv with
    | scr hl hn =>
      rw [List.getElem?_map] at hu
      obtain ⟨n, hn', rfl⟩ := Option.map_eq_some_iff.mp hu
      obtain ⟨t, ht⟩ := hn.get i n hn'
      refine wpAny_pyNext_list_item ⟨_, hI, h1, h2⟩ (hl.at fun o e => R.keep _ _ e) (by simpa using ht) fun h' hit hsb => ?_
      obtain ⟨o', ho', c1, c2⟩ := hit
      exact ⟨_, o', rfl, .int _ _, .scr c1 c2, R.frSet (tk := s.toks) hsb ho' (by rw [h2]; intro _ e; cases e)⟩
  | tup h1 h2 =>
    cases hs with
    | tup =>
    cases rv with
    | tup hm r =>
      obtain ⟨y, hy, ry⟩ := r.get hu
      refine wpAny_pyNext_tuple_item ⟨_, hI, h1, h2⟩ ⟨_, R.inImm hm, rfl, _, rfl⟩ (by simpa using hy) fun h' hit hsb => ?_
      obtain ⟨o', ho', c1, c2⟩ := hit
      exact ⟨y, o', rfl, ry, .tup c1 c2, R.frSet (tk := s.toks) hsb ho' (by rw [h2]; intro _ e; cases e)⟩
  | @rng r a b cc i =>
    cases hs with
    | rng hsm =>
    obtain ⟨rfl, hlt⟩ := rngItems_get hu
    refine wpAny_pyNext_range_item hI (by omega) fun h' hit hsb => ?_
    refine ⟨_, _, rfl, .int _ _, ?_, R.frSet hsb hit (by intro _ e; cases e)⟩
    have := ItO.rng (r := r) (a := a) (b := b) (c := cc) (i := i + 1)
    have e1 : a + ((i + 1 : Nat) : Int) * cc = a + i * cc + cc := by rw [Int.natCast_add, Int.add_mul]; simp; omega
    have e2 : Builtin.Range.rangeSize a b cc - ((i + 1 : Nat) : Int) = Builtin.Range.rangeSize a b cc - i - 1 := by omega
    rw [e1, e2] at this
    exact this
theorem it_end {v : V} {vs : List V} {x : Value} {I : Addr} {i : Nat} {o : Obj} {E : Value → Shared → Prop} (hh : f.A.handled = none) (R : Rel c f ρ st imm ((I, o) :: fr) s) (rv : RV c.base imm v x) (hs : Src st v vs) (hi : ItO x v i o) (hu : vs.length ≤ i) :
    wpAny c.M f.A (pyNext (.ref I)) (fun r s' => r = none ∧ Rel c f ρ st imm fr s') E s := by
  have hI := R.inFr (List.mem_cons_self)
  have hd := hi.fields
  cases hi with
  | list h1 h2 =>
    cases hs with
    | list hg =>
    cases rv with
    | ref =>
      obtain ⟨co, hr, ho⟩ := R.get hg
      cases hr with
      | list r => exact wpAny_pyNext_list_end hh ⟨_, hI, h1, h2⟩ ⟨_, ho, rfl, _, rfl⟩ (by simpa [r.length] using hu) fun h' hx => ⟨rfl, R.frEnd (tk := s.toks) hx hd⟩
  | scr h1 h2 =>
    cases hs with
    | scr =>
    cases rv with
    | scr hl hn => exact wpAny_pyNext_list_end hh ⟨_, hI, h1, h2⟩ (hl.at fun o e => R.keep _ _ e) (by simpa [hn.length] using hu) fun h' hx => ⟨rfl, R.frEnd (tk := s.toks) hx hd⟩
  | tup h1 h2 =>
    cases hs with
    | tup =>
    cases rv with
    | tup hm r => exact wpAny_pyNext_tuple_end hh ⟨_, hI, h1, h2⟩ ⟨_, R.inImm hm, rfl, _, rfl⟩ (by simpa [r.length] using hu) fun h' hx => ⟨rfl, R.frEnd (tk := s.toks) hx hd⟩
  | @rng r a b cc i =>
    cases hs with
    | rng hsm =>
    refine wpAny_pyNext_range_end hh hI ?_ fun h' hx => ⟨rfl, R.frEnd (tk := s.toks) hx hd⟩
    simp only [rngItems, List.length_map, List.length_range] at hu
    omega
theorem it_self {v : V} {x : Value} {I : Addr} {i : Nat} {o : Obj} {E : Value → Shared → Prop} {P : Value → Shared → Prop} (R : Rel c f ρ st imm ((I, o) :: fr) s) (hi : ItO x v i o) (h : P (.ref I) s) : wpAny c.M f.A (pyIter (.ref I)) P E s := by
  have hI := R.inFr (List.mem_cons_self)
  cases hi with
  | list h1 h2 => exact wpAny_pyIter_listiter ⟨_, hI, h1, h2⟩ h
  | scr h1 h2 => exact wpAny_pyIter_listiter ⟨_, hI, h1, h2⟩ h
  | tup h1 h2 => exact wpAny_pyIter_tupleiter ⟨_, hI, h1, h2⟩ h
  | rng => exact wpAny_pyIter_rangeiter hI h
end
end Mine
namespace Mine
/-- how a turn ends -/
def lp (fl : Fl) (again : Prop) (out : Fl → Prop) : Prop := match fl with
  | .next => again
  | .cont => again
  | .brk => out .next
  | .ret v => out (.ret v)
theorem lp_next {p : Prop} {q : Fl → Prop} (h : p) : lp .next p q := h
/-- fewer locals -/
def Sub (ρ₂ ρ : Loc) : Prop := ∀ y v, getL ρ₂ y = some v → getL ρ y = some v
theorem getL_mem {ρ : Loc} {y : Str} {v : V} (h : getL ρ y = some v) : (y, v) ∈ ρ := by
  induction ρ with
  | nil => cases h
  | cons p r ih =>
    obtain ⟨x, u⟩ := p
    rw [getL_cons] at h
    by_cases e : x = y
    · subst e; rw [if_pos rfl] at h; cases h; exact .head _
    · rw [if_neg e] at h; exact .tail _ (ih h)
theorem Sub.of {ρ₂ ρ : Loc} (h : ∀ p ∈ ρ₂, getL ρ p.1 = some p.2) : Sub ρ₂ ρ := fun y v e => h (y, v) (getL_mem e)

section
variable {c : Cx} {k : Nat} {sc : Scope} {ρ : Loc} {st : St} {Q : V → St → Prop} {S : Fl → Loc → St → Prop} {X : Xp} {f : Fm} {imm fr : Led} {s : Shared} {tk : Nat}

theorem Rel.locs {ρ' : Loc} (R : Rel c f ρ st imm fr s) (h : Sub ρ' ρ) : Rel c f ρ' st imm fr s := by
  obtain ⟨hs, m, mt, cs, fo, r⟩ := R
  exact ⟨hs, m, mt, cs, fo, r.frm, r.news, r.nodup, r.sto, r.fos, ⟨fun y v e => r.loc.reads y v (h y v e), r.loc.cells, r.loc.inj⟩⟩
theorem WPS.locs {ρ' : Loc} {ss : List Stmt} (h : WPS c k sc ρ' st ss S X) (hs : Sub ρ' ρ) : WPS c k sc ρ st ss S X := ⟨fun f imm fr s ok hsc own R => h.go f imm fr s ok hsc own (R.locs hs)⟩
/-- the turns that are left -/
def FOR (c : Cx) (k : Nat) (sc : Scope) (x : Str) (body : List Stmt) (v : V) (vs : List V) (S : Fl → Loc → St → Prop) (X : Xp) : List V → Loc → St → Prop
  | [], ρ, st => S .next ρ st
  | u :: us, ρ, st => WPS c k sc (setL ρ x u) st body (fun fl ρ' st' => lp fl (∃ ρ₂, Sub ρ₂ ρ' ∧ Src st' v vs ∧ FOR c k sc x body v vs S X us ρ₂ st') (fun fl => S fl ρ' st')) X

theorem WPs.for {x : Str} {px pos : Pos} {iter : Expr} {body : List Stmt} (hq : c.q = true) (h : WPE c k sc ρ st iter (fun v st₁ => ∃ vs, Src st₁ v vs ∧ FOR c k sc x body v vs S X vs ρ st₁) X) (hx : storesB sc x = true := by rfl)
    (hs : ∀ env x, foldedSetIterable iter env x = pure x := by intro _ _; rfl) : WPs c k sc ρ st (.For (.Name x px) iter body [] pos) S X := by
  refine ⟨fun f imm fr s ok hsc own R => ?_⟩
  refine wpAny_For (wpAny_mono (h.go f imm fr s ok hsc R) (fun y s₁ p => ?_) fun _ _ t => t) (hs _)
  obtain ⟨v, st₁, imm₁, i₁, rv, R₁, vs, hsrc, hF⟩ := p
  refine wpAny_mono (it_start (E := Thrown c f imm fr X) R₁ rv hsrc) (fun it s₂ p => ?_) fun _ _ t => t
  obtain ⟨I, o, rfl, hi, R₂⟩ := p
  refine codeAny_forLoop (fun n s' => ∃ us i ρ' st' imm' o, n = us.length ∧ vs.drop i = us ∧ (∀ p ∈ imm₁, p ∈ imm') ∧ ItO y v i o ∧ Rel c f ρ' st' imm' ((I, o) :: fr) s' ∧ Src st' v vs ∧ FOR c k sc x body v vs S X us ρ' st') ?_ vs.length
    ⟨vs, 0, ρ, st₁, imm₁, o, rfl, rfl, fun _ h => h, hi, R₂, hsrc, hF⟩
  rintro n s' ⟨us, i, ρ', st', imm', o', rfl, hus, i', hi', R', hsrc', hF'⟩
  cases us with
  | nil =>
    have hle : vs.length ≤ i := by simpa using hus
    refine wpAny_mono (it_end (ok.hnd hq) R' (rv.mono i') hsrc' hi' hle) (fun r s₃ p => ?_) fun _ _ t => t
    obtain ⟨rfl, R₃⟩ := p
    exact wpAny_execs_nil ⟨.next, ρ', st', imm', fun q hq => i' q (i₁ q hq), .next, R₃, hF'⟩
  | cons u us =>
    have hu : vs[i]? = some u := by
      have := congrArg List.head? hus
      rw [List.head?_drop] at this
      simpa using this
    have hdr : vs.drop (i + 1) = us := by
      have := congrArg List.tail hus
      rwa [List.tail_drop] at this
    refine wpAny_mono (it_next R' (rv.mono i') hsrc' hi' hu) (fun r s₃ p => ?_) fun _ _ t => t
    obtain ⟨w, o₂, rfl, rw', hi₂, R₃⟩ := p
    refine wpAny_assign_Name (store ok own R₃ (hsc ▸ hx) rw' fun s₄ R₄ => ?_)
    refine wpAny_mono ((show WPS c k sc (setL ρ' x u) st' body _ X from hF').go f imm' ((I, o₂) :: fr) s₄ ok hsc own R₄) (fun fl s₅ p => ?_) fun _ _ t => outOfLoop ok own.same (t.drop hi₂.fields fun q hq => i' q (i₁ q hq))
    obtain ⟨fl', ρ₅, st₅, imm₅, i₅, rf, R₅, h₅⟩ := p
    have R₆ : Rel c f ρ₅ st₅ imm₅ fr s₅ := by
      have hR := R₅
      obtain ⟨⟨h0, tk0, rfl⟩, _⟩ := hR
      exact R₅.frEnd (h' := h0) (tk := tk0) (fun _ _ _ e => e) hi₂.fields
    cases rf with
    | next => obtain ⟨ρ₂, hsub, h1, h2⟩ := h₅; exact ⟨us.length, by simp, us, i + 1, ρ₂, st₅, imm₅, o₂, rfl, hdr, fun q hq => i₅ q (i' q hq), hi₂, R₅.locs hsub, h1, h2⟩
    | cont => obtain ⟨ρ₂, hsub, h1, h2⟩ := h₅; exact ⟨us.length, by simp, us, i + 1, ρ₂, st₅, imm₅, o₂, rfl, hdr, fun q hq => i₅ q (i' q hq), hi₂, R₅.locs hsub, h1, h2⟩
    | brk => exact ⟨.next, ρ₅, st₅, imm₅, fun q hq => i₅ q (i' q (i₁ q hq)), .next, R₆, h₅⟩
    | ret r => exact ⟨.ret _, ρ₅, st₅, imm₅, fun q hq => i₅ q (i' q (i₁ q hq)), .ret r, R₆, h₅⟩

end
end Mine
namespace Mine
/-- the cells of a comprehension -/
def clF (cells : List (Str × Addr)) : List (Str × NameKind) → List (Str × Addr) → List (Str × Addr)
  | [], acc => acc
  | (n, k) :: r, acc => if k == .free then clF cells r ((n, (cells.lookup n).getD 0) :: acc) else clF cells r acc
theorem closure_go {env : Env} : ∀ (names : List (Str × NameKind)) (acc : List (Str × Addr)), (∀ p ∈ names, p.2 = .free → ∃ a, env.cells.lookup p.1 = some a) →
    (forIn names acc (fun (x : Str × NameKind) cs => (do if (x.2 == NameKind.free) = true then do let a ← cellOf env x.1; pure (ForInStep.yield ((x.1, a) :: cs)) else pure (ForInStep.yield cs) : Sem (ForInStep (List (Str × Addr)))))) = (pure (clF env.cells names acc) : Sem _)
  | [], acc, _ => rfl
  | (n, k) :: r, acc, h => by
    have ih := fun acc => closure_go (env := env) r acc fun p hp => h p (.tail _ hp)
    rw [List.forIn_cons]
    by_cases hk : (k == NameKind.free) = true
    · have hk' : k = .free := by simpa using hk
      obtain ⟨a, ha⟩ := h (n, k) (.head _) hk'
      have e : cellOf env n = pure a := by unfold cellOf; rw [ha]
      simp only [hk, if_true, e, pure_bind]
      rw [ih]
      conv => rhs; unfold clF
      simp only [hk, if_true]
      rw [ha]; rfl
    · simp only [hk, Bool.false_eq_true, if_false, pure_bind]
      rw [ih]
      conv => rhs; unfold clF
      simp only [hk, Bool.false_eq_true, if_false]
theorem closure_is {scope : Scope} {env : Env} (h : ∀ p ∈ scope.names, p.2 = .free → ∃ a, env.cells.lookup p.1 = some a) : closureFor scope env = pure (clF env.cells scope.names []) := by
  have := closure_go (env := env) scope.names [] h
  unfold closureFor
  simp only [pure_bind, bind_pure] at this ⊢
  refine Eq.trans ?_ this
  congr
theorem clF_mem {cells : List (Str × Addr)} {p : Str × Addr} : ∀ {names : List (Str × NameKind)} {acc : List (Str × Addr)}, (∀ q ∈ names, q.2 = .free → ∃ a, cells.lookup q.1 = some a) → p ∈ clF cells names acc → p ∈ acc ∨ cells.lookup p.1 = some p.2
  | [], acc, _, h => .inl h
  | (n, k) :: r, acc, hq, h => by
    unfold clF at h
    split at h
    · rename_i hk
      rcases clF_mem (fun q hq' => hq q (.tail _ hq')) h with h | h
      · rcases List.mem_cons.mp h with rfl | h
        · obtain ⟨a, ha⟩ := hq (n, k) (.head _) (by simpa using hk)
          right; simp [ha]
        · exact .inl h
      · exact .inr h
    · exact clF_mem (fun q hq' => hq q (.tail _ hq')) h
theorem clF_some {cells : List (Str × Addr)} {n : Str} : ∀ {names : List (Str × NameKind)} {acc : List (Str × Addr)}, (n, NameKind.free) ∈ names ∨ (acc.lookup n).isSome = true → ((clF cells names acc).lookup n).isSome = true
  | [], acc, h => by
    rcases h with h | h
    · cases h
    · exact h
  | (y, k) :: r, acc, h => by
    unfold clF
    split
    · rename_i hk
      refine clF_some ?_
      rcases h with h | h
      · rcases List.mem_cons.mp h with h | h
        · cases h; right; simp
        · exact .inl h
      · right
        rw [List.lookup_cons]
        split
        · rfl
        · exact h
    · rename_i hk
      refine clF_some ?_
      rcases h with h | h
      · rcases List.mem_cons.mp h with h | h
        · cases h; exact absurd rfl hk
        · exact .inl h
      · exact .inr h
theorem clF_at {cells : List (Str × Addr)} {names : List (Str × NameKind)} {n : Str} (hq : ∀ q ∈ names, q.2 = .free → ∃ a, cells.lookup q.1 = some a) (h : (n, NameKind.free) ∈ names) : ∃ a, (clF cells names []).lookup n = some a ∧ cells.lookup n = some a := by
  obtain ⟨a, ha⟩ := Option.isSome_iff_exists.mp (clF_some (cells := cells) (acc := []) (.inl h))
  refine ⟨a, ha, ?_⟩
  rcases clF_mem hq (mem_of_lookup ha) with h | h
  · cases h
  · exact h

/-- a comprehension's scope in its block -/
def relabelS (scope sc : Scope) : Scope :=
  { scope with names := scope.names.map fun (n, k) => if (k == .free && sc.kind == .function && sc.names.lookup n == some .cell) then (n, .cell) else (n, k) }
/-- what a comprehension reads of its block -/
def inner (scope : Scope) : Loc → Loc
  | [] => []
  | (x, v) :: r => match scope.names.lookup x with
    | some .free => (x, v) :: inner scope r
    | _ => inner scope r
theorem inner_get {scope : Scope} {x : Str} {v : V} : ∀ {ρ : Loc}, getL (inner scope ρ) x = some v → scope.names.lookup x = some .free ∧ getL ρ x = some v
  | [], h => by cases h
  | (y, u) :: r, h => by
    unfold inner at h
    split at h
    · rename_i hy
      rw [getL_cons] at h
      rw [getL_cons]
      by_cases e : y = x
      · subst e
        rw [if_pos rfl] at h ⊢
        exact ⟨hy, h⟩
      · rw [if_neg e] at h ⊢
        exact inner_get h
    · rename_i hy
      have z := inner_get h
      refine ⟨z.1, ?_⟩
      rw [getL_cons]
      by_cases e : y = x
      · subst e; exact absurd z.1 hy
      · rw [if_neg e]; exact z.2
/-- a comprehension's scope is plain: its free names are cells of the block -/
def compOk (scope sc : Scope) (x : Str) : Bool :=
  (scope.kind == .function) && scope.names.all (fun p => (p.2 != .cell) && (p.2 != .free || sc.names.lookup p.1 == some .cell) && (p.2 != .local || scope.names.lookup p.1 == some .local)) && (scope.names.lookup x == some .local) && (sc.kind == .function)
theorem relabel_free {scope sc : Scope} {y : Str} (hk : sc.kind = .function) (hc : sc.names.lookup y = some .cell) (h : scope.names.lookup y = some .free) : (relabelS scope sc).names.lookup y = some .cell := by
  show (scope.names.map fun (n, k) => if (k == NameKind.free && sc.kind == .function && sc.names.lookup n == some .cell) then (n, NameKind.cell) else (n, k)).lookup y = _
  generalize scope.names = names at h
  induction names with
  | nil => cases h
  | cons p r ih =>
    obtain ⟨n, k⟩ := p
    rw [List.lookup_cons] at h
    by_cases e : y = n
    · subst e
      simp at h
      subst h
      simp [hk, hc]
    · have e' : (y == n) = false := by simpa using e
      rw [e'] at h
      rw [List.map_cons, List.lookup_cons]
      have : ∀ k', (y == ((n, k') : Str × NameKind).1) = false := fun _ => e'
      by_cases q : (k == NameKind.free && sc.kind == .function && sc.names.lookup n == some .cell) = true
      · simp only [q, if_true, e']; exact ih h
      · simp only [q, Bool.false_eq_true, if_false, e']; exact ih h
theorem relabel_cell {scope sc : Scope} {y : Str} (hn : ∀ p ∈ scope.names, p.2 ≠ .cell) (h : (relabelS scope sc).names.lookup y = some .cell) : (y, NameKind.free) ∈ scope.names := by
  have hm := mem_of_lookup h
  obtain ⟨⟨n, k⟩, hp, e⟩ := List.mem_map.mp hm
  dsimp only at e
  split at e
  · rename_i q
    cases e
    simp only [Bool.and_eq_true, beq_iff_eq] at q
    rw [← q.1.1]; exact hp
  · cases e
    exact absurd rfl (hn _ hp)

section
variable {c : Cx} {k : Nat} {sc : Scope} {ρ : Loc} {st : St} {Q : V → St → Prop} {S : Fl → Loc → St → Prop} {X : Xp} {f : Fm} {imm fr : Led} {s : Shared} {tk : Nat}

abbrev Fm.comp (f : Fm) (m : Str → Option Value) (C : Addr) (env : Env) : Fm := { outer := f.outer, frs := (f.L, m) :: f.frs, L := C, fenv := f.fenv, env := env, A := f.A, cmp := true }

theorem Fm.Ok.cells {scope : Scope} {x : Str} (ok : f.Ok c k) (h : compOk scope f.env.scope x = true) : ∀ p ∈ scope.names, p.2 = .free → ∃ a, f.env.cells.lookup p.1 = some a := by
  intro p hp hf
  simp only [compOk, Bool.and_eq_true, List.all_eq_true, bne_iff_ne, Bool.or_eq_true, beq_iff_eq] at h
  rcases (h.1.1.2 p hp).1.2 with q | q
  · exact absurd hf q
  · exact ok.ecell _ q

theorem okComp {scope : Scope} {x : Str} {m : Str → Option Value} {C : Addr} (ok : f.Ok c k) (h : compOk scope f.env.scope x = true) : (f.comp m C (compEnvC scope (clF f.env.cells scope.names []) C f.env)).Ok c k := by
  have hc := ok.cells h
  simp only [compOk, Bool.and_eq_true, List.all_eq_true, bne_iff_ne, Bool.or_eq_true, beq_iff_eq] at h
  refine ⟨ok.kin, ok.top, fun e he => ?_, ok.frames, ok.eframe, h.1.1.1, ok.eglob, ok.ebi, fun y hy => ?_, ok.hnd, ok.depth, ok.units⟩
  · obtain ⟨h1, L, h2, h3⟩ := ok.envs e he
    refine ⟨h1, L, h2, .inr ?_⟩
    rcases h3 with rfl | ⟨m', h3⟩
    · exact ⟨m, .head _⟩
    · exact ⟨m', .tail _ h3⟩
  · obtain ⟨a, ha, _⟩ := clF_at hc (relabel_cell (fun p hp => (h.1.1.2 p hp).1.1) hy)
    exact ⟨a, ha⟩

/-- into a comprehension's block -/
theorem enterComp {scope : Scope} {x : Str} {o : Obj} {h₁ : Heap} {m₁ : Str → Option Value} {tk : Nat} (ok : f.Ok c k) (hk : compOk scope f.env.scope x = true) (R : Rel c f ρ st imm fr s) (hns : h₁.Ns s.heap.objs.size m₁) (hsb : Heap.SameBut s.heap.objs.size (s.heap.push o) h₁) :
    ∃ m cs, Fr c.base f.L s.heap m ∧ LocR c.base imm f ρ m cs fr ∧ (∀ p ∈ cs ++ fr, p.1 ≠ f.L) ∧
      Rel c (f.comp m s.heap.objs.size (compEnvC scope (clF f.env.cells scope.names []) s.heap.objs.size f.env)) (inner scope ρ) st imm (cs ++ fr) { s with heap := h₁, toks := tk } := by
  have hcl := ok.cells hk
  simp only [compOk, Bool.and_eq_true, List.all_eq_true, bne_iff_ne, Bool.or_eq_true, beq_iff_eq] at hk
  obtain ⟨⟨h0, tk0, rfl⟩, m, mt, cs, fo, r⟩ := R
  dsimp only at hns hsb r ⊢
  have old : ∀ b ob, h0.get? b = some ob → h₁.get? b = some ob := fun b ob e => (hsb.2 b (Nat.ne_of_lt (Heap.lt_size e))).trans (Heap.get?_push_of_some _ e)
  have hLs : ∀ p ∈ whole mt cs imm fr fo, p.1 ≠ f.L := fun p hp => (r.news p hp).2.1
  have hin : ∀ p ∈ cs ++ fr, p ∈ whole mt cs imm fr fo := fun p hp => by
    simp only [List.mem_append] at hp ⊢
    rcases hp with hp | hp
    · exact .inr (.inl hp)
    · exact .inr (.inr (.inr (.inl hp)))
  obtain ⟨oL, es, ep, hL, hLd, hLk, hLf⟩ := r.frm.ns
  have hb : c.base.objs.size ≤ h0.objs.size := Nat.le_trans r.frm.above (Nat.le_of_lt r.frm.ns.lt)
  refine ⟨m, cs, r.frm, r.loc, fun p hp => hLs p (hin p hp), ⟨h₁, tk, rfl⟩, m₁, mt, [], (f.L, oL) :: fo, ⟨hns, fun b ob e => old b ob (r.frm.keep b ob e), hb⟩, fun p hp => ?_, nodup_count fun b => ?_, r.sto, .cons ⟨es, ep, hLd, hLk, hLf⟩ r.fos, ⟨fun y v e => ?_, (fun q => by cases q), (fun q => by cases q)⟩⟩
  · have hp' : p = (f.L, oL) ∨ p ∈ whole mt cs imm fr fo := by
      simp only [List.mem_append, List.mem_cons, List.nil_append, List.not_mem_nil, false_or] at hp ⊢
      rcases hp with hp | hp | (hp | hp) | hp | hp
      · exact .inr (.inl hp)
      · exact .inr (.inr (.inr (.inl hp)))
      · exact .inr (.inr (.inl hp))
      · exact .inr (.inr (.inr (.inr (.inl hp))))
      · exact .inl hp
      · exact .inr (.inr (.inr (.inr (.inr hp))))
    rcases hp' with rfl | hp'
    · exact ⟨old _ _ hL, Nat.ne_of_lt (Heap.lt_size hL), Heap.get?_none_of_le r.frm.above⟩
    · have z := r.news p hp'
      exact ⟨old _ _ z.1, Nat.ne_of_lt (Heap.lt_size z.1), z.2.2⟩
  · have nd := List.nodup_iff_count.mp r.nodup b
    simp only [List.map_append, List.map_cons, List.count_append, List.count_cons, List.map_nil, List.count_nil] at nd ⊢
    by_cases e : f.L = b
    · subst e
      have : (List.map (fun x => x.fst) (whole mt cs imm fr fo)).count f.L = 0 := List.count_eq_zero.mpr fun hm => by
        obtain ⟨p, hp, e⟩ := List.mem_map.mp hm
        exact hLs p hp e
      simp only [List.map_append, List.count_append] at this
      simp only [beq_self_eq_true, if_true]
      omega
    · have : (f.L == b) = false := by simpa using e
      simp only [this, Bool.false_eq_true, if_false]
      omega
  · obtain ⟨e1, e2⟩ := inner_get e
    obtain ⟨val, rv, q⟩ := r.loc.reads y v e2
    have hfree := mem_of_lookup e1
    have hcell : f.env.scope.names.lookup y = some .cell := by
      rcases (hk.1.1.2 _ hfree).1.2 with q | q
      · exact absurd rfl q
      · exact q
    obtain ⟨a, ha, ha'⟩ := clF_at hcl hfree
    refine ⟨val, rv, ?_⟩
    rcases q with ⟨q1, _⟩ | ⟨q1, cc, ob, q2, q3, q4⟩
    · rw [show f.env.kindOf y = f.env.scope.names.lookup y from rfl, hcell] at q1; cases q1
    · rw [ha'] at q2
      cases q2
      exact .inr ⟨.inl (relabel_free hk.2 hcell e1), a, ob, ha, by simpa using q3, q4⟩

/-- and out of it -/
theorem backC {f' : Fm} {m : Str → Option Value} {ρ' : Loc} {st' : St} {imm' cs : Led} {s' : Shared} {h : Heap} (hf : f'.frs = (f.L, m) :: f.frs) (R : Rel c f' ρ' st' imm' (cs ++ fr) s') (F : Fr c.base f.L h m) (hl : LocR c.base imm f ρ m cs fr) (hi : ∀ p ∈ imm, p ∈ imm')
    (hL : ∀ p ∈ cs ++ fr, p.1 ≠ f.L) : ∃ oC m', s'.heap.Ns f'.L m' ∧ (∃ es ep, oC.data = .dict es ep) ∧ Rel c f ρ st' imm' ((f'.L, oC) :: fr) s' := by
  obtain ⟨hr, m', mt', cs', fo', r⟩ := R
  have fos := r.fos
  rw [hf] at fos
  cases fos with
  | @cons _ _ oL _ fo no fos =>
    have hw := r.news (f.L, oL) (by simp)
    obtain ⟨es, ep, n1, n2, n3⟩ := no
    obtain ⟨oC, esC, epC, hC, hCd, hCk, hCf⟩ := r.frm.ns
    have nd := List.nodup_iff_count.mp r.nodup
    simp only [List.map_append, List.map_cons, List.count_append, List.count_cons] at nd
    have hC0 : ∀ p ∈ whole mt' cs' imm' (cs ++ fr) ((f.L, oL) :: fo), p.1 ≠ f'.L := fun p hp => (r.news p hp).2.1
    have sub : ∀ p ∈ whole mt' cs imm' fr fo, p ∈ whole mt' cs' imm' (cs ++ fr) ((f.L, oL) :: fo) := fun p hp => by
      simp only [List.mem_append, List.mem_cons] at hp ⊢
      rcases hp with hp | hp | hp | hp | hp
      · exact .inl hp
      · exact .inr (.inr (.inr (.inl (.inl hp))))
      · exact .inr (.inr (.inl hp))
      · exact .inr (.inr (.inr (.inl (.inr hp))))
      · exact .inr (.inr (.inr (.inr (.inr hp))))
    refine ⟨oC, m', r.frm.ns, ⟨esC, epC, hCd⟩, hr, m, mt', cs, fo, ⟨⟨oL, es, ep, hw.1, n1, n2, n3⟩, r.frm.keep, F.above⟩, fun p hp => ?_, nodup_count fun a => ?_, r.sto, fos, (hl.mono hi).more⟩
    · have hp' : p = (f'.L, oC) ∨ p ∈ whole mt' cs imm' fr fo := by
        simp only [List.mem_append, List.mem_cons] at hp ⊢
        rcases hp with hp | hp | hp | (hp | hp) | hp
        · exact .inr (.inl hp)
        · exact .inr (.inr (.inl hp))
        · exact .inr (.inr (.inr (.inl hp)))
        · exact .inl hp
        · exact .inr (.inr (.inr (.inr (.inl hp))))
        · exact .inr (.inr (.inr (.inr (.inr hp))))
      rcases hp' with rfl | hp'
      · exact ⟨hC, fun e => hC0 (f.L, oL) (by simp) e.symm, Heap.get?_none_of_le r.frm.above⟩
      · refine ⟨(r.news p (sub p hp')).1, fun e => ?_, (r.news p (sub p hp')).2.2⟩
        have q := nd f.L
        simp only [beq_self_eq_true, if_true] at q
        have hin : p.1 ∈ (mt' ++ (cs ++ (imm' ++ (fr ++ fo)))).map (·.1) := List.mem_map_of_mem hp'
        rw [e] at hin
        have := List.count_pos_iff.mpr hin
        simp only [List.map_append, List.count_append] at this
        omega
    · have q := nd a
      simp only [List.map_append, List.map_cons, List.count_append, List.count_cons]
      by_cases e : f'.L = a
      · subst e
        have : (List.map (fun x => x.fst) (whole mt' cs imm' fr fo)).count f'.L = 0 := List.count_eq_zero.mpr fun hm => by
          obtain ⟨p, hp, e⟩ := List.mem_map.mp hm
          exact hC0 p (sub p hp) e
        simp only [List.map_append, List.count_append] at this
        simp only [beq_self_eq_true, if_true]
        omega
      · have : (f'.L == a) = false := by simpa using e
        simp only [this, Bool.false_eq_true, if_false]
        omega
end
end Mine
namespace Mine
section
variable {c : Cx} {k : Nat} {sc : Scope} {ρ : Loc} {st : St} {Q : V → St → Prop} {S : Fl → Loc → St → Prop} {X : Xp} {f : Fm} {imm fr : Led} {s : Shared} {tk : Nat}

/-- the tests of a comprehension: none or one -/
def TST (c : Cx) (k : Nat) (sc : Scope) (ρ : Loc) (st : St) (B : Bool → St → Prop) (X : Xp) : List Expr → Prop
  | [] => B true st
  | [t] => WPB c k sc ρ st t B X
  | _ => False
/-- the turns that are left -/
def COMP (c : Cx) (k : Nat) (sc : Scope) (x : Str) (ρ : Loc) (ifs : List Expr) (elt : Expr) (v : V) (vs : List V) (P : List V → St → Prop) (X : Xp) : List V → List V → St → Prop
  | [], acc, st => P acc st
  | u :: us, acc, st => TST c k sc ((x, u) :: ρ) st (fun b st₁ => cnd b
      (WPE c k sc ((x, u) :: ρ) st₁ elt (fun y st₂ => Src st₂ v vs ∧ COMP c k sc x ρ ifs elt v vs P X us (acc ++ [y]) st₂) X)
      (Src st₁ v vs ∧ COMP c k sc x ρ ifs elt v vs P X us acc st₁)) X ifs

theorem wpTests {ifs : List Expr} {B : Bool → St → Prop} {E : Value → Shared → Prop} (ok : f.Ok c k) (hsc : f.env.scope = sc) (R : Rel c f ρ st imm fr s) (h : TST c k sc ρ st B X ifs) (hE : ∀ e s, Thrown c f imm fr X e s → E e s) :
    wpAny c.M f.A (forIn ifs true fun c r => if r = true then do let ok ← isTrue c f.env (eval c f.env); pure (ForInStep.yield ok) else pure (ForInStep.yield r)) (PostB c f ρ imm fr B) E s := by
  match ifs, h with
  | [], h => exact wpAny_tests_nil ⟨st, imm, fun _ h => h, R, h⟩
  | [t], h => exact wpAny_tests_one (wpAny_mono ((show WPB c k sc ρ st t B X from h).go f imm fr s ok hsc R) (fun _ _ p => p) hE)

theorem RVs.snoc {base : Heap} {imm : Led} {us : List V} {vals : List Value} {y : V} {yv : Value} (h : RVs base imm us vals) (hy : RV base imm y yv) : RVs base imm (us ++ [y]) (vals ++ [yv]) := h.append (.one hy)

theorem comp_core {elt iter : Expr} {x : Str} {px : Pos} {ifs : List Expr} {scope : Scope} {pos : Pos} {v : V} {vs : List V} {y : Value} {I : Addr} {o : Obj} {P : List V → St → Prop} {E : Value → Shared → Prop} {RR : Value → Addr → Result → Shared → Prop}
    (hq : c.q = true) (ok : f.Ok c k) (hk : compOk scope f.env.scope x = true) (R : Rel c f ρ st imm ((I, o) :: fr) s) (rv : RV c.base imm v y) (hi : ItO y v 0 o) (hsrc : Src st v vs) (hlen : vs.length ≤ sizeLine)
    (h : COMP c k (relabelS scope f.env.scope) x (inner scope ρ) ifs elt v vs P never vs [] st)
    (hRR : ∀ D C oC m' n us vals st' imm' s', (∀ p ∈ imm, p ∈ imm') → P us st' → RVs c.base imm' us vals → s'.heap.Ns C m' → (∀ w, oC.data ≠ .cell w) → Rel c f ρ st' imm' ((C, oC) :: (D, listOf vals.toArray n) :: fr) s' → RR (.ref D) C (.ok .next) s') :
    wpAny c.M f.A (newList []) (fun acc s₃ => wpAny c.M f.A (newFunctionEnv scope f.env.globals (clF f.env.cells scope.names []) [] f.env.qual none .none (some f.env)) (fun cenv s₄ =>
      codeAny c.M f.A (.compStart (.ListComp elt [⟨.Name x px, iter, ifs, 0⟩] scope pos) 0 (.ref I) acc { cenv with scope := relabel scope f.env }) (RR acc cenv.locals) s₄) E s₃) E s := by
  have hk' := hk
  simp only [compOk, Bool.and_eq_true, List.all_eq_true, bne_iff_ne, Bool.or_eq_true, beq_iff_eq] at hk'
  refine wpAny_newObj_type ?_
  have R₁ := R.pushFr (o := listOf (#[] : Array Value) 0) (tk := s.toks)
  generalize hD : s.heap.objs.size = D at R₁ ⊢
  refine wpAny_newFunctionEnv (fun p hp => (hk'.1.1.2 p hp).1.1) (by intro y hy; cases hy) (fun h₁ hns hsb => ?_) hk'.1.1.1
  obtain ⟨m, cs, F, hl, hL, R₂⟩ := enterComp (tk := s.toks + ([] : List (Str × Value)).length) ok hk R₁ hns hsb
  generalize hC : ((s.heap.push (listOf (#[] : Array Value) 0)).objs.size) = C at R₂
  have ok' := okComp (m := m) (C := C) ok hk
  generalize hf' : f.comp m C (compEnvC scope (clF f.env.cells scope.names []) C f.env) = f' at R₂ ok'
  have hfrs : f'.frs = (f.L, m) :: f.frs := by rw [← hf']
  have hA : f'.A = f.A := by rw [← hf']
  have henv : f'.env = compEnvC scope (clF f.env.cells scope.names []) C f.env := by rw [← hf']
  have hfl : f'.env.locals = f'.L := by rw [← hf']; rfl
  have hfL : f'.L = C := by rw [← hf']
  have hsc : f'.env.scope = relabelS scope f.env.scope := by rw [← hf']; rfl
  have hl0 : LocR c.base imm f ρ m cs fr := by
    have := LocR.other (l₁ := []) hl (by intro w e; cases e) (l₃ := (I, o) :: fr) fun p hp => hp
    exact LocR.other (l₁ := []) this hi.fields fun p hp => hp
  have hx : f'.env.kindOf x = some .local := by rw [henv]; exact lookup_relabel_local hk'.1.2
  have hinn : ∀ (u : V) z w, getL (inner scope ρ) z = some w → getL ((x, u) :: inner scope ρ) z = some w := fun u z w e => by
    rw [getL_cons]
    by_cases q : x = z
    · subst q
      have := (inner_get e).1
      rw [hk'.1.2] at this; cases this
    · rw [if_neg q]; exact e
  have hset : ∀ (u : V) z w, getL ((x, u) :: inner scope ρ) z = some w → getL (setL (inner scope ρ) x u) z = some w := fun u z w e => by
    rw [getL_cons] at e
    rw [getL_setL]
    by_cases q : x = z
    · subst q; rw [if_pos rfl] at e ⊢; exact e
    · rw [if_neg q] at e; rw [if_neg (fun z => q z.symm)]; exact e
  have R₃ := R₂.permFr (fr' := (I, o) :: (D, listOf ([] : List Value).toArray 0) :: (cs ++ fr)) (by
    refine List.Perm.trans List.perm_middle ?_
    refine List.Perm.trans (List.Perm.cons _ List.perm_middle) ?_
    exact List.Perm.swap _ _ _)
  have loop : codeAny c.M f.A (.compLoop (.ListComp elt [⟨.Name x px, iter, ifs, 0⟩] scope pos) 0 (.ref I) (.ref D) (compEnvC scope (clF f.env.cells scope.names []) C f.env)) (RR (.ref D) C) { s with heap := h₁, toks := s.toks + ([] : List (Str × Value)).length } := by
    rw [← henv, ← hA]
    refine codeAny_compLoop_tests (fun n s' => ∃ us i acc vals nn st' imm' o, n = us.length ∧ vs.drop i = us ∧ (∀ p ∈ imm, p ∈ imm') ∧ ItO y v i o ∧ RVs c.base imm' acc vals ∧ acc.length ≤ i ∧
        Rel c f' (inner scope ρ) st' imm' ((I, o) :: (D, listOf vals.toArray nn) :: (cs ++ fr)) s' ∧ Src st' v vs ∧ COMP c k (relabelS scope f.env.scope) x (inner scope ρ) ifs elt v vs P never us acc st') ?_ vs.length
      ⟨vs, 0, [], [], 0, st, imm, o, rfl, rfl, fun _ h => h, hi, .nil, Nat.zero_le _, R₃, hsrc, h⟩
    rintro n s' ⟨us, i, acc, vals, nn, st', imm', o', rfl, hus, i', hi', hacc, hai, R', hsrc', hC'⟩
    cases us with
    | nil =>
      have hle : vs.length ≤ i := by simpa using hus
      refine wpAny_mono (it_end (ok'.hnd hq) R' (rv.mono i') hsrc' hi' hle) (fun r s₃ p => ?_) fun _ _ t => t
      obtain ⟨rfl, R₄⟩ := p
      have R₅ := R₄.permFr (fr' := cs ++ (D, listOf vals.toArray nn) :: fr) List.perm_middle.symm
      obtain ⟨oC, m', hnsC, ⟨es, ep, hoC⟩, R₆⟩ := backC hfrs R₅ F hl0.more i' (fun p hp => by
        rcases List.mem_append.mp hp with hp | hp
        · exact hL p (List.mem_append_left _ hp)
        · rcases List.mem_cons.mp hp with rfl | hp
          · exact hL (D, listOf (#[] : Array Value) 0) (List.mem_append_right _ (.head _))
          · exact hL p (List.mem_append_right _ (.tail _ (.tail _ hp))))
      rw [hfL] at hnsC R₆
      exact hRR D C oC m' nn acc vals st' imm' _ i' hC' hacc hnsC (by rw [hoC]; intro w e; cases e) R₆
    | cons u us =>
      have hu : vs[i]? = some u := by
        have := congrArg List.head? hus
        rw [List.head?_drop] at this
        simpa using this
      have hdr : vs.drop (i + 1) = us := by
        have := congrArg List.tail hus
        rwa [List.tail_drop] at this
      have hil : i < vs.length := by
        rcases Nat.lt_or_ge i vs.length with q | q
        · exact q
        · rw [List.getElem?_eq_none q] at hu; cases hu
      refine wpAny_mono (it_next R' (rv.mono i') hsrc' hi' hu) (fun r s₃ p => ?_) fun _ _ t => t
      obtain ⟨w, o₂, rfl, rw', hi₂, R₄⟩ := p
      refine wpAny_assign_Name (store_local ok' hfl R₄ hx rw' fun s₄ R₅ => ?_)
      have R₆ := R₅.locs (hset u)
      refine wpAny_mono (wpTests ok' hsc R₆ hC' fun e s t => t.never.elim) (fun b s₅ p => ?_) fun _ _ t => t
      obtain ⟨st₅, imm₅, i₅, R₇, h₇⟩ := p
      have i05 : ∀ p ∈ imm, p ∈ imm₅ := fun p hp => i₅ p (i' p hp)
      cases b with
      | false =>
        rw [if_neg (by decide)]
        exact ⟨us.length, by simp, us, i + 1, acc, vals, nn, st₅, imm₅, o₂, rfl, hdr, i05, hi₂, hacc.mono i₅, Nat.le_succ_of_le hai, R₇.locs (hinn u), (of_f h₇).1, (of_f h₇).2⟩
      | true =>
        rw [if_pos rfl]
        refine wpAny_mono ((of_t h₇).go f' imm₅ _ s₅ ok' hsc R₇) (fun z s₆ p => ?_) fun _ _ t => t.never.elim
        obtain ⟨zv, st₆, imm₆, i₆, rz, R₈, hsrc₆, h₈⟩ := p
        have ho := R₈.inFr (.tail _ (.head _))
        have hvl : vals.length ≤ sizeLine := by rw [hacc.length]; omega
        refine append_at (hsz := by simpa using hvl) ho fun h' hsb' hg' => ?_
        refine ⟨us.length, by simp, us, i + 1, acc ++ [zv], vals ++ [z], nn + 1, st₆, imm₆, o₂, rfl, hdr, fun p hp => i₆ p (i05 p hp), hi₂, ((hacc.mono i₅).mono i₆).snoc rz, by simp; omega, ?_, hsrc₆, h₈⟩
        have := (Rel.frSetAt [(I, o₂)] R₈ (tk := s₆.toks) hsb' hg' (by intro w e; cases e)).locs (hinn u)
        simpa using this
  subst hD
  refine codeAny_compStart_list ?_ ?_
  · exact loop
  · have hI := it_self (E := notedBy c.M f.A (compEnvC scope (clF f.env.cells scope.names []) C f.env) fun x s' => RR (.ref s.heap.objs.size) C (.error x) s') (P := fun it' s' => codeAny c.M f.A (.compLoop (.ListComp elt [⟨.Name x px, iter, ifs, 0⟩] scope pos) 0 it' (.ref s.heap.objs.size) (compEnvC scope (clF f.env.cells scope.names []) C f.env)) (RR (.ref s.heap.objs.size) C) s') R₃ hi loop
    rw [hA] at hI
    exact hI

theorem WPE.comp {elt iter : Expr} {x : Str} {px : Pos} {ifs : List Expr} {scope : Scope} {pos : Pos} (hq : c.q = true) (hk : compOk scope sc x = true)
    (h : WPE c k sc ρ st iter (fun v st₁ => ∃ vs, Src st₁ v vs ∧ vs.length ≤ sizeLine ∧ COMP c k (relabelS scope sc) x (inner scope ρ) ifs elt v vs (fun us st₂ => ∀ a, get st₂ a = none → Q (.ref a) ((a, .list us) :: st₂)) never vs [] st₁) X)
    (hs : ∀ env x, foldedSetIterable iter env x = pure x := by intro _ _; rfl) : WPE c k sc ρ st (.ListComp elt [⟨.Name x px, iter, ifs, 0⟩] scope pos) Q X := by
  refine ⟨fun f imm fr s ok hsc R => ?_⟩
  subst hsc
  have hk' := hk
  simp only [compOk, Bool.and_eq_true, List.all_eq_true, bne_iff_ne, Bool.or_eq_true, beq_iff_eq] at hk'
  rw [eval_ListComp]
  refine wpAny_comprehension_free (use := none) rfl (hs _) (closure_is (ok.cells hk)) hk'.1.1.1 (fun p hp e => ?_) (wpAny_mono (h.go f imm fr s ok rfl R) (fun y s₁ p => ?_) fun _ _ t => t)
  · rcases (hk'.1.1.2 p hp).2 with q | q
    · exact absurd e q
    · exact q
  · obtain ⟨v, st₁, imm₁, i₁, rv, R₁, vs, hsrc, hlen, hC⟩ := p
    refine wpAny_mono (it_start (E := Thrown c f imm fr X) R₁ rv hsrc) (fun it s₂ p => ?_) fun _ _ t => t
    obtain ⟨I, o, rfl, hi, R₂⟩ := p
    refine comp_core (RR := fun acc C => compPost c.M f.A (Thrown c f imm fr X) none (PostE c f ρ imm fr Q) acc C) hq ok hk R₂ rv hi hsrc hlen hC ?_
    intro D C oC m' n us vals st' imm' s' i' hP rus hns hoC R'
    refine ⟨m', hns, fun h' hsb => ?_⟩
    have R₃ := R'.frEnd (tk := s'.toks) hsb.extBut hoC
    obtain ⟨R₄, hnone⟩ := R₃.frSt (by intro w e; cases e) (.list rus)
    exact ⟨.ref D, _, imm', fun p hp => i' p (i₁ p hp), .ref D, R₄, hP D hnone⟩

theorem WPs.asgComp {elt iter : Expr} {x y : Str} {px py : Pos} {ifs : List Expr} {scope : Scope} {pos spos : Pos} (hq : c.q = true) (hk : compOk scope sc x = true) (hy : storesB sc y = true)
    (h : WPE c k sc ρ st iter (fun v st₁ => ∃ vs, Src st₁ v vs ∧ vs.length ≤ sizeLine ∧ COMP c k (relabelS scope sc) x (inner scope ρ) ifs elt v vs (fun us st₂ => ∀ a, get st₂ a = none → S .next (setL ρ y (.ref a)) ((a, .list us) :: st₂)) never vs [] st₁) X)
    (hsw : ∀ env : Env, env.scope = sc → swapsWith (.ListComp elt [⟨.Name x px, iter, ifs, 0⟩] scope pos) (some (.Name y py)) spos.line env = pure true)
    (hs : ∀ env x, foldedSetIterable iter env x = pure x := by intro _ _; rfl) : WPs c k sc ρ st (.Assign [.Name y py] (.ListComp elt [⟨.Name x px, iter, ifs, 0⟩] scope pos) spos) S X := by
  refine ⟨fun f imm fr s ok hsc own R => ?_⟩
  subst hsc
  have hk' := hk
  simp only [compOk, Bool.and_eq_true, List.all_eq_true, bne_iff_ne, Bool.or_eq_true, beq_iff_eq] at hk'
  rw [exec_Assign_Name_used _ _ _ _ (hsw f.env rfl)]
  refine wpAny_bind (wpAny_standAt (wpAny_bind ?_))
  show wpAny _ f.A (do let _ ← comprehension (.ListComp elt [⟨.Name x px, iter, ifs, 0⟩] scope pos) scope f.env _ (newList []) false (eval iter f.env) (some (assign (.Name y py) f.env))) _ _ s
  refine wpAny_bind (wpAny_mono (wpAny_comprehension_free (use := some (assign (.Name y py) f.env)) (Q := fun _ s' => PostS c f imm fr S .next s') rfl (hs _) (closure_is (ok.cells hk)) hk'.1.1.1 (fun p hp e => ?_)
    (wpAny_mono (h.go f imm fr s ok rfl R) (fun z s₁ p => ?_) fun _ _ t => t)) (fun _ s' hq => wpAny_pure (wpAny_pure hq)) fun _ _ e => e)
  · rcases (hk'.1.1.2 p hp).2 with q | q
    · exact absurd e q
    · exact q
  · obtain ⟨v, st₁, imm₁, i₁, rv, R₁, vs, hsrc, hlen, hC⟩ := p
    refine wpAny_mono (it_start (E := Thrown c f imm fr X) R₁ rv hsrc) (fun it s₂ p => ?_) fun _ _ t => t
    obtain ⟨I, o, rfl, hi, R₂⟩ := p
    refine comp_core (RR := fun acc C => compPost c.M f.A (Thrown c f imm fr X) (some (assign (.Name y py) f.env)) (fun _ s' => PostS c f imm fr S .next s') acc C) hq ok hk R₂ rv hi hsrc hlen hC ?_
    intro D C oC m' n us vals st' imm' s' i' hP rus hns hoC R'
    have R₃ := R'.permFr (fr' := (D, listOf vals.toArray n) :: (C, oC) :: fr) (List.Perm.swap _ _ _)
    obtain ⟨R₄, hnone⟩ := R₃.frSt (by intro w e; cases e) (.list rus)
    obtain ⟨oC', es, ep, hC1, hC2, hC3, hC4⟩ := hns
    refine wpAny_assign_Name (store ok own R₄ hy (.ref D) fun s₅ R₅ => ?_)
    have hg := R₅.inFr (.head _)
    have hg' := R'.inFr (.head _)
    rw [hC1] at hg'
    cases hg'
    refine ⟨m', ⟨oC, es, ep, hg, hC2, hC3, hC4⟩, fun h' hsb => ?_⟩
    exact ⟨.next, _, _, imm', fun p hp => i' p (i₁ p hp), .next, R₅.frEnd (tk := s₅.toks) hsb.extBut hoC, hP D hnone⟩
end
end Mine
namespace Mine
section
variable {c : Cx} {k : Nat} {sc : Scope} {ρ : Loc} {st : St} {Q : V → St → Prop} {S : Fl → Loc → St → Prop} {X : Xp} {f : Fm} {imm fr : Led} {s : Shared} {tk : Nat}

/-! range -/
theorem PostE.pushImm {v : V} {x : Value} {o : Obj} (R : Rel c f ρ st imm fr s) (hv : RV c.base ((s.heap.objs.size, o) :: imm) v x) (h : Q v st) (ho : o.isFreed = false := by rfl) : PostE c f ρ imm fr Q x { s with heap := s.heap.push o, toks := tk } :=
  ⟨v, st, _, fun _ h => .tail _ h, hv, R.pushImm (tk := tk) ho, h⟩
theorem WL.range1 {n : Int} (h : Q (.rng 0 n 1) st) : WL c k (fun xs => call (.type "range") xs) [.int n] ρ st Q X := by
  refine ⟨fun f imm fr s xs ok R rvs => ?_⟩
  obtain ⟨_, rfl, rx0⟩ := rvs.inv1
  obtain ⟨t, rfl⟩ := rx0.intI
  exact call_range_1 (.pushImm R (.rng (.head _)) h)
theorem small_of {a b d : Int} (h : a.natAbs < 1000000 ∧ b.natAbs < 1000000 ∧ (d = 1 ∨ d = -1)) : Builtin.Range.small a b d = true := by
  obtain ⟨ha, hb, hd⟩ := h
  have h1 : (if a < b then b - a else 0) < 2000000 ∧ 0 ≤ (if a < b then b - a else 0) ∧ (if a > b then a - b else 0) < 2000000 ∧ 0 ≤ (if a > b then a - b else 0) := by split <;> split <;> omega
  unfold Builtin.Range.small Builtin.Range.rangeFitsLong Builtin.Range.rangeSize
  rcases hd with rfl | rfl
  · simp only [Bool.and_eq_true, Bool.or_eq_true, decide_eq_true_eq]
    have e : (if (1 : Int) > 0 then (if a < b then (b - a - 1) / 1 + 1 else 0) else (if a > b then (a - b - 1) / (-1) + 1 else 0)) = (if a < b then b - a else 0) := by
      rw [if_pos (by decide), Int.ediv_one]; split <;> omega
    rw [e]
    refine ⟨⟨⟨⟨by omega, by omega⟩, by decide⟩, by omega⟩, .inr ?_⟩
    · rw [if_pos (show (1 : Int) > 0 by decide)]; simp; omega
  · simp only [Bool.and_eq_true, Bool.or_eq_true, decide_eq_true_eq]
    have e : (if (-1 : Int) > 0 then (if a < b then (b - a - 1) / (-1) + 1 else 0) else (if a > b then (a - b - 1) / (- -1) + 1 else 0)) = (if a > b then a - b else 0) := by
      rw [if_neg (by decide), show (- -1 : Int) = 1 from rfl, Int.ediv_one]; split <;> omega
    rw [e]
    refine ⟨⟨⟨⟨by omega, by omega⟩, by decide⟩, by omega⟩, .inr ?_⟩
    · rw [if_neg (show ¬ (-1 : Int) > 0 by decide)]; simp; omega

/-! numbers of a list -/
theorem RVs.bools {base : Heap} {imm : Led} : ∀ {bs : List Bool} {xs : List Value}, RVs base imm (bs.map V.bool) xs → LSm.BoolsAre xs bs := by
  intro ns
  induction ns with
  | nil => intro xs h; cases h; exact .nil
  | cons y ys ih => intro xs h; cases h with | cons a r => obtain rfl := a.boolI; exact .cons y (ih r)
theorem Rel.same {h' : Heap} {m : Str → Option Value} {mt cs fo : Led} (hs : ∃ h tk, s = { c.s₀ with heap := h, toks := tk }) (r : RelAt c f ρ st imm fr s.heap m mt cs fo) (F : Fr c.base f.L h' m) (N : News c.base f.L h' (whole mt cs imm fr fo)) : Rel c f ρ st imm fr { s with heap := h', toks := tk } := by
  obtain ⟨h0, tk0, rfl⟩ := hs
  exact ⟨⟨h', tk, rfl⟩, m, mt, cs, fo, F, N, r.nodup, r.sto, r.fos, r.loc⟩
theorem WL.allBools {a : Addr} {bs : List Bool} (hq : c.q = true) (hg : get st a = some (.list (bs.map .bool))) (h : Q (.bool (bs.all id)) st) : WL c k (fun xs => call (.builtin "all") xs) [.ref a] ρ st Q X := by
  refine ⟨fun f imm fr s xs ok R rvs => ?_⟩
  obtain ⟨_, rfl, rx0⟩ := rvs.inv1
  obtain rfl := rx0.refI
  obtain ⟨vals, n, r, ho⟩ := R.isList hg
  obtain ⟨hs, m, mt, cs, fo, rr⟩ := id R
  exact LSm.all_bools rr.frm rr.news (ok.hnd hq) ⟨_, ho, rfl, _, rfl⟩ r.bools fun h' tk F N => .of (.bool _) (Rel.same hs rr F N) h
/-! methods of lists -/
theorem Rel.noneAt {D : Addr} {m : Str → Option Value} {mt cs fo : Led} {h : Heap} (rr : RelAt c f ρ st imm fr h m mt cs fo) (hlt : ∀ p ∈ whole mt cs imm fr fo, p.1 < D) : Mine.get st D = Option.none := by
  cases q : Mine.get st D with
  | none => rfl
  | some y =>
    obtain ⟨co, hm, _⟩ := rr.sto.get q
    exact absurd (hlt (D, co) (List.mem_append_left _ hm)) (Nat.lt_irrefl _)
theorem RelAt.newSt {D : Addr} {o : Obj} {x : O} {m : Str → Option Value} {mt cs fo : Led} {h h' : Heap} (rr : RelAt c f ρ st imm fr h m mt cs fo) (F : Fr c.base f.L h' m) (N : News c.base f.L h' ((D, o) :: whole mt cs imm fr fo)) (hlt : ∀ p ∈ whole mt cs imm fr fo, p.1 < D) (hr : RO c imm x o) :
    RelAt c f ρ ((D, x) :: st) imm fr h' m ((D, o) :: mt) cs fo := by
  refine ⟨F, N, ?_, .cons hr rr.sto, rr.fos, rr.loc⟩
  rw [show whole ((D, o) :: mt) cs imm fr fo = (D, o) :: whole mt cs imm fr fo from rfl, List.map_cons, List.nodup_cons]
  refine ⟨fun hm => ?_, rr.nodup⟩
  obtain ⟨p, hp, e⟩ := List.mem_map.mp hm
  have := hlt p hp
  rw [e] at this
  exact Nat.lt_irrefl _ this
theorem WL.append {a : Addr} {vs : List V} {v : V} (hg : get st a = some (.list vs)) (hl : vs.length ≤ 1000000) (h : Q .none (upd st a (.list (vs ++ [v])))) : WL c k (fun xs => call (.builtin "list.append") xs) [.ref a, v] ρ st Q X := by
  refine ⟨fun f imm fr s xs ok R rvs => ?_⟩
  obtain ⟨_, _, rfl, rx0, rx1⟩ := rvs.inv2
  obtain rfl := rx0.refI
  have rv := rx1
  obtain ⟨vals, n, r, ho⟩ := R.isList hg
  have hl' : vals.length ≤ 1000000 := by rw [r.length]; exact hl
  refine append_at (hsz := by rw [PySem.sizeLine_eq]; simp; omega) ho fun h' hsb hg' => ?_
  exact .none (R.upd (tk := s.toks) hg hsb hg' (by simpa using RO.list (r.snoc rv))) h
theorem WPE.meth {e : Expr} {name : Str} {ap pos : Pos} {args : List Expr} {id : String} (slot : Slot "list" name id) (hty : typeOf (.builtin id) = pure (.type "method_descriptor"))
    (h : WPE c k sc ρ st e (fun v st₁ => ∃ a vs, v = .ref a ∧ get st₁ a = some (.list vs) ∧ WPEs c k sc ρ st₁ args (fun us st₂ => WL c k (fun xs => PySem.call (.builtin id) xs) (.ref a :: us) ρ st₂ Q X) X) X)
    (hp : args.any isStar = false := by rfl)
    (he : ∀ env, ∃ pl, eval (.Call (.Attribute e name ap) args [] pos) env = (do
      let ov ← eval e env
      standAt ap.atName
      let (f, first) ← holding [ov] (getMethod ov name pl)
      callWith pos f first (backTo pos (starEach args env)) []) := by intro _; exact ⟨_, rfl⟩) : WPE c k sc ρ st (.Call (.Attribute e name ap) args [] pos) Q X := by
  refine ⟨fun f imm fr s ok hsc R => ?_⟩
  obtain ⟨pl, he⟩ := he f.env
  refine MethodCall_ (pl := pl) (wpAny_mono (h.go f imm fr s ok hsc R) (fun x s₁ p => ?_) fun _ _ t => t) he
  obtain ⟨v, st₁, imm₁, i₁, rv, R₁, a, vs, rfl, hg, h₁⟩ := p
  cases rv with
  | ref =>
    obtain ⟨vals, n, r, ho⟩ := R₁.isList hg
    refine getMethod_list_of slot hty ⟨_, ho, rfl, _, rfl⟩ ⟨_, ho, rfl⟩ ?_
    refine wpAny_mono (callWithW (f := f) (val := .builtin id) (first := [.ref a]) (vs₀ := [.ref a]) rfl hp ok hsc R₁ (.one (.ref a)) (.inr fun T e => by cases e) (by simpa using h₁)) (fun _ _ p => p.mono i₁) fun _ _ t => t.mono i₁

theorem WPE.mAppend {e : Expr} {ap pos : Pos} {args : List Expr}
    (h : WPE c k sc ρ st e (fun v st₁ => ∃ a vs, v = .ref a ∧ get st₁ a = some (.list vs) ∧ WPEs c k sc ρ st₁ args (fun us st₂ => WL c k (fun xs => PySem.call (.builtin "list.append") xs) (.ref a :: us) ρ st₂ Q X) X) X)
    (hp : args.any isStar = false := by rfl)
    (he : ∀ env, ∃ pl, eval (.Call (.Attribute e "append" ap) args [] pos) env = (do
      let ov ← eval e env
      standAt ap.atName
      let (f, first) ← holding [ov] (getMethod ov "append" pl)
      callWith pos f first (backTo pos (starEach args env)) []) := by intro _; exact ⟨_, rfl⟩) : WPE c k sc ρ st (.Call (.Attribute e "append" ap) args [] pos) Q X := WPE.meth slot_list_append PySem.F.type_list_append h hp he

theorem FOR.inv {x : Str} {body : List Stmt} {v : V} {vs : List V} (J : Nat → Loc → St → Prop) (h0 : J 0 ρ st)
    (step : ∀ i u ρ₁ st₁, vs[i]? = some u → J i ρ₁ st₁ → WPS c k sc (setL ρ₁ x u) st₁ body (fun fl ρ' st' => lp fl (∃ ρ₂, Sub ρ₂ ρ' ∧ Src st' v vs ∧ J (i + 1) ρ₂ st') (fun fl => S fl ρ' st')) X)
    (fin : ∀ ρ₁ st₁, J vs.length ρ₁ st₁ → S .next ρ₁ st₁) : FOR c k sc x body v vs S X vs ρ st := by
  have go : ∀ us i ρ st, vs.drop i = us → i ≤ vs.length → J i ρ st → FOR c k sc x body v vs S X us ρ st := by
    intro us
    induction us with
    | nil =>
      intro i ρ st hd hi hJ
      have : i = vs.length := by have : vs.length ≤ i := by simpa using hd
                                 omega
      subst this
      exact fin ρ st hJ
    | cons u us ih =>
      intro i ρ st hd hi hJ
      have hu : vs[i]? = some u := by
        have := congrArg List.head? hd
        rw [List.head?_drop] at this
        simpa using this
      have hdr : vs.drop (i + 1) = us := by
        have := congrArg List.tail hd
        rwa [List.tail_drop] at this
      have hil : i < vs.length := by
        rcases Nat.lt_or_ge i vs.length with q | q
        · exact q
        · rw [List.getElem?_eq_none q] at hu; cases hu
      have H := step i u ρ st hu hJ
      refine ⟨fun f imm fr s ok hsc own R => wpAny_mono (H.go f imm fr s ok hsc own R) (fun fl s' p => ?_) fun _ _ t => t⟩
      obtain ⟨fl', ρ', st', imm', i', rf, R', h'⟩ := p
      refine ⟨fl', ρ', st', imm', i', rf, R', ?_⟩
      cases fl' with
      | next => obtain ⟨ρ₂, a, b, d⟩ := h'; exact ⟨ρ₂, a, b, ih (i + 1) ρ₂ st' hdr hil d⟩
      | cont => obtain ⟨ρ₂, a, b, d⟩ := h'; exact ⟨ρ₂, a, b, ih (i + 1) ρ₂ st' hdr hil d⟩
      | brk => exact h'
      | ret => exact h'
  exact go vs 0 ρ st rfl (Nat.zero_le _) h0
theorem WPE.mono {e : Expr} {Q' : V → St → Prop} (h : WPE c k sc ρ st e Q X) (hq : ∀ v st', Q v st' → Q' v st') : WPE c k sc ρ st e Q' X :=
  ⟨fun f imm fr s ok hsc R => wpAny_mono (h.go f imm fr s ok hsc R) (fun _ _ ⟨v, st, imm', a, b, r, q⟩ => ⟨v, st, imm', a, b, r, hq _ _ q⟩) fun _ _ t => t⟩
theorem COMP.inv {x : Str} {elt : Expr} {v : V} {vs : List V} {P : List V → St → Prop} (J : Nat → List V → St → Prop) (h0 : J 0 [] st)
    (step : ∀ i u acc st₁, vs[i]? = some u → J i acc st₁ → WPE c k sc ((x, u) :: ρ) st₁ elt (fun y st₂ => Src st₂ v vs ∧ J (i + 1) (acc ++ [y]) st₂) X)
    (fin : ∀ acc st₁, J vs.length acc st₁ → P acc st₁) : COMP c k sc x ρ [] elt v vs P X vs [] st := by
  have go : ∀ us i acc st, vs.drop i = us → i ≤ vs.length → J i acc st → COMP c k sc x ρ [] elt v vs P X us acc st := by
    intro us
    induction us with
    | nil =>
      intro i acc st hd hi hJ
      have : i = vs.length := by have : vs.length ≤ i := by simpa using hd
                                 omega
      subst this
      exact fin acc st hJ
    | cons u us ih =>
      intro i acc st hd hi hJ
      have hu : vs[i]? = some u := by
        have := congrArg List.head? hd
        rw [List.head?_drop] at this
        simpa using this
      have hdr : vs.drop (i + 1) = us := by
        have := congrArg List.tail hd
        rwa [List.tail_drop] at this
      have hil : i < vs.length := by
        rcases Nat.lt_or_ge i vs.length with q | q
        · exact q
        · rw [List.getElem?_eq_none q] at hu; cases hu
      exact WPE.mono (step i u acc st hu hJ) fun y st₂ h => ⟨h.1, ih (i + 1) _ st₂ hdr hil h.2⟩
  exact go vs 0 [] st rfl (Nat.zero_le _) h0
/-- each thing by itself, the store as it is -/
theorem COMP.pure {x : Str} {elt : Expr} {v : V} {vs : List V} {P : List V → St → Prop} (g : Nat → V) (hs : Src st v vs)
    (step : ∀ i u, vs[i]? = some u → WPE c k sc ((x, u) :: ρ) st elt (fun y st₂ => y = g i ∧ st₂ = st) X) (fin : P ((List.range vs.length).map g) st) : COMP c k sc x ρ [] elt v vs P X vs [] st := by
  refine COMP.inv (fun i acc st₁ => st₁ = st ∧ acc = (List.range i).map g) ⟨rfl, rfl⟩ (fun i u acc st₁ hu hJ => ?_) (fun acc st₁ hJ => ?_)
  · obtain ⟨rfl, rfl⟩ := hJ
    refine WPE.mono (step i u hu) fun y st₂ h => ?_
    obtain ⟨rfl, rfl⟩ := h
    exact ⟨hs, rfl, by rw [List.range_succ, List.map_append]; rfl⟩
  · obtain ⟨rfl, rfl⟩ := hJ; exact fin
/-! ranges that rise by one -/
theorem rng_up {A B : Int} {a n : Nat} (hA : A = a) (hB : B = a + n) : rngItems A B 1 = (List.range' a n).map (fun (i : Nat) => V.int i) := by
  subst hA hB
  unfold rngItems
  have e : (Builtin.Range.rangeSize (a : Int) (a + n) 1).toNat = n := by
    unfold Builtin.Range.rangeSize
    rw [if_pos (by decide), Int.ediv_one]
    split <;> omega
  rw [e, List.range'_eq_map_range, List.map_map]
  refine List.map_congr_left fun i _ => ?_
  simp
def upTo (a n : Nat) : List V := (List.range' a n).map fun (i : Nat) => V.int i
theorem Src.up {A B : Int} (a n : Nat) (hA : A = a) (hB : B = a + n) (hb : a + n < 1000000) : Src st (.rng A B 1) (upTo a n) := by
  unfold upTo
  rw [← rng_up hA hB]
  exact .rng (small_of ⟨by omega, by omega, .inl rfl⟩)
theorem upTo_len {a n : Nat} : (upTo a n).length = n := by simp [upTo]
theorem upTo_get {a n i : Nat} {u : V} (h : (upTo a n)[i]? = some u) : i < n ∧ u = .int ((a + i : Nat) : Int) := by
  unfold upTo at h
  rw [List.getElem?_map] at h
  obtain ⟨j, hj, rfl⟩ := Option.map_eq_some_iff.mp h
  have hi : i < n := by
    rcases Nat.lt_or_ge i n with q | q
    · exact q
    · rw [List.getElem?_eq_none (by simpa using q)] at hj; cases hj
  rw [List.getElem?_range' hi] at hj
  simp at hj
  subst hj
  exact ⟨hi, rfl⟩
theorem Le.upd {st' : St} {a : Addr} {o : O} (h : Le st st') (hn : get st a = none) : Le st (upd st' a o) := fun b x e => by
  have : b ≠ a := fun q => by rw [q, hn] at e; cases e
  rw [get_upd_ne this]; exact h b x e
theorem Le.cons {st' : St} {a : Addr} {o : O} (h : Le st st') (hn : get st' a = none) : Le st ((a, o) :: st') := h.trans (Le.alloc hn)
theorem Le.none {st' : St} {a : Addr} (h : Le st st') (hn : get st' a = Option.none) : get st a = Option.none := by
  cases e : get st a with
  | none => rfl
  | some o => rw [h a o e] at hn; cases hn
end
end Mine
namespace Mine
section
variable {c : Cx} {k : Nat} {sc : Scope} {ρ : Loc} {st : St} {Q : V → St → Prop} {S : Fl → Loc → St → Prop} {X : Xp} {f : Fm} {imm fr : Led} {s : Shared} {tk : Nat}

theorem Dats.ints {ns : List Int} : Dats st (ns.map V.int) (ns.map PyData.int) := by
  induction ns with
  | nil => exact .nil
  | cons n ns ih => exact .cons (.int n) ih
theorem lay_ints {ns : List Int} : PyData.canLayAll0 (ns.map PyData.int) = true := by
  induction ns with
  | nil => rfl
  | cons n ns ih => simp [PyData.canLayAll0, PyData.canLay0, ih]
theorem depth_ints {ns : List Int} : PyData.depthAll (ns.map PyData.int) ≤ 1 := by
  induction ns with
  | nil => simp [PyData.depthAll]
  | cons n ns ih => simp [PyData.depthAll, PyData.depth]; omega
theorem shaped_ints {ns : List Int} : SeqAt.shaped (.list (ns.map PyData.int)) = true := by
  unfold SeqAt.shaped
  have := depth_ints (ns := ns)
  simp [PyData.canLay0, lay_ints, PyData.depth]
  omega
theorem W2.eqInts {a b : Addr} {ns ms : List Int} (ha : get st a = some (.list (ns.map V.int))) (hb : get st b = some (.list (ms.map V.int))) (h : Q (.bool (decide (ns = ms))) st) : W2 c k (compareOp .Eq) (.ref a) (.ref b) ρ st Q X := by
  refine W2.eq (.list ha Dats.ints) (.list hb Dats.ints) shaped_ints shaped_ints ?_
  rw [show PyData.eqv (.list (ns.map PyData.int)) (.list (ms.map PyData.int)) = decide (ns = ms) by rw [PyData.eqv]; exact ked_eqvAll ns ms]
  exact h
theorem W2.neInts {a b : Addr} {ns ms : List Int} (ha : get st a = some (.list (ns.map V.int))) (hb : get st b = some (.list (ms.map V.int))) (h : Q (.bool (!decide (ns = ms))) st) : W2 c k (compareOp .NotEq) (.ref a) (.ref b) ρ st Q X := by
  refine W2.ne (.list ha Dats.ints) (.list hb Dats.ints) shaped_ints shaped_ints ?_
  rw [show PyData.eqv (.list (ns.map PyData.int)) (.list (ms.map PyData.int)) = decide (ns = ms) by rw [PyData.eqv]; exact ked_eqvAll ns ms]
  exact h
end
end Mine
namespace Mine
section
variable {c : Cx} {k : Nat} {sc : Scope} {ρ : Loc} {st : St} {Q : V → St → Prop} {S : Fl → Loc → St → Prop} {X : Xp} {f : Fm} {imm fr : Led} {s : Shared} {tk : Nat}

/-- one more of the frame's own -/
theorem Rel.madeFr {e : Addr} {o : Obj} {h' : Heap} (R : Rel c f ρ st imm fr s) (hk : ∀ b o, s.heap.get? b = some o → h'.get? b = some o) (hn : s.heap.get? e = Option.none) (he : h'.get? e = some o) : Rel c f ρ st imm ((e, o) :: fr) { s with heap := h', toks := tk } := by
  obtain ⟨⟨h0, tk0, rfl⟩, m, mt, cs, fo, r⟩ := R
  dsimp only at hk hn r
  have r' := r.keeps (h' := h') hk
  have e1 : whole mt cs imm ((e, o) :: fr) fo = (mt ++ cs ++ imm) ++ (e, o) :: (fr ++ fo) := by simp
  have e2 : whole mt cs imm fr fo = (mt ++ cs ++ imm) ++ (fr ++ fo) := by simp
  refine ⟨⟨h', tk, rfl⟩, m, mt, cs, fo, r'.frm, ?_, ?_, r.sto, r.fos, r.loc.more⟩
  · rw [e1]
    intro p hp
    have hp' : p = (e, o) ∨ p ∈ whole mt cs imm fr fo := by
      rw [e2]
      rcases List.mem_append.mp hp with hp | hp
      · exact .inr (List.mem_append_left _ hp)
      · rcases List.mem_cons.mp hp with hp | hp
        · exact .inl hp
        · exact .inr (List.mem_append_right _ hp)
    rcases hp' with rfl | hp'
    · refine ⟨he, fun q => ?_, ?_⟩
      · obtain ⟨oL, _, _, hL, _⟩ := r.frm.ns
        rw [show e = f.L from q, hL] at hn; cases hn
      · cases hq : c.base.get? e with
        | none => rfl
        | some o' => have := r.frm.keep _ _ hq; rw [hn] at this; cases this
    · exact r'.news p hp'
  · rw [e1]
    refine nodup_ins (by rw [← e2]; exact r.nodup) fun q hq z => ?_
    have := (r.news q (by rw [e2]; exact hq)).1
    rw [show q.1 = e from z, hn] at this; cases this

abbrev vbm : List Value := [.type "ValueError", .type "Exception", .type "BaseException", .type "object"]

theorem WPs.raise {x : Str} {np cpos pos : Pos} {e₀ : Expr} {args : List Expr} {C : Addr} (hq : c.q = true) (hx : sc.names.lookup x = some .globalImplicit) (e : nsIn c.K mainGlobals x = some (some (.ref C))) (hC : excIn c.K C vbm "ValueError.__new__" = true)
    (h : WPEs c k sc ρ st (e₀ :: args) (fun _ st₁ => X C ρ st₁) X) (hp : (e₀ :: args).any isStar = false := by rfl) (hlen : (e₀ :: args).length ≤ sizeLine := by decide) (hd : (x == ("__debug__" : Str)) = false := by decide) : WPs c k sc ρ st (.Raise (some (.Call (.Name x np) (e₀ :: args) [] cpos)) none pos) S X := by
  refine ⟨fun f imm fr s ok hsc own R => ?_⟩
  have T := topRead_of ok.top
  have O := own_of_in ok.kin T e hC
  obtain ⟨tl, N, nm, q, bs, hdct, sn, sub, ab, col, dd, k0, k1, k2, k3, k5, mN, hCo, hN, hni, TL⟩ := O.obj
  have FB := PySem.F.excBase_ValueError
  refine wpAny_Raise_call_subU (C := C) (nm := nm) (q := q) (N := N) (bs := bs) (bm := tl) (hdct := hdct) (sn := sn) (sub := sub) (ab := ab) (col := col) (dd := dd) (k0 := k0) (k1 := k1) (k2 := k2) (k3 := k3) (k5 := k5) (newId := "ValueError.__new__") (bmB := vbm)
    FB (by decide) FB (mN := mN) (TL.hasType FB.hasBase) (ok.hnd hq) (star_plain hp) hni ?_
  refine wpAny_mono ((WPE.globR (Q := fun v st₁ => v = .stat (.ref C) ∧ st₁ = st) (X := X) hx e ⟨rfl, rfl⟩ hd).go f imm fr s ok hsc R) (fun y s₁ p => ?_) fun _ _ t => t
  obtain ⟨v, st₁, imm₁, i₁, rv, R₁, rfl, rfl⟩ := p
  cases rv
  refine ⟨rfl, ?_⟩
  have H := h.go f imm₁ fr s₁ cpos ok hsc R₁
  simp only [List.any_cons, Bool.or_eq_false_iff] at hp
  rw [star_cons hp.1] at H ⊢
  refine Calls.evalArgs_plain (wpAny_mono H (fun xs s₂ p => ?_) fun _ _ t => t.mono i₁)
  obtain ⟨vs, st₂, imm₂, i₂, rvs, R₂, hn, hX⟩ := p
  have hk : ∀ b o, c.base.get? b = some o → s₂.heap.get? b = some o := fun b o q => R₂.keep b o q
  refine ⟨rfl, by rw [rvs.length, hn]; exact hlen, hk _ _ hCo, hN.keeps hk, TL.keeps hk, fun h' e' hm => ?_⟩
  obtain ⟨t, ht, _, _⟩ := hm.there
  exact ⟨e', C, none, [(e', _)], ρ, st₂, imm₂, rfl, .made rfl rfl rfl rfl, .inl rfl, fun q hq => i₂ q (i₁ q hq), R₂.madeFr (tk := s₂.toks) hm.keeps hm.new ht, hX⟩

/-! under a handler -/
abbrev Cx.off (c : Cx) : Cx := { c with q := false }
abbrev Fm.under (f : Fm) (v : Option Value) : Fm := { f with A := f.A.mark v }
theorem RO.off {o : O} {co : Obj} (h : RO c imm o co) : RO c.off imm o co := by
  cases h with
  | list r => exact .list r
  | dictI r d => exact .dictI r d
  | dictS r d => exact .dictS r d
  | inst C d => exact .inst C d
  | exc a b => exact .exc a b
  | attr a => exact .attr a
theorem RO.on {o : O} {co : Obj} (h : RO c.off imm o co) : RO c imm o co := by
  cases h with
  | list r => exact .list r
  | dictI r d => exact .dictI r d
  | dictS r d => exact .dictS r d
  | inst C d => exact .inst C d
  | exc a b => exact .exc a b
  | attr a => exact .attr a
theorem StR.off {mt : Led} (h : StR c imm st mt) : StR c.off imm st mt := by
  induction h with
  | nil => exact .nil
  | cons a _ ih => exact .cons a.off ih
theorem StR.on {mt : Led} (h : StR c.off imm st mt) : StR c imm st mt := by
  induction h with
  | nil => exact .nil
  | cons a _ ih => exact .cons a.on ih
theorem Rel.off {v : Option Value} (R : Rel c f ρ st imm fr s) : Rel c.off (f.under v) ρ st imm fr s := by
  obtain ⟨hs, m, mt, cs, fo, r⟩ := R
  exact ⟨hs, m, mt, cs, fo, r.frm, r.news, r.nodup, r.sto.off, r.fos, ⟨r.loc.reads, r.loc.cells, r.loc.inj⟩⟩
theorem Rel.on {v : Option Value} (R : Rel c.off (f.under v) ρ st imm fr s) : Rel c f ρ st imm fr s := by
  obtain ⟨hs, m, mt, cs, fo, r⟩ := R
  exact ⟨hs, m, mt, cs, fo, r.frm, r.news, r.nodup, r.sto.on, r.fos, ⟨r.loc.reads, r.loc.cells, r.loc.inj⟩⟩
theorem Fm.Ok.off {v : Option Value} (ok : f.Ok c k) : (f.under v).Ok c.off k :=
  ⟨ok.kin, ok.top, ok.envs, ok.frames, ok.eframe, ok.ekind, ok.eglob, ok.ebi, ok.ecell, fun q => (by cases q), ok.depth, ok.units⟩

theorem WPs.tryE {body suite : List Stmt} {b₀ : Stmt} {T n : Str} {tp hpos pos : Pos} {Mx : Addr} (hT : sc.names.lookup T = some .globalImplicit) (eT : nsIn c.K mainGlobals T = some (some (.ref Mx))) (hn : sc.names.lookup n = some .local)
    (h : WPS c k sc ρ st body S (fun C ρ' st' => exmOne c.K (.ref C) (.ref Mx) = some true ∧ ∀ e, get st' e = none → WPS c.off k sc (setL ρ' n (.ref e)) ((e, .exc C) :: st') (b₀ :: suite) (fun fl _ st₂ => S fl [] st₂) never))
    (hd : (T == ("__debug__" : Str)) = false := by decide) :
    WPs c k sc ρ st (.Try body [.ExceptHandler (some (.Name T tp)) (some n) (b₀ :: suite) hpos] [] [] pos) S X := by
  refine ⟨fun f imm fr s ok hsc own R => ?_⟩
  refine wpAny_Try_except (wpAny_mono (h.go f imm fr s ok hsc own R) (fun fl s₁ p => ?_) fun ev s₁ t => ?_)
  · obtain ⟨fl', ρ₁, st₁, imm₁, i₁, rf, R₁, h₁⟩ := p
    cases rf with
    | next => exact wpAny_execs_nil ⟨.next, ρ₁, st₁, imm₁, i₁, .next, R₁, h₁⟩
    | brk => exact ⟨.brk, ρ₁, st₁, imm₁, i₁, .brk, R₁, h₁⟩
    | cont => exact ⟨.cont, ρ₁, st₁, imm₁, i₁, .cont, R₁, h₁⟩
    | ret r => exact ⟨_, ρ₁, st₁, imm₁, i₁, .ret r, R₁, h₁⟩
  · obtain ⟨e, C, mk, E, ρ', st', imm', rfl, x, hm, i', R', hmx, hW⟩ := t
    obtain ⟨L, hL⟩ := ok.frm
    have ok' := ok.off (v := some (.ref e))
    have hkind : f.env.kindOf n = some .local := by show f.env.scope.names.lookup n = _; rw [hsc]; exact hn
    rw [show noteFrame (.ref e) f.env = noteFrame (.ref e) f.fenv by rw [own.same]]
    refine noted ok hL x hm R' fun E₂ s₂ x₂ R₂ => ?_
    refine flight none x₂ R₂ fun E₃ s₃ x₃ R₃ => ?_
    refine wpAny_handleBy_cons (codeAny_handlers_test ?_) (by intro q; cases q)
    have R₃' := R₃.off (v := some (.ref e))
    refine wpAny_mono ((WPE.globR (c := c.off) (Q := fun v st₁ => v = .stat (.ref Mx) ∧ st₁ = st') (X := never) hT eT ⟨rfl, rfl⟩ hd).go (f.under (some (.ref e))) imm' (E₃ ++ fr) s₃ ok' hsc R₃') (fun y s₄ p => ?_) fun _ _ t => t.never.elim
    obtain ⟨v, st₄, imm₄, i₄, rv, R₄, rfl, rfl⟩ := p
    cases rv
    have he : ∃ oe, s₄.heap.get? e = some oe ∧ oe.cls = .ref C := by
      cases x₃ with
      | @traced oe oT vs ts a0 fl T' h1 h2 h3 h4 h5 h6 => exact ⟨oe, R₄.inFr (a := e) (o := oe) (by simp), h1⟩
    obtain ⟨oe, he, hec⟩ := he
    refine exm_one (M := c.M) (R₄.kin ok') (show Looks c.M s₄.heap (typeOf (.ref e)) (.ref C) from hec ▸ (Looks.ld he).andThen .now) hmx _ _ _ _ (fun _ _ q => q) ?_
    refine codeAny_handlers_suite_as ?_
    refine flight (c := c.off) (f := f.under (some (.ref e))) none x₃ R₄ fun E₅ s₅ x₅ R₅ => ?_
    cases x₅ with
    | @traced oe oT vs ts a0 fl T' h1 h2 h3 h4 h5 h6 =>
    have R₆ : Rel c.off (f.under (some (.ref e))) ρ' st₄ imm₄ ((e, oe) :: fr) s₅ := by
      have hR := R₅
      obtain ⟨⟨h0, tk0, rfl⟩, _⟩ := hR
      have zz := Rel.frEndAt [(e, oe)] R₅ (h' := h0) (tk := tk0) (fun _ _ _ e => e) (by rw [h5]; intro w q; cases q)
      exact zz
    obtain ⟨R₇, hnone⟩ := R₆.frSt (x := .exc C) (by rw [h2]; intro w q; cases q) (.exc h1 ⟨_, h2⟩)
    refine store_local (c := c.off) (f := f.under (some (.ref e))) (v := .ref e) ok' own.locals R₇ hkind (.ref e) fun s₈ R₈ => ?_
    refine wpAny_mono ((hW e hnone).go (f.under (some (.ref e))) imm₄ fr s₈ ok' hsc ⟨own.same, own.locals, own.cmp⟩ R₈) (fun fl s₉ p => ?_) fun _ _ t => t.never.elim
    obtain ⟨fl', ρ₉, st₉, imm₉, i₉, rf, R₉, h₉⟩ := p
    have R₁₀ := R₉.on
    obtain ⟨⟨h0, tk0, rfl⟩, m, mt, cs, fo, r⟩ := R₁₀
    refine wpAny_nameGoes hkind (own.locals ▸ r.frm.ns) (by rw [ok.ekind]; rfl) fun h' m' hn' hs' => ?_
    rw [own.locals] at hn' hs'
    exact ⟨fl', [], st₉, imm₉, fun q hq => i₉ q (i₄ q (i' q hq)), rf, ⟨⟨h', _, rfl⟩, m', mt, cs, fo, r.frm.set hn' hs', r.news.set hs', r.nodup, r.sto, r.fos, ⟨fun x v q => (by cases q), r.loc.cells, r.loc.inj⟩⟩, h₉⟩
end

/-! the class of an exception -/
structure ExcK (K : Frag) (C : Addr) : Prop where
  ga : findIn K (.ref C) "__getattribute__" = some (some (.builtin "BaseException.__getattribute__"))
  gh : findIn K (.ref C) "__getattr__" = some none
  cl : findIn K (.ref C) "__class__" = some (some (.builtin "object.__class__"))
  gt : specialIn K (.builtin "object.__class__") "__get__" = some (some (.builtin "getset_descriptor.__get__"))
  tk : takesIn K (.builtin "object.__class__") = some true
  ob : mroIn K C (.type "object") = some true
  be : mroIn K C (.type "BaseException") = some true
  is : (clsIn K C).isSome = true

section
variable {prog : Program} {w : World} {A : Around} {E : Value → Shared → Prop} {K : Frag} {e C : Addr} {h : Heap} {g : Array GenState} {d : Drawn} {t : Nat} {os : OsState}
open Builtin Builtin.ObjectAttr Builtin.Getset_descriptor
theorem exc_get {R : Result → Shared → Prop} {tp : Value} (F : ExcK K C) (X : K.In h) (L0 : Looks (model prog w) h (typeOf (.ref e)) (.ref C))
    (hq : R (.ok (.ret (.ref C))) ⟨h, g, d, t, os⟩) : codeAny (model prog w) A (.call (.builtin "getset_descriptor.__get__") ⟨[.builtin "object.__class__", .ref e, tp], []⟩) R ⟨h, g, d, t, os⟩ := by
  have L1 := looks_mroIn (M := model prog w) X F.ob
  refine codeAny_call_builtin KF.slot_gs.plain KF.entry_gs (KF.slot_gs.check _ _ _ _ _ _ _ _ KF.type_class (KF.args_gs _ _ _) ?_)
  unfold Builtin.«getset_descriptor.__get__» descrGet
  rw [dga_obj]
  refine wpAny_bind (wpAny_pure ?_)
  unfold descrGetter descrCheckInstance descrNameAndClass isInstance
  simp only [KF.owner_class]
  repeat lk
  refine ⟨Code.quiet_builtin _ (by decide +kernel), codeAny_builtin KF.entry_class ?_⟩
  unfold Builtin.«object.__class__» shownTypeOf
  repeat lk
  exact hq
theorem exc_find {M : Model} (F : ExcK K C) (X : K.In h) : Looks M h (find (.ref e) (.ref C) "__class__") (.bind (.builtin "getset_descriptor.__get__") (.builtin "object.__class__")) := by
  have L1 := looks_findIn (M := M) X F.cl
  have L2 : Looks M h (getOf (some (.builtin "object.__class__"))) (some (.builtin "getset_descriptor.__get__")) := looks_specialIn X F.gt
  have L3 := looks_takesIn (M := M) X F.tk
  refine L1.andThen (L2.andThen ?_)
  exact (show Looks M h (dataDescriptor? (some (.builtin "object.__class__")) (some (.builtin "getset_descriptor.__get__"))) (some (.builtin "getset_descriptor.__get__", .builtin "object.__class__")) from L3.andThen .now).andThen (Looks.tag .now)
theorem exc_check {M : Model} {nameV : Value} {Q : Unit → Shared → Prop} (F : ExcK K C) (X : K.In h) (L0 : Looks M h (typeOf (.ref e)) (.ref C)) (hq : Q () ⟨h, g, d, t, os⟩) :
    wpAny M A (checkBuiltinCall "BaseException.__getattribute__" ⟨[.ref e, nameV], []⟩) Q E ⟨h, g, d, t, os⟩ := by
  have hk : builtinKind "BaseException.__getattribute__" = some .slot := by decide +kernel
  have hsplit : splitId "BaseException.__getattribute__" = some ("BaseException", "__getattribute__") := by decide +kernel
  have ha := PySem.F.args_bexc_ga (.ref e) nameV
  have L1 := looks_mroIn (M := M) X F.be
  simp only [checkBuiltinCall, hk, hsplit]
  refine wpAny_bind ?_
  unfold isInstance
  repeat (first | with_reducible refine Looks.at (by assumption) ?_ | wp_step)
  exact hq
theorem exc_class {Q : Option Value → Shared → Prop} (F : ExcK K C) (X : K.In h) (L0 : Looks (model prog w) h (typeOf (.ref e)) (.ref C)) (hq : Q (some (.ref C)) ⟨h, g, d, t + 1, os⟩) :
    wpAny (model prog w) A (getAttr? (.ref e) "__class__") Q E ⟨h, g, d, t, os⟩ := by
  have L1 := looks_findIn (M := model prog w) X F.ga
  have L2 := looks_findIn (M := model prog w) X F.gh
  have L3 := exc_find (e := e) (M := model prog w) F X
  have FB := PySem.F.attr_ValueError
  unfold getAttr? getAttrBy? getAttrBy
  refine wpAny_bind (wpAny_mkText (wpAny_bind (wpAny_attempt (wpAny_holding (wpAny_bind (L0.at (wpAny_bind (L1.at ?_))))))))
  show wpAny _ _ (getAttrByItsOwn _ _ _ _ _ _) _ _ _
  unfold getAttrByItsOwn
  refine wpAny_bind ?_
  show wpAny _ _ (typeLookup (.ref C) "__getattr__") _ _ _
  refine L2.at ?_
  refine wpAny_bind (wpAny_attempt (wpAny_holding ?_))
  show wpAny _ _ (boundAndCalled (.builtin "BaseException.__getattribute__") (.ref e) _) _ _ _
  unfold boundAndCalled
  refine wpAny_bind (wpAny_of_eq (FB.ga.bind (.ref e)) ?_)
  refine wpAny_call (codeAny_call_builtin FB.ga.plain PySem.F.entry_bexc_ga (exc_check F X L0 ?_))
  unfold Builtin.«object.__getattribute__»
  refine wpAny_bind (wpAny_pure ?_)
  refine wpAny_bind (wpAny_pure ?_)
  refine wpAny_bind (L0.at (wpAny_bind (L3.at ?_)))
  refine wpAny_bind (wpAny_holding (wpAny_call (exc_get F X L0 ?_)))
  refine wpAny_pure ?_
  exact wpAny_pure (wpAny_pure hq)
theorem exc_kit (F : ExcK K C) : KitX K (.ref e) (.ref C) (fun h => ∃ oe, h.get? e = some oe ∧ oe.cls = .ref C) where
  ty := fun M h _ ⟨oe, h1, h2⟩ => h2 ▸ (Looks.ld h1).andThen .now
  it := fun M h X _ => by
    obtain ⟨cd, hc⟩ := Option.isSome_iff_exists.mp F.is
    unfold clsIn at hc
    split at hc
    · rename_i c' d' cd' sl' ho
      intro A' Q' E' s' k q
      unfold isType loadHead
      exact wpAny_bind (wpAny_loadPart (k _ _ (X _ _ ho)) (wpAny_pure q))
    · cases hc
  ne := fun h tp dd its n sl X htp => by
    obtain ⟨cd, hc⟩ := Option.isSome_iff_exists.mp F.is
    refine Bool.eq_false_iff.mpr fun q => ?_
    have e : C = tp := Value.ref.inj (beq_iff_eq.mp q)
    subst e
    unfold clsIn at hc
    split at hc
    · rename_i c' d' cd' sl' ho
      have z := (X _ _ ho).symm.trans htp
      cases z
    · cases hc
  ca := fun {prog w A E Q s} X ⟨oe, h1, h2⟩ k => by
    obtain ⟨h, g, d, t, os⟩ := s
    exact exc_class F X (h2 ▸ (Looks.ld h1).andThen .now) k
end

section
variable {c : Cx} {k : Nat} {sc : Scope} {ρ : Loc} {st : St} {Q : V → St → Prop} {S : Fl → Loc → St → Prop} {X : Xp}
theorem WL.isExc {e C : Addr} {v : Value} {b : Bool} (hg : get st e = some (.exc C)) (F : ExcK c.K C) (hb : kitOne c.K (.ref C) v = some b) (h : Q (.bool b) st) : WL c k (fun xs => call (.builtin "isinstance") xs) [.ref e, .stat v] ρ st Q X := by
  refine ⟨fun f imm fr s xs ok R rvs => ?_⟩
  obtain ⟨_, _, rfl, rx0, rx1⟩ := rvs.inv2
  obtain rfl := rx0.refI
  obtain rfl := rx1.statI
  obtain ⟨co, hr, ho⟩ := R.get hg
  cases hr with
  | exc h1 h2 => exact kia_one (exc_kit F) (R.kin ok) ⟨co, ho, h1⟩ hb (by intro q; cases q) fun tk => .of (.bool b) R.toks h

/-! count, index -/
theorem RVs.boolsV {base : Heap} {imm : Led} : ∀ {bs : List Bool} {xs : List Value}, RVs base imm (bs.map V.bool) xs → xs = bs.map Value.bool := by
  intro ns
  induction ns with
  | nil => intro xs h; cases h; rfl
  | cons y ys ih => intro xs h; cases h with | cons a r => obtain rfl := a.boolI; rw [ih r]; rfl
theorem eq_bools (A : Around) (s : Shared) (k : Bool) {bs : List Bool} : ∀ y, y ∈ (bs.map Value.bool).toArray → SeqAt.EqAt A s y (.bool k) (isBoolOf k y) := by
  intro y hy
  have : y ∈ bs.map Value.bool := by simpa using hy
  obtain ⟨b, _, rfl⟩ := List.mem_map.mp this
  exact SeqAt.EqAt.bool_bool b k
theorem WL.countB {a : Addr} {bs : List Bool} {b : Bool} {vs : List V} (hv : vs = bs.map V.bool) (hg : get st a = some (.list vs)) (h : Q (.int (bs.count b : Nat)) st) : WL c k (fun xs => call (.builtin "list.count") xs) [.ref a, .bool b] ρ st Q X := by
  subst hv
  refine ⟨fun f imm fr s xs ok R rvs => ?_⟩
  obtain ⟨_, _, rfl, rx0, rx1⟩ := rvs.inv2
  obtain rfl := rx0.refI
  obtain rfl := rx1.boolI
  obtain ⟨vals, n, r, ho⟩ := R.isList hg
  have hvals := RVs.boolsV r
  subst hvals
  refine call_meets PySem.F.slot_list_count ⟨_, ho, rfl⟩ PySem.F.entry_list_count (PySem.F.args_list_count_2 _ _) (SeqAt.list_countAt a _ n none #[] (.bool b) (isBoolOf b)) ⟨ho, eq_bools _ _ b, ?_⟩
  have e : ((bs.map Value.bool).toArray.toList.countP (isBoolOf b) : Nat) = bs.count b := by
    simp only [List.countP_map, List.count]
    congr 1
  rw [e]
  exact .int R h
theorem WL.indexB {a : Addr} {bs : List Bool} {b : Bool} {j : Nat} {vs : List V} (hv : vs = bs.map V.bool) (hg : get st a = some (.list vs)) (hj : bs.findIdx? (· == b) = some j) (hs : bs.length < 1000) (h : Q (.int (j : Nat)) st) : WL c k (fun xs => call (.builtin "list.index") xs) [.ref a, .bool b] ρ st Q X := by
  subst hv
  refine ⟨fun f imm fr s xs ok R rvs => ?_⟩
  obtain ⟨_, _, rfl, rx0, rx1⟩ := rvs.inv2
  obtain rfl := rx0.refI
  obtain rfl := rx1.boolI
  obtain ⟨vals, n, r, ho⟩ := R.isList hg
  have hvals := RVs.boolsV r
  subst hvals
  obtain ⟨hlt, hit, hno⟩ := List.findIdx?_eq_some_iff_getElem.mp hj
  refine call_meets PySem.F.slot_list_index ⟨_, ho, rfl⟩ PySem.F.entry_list_index (PySem.F.args_list_index_2 _ _) (SeqAt.list_indexAt a _ n none #[] (.bool b) (isBoolOf b) j (by simpa using hlt) (by omega) (by simpa [isBoolOf] using hit) ?_) ⟨ho, eq_bools _ _ b, ?_⟩
  · intro m hm hmj
    have := hno m hmj
    simpa [isBoolOf] using this
  · exact .int R h
end
end Mine
namespace Mine
section
variable {c : Cx} {k : Nat} {sc : Scope} {ρ : Loc} {st : St} {Q : V → St → Prop} {S : Fl → Loc → St → Prop} {X : Xp} {f : Fm} {imm fr : Led} {s : Shared} {tk : Nat}

/-! copies -/
theorem WL.listOf {a : Addr} {vs : List V} (hg : get st a = some (.list vs)) (hl : vs.length ≤ 1000000) (h : ∀ d, get st d = none → Q (.ref d) ((d, .list vs) :: st)) : WL c k (fun xs => call (.type "list") xs) [.ref a] ρ st Q X := by
  refine ⟨fun f imm fr s xs ok R rvs => ?_⟩
  obtain ⟨_, rfl, rx0⟩ := rvs.inv1
  obtain rfl := rx0.refI
  obtain ⟨vals, n, r, ho⟩ := R.isList hg
  have hl' : vals.length ≤ 1000000 := by rw [r.length]; exact hl
  obtain ⟨⟨h0, tk0, rfl⟩, m, mt, cs, fo, rr⟩ := id R
  refine list_copyK rr.frm rr.news ⟨_, ho, rfl, _, rfl⟩ (fun D e h' F N hlt => ?_) (by rw [PySem.sizeLine_eq]; simp; omega)
  exact ⟨.ref D, _, imm, fun _ h => h, .ref D, ⟨⟨h', tk0, rfl⟩, m, _, cs, fo, rr.newSt F N hlt (.list r)⟩, h D (Rel.noneAt rr hlt)⟩
theorem WL.tupOf {a : Addr} {vs : List V} (hg : get st a = some (.list vs)) (hl : vs.length ≤ 1000000) (h : Q (.tup vs) st) : WL c k (fun xs => call (.type "tuple") xs) [.ref a] ρ st Q X := by
  refine ⟨fun f imm fr s xs ok R rvs => ?_⟩
  obtain ⟨_, rfl, rx0⟩ := rvs.inv1
  obtain rfl := rx0.refI
  obtain ⟨vals, n, r, ho⟩ := R.isList hg
  have hl' : vals.length ≤ 1000000 := by rw [r.length]; exact hl
  refine call_tuple_list ⟨_, ho, rfl, _, rfl⟩ (fun h' hk => ?_) (by rw [PySem.sizeLine_eq]; simp; omega)
  have R' := R.keeps (h' := h') (tk := s.toks) hk
  have R'' := R'.pushImm (o := tupObj vals 0) (tk := s.toks)
  exact ⟨.tup vs, st, _, fun p hp => .tail _ hp, .tup (.head _) (r.mono fun p hp => .tail _ hp), R'', h⟩
theorem RVs.drop {base : Heap} {imm : Led} : ∀ (n : Nat) {vs : List V} {xs : List Value}, RVs base imm vs xs → RVs base imm (vs.drop n) (xs.drop n)
  | 0, _, _, h => h
  | n + 1, _, _, .nil => .nil
  | n + 1, _, _, .cons _ h => RVs.drop n h
theorem RVs.take {base : Heap} {imm : Led} : ∀ (n : Nat) {vs : List V} {xs : List Value}, RVs base imm vs xs → RVs base imm (vs.take n) (xs.take n)
  | 0, _, _, h => .nil
  | n + 1, _, _, .nil => .nil
  | n + 1, _, _, .cons a h => .cons a (RVs.take n h)

/-! slices -/
def WPO (c : Cx) (k : Nat) (sc : Scope) (ρ : Loc) (st : St) (oe : Option Expr) (P : Option Int → St → Prop) (X : Xp) : Prop := match oe with
  | none => P none st
  | some e => WPE c k sc ρ st e (fun v st₁ => ∃ i, v = .int i ∧ P (some i) st₁) X
theorem WPO.no {P : Option Int → St → Prop} (h : P none st) : WPO c k sc ρ st none P X := h
theorem WPO.so {e : Expr} {P : Option Int → St → Prop} (h : WPE c k sc ρ st e (fun v st₁ => ∃ i, v = .int i ∧ P (some i) st₁) X) : WPO c k sc ρ st (some e) P X := h
theorem wpo {oe : Option Expr} {P : Option Int → St → Prop} (h : WPO c k sc ρ st oe P X) (ok : f.Ok c k) (hsc : f.env.scope = sc) (R : Rel c f ρ st imm fr s) :
    wpAny c.M f.A (evalPart oe f.env) (fun v s' => ∃ i st' imm', (∀ p ∈ imm, p ∈ imm') ∧ IsPart v i ∧ Rel c f ρ st' imm' fr s' ∧ P i st') (Thrown c f imm fr X) s := by
  cases oe with
  | none => exact wpAny_evalPart_none ⟨none, st, imm, fun _ h => h, .none, R, h⟩
  | some e =>
    refine wpAny_evalPart_some (wpAny_mono ((show WPE c k sc ρ st e _ X from h).go f imm fr s ok hsc R) (fun x s₁ p => ?_) fun _ _ t => t)
    obtain ⟨v, st₁, imm₁, i₁, rv, R₁, i, rfl, h₁⟩ := p
    cases rv
    exact ⟨some i, st₁, imm₁, i₁, .int _ _, R₁, h₁⟩
theorem WPE.slice {e : Expr} {lo hi : Option Expr} {p pos : Pos}
    (h : WPE c k sc ρ st e (fun v st₁ => WPO c k sc ρ st₁ lo (fun l st₂ => WPO c k sc ρ st₂ hi (fun u st₃ => ∃ a vs x y, v = .ref a ∧ get st₃ a = some (.list vs) ∧ vs.length ≤ 1000000 ∧ sliceBounds l u none vs.length = (((x : Nat) : Int), ((y : Nat) : Int), 1) ∧
      ∀ d, get st₃ d = none → Q (.ref d) ((d, .list ((vs.drop x).take (y - x))) :: st₃)) X) X) X)
    (ht : ∀ o r, letTemporaryGo e o r = pure () := by intro _ _; rfl) : WPE c k sc ρ st (.Subscript e (.Slice lo hi none p) pos) Q X := by
  refine ⟨fun f imm fr s ok hsc R => ?_⟩
  refine Subscript_ (wpAny_mono (h.go f imm fr s ok hsc R) (fun x s₁ p => ?_) fun _ _ t => t)
  obtain ⟨v, st₁, imm₁, i₁, rv, R₁, h₁⟩ := p
  refine wpAny_Slice (wpAny_mono (wpo h₁ ok hsc R₁) (fun vl s₂ p => ?_) fun _ _ t => t.mono i₁)
  obtain ⟨l, st₂, imm₂, i₂, pl, R₂, h₂⟩ := p
  refine wpAny_mono (wpo h₂ ok hsc R₂) (fun vu s₃ p => ?_) fun _ _ t => t.mono fun q hq => i₂ q (i₁ q hq)
  obtain ⟨u, st₃, imm₃, i₃, pu, R₃, a, vs, y1, y2, rfl, hg, hl, hb, h₃⟩ := p
  refine wpAny_evalPart_none ?_
  cases rv with
  | ref =>
    obtain ⟨vals, n, r, ho⟩ := R₃.isList hg
    have hl' : vals.length ≤ 1000000 := by rw [r.length]; exact hl
    obtain ⟨⟨h0, tk0, rfl⟩, m, mt, cs, fo, rr⟩ := id R₃
    refine kmk_slice rr.frm rr.news ⟨_, ho, rfl, _, rfl⟩ pl pu (fun D h' F N hlt => ?_) (by with_unfolding_all rfl) (ht _) (by rw [PySem.sizeLine_eq]; simp; omega)
    rw [kmk_pick_nat _ (by simpa [r.length] using hb)] at N
    exact ⟨.ref D, _, imm₃, fun q hq => i₃ q (i₂ q (i₁ q hq)), .ref D, ⟨⟨h', tk0, rfl⟩, m, _, cs, fo, rr.newSt F N hlt (.list ((r.drop y1).take (y2 - y1)))⟩, h₃ D (Rel.noneAt rr hlt)⟩
theorem sb_upto {n y : Nat} (h : y ≤ n) : sliceBounds none (some (y : Int)) none n = (((0 : Nat) : Int), (y : Int), 1) := by
  unfold sliceBounds
  simp
  omega
theorem sb_from {n x : Nat} (h : x ≤ n) : sliceBounds (some (x : Int)) none none n = ((x : Int), (n : Int), 1) := by
  unfold sliceBounds
  simp
  omega
theorem WPE.mCount {e : Expr} {ap pos : Pos} {args : List Expr}
    (h : WPE c k sc ρ st e (fun v st₁ => ∃ a vs, v = .ref a ∧ get st₁ a = some (.list vs) ∧ WPEs c k sc ρ st₁ args (fun us st₂ => WL c k (fun xs => PySem.call (.builtin "list.count") xs) (.ref a :: us) ρ st₂ Q X) X) X)
    (hp : args.any isStar = false := by rfl)
    (he : ∀ env, ∃ pl, eval (.Call (.Attribute e "count" ap) args [] pos) env = (do
      let ov ← eval e env
      standAt ap.atName
      let (f, first) ← holding [ov] (getMethod ov "count" pl)
      callWith pos f first (backTo pos (starEach args env)) []) := by intro _; exact ⟨_, rfl⟩) : WPE c k sc ρ st (.Call (.Attribute e "count" ap) args [] pos) Q X := WPE.meth PySem.F.slot_list_count PySem.F.type_list_count h hp he
theorem WPE.mIndex {e : Expr} {ap pos : Pos} {args : List Expr}
    (h : WPE c k sc ρ st e (fun v st₁ => ∃ a vs, v = .ref a ∧ get st₁ a = some (.list vs) ∧ WPEs c k sc ρ st₁ args (fun us st₂ => WL c k (fun xs => PySem.call (.builtin "list.index") xs) (.ref a :: us) ρ st₂ Q X) X) X)
    (hp : args.any isStar = false := by rfl)
    (he : ∀ env, ∃ pl, eval (.Call (.Attribute e "index" ap) args [] pos) env = (do
      let ov ← eval e env
      standAt ap.atName
      let (f, first) ← holding [ov] (getMethod ov "index" pl)
      callWith pos f first (backTo pos (starEach args env)) []) := by intro _; exact ⟨_, rfl⟩) : WPE c k sc ρ st (.Call (.Attribute e "index" ap) args [] pos) Q X := WPE.meth PySem.F.slot_list_index PySem.F.type_list_index h hp he
/-! things that are equal to themselves -/
def flatV : V → Bool
  | .none => true
  | .bool _ => true
  | .int _ => true
  | .str _ => true
  | .ref _ => true
  | _ => false
def selfV : V → Bool
  | .tup us => us.all flatV
  | v => flatV v
theorem flat_eq {base : Heap} {A : Around} {v : V} {x y : Value} (h : flatV v = true) (rx : RV base imm v x) (ry : RV base imm v y) : SeqAt.EqAt A s x y true := by
  cases v with
  | none => obtain rfl := rx.noneI; obtain rfl := ry.noneI; exact SeqAt.EqAt.same _
  | bool b => obtain rfl := rx.boolI; obtain rfl := ry.boolI; exact SeqAt.EqAt.same _
  | int i => obtain ⟨t, rfl⟩ := rx.intI; obtain ⟨u, rfl⟩ := ry.intI; have := SeqAt.EqAt.int_int (A := A) (s := s) i t i u; rwa [beq_self_eq_true] at this
  | str i => obtain ⟨t, rfl⟩ := rx.strI; obtain ⟨u, rfl⟩ := ry.strI; have := SeqAt.EqAt.str_str (A := A) (s := s) i t i u; rwa [beq_self_eq_true] at this
  | ref a => obtain rfl := rx.refI; obtain rfl := ry.refI; exact SeqAt.EqAt.same _
  | tup _ => cases h
  | rng _ _ _ => cases h
  | stat _ => cases h
  | scr _ => cases h
theorem RVs.pair {base : Heap} {vs : List V} {xs ys : List Value} (h : RVs base imm vs xs) (h' : RVs base imm vs ys) : xs.length = ys.length ∧ ∀ j (h1 : j < xs.length) (h2 : j < ys.length), ∃ v ∈ vs, RV base imm v xs[j] ∧ RV base imm v ys[j] := by
  refine ⟨h.length.trans h'.length.symm, fun j h1 h2 => ?_⟩
  obtain ⟨v, hv, r⟩ := h.get' (List.getElem?_eq_getElem h1)
  obtain ⟨y, hy, r'⟩ := h'.get hv
  rw [List.getElem?_eq_getElem h2] at hy
  cases hy
  exact ⟨v, List.mem_of_getElem? hv, r, r'⟩
theorem all_true {n : Nat} : (List.range n).all (fun _ => true) = true := by simp
theorem self_eq {A : Around} {v : V} {x y : Value} (R : Rel c f ρ st imm fr s) (hu : A.units < cLine) (h : selfV v = true) (rx : RV c.base imm v x) (ry : RV c.base imm v y) : SeqAt.EqAt A s x y true := by
  cases v with
  | tup us =>
    obtain ⟨a, vals, n, rfl, hm, r⟩ := rx.tupI
    obtain ⟨b, vals2, n2, rfl, hm2, r2⟩ := ry.tupI
    · by_cases e : a = b
      · subst e; exact SeqAt.EqAt.same _
      · refine SeqAt.EqAt.of_refs e ?_
        obtain ⟨hl, hp⟩ := RVs.pair r r2
        have := SeqAt.RcAt.tuples (A := A) (s := s) (e := fun _ => true) (items := vals.toArray) (items2 := vals2.toArray) ⟨_, R.inImm hm, rfl, _, rfl⟩ ⟨_, R.inImm hm2, rfl, _, rfl⟩ hu (fun j h1 h2 => by
          obtain ⟨v, hv, q1, q2⟩ := hp j (by simpa using h1) (by simpa using h2)
          have := flat_eq (A := A.in1) (s := s) (List.all_eq_true.mp h v hv) q1 q2
          simpa using this)
        rw [all_true, show (vals.toArray.size == vals2.toArray.size) = true from by simpa using hl] at this
        exact this
  | none => exact flat_eq rfl rx ry
  | bool b => exact flat_eq rfl rx ry
  | int i => exact flat_eq rfl rx ry
  | str i => exact flat_eq rfl rx ry
  | ref a => exact flat_eq rfl rx ry
  | rng _ _ _ => cases h
  | stat _ => cases h
  | scr _ => cases h
theorem W2.neSelfL {a b : Addr} {vs : List V} (ha : get st a = some (.list vs)) (hb : get st b = some (.list vs)) (he : ∀ u ∈ vs, selfV u = true) (h : Q (.bool false) st) : W2 c k (compareOp .NotEq) (.ref a) (.ref b) ρ st Q X := by
  refine ⟨fun f imm fr s x y ok R ra rb => ?_⟩
  obtain rfl := ra.refI
  obtain rfl := rb.refI
  obtain ⟨va, na, r1, h1⟩ := R.isList ha
  obtain ⟨vb, nb, r2, h2⟩ := R.isList hb
  obtain ⟨hl, hp⟩ := RVs.pair r1 r2
  have hu := ok.units
  have := SeqAt.RcNeAt.lists (A := f.A) (s := s) (e := fun _ => true) (items := va.toArray) (items2 := vb.toArray) ⟨_, h1, rfl, _, rfl⟩ ⟨_, h2, rfl, _, rfl⟩ (by simpa using hl) (by omega) (fun j l1 l2 => by
    obtain ⟨v, hv, q1, q2⟩ := hp j (by simpa using l1) (by simpa using l2)
    have := self_eq (A := f.A.in1) R (by show f.A.units + 1 < _; omega) (he v hv) q1 q2
    simpa using this)
  rw [all_true] at this
  exact this _ _ _ _ (.of (.bool _) R h)
theorem W2.neSelfT {vs : List V} (he : ∀ u ∈ vs, selfV u = true) (h : Q (.bool false) st) : W2 c k (compareOp .NotEq) (.tup vs) (.tup vs) ρ st Q X := by
  refine ⟨fun f imm fr s x y ok R ra rb => ?_⟩
  obtain ⟨_, _, _, rfl, hm, r1⟩ := ra.tupI
  obtain ⟨_, _, _, rfl, hm2, r2⟩ := rb.tupI
  obtain ⟨hl, hp⟩ := RVs.pair r1 r2
  have hu := ok.units
  have := SeqAt.RcNeAt.tuples (A := f.A) (s := s) (e := fun _ => true) ⟨_, R.inImm hm, rfl, _, rfl⟩ ⟨_, R.inImm hm2, rfl, _, rfl⟩ (by omega) (fun j l1 l2 => by
    obtain ⟨v, hv, q1, q2⟩ := hp j (by simpa using l1) (by simpa using l2)
    have := self_eq (A := f.A.in1) R (by show f.A.units + 1 < _; omega) (he v hv) q1 q2
    simpa using this)
  rw [all_true, show ((_ : List Value).toArray.size == (_ : List Value).toArray.size) = true from by simpa using hl] at this
  exact this _ _ _ _ (.of (.bool _) R h)
theorem W2.neNone (h : Q (.bool false) st) : W2 c k (compareOp .NotEq) .none .none ρ st Q X := by
  refine ⟨fun f imm fr s x y ok R ra rb => ?_⟩
  obtain rfl := ra.noneI
  obtain rfl := rb.noneI
  exact SeqAt.RcNeAt.none_none _ _ _ _ (.of (.bool _) R h)
theorem W2.eqNil {a b : Addr} {vs : List V} (ha : get st a = some (.list vs)) (hb : get st b = some (.list [])) (h : Q (.bool vs.isEmpty) st) : W2 c k (compareOp .Eq) (.ref a) (.ref b) ρ st Q X := by
  refine ⟨fun f imm fr s x y ok R ra rb => ?_⟩
  obtain rfl := ra.refI
  obtain rfl := rb.refI
  obtain ⟨va, na, r1, h1⟩ := R.isList ha
  obtain ⟨vb, nb, r2, h2⟩ := R.isList hb
  cases r2
  have hu := ok.units
  cases r1 with
  | nil => exact SeqAt.eq_listAt (e := fun _ => true) ⟨_, h1, rfl, _, rfl⟩ ⟨_, h2, rfl, _, rfl⟩ rfl (by omega) (fun j l1 _ => absurd l1 (Nat.not_lt_zero _)) (.of (.bool _) R h)
  | cons _ _ => exact SeqAt.eq_list_lengthsAt ⟨_, h1, rfl, _, rfl⟩ ⟨_, h2, rfl, _, rfl⟩ (by simp) (by omega) (.of (.bool _) R h)
end
end Mine
namespace Mine
section
variable {base : Heap} {imm : Led} {fs : List (Str × V)} {es : List DictEntry} {x : Str} {v : V} {val : Value} {t : Tok} {hsh : Int}
end

section
variable {c : Cx} {k : Nat} {sc : Scope} {ρ : Loc} {st : St} {Q : V → St → Prop} {S : Fl → Loc → St → Prop} {X : Xp} {f : Fm} {imm fr : Led} {s : Shared} {tk : Nat}

end
end Mine
namespace Mine
/-! dicts with ints as keys -/
section
variable {base : Heap} {imm : Led} {l : List (Int × V)} {r : List (Int × Value)} {k : Int} {v : V} {x : Value}
end

section
variable {c : Cx} {k : Nat} {sc : Scope} {ρ : Loc} {st : St} {Q : V → St → Prop} {S : Fl → Loc → St → Prop} {X : Xp} {f : Fm} {imm fr : Led} {s : Shared} {tk : Nat}

end
end Mine
namespace Mine
section
variable {c : Cx} {k : Nat} {sc : Scope} {ρ : Loc} {st : St} {Q : V → St → Prop} {S : Fl → Loc → St → Prop} {X : Xp} {f : Fm} {imm fr : Led} {s : Shared} {tk : Nat}

end
end Mine
namespace Mine
set_option genInjectivity false
set_option genSizeOfSpec false
def nthS : List Stmt → Nat → Option Stmt
  | [], _ => none
  | x :: _, 0 => some x
  | _ :: l, n + 1 => nthS l n
def bodyI : Option Stmt → List Stmt
  | some (.FunctionDef _ _ b _ _ _ _ _ _ _) => b
  | _ => []
def scI : Option Stmt → Scope
  | some (.FunctionDef _ _ _ _ _ _ s _ _ _) => s
  | _ => { kind := .module, names := [], isGenerator := false, isCoroutine := false, more := [] }
def stI (i : Nat) : Option Stmt := nthS PySem.Challenge.pw_uf040029_02.main.body i
abbrev A_between : Addr := 130
def S_between : Scope := scI (stI 13)
def B_between : List Stmt := bodyI (stI 13)
abbrev A_is_state : Addr := 137
def S_is_state : Scope := scI (stI 14)
def B_is_state : List Stmt := bodyI (stI 14)
abbrev A_is_rule : Addr := 144
def S_is_rule : Scope := scI (stI 15)
def B_is_rule : List Stmt := bodyI (stI 15)
abbrev A_forth : Addr := 151
def S_forth : Scope := scI (stI 16)
def B_forth : List Stmt := bodyI (stI 16)
abbrev A_need_row : Addr := 158
def S_need_row : Scope := scI (stI 17)
def B_need_row : List Stmt := bodyI (stI 17)
abbrev A_states : Addr := 165
def S_states : Scope := scI (stI 18)
def B_states : List Stmt := bodyI (stI 18)
abbrev A_law_cell_at : Addr := 172
def S_law_cell_at : Scope := scI (stI 20)
def B_law_cell_at : List Stmt := bodyI (stI 20)
abbrev A_law_number : Addr := 179
def S_law_number : Scope := scI (stI 21)
def B_law_number : List Stmt := bodyI (stI 21)
abbrev A_law_whole : Addr := 186
def S_law_whole : Scope := scI (stI 22)
def B_law_whole : List Stmt := bodyI (stI 22)
abbrev A_law_rule : Addr := 193
def S_law_rule : Scope := scI (stI 23)
def B_law_rule : List Stmt := bodyI (stI 23)
abbrev A_law_forth : Addr := 200
def S_law_forth : Scope := scI (stI 24)
def B_law_forth : List Stmt := bodyI (stI 24)
abbrev A_law_row : Addr := 205
def S_law_row : Scope := scI (stI 25)
def B_law_row : List Stmt := bodyI (stI 25)
abbrev A_law_states : Addr := 212
def S_law_states : Scope := scI (stI 26)
def B_law_states : List Stmt := bodyI (stI 26)
abbrev A_law_class : Addr := 219
def S_law_class : Scope := scI (stI 27)
def B_law_class : List Stmt := bodyI (stI 27)
abbrev A_law_told : Addr := 226
def S_law_told : Scope := scI (stI 28)
def B_law_told : List Stmt := bodyI (stI 28)
abbrev A_law_spoilt : Addr := 233
def S_law_spoilt : Scope := scI (stI 29)
def B_law_spoilt : List Stmt := bodyI (stI 29)
def S_law : Scope := scI (stI 30)
def B_law : List Stmt := bodyI (stI 30)
abbrev A_MarkError : Addr := 24
abbrev A_BadCount : Addr := 37
abbrev A_BadRule : Addr := 49
abbrev A_BadDeed : Addr := 61
abbrev A_Full : Addr := 73
abbrev A_Twice : Addr := 85
abbrev A_NotKept : Addr := 97
abbrev A_AtEnd : Addr := 109
abbrev A_NotWanted : Addr := 121
/-- what the walk asks of the text's globals -/
structure Facts (K : Frag) : Prop where
  fn_between : FnAt K 130 ["thing", "low", "high"] S_between B_between
  g_between : nsIn K mainGlobals "between" = some (some (.ref 130))
  k_between : keepIn K (.ref 130) = true
  fn_is_state : FnAt K 137 ["thing"] S_is_state B_is_state
  g_is_state : nsIn K mainGlobals "is_state" = some (some (.ref 137))
  k_is_state : keepIn K (.ref 137) = true
  fn_is_rule : FnAt K 144 ["thing"] S_is_rule B_is_rule
  g_is_rule : nsIn K mainGlobals "is_rule" = some (some (.ref 144))
  k_is_rule : keepIn K (.ref 144) = true
  fn_forth : FnAt K 151 ["rule", "state"] S_forth B_forth
  g_forth : nsIn K mainGlobals "forth" = some (some (.ref 151))
  k_forth : keepIn K (.ref 151) = true
  fn_need_row : FnAt K 158 ["first", "rules"] S_need_row B_need_row
  g_need_row : nsIn K mainGlobals "need_row" = some (some (.ref 158))
  k_need_row : keepIn K (.ref 158) = true
  fn_states : FnAt K 165 ["first", "rules"] S_states B_states
  g_states : nsIn K mainGlobals "states" = some (some (.ref 165))
  k_states : keepIn K (.ref 165) = true
  fn_law_cell_at : FnAt K 172 ["_law_script", "_law_k"] S_law_cell_at B_law_cell_at
  g_law_cell_at : nsIn K mainGlobals "_law_cell_at" = some (some (.ref 172))
  k_law_cell_at : keepIn K (.ref 172) = true
  fn_law_number : FnAt K 179 ["_law_script", "_law_k"] S_law_number B_law_number
  g_law_number : nsIn K mainGlobals "_law_number" = some (some (.ref 179))
  k_law_number : keepIn K (.ref 179) = true
  fn_law_whole : FnAt K 186 ["_law_found"] S_law_whole B_law_whole
  g_law_whole : nsIn K mainGlobals "_law_whole" = some (some (.ref 186))
  k_law_whole : keepIn K (.ref 186) = true
  fn_law_rule : FnAt K 193 ["_law_number_here"] S_law_rule B_law_rule
  g_law_rule : nsIn K mainGlobals "_law_rule" = some (some (.ref 193))
  k_law_rule : keepIn K (.ref 193) = true
  fn_law_forth : FnAt K 200 ["_law_rule_here", "_law_state"] S_law_forth B_law_forth
  g_law_forth : nsIn K mainGlobals "_law_forth" = some (some (.ref 200))
  k_law_forth : keepIn K (.ref 200) = true
  fn_law_row : FnAt K 205 ["_law_script", "_law_start", "_law_most"] S_law_row B_law_row
  g_law_row : nsIn K mainGlobals "_law_row" = some (some (.ref 205))
  k_law_row : keepIn K (.ref 205) = true
  fn_law_states : FnAt K 212 ["_law_first", "_law_rules"] S_law_states B_law_states
  g_law_states : nsIn K mainGlobals "_law_states" = some (some (.ref 212))
  k_law_states : keepIn K (.ref 212) = true
  fn_law_class : FnAt K 219 ["_law_e"] S_law_class B_law_class
  g_law_class : nsIn K mainGlobals "_law_class" = some (some (.ref 219))
  k_law_class : keepIn K (.ref 219) = true
  fn_law_told : FnAt K 226 ["_law_first", "_law_rules"] S_law_told B_law_told
  g_law_told : nsIn K mainGlobals "_law_told" = some (some (.ref 226))
  k_law_told : keepIn K (.ref 226) = true
  fn_law_spoilt : FnAt K 233 ["_law_script", "_law_first", "_law_rules"] S_law_spoilt B_law_spoilt
  g_law_spoilt : nsIn K mainGlobals "_law_spoilt" = some (some (.ref 233))
  k_law_spoilt : keepIn K (.ref 233) = true
  fn_law : FnAt K 238 ["_law_script"] S_law B_law
  g_law : nsIn K mainGlobals "law" = some (some (.ref 238))
  k_law : keepIn K (.ref 238) = true
  g_MarkError : nsIn K mainGlobals "MarkError" = some (some (.ref A_MarkError))
  k_MarkError : keepIn K (.ref A_MarkError) = true
  g_BadCount : nsIn K mainGlobals "BadCount" = some (some (.ref A_BadCount))
  k_BadCount : keepIn K (.ref A_BadCount) = true
  g_BadRule : nsIn K mainGlobals "BadRule" = some (some (.ref A_BadRule))
  k_BadRule : keepIn K (.ref A_BadRule) = true
  g_BadDeed : nsIn K mainGlobals "BadDeed" = some (some (.ref A_BadDeed))
  k_BadDeed : keepIn K (.ref A_BadDeed) = true
  g_Full : nsIn K mainGlobals "Full" = some (some (.ref A_Full))
  k_Full : keepIn K (.ref A_Full) = true
  g_Twice : nsIn K mainGlobals "Twice" = some (some (.ref A_Twice))
  k_Twice : keepIn K (.ref A_Twice) = true
  g_NotKept : nsIn K mainGlobals "NotKept" = some (some (.ref A_NotKept))
  k_NotKept : keepIn K (.ref A_NotKept) = true
  g_AtEnd : nsIn K mainGlobals "AtEnd" = some (some (.ref A_AtEnd))
  k_AtEnd : keepIn K (.ref A_AtEnd) = true
  g_NotWanted : nsIn K mainGlobals "NotWanted" = some (some (.ref A_NotWanted))
  k_NotWanted : keepIn K (.ref A_NotWanted) = true
  ex_BadCount : excIn K A_BadCount vbm "ValueError.__new__" = true
  ek_BadCount : ExcK K A_BadCount
  em_BadCount : exmOne K (.ref A_BadCount) (.ref A_MarkError) = some true
  kit_BadCount : kitOne K (.ref A_BadCount) (.ref A_BadCount) = some true ∧ kitOne K (.ref A_BadCount) (.ref A_BadRule) = some false ∧ kitOne K (.ref A_BadCount) (.ref A_BadDeed) = some false ∧ kitOne K (.ref A_BadCount) (.ref A_Full) = some false ∧ kitOne K (.ref A_BadCount) (.ref A_Twice) = some false ∧ kitOne K (.ref A_BadCount) (.ref A_NotKept) = some false ∧ kitOne K (.ref A_BadCount) (.ref A_AtEnd) = some false ∧ kitOne K (.ref A_BadCount) (.ref A_NotWanted) = some false ∧ kitOne K (.ref A_BadCount) (.type "ValueError") = some true
  ex_BadRule : excIn K A_BadRule vbm "ValueError.__new__" = true
  ek_BadRule : ExcK K A_BadRule
  em_BadRule : exmOne K (.ref A_BadRule) (.ref A_MarkError) = some true
  kit_BadRule : kitOne K (.ref A_BadRule) (.ref A_BadCount) = some false ∧ kitOne K (.ref A_BadRule) (.ref A_BadRule) = some true ∧ kitOne K (.ref A_BadRule) (.ref A_BadDeed) = some false ∧ kitOne K (.ref A_BadRule) (.ref A_Full) = some false ∧ kitOne K (.ref A_BadRule) (.ref A_Twice) = some false ∧ kitOne K (.ref A_BadRule) (.ref A_NotKept) = some false ∧ kitOne K (.ref A_BadRule) (.ref A_AtEnd) = some false ∧ kitOne K (.ref A_BadRule) (.ref A_NotWanted) = some false ∧ kitOne K (.ref A_BadRule) (.type "ValueError") = some true
  ex_BadDeed : excIn K A_BadDeed vbm "ValueError.__new__" = true
  ek_BadDeed : ExcK K A_BadDeed
  em_BadDeed : exmOne K (.ref A_BadDeed) (.ref A_MarkError) = some true
  kit_BadDeed : kitOne K (.ref A_BadDeed) (.ref A_BadCount) = some false ∧ kitOne K (.ref A_BadDeed) (.ref A_BadRule) = some false ∧ kitOne K (.ref A_BadDeed) (.ref A_BadDeed) = some true ∧ kitOne K (.ref A_BadDeed) (.ref A_Full) = some false ∧ kitOne K (.ref A_BadDeed) (.ref A_Twice) = some false ∧ kitOne K (.ref A_BadDeed) (.ref A_NotKept) = some false ∧ kitOne K (.ref A_BadDeed) (.ref A_AtEnd) = some false ∧ kitOne K (.ref A_BadDeed) (.ref A_NotWanted) = some false ∧ kitOne K (.ref A_BadDeed) (.type "ValueError") = some true
  ex_Full : excIn K A_Full vbm "ValueError.__new__" = true
  ek_Full : ExcK K A_Full
  em_Full : exmOne K (.ref A_Full) (.ref A_MarkError) = some true
  kit_Full : kitOne K (.ref A_Full) (.ref A_BadCount) = some false ∧ kitOne K (.ref A_Full) (.ref A_BadRule) = some false ∧ kitOne K (.ref A_Full) (.ref A_BadDeed) = some false ∧ kitOne K (.ref A_Full) (.ref A_Full) = some true ∧ kitOne K (.ref A_Full) (.ref A_Twice) = some false ∧ kitOne K (.ref A_Full) (.ref A_NotKept) = some false ∧ kitOne K (.ref A_Full) (.ref A_AtEnd) = some false ∧ kitOne K (.ref A_Full) (.ref A_NotWanted) = some false ∧ kitOne K (.ref A_Full) (.type "ValueError") = some true
  ex_Twice : excIn K A_Twice vbm "ValueError.__new__" = true
  ek_Twice : ExcK K A_Twice
  em_Twice : exmOne K (.ref A_Twice) (.ref A_MarkError) = some true
  kit_Twice : kitOne K (.ref A_Twice) (.ref A_BadCount) = some false ∧ kitOne K (.ref A_Twice) (.ref A_BadRule) = some false ∧ kitOne K (.ref A_Twice) (.ref A_BadDeed) = some false ∧ kitOne K (.ref A_Twice) (.ref A_Full) = some false ∧ kitOne K (.ref A_Twice) (.ref A_Twice) = some true ∧ kitOne K (.ref A_Twice) (.ref A_NotKept) = some false ∧ kitOne K (.ref A_Twice) (.ref A_AtEnd) = some false ∧ kitOne K (.ref A_Twice) (.ref A_NotWanted) = some false ∧ kitOne K (.ref A_Twice) (.type "ValueError") = some true
  ex_NotKept : excIn K A_NotKept vbm "ValueError.__new__" = true
  ek_NotKept : ExcK K A_NotKept
  em_NotKept : exmOne K (.ref A_NotKept) (.ref A_MarkError) = some true
  kit_NotKept : kitOne K (.ref A_NotKept) (.ref A_BadCount) = some false ∧ kitOne K (.ref A_NotKept) (.ref A_BadRule) = some false ∧ kitOne K (.ref A_NotKept) (.ref A_BadDeed) = some false ∧ kitOne K (.ref A_NotKept) (.ref A_Full) = some false ∧ kitOne K (.ref A_NotKept) (.ref A_Twice) = some false ∧ kitOne K (.ref A_NotKept) (.ref A_NotKept) = some true ∧ kitOne K (.ref A_NotKept) (.ref A_AtEnd) = some false ∧ kitOne K (.ref A_NotKept) (.ref A_NotWanted) = some false ∧ kitOne K (.ref A_NotKept) (.type "ValueError") = some true
  ex_AtEnd : excIn K A_AtEnd vbm "ValueError.__new__" = true
  ek_AtEnd : ExcK K A_AtEnd
  em_AtEnd : exmOne K (.ref A_AtEnd) (.ref A_MarkError) = some true
  kit_AtEnd : kitOne K (.ref A_AtEnd) (.ref A_BadCount) = some false ∧ kitOne K (.ref A_AtEnd) (.ref A_BadRule) = some false ∧ kitOne K (.ref A_AtEnd) (.ref A_BadDeed) = some false ∧ kitOne K (.ref A_AtEnd) (.ref A_Full) = some false ∧ kitOne K (.ref A_AtEnd) (.ref A_Twice) = some false ∧ kitOne K (.ref A_AtEnd) (.ref A_NotKept) = some false ∧ kitOne K (.ref A_AtEnd) (.ref A_AtEnd) = some true ∧ kitOne K (.ref A_AtEnd) (.ref A_NotWanted) = some false ∧ kitOne K (.ref A_AtEnd) (.type "ValueError") = some true
  ex_NotWanted : excIn K A_NotWanted vbm "ValueError.__new__" = true
  ek_NotWanted : ExcK K A_NotWanted
  em_NotWanted : exmOne K (.ref A_NotWanted) (.ref A_MarkError) = some true
  kit_NotWanted : kitOne K (.ref A_NotWanted) (.ref A_BadCount) = some false ∧ kitOne K (.ref A_NotWanted) (.ref A_BadRule) = some false ∧ kitOne K (.ref A_NotWanted) (.ref A_BadDeed) = some false ∧ kitOne K (.ref A_NotWanted) (.ref A_Full) = some false ∧ kitOne K (.ref A_NotWanted) (.ref A_Twice) = some false ∧ kitOne K (.ref A_NotWanted) (.ref A_NotKept) = some false ∧ kitOne K (.ref A_NotWanted) (.ref A_AtEnd) = some false ∧ kitOne K (.ref A_NotWanted) (.ref A_NotWanted) = some true ∧ kitOne K (.ref A_NotWanted) (.type "ValueError") = some true
  g_ROUND : ∃ t, nsIn K mainGlobals "ROUND" = some (some (.int 999983 t))
  g_MOST_RULES : ∃ t, nsIn K mainGlobals "MOST_RULES" = some (some (.int 100 t))
  g_isinstance : nsIn K mainGlobals "isinstance" = some none
  g_len : nsIn K mainGlobals "len" = some none
  g_all : nsIn K mainGlobals "all" = some none
  g_list : nsIn K mainGlobals "list" = some none
  g_int : nsIn K mainGlobals "int" = some none
  g_str : nsIn K mainGlobals "str" = some none
  g_tuple : nsIn K mainGlobals "tuple" = some none
  g_range : nsIn K mainGlobals "range" = some none
  g_bool : nsIn K mainGlobals "bool" = some none
  g_ValueError : nsIn K mainGlobals "ValueError" = some none
def Kc (c : Cx) : Prop := Facts c.K
theorem useK {K : Frag} {h : Heap} (X : K.In h) {P : Prop} (f : Facts K) (g : Facts K → P) : P := g f
section
variable {c : Cx} {k : Nat} {sc : Scope} {ρ : Loc} {st : St} {Q : V → St → Prop} {X : Xp} {p pos : Pos} {args : List Expr}
theorem c_between (hK : Kc c) (hx : sc.names.lookup ("between" : Str) = some .globalImplicit) (h : WPEs c k sc ρ st args (fun vs st₂ => WL c k (fun xs => PySem.call (.ref 130) xs) vs ρ st₂ Q X) X) (hp : args.any isStar = false := by rfl) : WPE c k sc ρ st (.Call (.Name "between" p) args [] pos) Q X :=
  WPE.callF hx (Facts.g_between hK) (Facts.k_between hK) h hp
theorem c_is_state (hK : Kc c) (hx : sc.names.lookup ("is_state" : Str) = some .globalImplicit) (h : WPEs c k sc ρ st args (fun vs st₂ => WL c k (fun xs => PySem.call (.ref 137) xs) vs ρ st₂ Q X) X) (hp : args.any isStar = false := by rfl) : WPE c k sc ρ st (.Call (.Name "is_state" p) args [] pos) Q X :=
  WPE.callF hx (Facts.g_is_state hK) (Facts.k_is_state hK) h hp
theorem c_is_rule (hK : Kc c) (hx : sc.names.lookup ("is_rule" : Str) = some .globalImplicit) (h : WPEs c k sc ρ st args (fun vs st₂ => WL c k (fun xs => PySem.call (.ref 144) xs) vs ρ st₂ Q X) X) (hp : args.any isStar = false := by rfl) : WPE c k sc ρ st (.Call (.Name "is_rule" p) args [] pos) Q X :=
  WPE.callF hx (Facts.g_is_rule hK) (Facts.k_is_rule hK) h hp
theorem c_forth (hK : Kc c) (hx : sc.names.lookup ("forth" : Str) = some .globalImplicit) (h : WPEs c k sc ρ st args (fun vs st₂ => WL c k (fun xs => PySem.call (.ref 151) xs) vs ρ st₂ Q X) X) (hp : args.any isStar = false := by rfl) : WPE c k sc ρ st (.Call (.Name "forth" p) args [] pos) Q X :=
  WPE.callF hx (Facts.g_forth hK) (Facts.k_forth hK) h hp
theorem c_need_row (hK : Kc c) (hx : sc.names.lookup ("need_row" : Str) = some .globalImplicit) (h : WPEs c k sc ρ st args (fun vs st₂ => WL c k (fun xs => PySem.call (.ref 158) xs) vs ρ st₂ Q X) X) (hp : args.any isStar = false := by rfl) : WPE c k sc ρ st (.Call (.Name "need_row" p) args [] pos) Q X :=
  WPE.callF hx (Facts.g_need_row hK) (Facts.k_need_row hK) h hp
theorem c_states (hK : Kc c) (hx : sc.names.lookup ("states" : Str) = some .globalImplicit) (h : WPEs c k sc ρ st args (fun vs st₂ => WL c k (fun xs => PySem.call (.ref 165) xs) vs ρ st₂ Q X) X) (hp : args.any isStar = false := by rfl) : WPE c k sc ρ st (.Call (.Name "states" p) args [] pos) Q X :=
  WPE.callF hx (Facts.g_states hK) (Facts.k_states hK) h hp
theorem c_law_cell_at (hK : Kc c) (hx : sc.names.lookup ("_law_cell_at" : Str) = some .globalImplicit) (h : WPEs c k sc ρ st args (fun vs st₂ => WL c k (fun xs => PySem.call (.ref 172) xs) vs ρ st₂ Q X) X) (hp : args.any isStar = false := by rfl) : WPE c k sc ρ st (.Call (.Name "_law_cell_at" p) args [] pos) Q X :=
  WPE.callF hx (Facts.g_law_cell_at hK) (Facts.k_law_cell_at hK) h hp
theorem c_law_number (hK : Kc c) (hx : sc.names.lookup ("_law_number" : Str) = some .globalImplicit) (h : WPEs c k sc ρ st args (fun vs st₂ => WL c k (fun xs => PySem.call (.ref 179) xs) vs ρ st₂ Q X) X) (hp : args.any isStar = false := by rfl) : WPE c k sc ρ st (.Call (.Name "_law_number" p) args [] pos) Q X :=
  WPE.callF hx (Facts.g_law_number hK) (Facts.k_law_number hK) h hp
theorem c_law_whole (hK : Kc c) (hx : sc.names.lookup ("_law_whole" : Str) = some .globalImplicit) (h : WPEs c k sc ρ st args (fun vs st₂ => WL c k (fun xs => PySem.call (.ref 186) xs) vs ρ st₂ Q X) X) (hp : args.any isStar = false := by rfl) : WPE c k sc ρ st (.Call (.Name "_law_whole" p) args [] pos) Q X :=
  WPE.callF hx (Facts.g_law_whole hK) (Facts.k_law_whole hK) h hp
theorem c_law_rule (hK : Kc c) (hx : sc.names.lookup ("_law_rule" : Str) = some .globalImplicit) (h : WPEs c k sc ρ st args (fun vs st₂ => WL c k (fun xs => PySem.call (.ref 193) xs) vs ρ st₂ Q X) X) (hp : args.any isStar = false := by rfl) : WPE c k sc ρ st (.Call (.Name "_law_rule" p) args [] pos) Q X :=
  WPE.callF hx (Facts.g_law_rule hK) (Facts.k_law_rule hK) h hp
theorem c_law_forth (hK : Kc c) (hx : sc.names.lookup ("_law_forth" : Str) = some .globalImplicit) (h : WPEs c k sc ρ st args (fun vs st₂ => WL c k (fun xs => PySem.call (.ref 200) xs) vs ρ st₂ Q X) X) (hp : args.any isStar = false := by rfl) : WPE c k sc ρ st (.Call (.Name "_law_forth" p) args [] pos) Q X :=
  WPE.callF hx (Facts.g_law_forth hK) (Facts.k_law_forth hK) h hp
theorem c_law_row (hK : Kc c) (hx : sc.names.lookup ("_law_row" : Str) = some .globalImplicit) (h : WPEs c k sc ρ st args (fun vs st₂ => WL c k (fun xs => PySem.call (.ref 205) xs) vs ρ st₂ Q X) X) (hp : args.any isStar = false := by rfl) : WPE c k sc ρ st (.Call (.Name "_law_row" p) args [] pos) Q X :=
  WPE.callF hx (Facts.g_law_row hK) (Facts.k_law_row hK) h hp
theorem c_law_states (hK : Kc c) (hx : sc.names.lookup ("_law_states" : Str) = some .globalImplicit) (h : WPEs c k sc ρ st args (fun vs st₂ => WL c k (fun xs => PySem.call (.ref 212) xs) vs ρ st₂ Q X) X) (hp : args.any isStar = false := by rfl) : WPE c k sc ρ st (.Call (.Name "_law_states" p) args [] pos) Q X :=
  WPE.callF hx (Facts.g_law_states hK) (Facts.k_law_states hK) h hp
theorem c_law_class (hK : Kc c) (hx : sc.names.lookup ("_law_class" : Str) = some .globalImplicit) (h : WPEs c k sc ρ st args (fun vs st₂ => WL c k (fun xs => PySem.call (.ref 219) xs) vs ρ st₂ Q X) X) (hp : args.any isStar = false := by rfl) : WPE c k sc ρ st (.Call (.Name "_law_class" p) args [] pos) Q X :=
  WPE.callF hx (Facts.g_law_class hK) (Facts.k_law_class hK) h hp
theorem c_law_told (hK : Kc c) (hx : sc.names.lookup ("_law_told" : Str) = some .globalImplicit) (h : WPEs c k sc ρ st args (fun vs st₂ => WL c k (fun xs => PySem.call (.ref 226) xs) vs ρ st₂ Q X) X) (hp : args.any isStar = false := by rfl) : WPE c k sc ρ st (.Call (.Name "_law_told" p) args [] pos) Q X :=
  WPE.callF hx (Facts.g_law_told hK) (Facts.k_law_told hK) h hp
theorem c_law_spoilt (hK : Kc c) (hx : sc.names.lookup ("_law_spoilt" : Str) = some .globalImplicit) (h : WPEs c k sc ρ st args (fun vs st₂ => WL c k (fun xs => PySem.call (.ref 233) xs) vs ρ st₂ Q X) X) (hp : args.any isStar = false := by rfl) : WPE c k sc ρ st (.Call (.Name "_law_spoilt" p) args [] pos) Q X :=
  WPE.callF hx (Facts.g_law_spoilt hK) (Facts.k_law_spoilt hK) h hp
theorem n_BadCount (hK : Kc c) (hx : sc.names.lookup ("BadCount" : Str) = some .globalImplicit) (h : Q (.stat (.ref 37)) st) : WPE c k sc ρ st (.Name "BadCount" p) Q X := WPE.globR hx (Facts.g_BadCount hK) h
theorem n_BadRule (hK : Kc c) (hx : sc.names.lookup ("BadRule" : Str) = some .globalImplicit) (h : Q (.stat (.ref 49)) st) : WPE c k sc ρ st (.Name "BadRule" p) Q X := WPE.globR hx (Facts.g_BadRule hK) h
theorem n_BadDeed (hK : Kc c) (hx : sc.names.lookup ("BadDeed" : Str) = some .globalImplicit) (h : Q (.stat (.ref 61)) st) : WPE c k sc ρ st (.Name "BadDeed" p) Q X := WPE.globR hx (Facts.g_BadDeed hK) h
theorem n_Full (hK : Kc c) (hx : sc.names.lookup ("Full" : Str) = some .globalImplicit) (h : Q (.stat (.ref 73)) st) : WPE c k sc ρ st (.Name "Full" p) Q X := WPE.globR hx (Facts.g_Full hK) h
theorem n_Twice (hK : Kc c) (hx : sc.names.lookup ("Twice" : Str) = some .globalImplicit) (h : Q (.stat (.ref 85)) st) : WPE c k sc ρ st (.Name "Twice" p) Q X := WPE.globR hx (Facts.g_Twice hK) h
theorem n_NotKept (hK : Kc c) (hx : sc.names.lookup ("NotKept" : Str) = some .globalImplicit) (h : Q (.stat (.ref 97)) st) : WPE c k sc ρ st (.Name "NotKept" p) Q X := WPE.globR hx (Facts.g_NotKept hK) h
theorem n_AtEnd (hK : Kc c) (hx : sc.names.lookup ("AtEnd" : Str) = some .globalImplicit) (h : Q (.stat (.ref 109)) st) : WPE c k sc ρ st (.Name "AtEnd" p) Q X := WPE.globR hx (Facts.g_AtEnd hK) h
theorem n_NotWanted (hK : Kc c) (hx : sc.names.lookup ("NotWanted" : Str) = some .globalImplicit) (h : Q (.stat (.ref 121)) st) : WPE c k sc ρ st (.Name "NotWanted" p) Q X := WPE.globR hx (Facts.g_NotWanted hK) h
theorem n_ROUND (hK : Kc c) (hx : sc.names.lookup ("ROUND" : Str) = some .globalImplicit) (h : Q (.int 999983) st) : WPE c k sc ρ st (.Name "ROUND" p) Q X := let ⟨_, e⟩ := Facts.g_ROUND hK; WPE.globI hx e h
theorem n_MOST_RULES (hK : Kc c) (hx : sc.names.lookup ("MOST_RULES" : Str) = some .globalImplicit) (h : Q (.int 100) st) : WPE c k sc ρ st (.Name "MOST_RULES" p) Q X := let ⟨_, e⟩ := Facts.g_MOST_RULES hK; WPE.globI hx e h
theorem c_isinstance (hK : Kc c) (hx : sc.names.lookup ("isinstance" : Str) = some .globalImplicit) (h : WPEs c k sc ρ st args (fun vs st₂ => WL c k (fun xs => PySem.call (.builtin "isinstance") xs) vs ρ st₂ Q X) X) (hp : args.any isStar = false := by rfl) : WPE c k sc ρ st (.Call (.Name "isinstance" p) args [] pos) Q X :=
  WPE.callB hx (Facts.g_isinstance hK) (by boot_by_name) h hp
theorem c_len (hK : Kc c) (hx : sc.names.lookup ("len" : Str) = some .globalImplicit) (h : WPEs c k sc ρ st args (fun vs st₂ => WL c k (fun xs => PySem.call (.builtin "len") xs) vs ρ st₂ Q X) X) (hp : args.any isStar = false := by rfl) : WPE c k sc ρ st (.Call (.Name "len" p) args [] pos) Q X :=
  WPE.callB hx (Facts.g_len hK) (by boot_by_name) h hp
theorem c_all (hK : Kc c) (hx : sc.names.lookup ("all" : Str) = some .globalImplicit) (h : WPEs c k sc ρ st args (fun vs st₂ => WL c k (fun xs => PySem.call (.builtin "all") xs) vs ρ st₂ Q X) X) (hp : args.any isStar = false := by rfl) : WPE c k sc ρ st (.Call (.Name "all" p) args [] pos) Q X :=
  WPE.callB hx (Facts.g_all hK) (by boot_by_name) h hp
theorem c_list (hK : Kc c) (hx : sc.names.lookup ("list" : Str) = some .globalImplicit) (h : WPEs c k sc ρ st args (fun vs st₂ => WL c k (fun xs => PySem.call (.type "list") xs) vs ρ st₂ Q X) X) (hp : args.any isStar = false := by rfl) : WPE c k sc ρ st (.Call (.Name "list" p) args [] pos) Q X :=
  WPE.callT hx (Facts.g_list hK) (by boot_by_name) h hp
theorem n_list (hK : Kc c) (hx : sc.names.lookup ("list" : Str) = some .globalImplicit) (h : Q (.stat (.type "list")) st) : WPE c k sc ρ st (.Name "list" p) Q X := WPE.bltT hx (Facts.g_list hK) (by boot_by_name) h
theorem n_int (hK : Kc c) (hx : sc.names.lookup ("int" : Str) = some .globalImplicit) (h : Q (.stat (.type "int")) st) : WPE c k sc ρ st (.Name "int" p) Q X := WPE.bltT hx (Facts.g_int hK) (by boot_by_name) h
theorem n_str (hK : Kc c) (hx : sc.names.lookup ("str" : Str) = some .globalImplicit) (h : Q (.stat (.type "str")) st) : WPE c k sc ρ st (.Name "str" p) Q X := WPE.bltT hx (Facts.g_str hK) (by boot_by_name) h
theorem c_tuple (hK : Kc c) (hx : sc.names.lookup ("tuple" : Str) = some .globalImplicit) (h : WPEs c k sc ρ st args (fun vs st₂ => WL c k (fun xs => PySem.call (.type "tuple") xs) vs ρ st₂ Q X) X) (hp : args.any isStar = false := by rfl) : WPE c k sc ρ st (.Call (.Name "tuple" p) args [] pos) Q X :=
  WPE.callT hx (Facts.g_tuple hK) (by boot_by_name) h hp
theorem n_tuple (hK : Kc c) (hx : sc.names.lookup ("tuple" : Str) = some .globalImplicit) (h : Q (.stat (.type "tuple")) st) : WPE c k sc ρ st (.Name "tuple" p) Q X := WPE.bltT hx (Facts.g_tuple hK) (by boot_by_name) h
theorem c_range (hK : Kc c) (hx : sc.names.lookup ("range" : Str) = some .globalImplicit) (h : WPEs c k sc ρ st args (fun vs st₂ => WL c k (fun xs => PySem.call (.type "range") xs) vs ρ st₂ Q X) X) (hp : args.any isStar = false := by rfl) : WPE c k sc ρ st (.Call (.Name "range" p) args [] pos) Q X :=
  WPE.callT hx (Facts.g_range hK) (by boot_by_name) h hp
theorem n_bool (hK : Kc c) (hx : sc.names.lookup ("bool" : Str) = some .globalImplicit) (h : Q (.stat (.type "bool")) st) : WPE c k sc ρ st (.Name "bool" p) Q X := WPE.bltT hx (Facts.g_bool hK) (by boot_by_name) h
theorem n_ValueError (hK : Kc c) (hx : sc.names.lookup ("ValueError" : Str) = some .globalImplicit) (h : Q (.stat (.type "ValueError")) st) : WPE c k sc ρ st (.Name "ValueError" p) Q X := WPE.bltT hx (Facts.g_ValueError hK) (by boot_by_name) h
end
local macro_rules | `(tactic| k_clsL) => `(tactic| first | (with_reducible first | refine WPE.cint ?_ | refine WPE.cstr ?_ | refine WPE.bin ?_ | refine WPE.cbool ?_ | refine WPE.cnone ?_ | refine WPE.opOne ?_ | refine WPE.and ?_ | refine WPE.not ?_ | refine WPE.un ?_ | refine W2.eqI ?_ | refine W2.addI ?_ | refine W2.subI ?_ | refine W2.ltI ?_ | refine W2.leI ?_ | refine W2.gtI ?_ | refine W2.neI ?_ | refine W2.eqS ?_ | refine W2.neS ?_ | refine W1.negI ?_ | refine WPAll.or ?_ | refine WPAll.and ?_ | refine WPAll.orNil ?_ | refine WPAll.andNil ?_ | refine WPO.no ?_ | refine WPO.so ?_ | refine nxt_next ?_ | refine nxt_ret ?_ | refine cnd_t ?_ | refine cnd_f ?_ | refine WPS.cons ?_ | refine WPS.nil ?_ | refine WPEs.nil ?_ | refine WPs.ret ?_ | refine WPs.ifs ?_ | refine WPB.op ?_ | refine WPB.not ?_) | ((with_reducible first | refine WPEs.cons ?_ ?i | refine WPs.expr ?_ ?i | refine WPE.slice ?_ ?i); (case i => intros; rfl)) | ((with_reducible first | refine WPs.asg ?_ ?h ?i | refine WPs.for ‹_› ?_ ?h ?i | refine WPE.comp ‹_› ?h ?_ ?i); (case h => rfl); (case i => intros; rfl)) | ((with_reducible first | refine WPE.cmp ?_ ?h | refine WPE.cmp2 ?_ ?h | refine WPB.cmp ?_ ?h | refine W2.isN ?h ?_ | refine W2.isNotN ?h ?_ | refine n_BadCount ‹_› ?h ?_ | refine n_BadRule ‹_› ?h ?_ | refine n_BadDeed ‹_› ?h ?_ | refine n_Full ‹_› ?h ?_ | refine n_Twice ‹_› ?h ?_ | refine n_NotKept ‹_› ?h ?_ | refine n_AtEnd ‹_› ?h ?_ | refine n_NotWanted ‹_› ?h ?_ | refine n_ROUND ‹_› ?h ?_ | refine n_MOST_RULES ‹_› ?h ?_ | refine n_list ‹_› ?h ?_ | refine n_int ‹_› ?h ?_ | refine n_str ‹_› ?h ?_ | refine n_tuple ‹_› ?h ?_ | refine n_bool ‹_› ?h ?_ | refine n_ValueError ‹_› ?h ?_); (case h => rfl)) | ((with_reducible first | refine c_between ‹_› ?h ?_ ?i | refine c_is_state ‹_› ?h ?_ ?i | refine c_is_rule ‹_› ?h ?_ ?i | refine c_forth ‹_› ?h ?_ ?i | refine c_need_row ‹_› ?h ?_ ?i | refine c_states ‹_› ?h ?_ ?i | refine c_law_cell_at ‹_› ?h ?_ ?i | refine c_law_number ‹_› ?h ?_ ?i | refine c_law_whole ‹_› ?h ?_ ?i | refine c_law_rule ‹_› ?h ?_ ?i | refine c_law_forth ‹_› ?h ?_ ?i | refine c_law_row ‹_› ?h ?_ ?i | refine c_law_states ‹_› ?h ?_ ?i | refine c_law_class ‹_› ?h ?_ ?i | refine c_law_told ‹_› ?h ?_ ?i | refine c_law_spoilt ‹_› ?h ?_ ?i | refine c_isinstance ‹_› ?h ?_ ?i | refine c_len ‹_› ?h ?_ ?i | refine c_all ‹_› ?h ?_ ?i | refine c_list ‹_› ?h ?_ ?i | refine c_tuple ‹_› ?h ?_ ?i | refine c_range ‹_› ?h ?_ ?i); (case h => rfl); (case i => intros; rfl)) | (with_reducible refine WPE.sub ?_) | ((with_reducible first | refine WPE.tup ?_ ?d | refine WPE.lst ?_ ?d); (case d => decide)) | ((with_reducible refine' WPE.nm ?h ?_ ?d ?e); (case h => rfl); (case d => decide); (case e => decide)) | ((with_reducible first | refine WPE.mAppend ?_ ?h ?i | refine WPE.mCount ?_ ?h ?i | refine WPE.mIndex ?_ ?h ?i); (case h => rfl); (case i => intros; exact ⟨_, rfl⟩)) | ((with_reducible refine WPB.val ?_ ?i); (case i => intros; rfl)) | ((with_reducible refine cnd_is true ?h ?_); (case h => rfl)) | ((with_reducible refine cnd_is false ?h ?_); (case h => rfl)) | ((with_reducible refine' W2.tupAt ?h ?i ?j ?_); (case h => rfl); (case i => rfl); (case j => rfl)) | (with_reducible refine ⟨_, rfl, ?_⟩) | ((with_reducible refine' WL.isinstance ?h ?i ?_); (case h => rfl); (case i => rfl)) | fail)
local macro_rules | `(tactic| k_places) => `(tactic| ((refine WPS.cons ?_); (repeat' k_clsL)))
local macro_rules | `(tactic| fold_depth) => `(tactic| (repeat' k_clsL))
local macro_rules | `(tactic| k_memK) => `(tactic| first | (with_reducible refine WPS.nil ?_) | ((fail_if_success (with_reducible show WPS _ _ _ _ _ _ _ _)); k_clsL))
local macro_rules | `(tactic| k_ownIn) => `(tactic| (repeat' k_memK))
local macro_rules | `(tactic| k_offL) => `(tactic| first | exact get_head | ((refine Le.alloc ?_ _ _ ?_); (first | assumption | skip); k_offL) | assumption)
section
variable {c : Cx} {k : Nat} {ρ : Loc} {st : St} {Q : V → St → Prop} {X : Xp}
/-- a cell of the script, 0 behind its end -/
def cellV (ns : List Int) (i : Int) : Int := ns.getD i.toNat 0
def numV (ns : List Int) (i : Int) : Int := if ns.length = 0 then 5003 * i else ((ns.getD (i.fmod ns.length).toNat 0 + 7919 * i.fdiv ns.length + 101 * i) * 48271).fmod 2147483647
theorem fmod_lt {a b : Int} (h : 0 < b) : 0 ≤ a.fmod b ∧ a.fmod b < b := by
  rw [Int.fmod_eq_emod_of_nonneg _ (Int.le_of_lt h)]
  exact ⟨Int.emod_nonneg _ (by omega), Int.emod_lt_of_pos _ h⟩
theorem mulOk_right {a b : Int} (h : b.natAbs < 2 ^ 63) : IntMulOk a b := by
  refine IntMulOk.of_right ?_
  unfold Builtin.Int.intBits
  split
  · omega
  · rename_i hb
    have h0 : b.natAbs ≠ 0 := by simpa using hb
    have : b.natAbs.log2 < 63 := (Nat.log2_lt h0).mpr h
    omega

theorem s_cell_at (hK : Kc c) {ns : List Int} {i : Int} (h0 : 0 ≤ i) (hl : ns.length < 1000) (h : Q (.int (cellV ns i)) st) : CF c (k + 1) A_law_cell_at [.scr ns, .int i] ρ st Q X := by
  refine CallW.fn (Facts.fn_law_cell_at hK) rfl ?_
  k_places
  fold_depth
  refine WL.lenScr (by omega) ?_
  fold_depth
  refine cnd_cases (fun hb => ?_) (fun hb => ?_)
  · have hb' : i < (ns.length : Int) := by simpa using hb
    fold_depth
    refine W2.subScr rfl (by omega) (seqIndex_pos h0 hb') (List.getElem?_eq_getElem (by omega)) ?_
    have : cellV ns i = ns[i.toNat] := by unfold cellV; rw [List.getD_eq_getElem?_getD, List.getElem?_eq_getElem (by omega)]; rfl
    rw [this] at h; exact h
  · have hb' : ¬ i < (ns.length : Int) := by simpa using hb
    fold_depth
    have : cellV ns i = 0 := by unfold cellV; rw [List.getD_eq_getElem?_getD, List.getElem?_eq_none (by omega)]; rfl
    rw [this] at h; exact h
theorem s_number (hK : Kc c) {ns : List Int} {i : Int} (h0 : 0 ≤ i) (hi : i < 1000000) (hl : ns.length < 1000) (h : Q (.int (numV ns i)) st) : CF c (k + 1) A_law_number [.scr ns, .int i] ρ st Q X := by
  refine CallW.fn (Facts.fn_law_number hK) rfl ?_
  k_places
  fold_depth
  refine WL.lenScr (by omega) ?_
  fold_depth
  refine cnd_cases (fun hb => ?_) (fun hb => ?_)
  · have hb' : ns.length = 0 := by simpa using hb
    fold_depth
    refine W2.mulI (mulOk_right (by omega)) ?_
    unfold numV at h; rw [if_pos hb'] at h; exact h
  · have hb' : ¬ ns.length = 0 := by simpa using hb
    have hm := fmod_lt (a := i) (b := ns.length) (by omega)
    unfold numV at h; rw [if_neg hb'] at h
    fold_depth
    refine WL.lenScr (by omega) ?_
    refine W2.modI (by omega) ?_
    refine W2.subScr rfl (by omega) (seqIndex_pos hm.1 hm.2) (List.getElem?_eq_getElem (by omega)) ?_
    fold_depth
    refine WL.lenScr (by omega) ?_
    refine W2.divI (by omega) (by omega) ?_
    refine W2.mulI (IntMulOk.of_left (by decide)) ?_
    fold_depth
    refine W2.mulI (IntMulOk.of_left (by decide)) ?_
    fold_depth
    refine W2.mulI (mulOk_right (by decide)) ?_
    fold_depth
    refine W2.modI (by decide) ?_
    rw [List.getD_eq_getElem?_getD, List.getElem?_eq_getElem (by omega)] at h
    exact h
end

section
variable {c : Cx} {k : Nat} {ρ : Loc} {st : St} {Q : V → St → Prop} {X : Xp}
def btwV (lo hi : Int) : V → Bool
  | .int i => decide (lo ≤ i) && decide (i ≤ hi)
  | _ => false
theorem typ_int {v : V} (h : typV st v = some "int") : ∃ i, v = .int i := by
  cases v <;> simp [typV] at h
  · exact ⟨_, rfl⟩
  · split at h <;> simp at h
theorem s_between (hK : Kc c) {v : V} {T : String} {lo hi : Int} (ht : typV st v = some T) (h : Q (.bool (btwV lo hi v)) st) : CF c (k + 1) A_between [v, .int lo, .int hi] ρ st Q X := by
  refine CallW.fn (Facts.fn_between hK) rfl ?_
  k_places
  fold_depth
  refine WL.isinstance ht rfl ⟨_, rfl, ?_⟩
  by_cases hT : T = "int"
  · subst hT
    obtain ⟨i, rfl⟩ := typ_int ht
    fold_depth
    simp only [btwV] at h
    refine cnd_cases (fun hb => ?_) (fun hb => ?_)
    · fold_depth
      rw [hb, Bool.true_and] at h; exact h
    · rw [hb, Bool.false_and] at h; exact h
  · have hf : btwV lo hi v = false := by
      cases v <;> first | rfl | (exact absurd (Option.some.inj ht).symm hT)
    rw [hf] at h
    by_cases hB : T = "bool"
    · subst hB
      fold_depth
      refine WL.isinstance ht rfl ⟨_, rfl, ?_⟩
      fold_depth
      exact h
    · have : isi T "int" = false := by simp [isi, hT, hB]
      rw [this]
      fold_depth
      exact h
theorem s_whole (hK : Kc c) {i : Int} (h : Q (.bool true) st) : CF c (k + 1) A_law_whole [.int i] ρ st Q X := by
  refine CallW.fn (Facts.fn_law_whole hK) rfl ?_
  k_places
  fold_depth
  exact h
end

section
variable {c : Cx} {k : Nat} {ρ : Loc} {st : St} {Q : V → St → Prop} {X : Xp}
theorem s_is_state (hK : Kc c) {v : V} {T : String} (ht : typV st v = some T) (h : Q (.bool (btwV 0 999982 v)) st) : CF c (k + 2) A_is_state [v] ρ st Q X := by
  refine CallW.fn (Facts.fn_is_state hK) rfl ?_
  k_places
  fold_depth
  exact s_between hK ht h
def ruleV : V → Bool
  | .tup (.str x :: r) => if (["square", "half"] : List Str).any (· == x) then ((r.length + 1 : Nat) : Int) == 1 else (["add", "times"] : List Str).any (· == x) && (((r.length + 1 : Nat) : Int) == 2 && (match r with | v :: _ => btwV 0 999982 v | [] => false))
  | _ => false
theorem typ_tup {v : V} (h : typV st v = some "tuple") : ∃ vs, v = .tup vs := by
  cases v <;> simp [typV] at h
  · exact ⟨_, rfl⟩
  · split at h <;> simp at h
theorem typ_str {v : V} (h : typV st v = some "str") : ∃ x, v = .str x := by
  cases v <;> simp [typV] at h
  · exact ⟨_, rfl⟩
  · split at h <;> simp at h
theorem s_is_rule (hK : Kc c) {v : V} {T : String} (ht : typV st v = some T) (hs : ∀ vs, v = .tup vs → (vs.length < 1000 ∧ ∀ u ∈ vs, (typV st u).isSome = true)) (h : Q (.bool (ruleV v)) st) : CF c (k + 3) A_is_rule [v] ρ st Q X := by
  refine CallW.fn (Facts.fn_is_rule hK) rfl ?_
  k_places
  fold_depth
  refine WL.isinstance ht rfl ⟨_, rfl, ?_⟩
  by_cases hT : T = "tuple"
  · subst hT
    obtain ⟨vs, rfl⟩ := typ_tup ht
    obtain ⟨hl, hs⟩ := hs vs rfl
    fold_depth
    refine WL.lenTup (by omega) ?_
    fold_depth
    cases vs with
    | nil =>
      fold_depth
      exact h
    | cons u r =>
      have hl' : ((u :: r).length : Int) < 2 ^ 63 := by omega
      fold_depth
      refine W2.subTup rfl hl' seqIndex_0 rfl ?_
      obtain ⟨U, hU⟩ := Option.isSome_iff_exists.mp (hs u (by simp))
      fold_depth
      refine WL.isinstance hU rfl ⟨_, rfl, ?_⟩
      by_cases hS : U = "str"
      · subst hS
        obtain ⟨x, rfl⟩ := typ_str hU
        fold_depth
        refine W2.subTup rfl hl' seqIndex_0 rfl ?_
        fold_depth
        refine W2.inStrs (ys := ["square", "half"]) rfl ⟨_, rfl, ?_⟩
        simp only [ruleV] at h
        refine cnd_cases (fun hb => ?_) (fun hb => ?_)
        · rw [if_pos hb] at h
          fold_depth
          refine WL.lenTup hl' ?_
          fold_depth
          exact h
        · rw [if_neg (by rw [hb]; decide)] at h
          fold_depth
          refine W2.subTup rfl hl' seqIndex_0 rfl ?_
          fold_depth
          refine W2.inStrs (ys := ["add", "times"]) rfl ⟨_, rfl, ?_⟩
          refine cnd_cases (fun hb2 => ?_) (fun hb2 => ?_)
          · rw [hb2, Bool.true_and] at h
            fold_depth
            refine WL.lenTup hl' ?_
            fold_depth
            refine cnd_cases (fun hb3 => ?_) (fun hb3 => ?_)
            · have e3 : ((r.length + 1 : Nat) : Int) == 2 := hb3
              rw [e3, Bool.true_and] at h
              cases r with
              | nil => simp at e3
              | cons w r =>
                fold_depth
                refine W2.subTup rfl hl' seqIndex_1 rfl ?_
                obtain ⟨W, hW⟩ := Option.isSome_iff_exists.mp (hs w (by simp))
                fold_depth
                exact s_is_state hK hW h
            · have e3 : (((r.length + 1 : Nat) : Int) == 2) = false := hb3
              rw [e3, Bool.false_and] at h
              exact h
          · rw [hb2, Bool.false_and] at h
            exact h
      · have : isi U "str" = false := by simp [isi, hS]
        rw [this]
        fold_depth
        have hf : ruleV (.tup (u :: r)) = false := by
          cases u <;> first | rfl | (exact absurd (Option.some.inj hU).symm hS)
        rw [hf] at h; exact h
  · have : isi T "tuple" = false := by simp [isi, hT]
    rw [this]
    fold_depth
    have hf : ruleV v = false := by
      cases v <;> first | rfl | (exact absurd (Option.some.inj ht).symm hT)
    rw [hf] at h; exact h
end

section
variable {c : Cx} {k : Nat} {ρ : Loc} {st : St} {Q : V → St → Prop} {X : Xp}
/-- the rules that are -/
inductive Ru where
  | add (i : Int) | times (i : Int) | square | half
def Ru.v : Ru → V
  | .add i => .tup [.str "add", .int i]
  | .times i => .tup [.str "times", .int i]
  | .square => .tup [.str "square"]
  | .half => .tup [.str "half"]
def Ru.Ok : Ru → Prop
  | .add i => 0 ≤ i ∧ i ≤ 999982
  | .times i => 0 ≤ i ∧ i ≤ 999982
  | _ => True
def Ru.fwd : Ru → Int → Int
  | .add i, s => (s + i).fmod 999983
  | .times i, s => (s * i).fmod 999983
  | .square, s => (s * s).fmod 999983
  | .half, s => s.fdiv 2
theorem s_rule (hK : Kc c) {n : Int} (h : ∀ (r : Ru) st', r.Ok → Le st st' → Q r.v st') : CF c (k + 1) A_law_rule [.int n] ρ st Q X := by
  refine CallW.fn (Facts.fn_law_rule hK) rfl ?_
  k_places
  refine W2.divI (by decide) (by decide) ?_
  fold_depth
  refine W2.modI (by decide) ?_
  fold_depth
  refine W2.divI (by decide) (by decide) ?_
  fold_depth
  refine W2.modI (by decide) ?_
  fold_depth
  have rest : ∀ (i : Int) (st₁ : St), 0 ≤ i → i ≤ 999982 → Le st st₁ → WPS c k (S_law_rule) [("_law_number_here", .int n), ("_law_k", .int i)] st₁ (B_law_rule.drop 2) (fun fl _ st' => Q (retV fl) st') (fun C _ st' => X C ρ st') := by
    intro i st₁ i0 i1 hle
    k_places
    refine W2.modI (by decide) ?_
    fold_depth
    refine cnd_cases (fun hb => ?_) (fun hb => ?_)
    · fold_depth
      exact h (.add i) _ ⟨i0, i1⟩ hle
    · fold_depth
      refine W2.modI (by decide) ?_
      fold_depth
      refine cnd_cases (fun hb2 => ?_) (fun hb2 => ?_)
      · fold_depth
        exact h (.times i) _ ⟨i0, i1⟩ hle
      · fold_depth
        intro a ha
        fold_depth
        refine W2.modI (by decide) ?_
        fold_depth
        have hm := fmod_lt (a := n) (b := 5) (by decide)
        have e1 : ¬ n.fmod 5 < 2 := by simpa using hb
        have e2 : ¬ n.fmod 5 = 2 := by simpa using hb2
        have e3 : n.fmod 5 = 3 ∨ n.fmod 5 = 4 := by omega
        rcases e3 with e3 | e3
        · rw [e3]
          refine W2.subList get_head rfl (by decide) (by rfl) (by rfl) ?_
          fold_depth
          exact h .square _ trivial (hle.trans (.alloc ha))
        · rw [e3]
          refine W2.subList get_head rfl (by decide) (by rfl) (by rfl) ?_
          fold_depth
          exact h .half _ trivial (hle.trans (.alloc ha))
  refine cnd_cases (fun hb => ?_) (fun hb => ?_)
  · refine WPS.cons ?_
    k_ownIn
    intro a ha
    k_ownIn
    refine W2.divI (by decide) (by decide) ?_
    k_ownIn
    refine W2.modI (by decide) ?_
    have hm := fmod_lt (a := n.fdiv 15) (b := 5) (by decide)
    generalize (n.fdiv 15).fmod 5 = j at hm
    have e3 : j = 0 ∨ j = 1 ∨ j = 2 ∨ j = 3 ∨ j = 4 := by omega
    rcases e3 with rfl | rfl | rfl | rfl | rfl <;>
    · refine W2.subList get_head rfl (by decide) (by rfl) (by rfl) ?_
      k_ownIn
      exact rest _ _ (by decide) (by decide) (.alloc ha)
  · k_ownIn
    have hm := fmod_lt (a := n.fdiv 5) (b := 999983) (by decide)
    exact rest _ _ hm.1 (by omega) .refl
end

section
variable {c : Cx} {k : Nat} {ρ : Loc} {st : St} {Q : V → St → Prop} {X : Xp}
theorem Ru.fwd_ok {r : Ru} {s : Int} (hr : r.Ok) (h0 : 0 ≤ s) (h1 : s ≤ 999982) : 0 ≤ r.fwd s ∧ r.fwd s ≤ 999982 := by
  cases r with
  | half =>
    simp only [Ru.fwd]
    rw [Int.fdiv_eq_ediv_of_nonneg _ (by decide)]
    omega
  | add i => have := fmod_lt (a := s + i) (b := 999983) (by decide); simp only [Ru.fwd]; omega
  | times i => have := fmod_lt (a := s * i) (b := 999983) (by decide); simp only [Ru.fwd]; omega
  | square => have := fmod_lt (a := s * s) (b := 999983) (by decide); simp only [Ru.fwd]; omega
theorem s_forth (hK : Kc c) {r : Ru} {s : Int} (hr : r.Ok) (h0 : 0 ≤ s) (h1 : s ≤ 999982) (h : Q (.int (r.fwd s)) st) : CF c (k + 1) A_forth [r.v, .int s] ρ st Q X := by
  refine CallW.fn (Facts.fn_forth hK) rfl ?_
  cases r with
  | add i =>
    simp only [Ru.v, Ru.fwd, Ru.Ok] at *
    k_places
    refine W2.modI (by decide) ?_
    fold_depth
    exact h
  | times i =>
    simp only [Ru.v, Ru.fwd, Ru.Ok] at *
    k_places
    refine W2.mulI (mulOk_right (by omega)) ?_
    fold_depth
    refine W2.modI (by decide) ?_
    fold_depth
    exact h
  | square =>
    simp only [Ru.v, Ru.fwd, Ru.Ok] at *
    k_places
    refine W2.mulI (mulOk_right (by omega)) ?_
    fold_depth
    refine W2.modI (by decide) ?_
    fold_depth
    exact h
  | half =>
    simp only [Ru.v, Ru.fwd, Ru.Ok] at *
    k_places
    refine W2.divI (by decide) (by decide) ?_
    fold_depth
    exact h
theorem s_law_forth (hK : Kc c) {r : Ru} {s : Int} (hr : r.Ok) (h0 : 0 ≤ s) (h1 : s ≤ 999982) (h : Q (.int (r.fwd s)) st) : CF c (k + 1) A_law_forth [r.v, .int s] ρ st Q X := by
  refine CallW.fn (Facts.fn_law_forth hK) rfl ?_
  cases r with
  | add i =>
    simp only [Ru.v, Ru.fwd, Ru.Ok] at *
    k_places
    refine W2.modI (by decide) ?_
    fold_depth
    exact h
  | times i =>
    simp only [Ru.v, Ru.fwd, Ru.Ok] at *
    k_places
    refine W2.mulI (mulOk_right (by omega)) ?_
    fold_depth
    refine W2.modI (by decide) ?_
    fold_depth
    exact h
  | square =>
    simp only [Ru.v, Ru.fwd, Ru.Ok] at *
    k_places
    refine W2.mulI (mulOk_right (by omega)) ?_
    fold_depth
    refine W2.modI (by decide) ?_
    fold_depth
    exact h
  | half =>
    simp only [Ru.v, Ru.fwd, Ru.Ok] at *
    k_places
    refine W2.divI (by decide) (by decide) ?_
    fold_depth
    exact h
end

section
variable {c : Cx} {k : Nat} {ρ : Loc} {st : St} {Q : V → St → Prop} {X : Xp}
theorem s_class (hK : Kc c) {e C : Addr} {b0 b1 b2 b3 b4 b5 b6 b7 : Bool} {j : Nat} {w : Str} (hg : get st e = some (.exc C)) (F : ExcK c.K C) (h0 : kitOne c.K (.ref C) (.ref A_BadCount) = some b0) (h1 : kitOne c.K (.ref C) (.ref A_BadRule) = some b1) (h2 : kitOne c.K (.ref C) (.ref A_BadDeed) = some b2) (h3 : kitOne c.K (.ref C) (.ref A_Full) = some b3) (h4 : kitOne c.K (.ref C) (.ref A_Twice) = some b4) (h5 : kitOne c.K (.ref C) (.ref A_NotKept) = some b5) (h6 : kitOne c.K (.ref C) (.ref A_AtEnd) = some b6) (h7 : kitOne c.K (.ref C) (.ref A_NotWanted) = some b7) (hv : kitOne c.K (.ref C) (.type "ValueError") = some true)
    (hc : ([b0, b1, b2, b3, b4, b5, b6, b7] : List Bool).count true = 1) (hj : ([b0, b1, b2, b3, b4, b5, b6, b7] : List Bool).findIdx? (· == true) = some j) (hw : (["count", "rule", "deed", "full", "twice", "notkept", "atend", "notwanted"] : List Str)[j]? = some w) (h : ∀ st', Le st st' → Q (.tup [.str "refused", .str w]) st') : CF c (k + 1) A_law_class [.ref e] ρ st Q X := by
  refine CallW.fn (Facts.fn_law_class hK) rfl ?_
  refine WPS.cons ?_
  repeat' (first | k_memK | (refine WL.isExc hg F (by assumption) ?_))
  intro a ha
  k_ownIn
  have hg1 := (Le.alloc (o := .list [.bool b0, .bool b1, .bool b2, .bool b3]) ha) _ _ hg
  refine WPS.cons ?_
  repeat' (first | k_memK | (refine WL.isExc hg1 F (by assumption) ?_))
  intro a2 ha2
  have hg2 := (Le.alloc (o := .list [.bool b4, .bool b5, .bool b6, .bool b7]) ha2) _ _ hg1
  refine W2.cat (by k_offL) (by k_offL) rfl ?_
  intro a3 ha3
  have hg3 := (Le.alloc (o := .list ([.bool b0, .bool b1, .bool b2, .bool b3] ++ [.bool b4, .bool b5, .bool b6, .bool b7])) ha3) _ _ hg2
  k_ownIn
  refine WPS.cons ?_
  k_ownIn
  refine ⟨_, _, rfl, get_head, ?_⟩
  k_ownIn
  refine WL.countB (bs := [b0, b1, b2, b3, b4, b5, b6, b7]) rfl get_head ?_
  k_ownIn
  rw [hc]
  k_ownIn
  refine WL.isExc hg3 F hv ?_
  k_ownIn
  refine WPS.cons ?_
  k_ownIn
  intro a4 ha4
  k_ownIn
  refine WPS.cons ?_
  k_ownIn
  refine ⟨_, _, rfl, (Le.alloc ha4) _ _ get_head, ?_⟩
  k_ownIn
  refine WL.indexB (bs := [b0, b1, b2, b3, b4, b5, b6, b7]) rfl ((Le.alloc ha4) _ _ get_head) hj (by simp) ?_
  have hjl : j < 8 := by
    obtain ⟨h1, _⟩ := List.findIdx?_eq_some_iff_getElem.mp hj
    exact h1
  k_ownIn
  refine W2.subList (vs := [.str "count", .str "rule", .str "deed", .str "full", .str "twice", .str "notkept", .str "atend", .str "notwanted"]) (v := .str w) get_head rfl (by decide) (seqIndex_pos (by omega) (by simp; omega)) ?_ ?_
  · have : (((["count", "rule", "deed", "full", "twice", "notkept", "atend", "notwanted"] : List Str).map V.str)[j]?) = some (.str w) := by rw [List.getElem?_map, hw]; rfl
    simpa using this
  k_ownIn
  exact h _ (((Le.alloc ha).cons ha2).cons ha3 |>.cons ha4)
end

section
variable {c : Cx} {k : Nat} {ρ : Loc} {st : St} {Q : V → St → Prop} {X : Xp}
theorem small_ok'' {a : Nat} (h : a ≤ 1000) : a ≤ sizeLine := by rw [PySem.sizeLine_eq]; omega
theorem s_row (hK : Kc c) (hq : c.q = true) {ns : List Int} {a m : Nat} (ha : a < 1000) (hm : m ≤ 100) (hl : ns.length < 1000)
    (h : ∀ (fs : Int) (rs : List Ru) d st', 0 ≤ fs → fs ≤ 999982 → (∀ r ∈ rs, r.Ok) → rs.length ≤ m → Le st st' → get st d = none → get st' d = some (.list (rs.map Ru.v)) → Q (.tup [.int fs, .ref d]) st') : CF c (k + 2) A_law_row [.scr ns, .int a, .int m] ρ st Q X := by
  refine CallW.fn (Facts.fn_law_row hK) rfl ?_
  have rest : ∀ (fs : Int) (st₁ : St), 0 ≤ fs → fs ≤ 999982 → Le st st₁ → WPS c (k + 1) (S_law_row) [("_law_script", .scr ns), ("_law_start", .int a), ("_law_most", .int m), ("_law_first", .int fs)] st₁ (B_law_row.drop 1) (fun fl _ st' => Q (retV fl) st') (fun C _ st' => X C ρ st') := by
    intro fs st₁ f0 f1 hle
    k_places
    refine s_number hK (by omega) (by omega) hl ?_
    fold_depth
    refine W2.modI (by omega) ?_
    have hm' := fmod_lt (a := numV ns ((a : Int) + 1)) (b := (m : Int) + 1) (by omega)
    generalize (numV ns ((a : Int) + 1)).fmod ((m : Int) + 1) = n at hm'
    obtain ⟨n, rfl⟩ : ∃ n' : Nat, n = n' := ⟨n.toNat, by omega⟩
    fold_depth
    have hsrc : ∀ st', Src st' (.rng 0 (n : Int) 1) (upTo 0 n) := fun st' => Src.up 0 n rfl (by omega) (by omega)
    refine WL.range1 ⟨_, hsrc _, by rw [upTo_len]; exact small_ok'' (by omega), ?_⟩
    refine COMP.inv (fun i acc st₂ => Le st₁ st₂ ∧ ∃ rs : List Ru, acc = rs.map Ru.v ∧ rs.length = i ∧ ∀ r ∈ rs, r.Ok) ⟨Le.refl, [], rfl, rfl, by intro r hr; cases hr⟩ ?_ ?_
    · rintro i u acc st₂ hu ⟨hle₂, rs, rfl, hrl, hrs⟩
      obtain ⟨hi, rfl⟩ := upTo_get hu
      fold_depth
      refine s_number hK (by omega) (by omega) hl ?_
      fold_depth
      refine s_rule hK fun r st₃ hr hle₃ => ⟨hsrc _, hle₂.trans hle₃, rs ++ [r], by simp, by simp [hrl], ?_⟩
      intro r' hr'
      rcases List.mem_append.mp hr' with q | q
      · exact hrs r' q
      · simp at q; subst q; exact hr
    · rintro acc st₂ ⟨hle₂, rs, rfl, hrl, hrs⟩
      intro d hd
      fold_depth
      rw [upTo_len] at hrl
      exact h fs rs d _ f0 f1 hrs (by omega) ((hle.trans hle₂).cons hd) ((hle.trans hle₂).none hd) get_head
  refine WPS.cons ?_
  k_ownIn
  refine s_number hK (by omega) (by omega) hl ?_
  k_ownIn
  refine W2.divI (by decide) (by decide) ?_
  k_ownIn
  refine W2.modI (by decide) ?_
  k_ownIn
  intro al hal
  k_ownIn
  refine s_number hK (by omega) (by omega) hl ?_
  k_ownIn
  refine W2.modI (by decide) ?_
  have h4 := fmod_lt (a := numV ns (a : Int)) (b := 4) (by decide)
  have h9 := fmod_lt (a := (numV ns (a : Int)).fdiv 4) (b := 999983) (by decide)
  generalize (numV ns (a : Int)).fmod 4 = j at h4
  have e3 : j = 0 ∨ j = 1 ∨ j = 2 ∨ j = 3 := by omega
  rcases e3 with rfl | rfl | rfl | rfl <;>
  · refine W2.listAt get_head rfl rfl (by rfl) ?_
    k_ownIn
    exact rest _ _ (by first | decide | omega) (by first | decide | omega) (.alloc hal)
end

section
variable {c : Cx} {k : Nat} {ρ : Loc} {st : St} {Q : V → St → Prop} {X : Xp}
theorem typ_mono {st st' : St} (hle : Le st st') {v : V} {T : String} (h : typV st v = some T) : typV st' v = some T := by
  cases v <;> first | exact h | skip
  rename_i a
  simp only [typV] at h ⊢
  cases e : get st a with
  | none => rw [e] at h; cases h
  | some o => rw [hle a o e]; rw [e] at h; exact h
/-- a thing that may lie among the rules -/
structure El (st : St) (v : V) : Prop where
  typ : ∃ T, typV st v = some T
  tup : ∀ vs, v = .tup vs → (vs.length < 1000 ∧ ∀ u ∈ vs, (typV st u).isSome = true)
  self : selfV v = true
theorem Ru.el (r : Ru) : El st r.v := by
  cases r with
  | add i => exact ⟨⟨_, rfl⟩, fun vs e => by cases e; exact ⟨by simp, by intro u hu; simp at hu; rcases hu with rfl | rfl <;> rfl⟩, rfl⟩
  | times i => exact ⟨⟨_, rfl⟩, fun vs e => by cases e; exact ⟨by simp, by intro u hu; simp at hu; rcases hu with rfl | rfl <;> rfl⟩, rfl⟩
  | square => exact ⟨⟨_, rfl⟩, fun vs e => by cases e; exact ⟨by simp, by intro u hu; simp at hu; subst hu; rfl⟩, rfl⟩
  | half => exact ⟨⟨_, rfl⟩, fun vs e => by cases e; exact ⟨by simp, by intro u hu; simp at hu; subst hu; rfl⟩, rfl⟩
theorem Ru.is {r : Ru} (h : r.Ok) : ruleV r.v = true := by
  cases r with
  | add i => obtain ⟨h1, h2⟩ := h; show (decide (0 ≤ i) && decide (i ≤ 999982)) = true; simp [h1, h2]
  | times i => obtain ⟨h1, h2⟩ := h; show (decide (0 ≤ i) && decide (i ≤ 999982)) = true; simp [h1, h2]
  | square => rfl
  | half => rfl
theorem El.up {st' : St} (hle : Le st st') {v : V} (h : El st v) : El st' v := by
  obtain ⟨⟨T, h1⟩, h2, h3⟩ := h
  refine ⟨⟨T, typ_mono hle h1⟩, fun vs e => ⟨(h2 vs e).1, fun u hu => ?_⟩, h3⟩
  obtain ⟨U, hU⟩ := Option.isSome_iff_exists.mp ((h2 vs e).2 u hu)
  rw [typ_mono hle hU]; rfl


/-- what is handed as rules -/
inductive Wr (st : St) : V → Prop
  | list {a : Addr} {vs : List V} : get st a = some (.list vs) → vs.length ≤ 101 → (∀ u ∈ vs, El st u) → Wr st (.ref a)
  | tup {vs : List V} : vs.length ≤ 101 → (∀ u ∈ vs, El st u) → Wr st (.tup vs)
  | str (x : Str) : Wr st (.str x)
  | none : Wr st .none
/-- why it is refused -/
inductive Ref (st : St) (v : V) : V → Str → Prop
  | count {w : V} : btwV 0 999982 v = false → Ref st v w "count"
  | long {a : Addr} {vs : List V} : btwV 0 999982 v = true → get st a = some (.list vs) → 100 < vs.length → Ref st v (.ref a) "rule"
  | odd {a : Addr} {vs : List V} {u : V} : btwV 0 999982 v = true → get st a = some (.list vs) → u ∈ vs → ruleV u = false → Ref st v (.ref a) "rule"
  | tup {vs : List V} : btwV 0 999982 v = true → Ref st v (.tup vs) "rule"
  | str {x : Str} : btwV 0 999982 v = true → Ref st v (.str x) "rule"
  | none : btwV 0 999982 v = true → Ref st v .none "rule"
def clsOf (x : Str) : Addr := if x = "count" then A_BadCount else A_BadRule
theorem s_need_bad (hK : Kc c) (hq : c.q = true) {v w : V} {T : String} {x : Str} (ht : typV st v = some T) (hw : Wr st w) (hr : Ref st v w x) (h : X (clsOf x) ρ st) : CF c (k + 4) A_need_row [v, w] ρ st Q X := by
  refine CallW.fn (Facts.fn_need_row hK) rfl ?_
  k_places
  refine s_is_state hK ht ?_
  cases hr with
  | count hb =>
    rw [hb]
    fold_depth
    refine WPs.raise hq rfl (Facts.g_BadCount hK) (Facts.ex_BadCount hK) ?_
    fold_depth
    exact h
  | tup hb =>
    rw [hb]
    fold_depth
    refine WPs.raise hq rfl (Facts.g_BadRule hK) (Facts.ex_BadRule hK) ?_
    fold_depth
    exact h
  | str hb =>
    rw [hb]
    fold_depth
    refine WPs.raise hq rfl (Facts.g_BadRule hK) (Facts.ex_BadRule hK) ?_
    fold_depth
    exact h
  | none hb =>
    rw [hb]
    fold_depth
    refine WPs.raise hq rfl (Facts.g_BadRule hK) (Facts.ex_BadRule hK) ?_
    fold_depth
    exact h
  | @long a vs hb hg hlen =>
    rw [hb]
    fold_depth
    refine WL.isinstance (T := "list") (by simp [typV, hg]) rfl ?_
    cases hw with
    | list hg' hle he =>
    rw [hg] at hg'; cases hg'
    fold_depth
    refine WL.lenList hg (by omega) ?_
    fold_depth
    refine cnd_is true (by simp; omega) ?_
    fold_depth
    refine WPs.raise hq rfl (Facts.g_BadRule hK) (Facts.ex_BadRule hK) ?_
    fold_depth
    exact h
  | @odd a vs u hb hg hu hru =>
    rw [hb]
    fold_depth
    refine WL.isinstance (T := "list") (by simp [typV, hg]) rfl ?_
    cases hw with
    | list hg' hle he =>
    rw [hg] at hg'; cases hg'
    fold_depth
    refine WL.lenList hg (by omega) ?_
    fold_depth
    refine cnd_cases (fun hl => ?_) (fun hl => ?_)
    · fold_depth
      refine WPs.raise hq rfl (Facts.g_BadRule hK) (Facts.ex_BadRule hK) ?_
      fold_depth
      exact h
    · fold_depth
      refine ⟨_, .list hg, ?_⟩
      refine FOR.inv (fun i ρ₁ st₁ => st₁ = st ∧ ρ₁ = ([("first", v), ("rules", .ref a)] : Loc) ∧ ∀ j y, j < i → vs[j]? = some y → ruleV y = true) ⟨rfl, rfl, fun j y q => absurd q (Nat.not_lt_zero _)⟩ ?_ ?_
      · rintro i y ρ₁ st₁ hy ⟨rfl, rfl, hall⟩
        have hm : y ∈ vs := List.mem_of_getElem? hy
        obtain ⟨⟨U, hU⟩, htup, _⟩ := he y hm
        k_places
        refine s_is_rule hK hU htup ?_
        fold_depth
        refine cnd_cases (fun hr' => ?_) (fun hr' => ?_)
        · fold_depth
          refine lp_next ⟨_, Sub.of (by intro p hp; simp at hp; rcases hp with rfl | rfl <;> rfl), .list hg, rfl, rfl, fun j z hj hz => ?_⟩
          by_cases e : j = i
          · subst e; rw [hy] at hz; cases hz; exact hr'
          · exact hall j z (by omega) hz
        · fold_depth
          refine WPs.raise hq rfl (Facts.g_BadRule hK) (Facts.ex_BadRule hK) ?_
          fold_depth
          exact h
      · rintro ρ₁ st₁ ⟨rfl, rfl, hall⟩
        obtain ⟨j, hj⟩ := List.getElem?_of_mem hu
        have := hall j u (by
          rcases Nat.lt_or_ge j vs.length with q | q
          · exact q
          · rw [List.getElem?_eq_none q] at hj; cases hj) hj
        rw [hru] at this; cases this
theorem s_need_good (hK : Kc c) (hq : c.q = true) {fs : Int} {a : Addr} {vs : List V} (h0 : 0 ≤ fs) (h1 : fs ≤ 999982) (hg : get st a = some (.list vs)) (hle : vs.length ≤ 100) (he : ∀ u ∈ vs, El st u) (hr : ∀ u ∈ vs, ruleV u = true) (h : Q .none st) : CF c (k + 4) A_need_row [.int fs, .ref a] ρ st Q X := by
  refine CallW.fn (Facts.fn_need_row hK) rfl ?_
  k_places
  refine s_is_state hK (T := "int") rfl ?_
  rw [show btwV 0 999982 (.int fs) = true by simp [btwV, h0, h1]]
  fold_depth
  refine WL.isinstance (T := "list") (by simp [typV, hg]) rfl ?_
  fold_depth
  refine WL.lenList hg (by omega) ?_
  fold_depth
  refine cnd_is false (by simp; omega) ?_
  fold_depth
  refine ⟨_, .list hg, ?_⟩
  refine FOR.inv (fun i ρ₁ st₁ => st₁ = st ∧ ρ₁ = ([("first", .int fs), ("rules", .ref a)] : Loc)) ⟨rfl, rfl⟩ ?_ ?_
  · rintro i y ρ₁ st₁ hy ⟨rfl, rfl⟩
    have hm : y ∈ vs := List.mem_of_getElem? hy
    obtain ⟨⟨U, hU⟩, htup, _⟩ := he y hm
    k_places
    refine s_is_rule hK hU htup ?_
    rw [hr y hm]
    fold_depth
    exact lp_next ⟨_, Sub.of (by intro p hp; simp at hp; rcases hp with rfl | rfl <;> rfl), .list hg, rfl, rfl⟩
  · rintro ρ₁ st₁ ⟨rfl, rfl⟩
    fold_depth
    exact h
/-- the states of a row -/
def stN (fs : Int) (rs : List Ru) (i : Nat) : Int := (rs.take i).foldl (fun s r => r.fwd s) fs
def stL (fs : Int) (rs : List Ru) (n : Nat) : List Int := (List.range n).map (stN fs rs)
theorem stN_succ {fs : Int} {rs : List Ru} {i : Nat} {r : Ru} (h : rs[i]? = some r) : stN fs rs (i + 1) = r.fwd (stN fs rs i) := by
  unfold stN
  have : i < rs.length := by
    rcases Nat.lt_or_ge i rs.length with q | q
    · exact q
    · rw [List.getElem?_eq_none q] at h; cases h
  rw [List.take_add_one, h]
  simp
theorem stN_ok {fs : Int} {rs : List Ru} (h0 : 0 ≤ fs) (h1 : fs ≤ 999982) (hr : ∀ r ∈ rs, r.Ok) : ∀ i, 0 ≤ stN fs rs i ∧ stN fs rs i ≤ 999982
  | 0 => ⟨h0, h1⟩
  | i + 1 => by
    obtain ⟨a, b⟩ := stN_ok h0 h1 hr i
    cases e : rs[i]? with
    | none =>
      have : stN fs rs (i + 1) = stN fs rs i := by
        unfold stN
        have hl : rs.length ≤ i := by simpa using e
        rw [List.take_of_length_le hl, List.take_of_length_le (by omega)]
      rw [this]; exact ⟨a, b⟩
    | some r =>
      rw [stN_succ e]
      exact Ru.fwd_ok (hr r (List.mem_of_getElem? e)) a b
theorem stL_succ {fs : Int} {rs : List Ru} {n : Nat} : stL fs rs (n + 1) = stL fs rs n ++ [stN fs rs n] := by simp [stL, List.range_succ]
theorem stL_len {fs : Int} {rs : List Ru} {n : Nat} : (stL fs rs n).length = n := by simp [stL]
theorem stL_last {fs : Int} {rs : List Ru} {n : Nat} : ((stL fs rs (n + 1)).map V.int)[n]? = some (.int (stN fs rs n)) := by
  rw [stL_succ, List.map_append, List.getElem?_append_right (by simp [stL_len])]
  simp [stL_len]
theorem s_law_states (hK : Kc c) (hq : c.q = true) {fs : Int} {a : Addr} {rs : List Ru} (h0 : 0 ≤ fs) (h1 : fs ≤ 999982) (hr : ∀ r ∈ rs, r.Ok) (hl : rs.length ≤ 1000) (hg : get st a = some (.list (rs.map Ru.v)))
    (h : ∀ d st', Le st st' → get st d = none → get st' d = some (.list ((stL fs rs (rs.length + 1)).map .int)) → Q (.ref d) st') : CF c (k + 2) A_law_states [.int fs, .ref a] ρ st Q X := by
  refine CallW.fn (Facts.fn_law_states hK) rfl ?_
  k_places
  intro d hd
  fold_depth
  refine ⟨_, .list ((Le.alloc hd) _ _ hg), ?_⟩
  refine FOR.inv (fun i ρ₁ st₁ => Le st st₁ ∧ get st₁ d = some (.list ((stL fs rs (i + 1)).map .int)) ∧ ρ₁ = ([("_law_first", .int fs), ("_law_rules", .ref a), ("_law_found", .ref d)] : Loc)) ⟨Le.alloc hd, get_head, rfl⟩ ?_ ?_
  · rintro i y ρ₁ st₁ hy ⟨hle, hgd, rfl⟩
    rw [List.getElem?_map] at hy
    obtain ⟨r, hri, rfl⟩ := Option.map_eq_some_iff.mp hy
    have hil : i < rs.length := by
      rcases Nat.lt_or_ge i rs.length with q | q
      · exact q
      · rw [List.getElem?_eq_none q] at hri; cases hri
    obtain ⟨a0, a1⟩ := stN_ok h0 h1 hr i
    k_places
    refine ⟨_, _, rfl, hgd, ?_⟩
    fold_depth
    refine W2.subList hgd rfl (by simp [stL_len]; omega) (seqIndex_neg (by decide) (by simp [stL_len]; omega)) (v := .int (stN fs rs i)) (by rw [show ((-1 + (((stL fs rs (i + 1)).map V.int).length : Int)).toNat) = i by simp [stL_len]; omega]; exact stL_last) ?_
    fold_depth
    refine s_law_forth hK (hr r (List.mem_of_getElem? hri)) a0 a1 ?_
    fold_depth
    refine WL.append hgd (by simp [stL_len]; omega) ?_
    fold_depth
    refine lp_next ⟨_, Sub.of (by intro p hp; simp at hp; rcases hp with rfl | rfl | rfl <;> rfl), ?_, hle.upd hd, ?_, rfl⟩
    · exact .list ((hle.upd hd) _ _ hg)
    · rw [get_upd_self hgd, stL_succ (n := i + 1), stN_succ hri]; simp
  · rintro ρ₁ st₁ ⟨hle, hgd, rfl⟩
    fold_depth
    rw [List.length_map] at hgd
    exact h d st₁ hle hd hgd
theorem s_states (hK : Kc c) (hq : c.q = true) {fs : Int} {a : Addr} {rs : List Ru} (h0 : 0 ≤ fs) (h1 : fs ≤ 999982) (hr : ∀ r ∈ rs, r.Ok) (hl : rs.length ≤ 100) (hg : get st a = some (.list (rs.map Ru.v)))
    (h : ∀ d st', Le st st' → get st d = none → get st' d = some (.list ((stL fs rs (rs.length + 1)).map .int)) → Q (.ref d) st') : CF c (k + 5) A_states [.int fs, .ref a] ρ st Q X := by
  refine CallW.fn (Facts.fn_states hK) rfl ?_
  k_places
  refine s_need_good hK hq h0 h1 hg (by simpa using hl) (by intro u hu; obtain ⟨r, _, rfl⟩ := List.mem_map.mp hu; exact r.el) (by intro u hu; obtain ⟨r, hr', rfl⟩ := List.mem_map.mp hu; exact Ru.is (hr r hr')) ?_
  fold_depth
  intro d hd
  fold_depth
  refine ⟨_, .list ((Le.alloc hd) _ _ hg), ?_⟩
  refine FOR.inv (fun i ρ₁ st₁ => Le st st₁ ∧ get st₁ d = some (.list ((stL fs rs (i + 1)).map .int)) ∧ ρ₁ = ([("first", .int fs), ("rules", .ref a), ("found", .ref d)] : Loc)) ⟨Le.alloc hd, get_head, rfl⟩ ?_ ?_
  · rintro i y ρ₁ st₁ hy ⟨hle, hgd, rfl⟩
    rw [List.getElem?_map] at hy
    obtain ⟨r, hri, rfl⟩ := Option.map_eq_some_iff.mp hy
    have hil : i < rs.length := by
      rcases Nat.lt_or_ge i rs.length with q | q
      · exact q
      · rw [List.getElem?_eq_none q] at hri; cases hri
    obtain ⟨a0, a1⟩ := stN_ok h0 h1 hr i
    k_places
    refine ⟨_, _, rfl, hgd, ?_⟩
    fold_depth
    refine W2.subList hgd rfl (by simp [stL_len]; omega) (seqIndex_neg (by decide) (by simp [stL_len]; omega)) (v := .int (stN fs rs i)) (by rw [show ((-1 + (((stL fs rs (i + 1)).map V.int).length : Int)).toNat) = i by simp [stL_len]; omega]; exact stL_last) ?_
    fold_depth
    refine WL.le (s_forth (k := k) hK (hr r (List.mem_of_getElem? hri)) a0 a1 ?_) (by omega)
    fold_depth
    refine WL.append hgd (by simp [stL_len]; omega) ?_
    fold_depth
    refine lp_next ⟨_, Sub.of (by intro p hp; simp at hp; rcases hp with rfl | rfl | rfl <;> rfl), ?_, hle.upd hd, ?_, rfl⟩
    · exact .list ((hle.upd hd) _ _ hg)
    · rw [get_upd_self hgd, stL_succ (n := i + 1), stN_succ hri]; simp
  · rintro ρ₁ st₁ ⟨hle, hgd, rfl⟩
    fold_depth
    rw [List.length_map] at hgd
    exact h d st₁ hle hd hgd
theorem s_states_bad (hK : Kc c) (hq : c.q = true) {v w : V} {T : String} {x : Str} (ht : typV st v = some T) (hw : Wr st w) (hr : Ref st v w x) (h : X (clsOf x) ρ st) : CF c (k + 5) A_states [v, w] ρ st Q X := by
  refine CallW.fn (Facts.fn_states hK) rfl ?_
  k_places
  exact s_need_bad hK hq ht hw hr h
theorem s_told (hK : Kc c) (hq : c.q = true) {fs : Int} {a : Addr} {rs : List Ru} (h0 : 0 ≤ fs) (h1 : fs ≤ 999982) (hr : ∀ r ∈ rs, r.Ok) (hl : rs.length ≤ 100) (hg : get st a = some (.list (rs.map Ru.v)))
    (h : ∀ d st', Le st st' → get st d = none → get st' d = some (.list ((stL fs rs (rs.length + 1)).map .int)) → Q (.ref d) st') : CF c (k + 6) A_law_told [.int fs, .ref a] ρ st Q X := by
  refine CallW.fn (Facts.fn_law_told hK) rfl ?_
  refine WPS.cons ?_
  refine WPs.tryE rfl (Facts.g_MarkError hK) rfl ?_
  k_places
  refine s_states hK hq h0 h1 hr hl hg ?_
  intro d st' h1 h2 h3
  fold_depth
  exact h d st' h1 h2 h3
theorem refused (hK : Kc c) {x : Str} (hx : x = "count" ∨ x = "rule") {e : Addr} (hg : get st e = some (.exc (clsOf x))) (h : ∀ st', Le st st' → Q (.tup [.str "refused", .str x]) st') : CF c (k + 1) A_law_class [.ref e] ρ st Q X := by
  rcases hx with rfl | rfl
  · obtain ⟨q0, q1, q2, q3, q4, q5, q6, q7, q8⟩ := Facts.kit_BadCount hK
    refine s_class (C := A_BadCount) hK hg (Facts.ek_BadCount hK) q0 q1 q2 q3 q4 q5 q6 q7 q8 (b0 := true) (b1 := false) (b2 := false) (b3 := false) (b4 := false) (b5 := false) (b6 := false) (b7 := false) rfl rfl rfl h
  · obtain ⟨q0, q1, q2, q3, q4, q5, q6, q7, q8⟩ := Facts.kit_BadRule hK
    refine s_class (C := A_BadRule) hK hg (Facts.ek_BadRule hK) q0 q1 q2 q3 q4 q5 q6 q7 q8 (b0 := false) (b1 := true) (b2 := false) (b3 := false) (b4 := false) (b5 := false) (b6 := false) (b7 := false) rfl rfl rfl h
theorem exm_cls2 (hK : Kc c) {x : Str} (hx : x = "count" ∨ x = "rule") : exmOne c.K (.ref (clsOf x)) (.ref A_MarkError) = some true := by
  rcases hx with rfl | rfl
  · exact Facts.em_BadCount hK
  · exact Facts.em_BadRule hK
theorem s_told_bad (hK : Kc c) (hq : c.q = true) {v w : V} {T : String} {x : Str} (ht : typV st v = some T) (hw : Wr st w) (hr : Ref st v w x) (h : ∀ st', Le st st' → Q (.tup [.str "refused", .str x]) st') : CF c (k + 6) A_law_told [v, w] ρ st Q X := by
  have hx : x = "count" ∨ x = "rule" := by cases hr <;> first | exact .inl rfl | exact .inr rfl
  refine CallW.fn (Facts.fn_law_told hK) rfl ?_
  refine WPS.cons ?_
  refine WPs.tryE rfl (Facts.g_MarkError hK) rfl ?_
  k_places
  refine s_states_bad hK hq ht hw hr ⟨exm_cls2 hK hx, fun e he => ?_⟩
  have hK' : Kc c.off := hK
  k_places
  refine refused (c := c.off) hK' hx get_head ?_
  intro st' hle
  fold_depth
  exact h st' ((Le.alloc he).trans hle)
end

section
variable {c : Cx} {k : Nat} {ρ : Loc} {st : St} {Q : V → St → Prop} {X : Xp}
theorem Wr.up {st' : St} (hle : Le st st') {w : V} (h : Wr st w) : Wr st' w := by
  cases h with
  | list hg hl he => exact .list (hle _ _ hg) hl fun u hu => (he u hu).up hle
  | tup hl he => exact .tup hl fun u hu => (he u hu).up hle
  | str x => exact .str x
  | none => exact .none
theorem Wr.rus {a : Addr} {rs : List Ru} (hl : rs.length ≤ 101) (hg : get st a = some (.list (rs.map Ru.v))) : Wr st (.ref a) := .list hg (by simpa using hl) (by intro u hu; obtain ⟨r, _, rfl⟩ := List.mem_map.mp hu; exact r.el)
/-- the eight odd things -/
structure Odd (st : St) (v : V) : Prop where
  el : El st v
  no : ruleV v = false
theorem odd_tup {us : List V} (hl : Nat.blt us.length 1000 = true) (hu : us.all (fun u => (typV st u).isSome) = true) (hs : us.all flatV = true) (h : ruleV (.tup us) = false) : Odd st (.tup us) :=
  ⟨⟨⟨_, rfl⟩, (fun vs e => by cases e; exact ⟨by simpa [Nat.blt_eq] using hl, fun u hu' => List.all_eq_true.mp hu u hu'⟩), hs⟩, h⟩
theorem odd_list {a : Addr} {vs : List V} (hg : get st a = some (.list vs)) : Odd st (.ref a) := ⟨⟨⟨"list", by simp [typV, hg]⟩, (fun vs e => by cases e), rfl⟩, rfl⟩
theorem odd_dict {a : Addr} (hg : get st a = some (.dictI [])) : Odd st (.ref a) := ⟨⟨⟨"dict", by simp [typV, hg]⟩, (fun vs e => by cases e), rfl⟩, rfl⟩
theorem odd_none : Odd st .none := ⟨⟨⟨_, rfl⟩, (fun vs e => by cases e), rfl⟩, rfl⟩
/-- what comes of the spoiling -/
inductive Sp (st : St) (fs : Int) (d : Addr) : V → V → V → Prop
  | same : Sp st fs d (.int fs) (.ref d) .none
  | rule {w : V} : Wr st w → Ref st (.int fs) w "rule" → Sp st fs d (.int fs) w (.str "rule")
  | count {v w : V} : (typV st v).isSome = true → btwV 0 999982 v = false → Wr st w → Sp st fs d v w (.str "count")
local macro_rules | `(tactic| k_upd) => `(tactic| first | exact Le.refl | exact (Le.alloc (by assumption)) | (refine Le.trans ?_ (Le.alloc (by assumption)); k_upd))
theorem s_spoilt (hK : Kc c) (hq : c.q = true) {ns : List Int} {fs : Int} {d : Addr} {rs : List Ru} (hl : ns.length < 1000) (h0 : 0 ≤ fs) (h1 : fs ≤ 999982) (hr : ∀ r ∈ rs, r.Ok) (hrl : rs.length ≤ 101) (hg : get st d = some (.list (rs.map Ru.v)))
    (h : ∀ v w due st', Le st st' → Sp st' fs d v w due → Q (.tup [v, w, due]) st') : CF c (k + 2) A_law_spoilt [.scr ns, .int fs, .ref d] ρ st Q X := by
  refine CallW.fn (Facts.fn_law_spoilt hK) rfl ?_
  have hb : btwV 0 999982 (.int fs) = true := by simp [btwV, h0, h1]
  -- the end: the first, too, or not
  have last : ∀ (cell : Int) (w due : V) (ρ₁ : Loc) (st₁ : St), Le st st₁ → Wr st₁ w → Sub [("_law_cell", .int cell), ("_law_first", .int fs), ("_law_rules", w), ("_law_due", due)] ρ₁ → (¬ (cell.fdiv 4).fmod 3 < 2 → due = .str "rule" ∧ Ref st₁ (.int fs) w "rule") →
      WPS c (k + 1) (S_law_spoilt) ρ₁ st₁ (B_law_spoilt.drop 4) (fun fl _ st' => Q (retV fl) st') (fun C _ st' => X C ρ st') := by
    intro cell w due ρ₁ st₁ hle hw hsub hdue
    refine WPS.locs ?_ hsub
    k_places
    refine W2.divI (by decide) (by decide) ?_
    fold_depth
    refine W2.modI (by decide) ?_
    fold_depth
    refine cnd_cases (fun hc => ?_) (fun hc => ?_)
    · fold_depth
      intro a2 ha2
      fold_depth
      intro a3 ha3
      fold_depth
      refine W2.divI (by decide) (by decide) ?_
      fold_depth
      refine W2.modI (by decide) ?_
      have h6 := fmod_lt (a := cell.fdiv 11) (b := 6) (by decide)
      generalize (cell.fdiv 11).fmod 6 = j at h6
      have hw3 := (hw.up (Le.alloc (o := .list [.int 0]) ha2)).up (Le.alloc (o := .list [.int 999983, .int (-1), .bool true, .none, .str "0", .ref a2]) ha3)
      have e3 : j = 0 ∨ j = 1 ∨ j = 2 ∨ j = 3 ∨ j = 4 ∨ j = 5 := by omega
      rcases e3 with rfl | rfl | rfl | rfl | rfl | rfl
      all_goals
        refine W2.listAt get_head rfl rfl (by rfl) ?_
        fold_depth
        refine h _ _ _ _ ((hle.cons ha2).cons ha3) (.count ?_ rfl hw3)
        first | rfl | (rw [typ_mono (T := "list") (Le.alloc ha3) (by simp [typV, get_head])]; rfl)
    · have hn : ¬ (cell.fdiv 4).fmod 3 < 2 := by simpa using hc
      obtain ⟨rfl, hrf⟩ := hdue hn
      fold_depth
      exact h _ _ _ _ hle (.rule hw hrf)
  k_places
  refine s_number hK (by decide) (by decide) hl ?_
  fold_depth
  generalize numV ns 2 = cell
  refine W2.modI (by decide) ?_
  fold_depth
  refine cnd_cases (fun hc => ?_) (fun hc => ?_)
  · fold_depth
    exact h _ _ _ _ .refl .same
  fold_depth
  refine W2.modI (by decide) ?_
  fold_depth
  refine cnd_cases (fun hc2 => ?_) (fun hc2 => ?_)
  · fold_depth
    exact h _ _ _ _ .refl .same
  fold_depth
  refine W2.divI (by decide) (by decide) ?_
  fold_depth
  refine W2.modI (by decide) ?_
  fold_depth
  refine cnd_cases (fun hc3 => ?_) (fun hc3 => ?_)
  · -- the rules are spoilt
    refine WPS.cons ?_
    repeat' (first | k_memK | (with_reducible refine WPE.dict0 ?_) | (intro _ _))
    rename_i a1 ha1 a2 ha2 lo hlo
    refine WPS.cons ?_
    k_ownIn
    intro a4 ha4
    refine W2.eqNil (vs := rs.map Ru.v) (by k_offL) get_head ?_
    have fin : ∀ (w : V) (ρ₁ : Loc) (st₁ : St), Le st st₁ → Wr st₁ w → Ref st₁ (.int fs) w "rule" → Sub [("_law_cell", .int cell), ("_law_first", .int fs), ("_law_rules", w), ("_law_due", .str "rule")] ρ₁ →
        WPS c (k + 1) (S_law_spoilt) ρ₁ st₁ (B_law_spoilt.drop 4) (fun fl _ st' => Q (retV fl) st') (fun C _ st' => X C ρ st') :=
      fun w ρ₁ st₁ hle hw hrf hsub => last cell w (.str "rule") ρ₁ st₁ hle hw hsub fun _ => ⟨rfl, hrf⟩
    have hels : ∀ st', ∀ u ∈ rs.map Ru.v, El st' u := fun st' u hu => by obtain ⟨r, _, rfl⟩ := List.mem_map.mp hu; exact r.el
    refine ⟨_, rfl, ?_⟩
    refine cnd_cases (fun he => ?_) (fun he => ?_)
    rotate_left
    fold_depth
    refine W2.divI (by decide) (by decide) ?_
    fold_depth
    refine W2.modI (by decide) ?_
    fold_depth
    refine cnd_cases (fun he2 => ?_) (fun he2 => ?_)
    rotate_left
    · -- one of them is an odd thing
      k_ownIn
      have hne : 0 < rs.length := by
        cases rs with
        | nil => simp at he
        | cons => simp
      refine WPS.cons ?_
      k_ownIn
      refine W2.divI (by decide) (by decide) ?_
      k_ownIn
      refine WL.lenList (vs := rs.map Ru.v) (by k_offL) (by simp; omega) ?_
      refine W2.modI (by rw [List.length_map]; omega) ?_
      rw [List.length_map]
      have ht := fmod_lt (a := cell.fdiv 60) (b := (rs.length : Int)) (by omega)
      generalize (cell.fdiv 60).fmod (rs.length : Int) = tt at ht
      obtain ⟨tt, rfl⟩ : ∃ n : Nat, tt = n := ⟨tt.toNat, by omega⟩
      k_ownIn
      refine WPS.cons ?_
      k_ownIn
      refine ⟨_, rs.map Ru.v, 0, tt, rfl, by k_offL, by simp; omega, sb_upto (by simp; omega), ?_⟩
      intro a6 ha6
      k_ownIn
      refine W2.divI (by decide) (by decide) ?_
      k_ownIn
      refine W2.modI (by decide) ?_
      have h8 := fmod_lt (a := cell.fdiv 7) (b := 8) (by decide)
      generalize (cell.fdiv 7).fmod 8 = jj at h8
      obtain ⟨jj, rfl⟩ : ∃ n : Nat, jj = n := ⟨jj.toNat, by omega⟩
      obtain ⟨v, hv⟩ : ∃ v, ([.tup [.str "add"], .tup [.str "add", .int 999983], .tup [.str "sub", .int 1], .ref a1, .none, .tup [.str "half", .int 1], .tup [.str "times", .bool true], .ref a2] : List V)[jj]? = some v := ⟨_, List.getElem?_eq_getElem (by simp; omega)⟩
      refine W2.subList (v := v) (by k_offL) rfl (by simp) (seqIndex_pos (by omega) (by simp; omega)) hv ?_
      k_ownIn
      intro a7 ha7
      refine W2.addList (by k_offL) (by k_offL) (by simp; exact small_ok'' (by omega)) ?_
      intro a8 ha8
      k_ownIn
      refine ⟨_, rs.map Ru.v, tt + 1, rs.length, rfl, by k_offL, by simp; omega, ?_, ?_⟩
      · have := sb_from (n := rs.length) (x := tt + 1) (by omega)
        simpa using this
      intro a9 ha9
      refine W2.addList (by k_offL) (by k_offL) (by simp; exact small_ok'' (by omega)) ?_
      intro al hal
      k_ownIn
      refine WPS.cons ?_
      k_ownIn
      have hvo : Odd ((lo, .list [.tup [.str "add"], .tup [.str "add", .int 999983], .tup [.str "sub", .int 1], .ref a1, .none, .tup [.str "half", .int 1], .tup [.str "times", .bool true], .ref a2]) :: (a2, .dictI []) :: (a1, .list [.str "add", .int 1]) :: st) v := by
        have hm := List.mem_of_getElem? hv
        simp at hm
        rcases hm with rfl | rfl | rfl | rfl | rfl | rfl | rfl | rfl
        · exact odd_tup rfl rfl rfl rfl
        · exact odd_tup rfl rfl rfl rfl
        · exact odd_tup rfl rfl rfl rfl
        · exact odd_list (vs := [.str "add", .int 1]) (by k_offL)
        · exact odd_none
        · exact odd_tup rfl rfl rfl rfl
        · exact odd_tup rfl rfl rfl rfl
        · exact odd_dict (by k_offL)
      refine fin _ _ _ (by k_upd) (.list get_head (by simp; omega) ?_) (.odd (u := v) hb get_head (by simp) hvo.no) (Sub.of (by intro p hp; simp at hp; rcases hp with rfl | rfl | rfl | rfl <;> rfl))
      intro u hu
      rcases List.mem_append.mp hu with hu | hu
      · rcases List.mem_append.mp hu with hu | hu
        · exact hels _ u (List.mem_of_mem_drop (List.mem_of_mem_take hu))
        · simp at hu; subst hu; exact hvo.el.up (by k_upd)
      · exact hels _ u (List.mem_of_mem_drop (List.mem_of_mem_take hu))
    all_goals
      try (k_ownIn; refine WPS.cons ?_; k_ownIn)
      refine WL.tupOf (vs := rs.map Ru.v) (by k_offL) (by simp; omega) ?_
      k_ownIn
      intro a5 ha5
      k_ownIn
      refine W2.divI (by decide) (by decide) ?_
      k_ownIn
      refine W2.modI (by decide) ?_
      have h3 := fmod_lt (a := cell.fdiv 60) (b := 3) (by decide)
      generalize (cell.fdiv 60).fmod 3 = jj at h3
      have e3 : jj = 0 ∨ jj = 1 ∨ jj = 2 := by omega
      rcases e3 with rfl | rfl | rfl
      · refine W2.listAt get_head rfl rfl (by rfl) ?_
        k_ownIn
        refine WPS.cons ?_
        k_ownIn
        exact fin _ _ _ (by k_upd) (.tup (by simp; omega) (hels _)) (.tup hb) (Sub.of (by intro p hp; simp at hp; rcases hp with rfl | rfl | rfl | rfl <;> rfl))
      · refine W2.listAt get_head rfl rfl (by rfl) ?_
        k_ownIn
        refine WPS.cons ?_
        k_ownIn
        exact fin _ _ _ (by k_upd) (.str _) (.str hb) (Sub.of (by intro p hp; simp at hp; rcases hp with rfl | rfl | rfl | rfl <;> rfl))
      · refine W2.listAt get_head rfl rfl (by rfl) ?_
        k_ownIn
        refine WPS.cons ?_
        k_ownIn
        exact fin _ _ _ (by k_upd) .none (.none hb) (Sub.of (by intro p hp; simp at hp; rcases hp with rfl | rfl | rfl | rfl <;> rfl))
  · k_ownIn
    have hn : ¬ 0 < (cell.fdiv 4).fmod 3 := by simpa using hc3
    refine last cell (.ref d) .none _ _ .refl (.rus hrl hg) (Sub.of (by intro p hp; simp at hp; rcases hp with rfl | rfl | rfl | rfl <;> rfl)) ?_
    intro q
    omega
end

section
variable {c : Cx} {k : Nat} {ρ : Loc} {st : St} {Q : V → St → Prop} {X : Xp}
theorem eq_ref {x : Str} (hx : x = "count" ∨ x = "rule") (h : Q (.bool true) st) : W2 c k (compareOp .Eq) (.tup [.str "refused", .str x]) (.tup [.str "refused", .str x]) ρ st Q X := by
  refine W2.eq (da := .tuple [.str "refused", .str x]) (db := .tuple [.str "refused", .str x]) (.tup (.cons (.str _) (.cons (.str _) .nil))) (.tup (.cons (.str _) (.cons (.str _) .nil))) ?_ ?_ ?_
  · rcases hx with rfl | rfl <;> decide +kernel
  · rcases hx with rfl | rfl <;> decide +kernel
  · rw [show PyData.eqv (.tuple [.str "refused", .str x]) (.tuple [.str "refused", .str x]) = true from SeqAt.eqv_refl _ (by rcases hx with rfl | rfl <;> decide +kernel)]
    exact h
abbrev LS (c : Cx) : Scope := S_law
abbrev LB (c : Cx) (n : Nat) : List Stmt := B_law.drop n
abbrev TR : Fl → Loc → St → Prop := fun fl _ _ => retV fl = .bool true
/-- it is refused, as is due -/
theorem fin_bad (hK : Kc c) (hq : c.q = true) {v w : V} {x : Str} {ρ₁ : Loc} (ht : (typV st v).isSome = true) (hw : Wr st w) (hr : Ref st v w x) (hs : Sub [("_law_first", v), ("_law_rules", w), ("_law_due", .str x)] ρ₁) : WPS c 20 (LS c) ρ₁ st (LB c 4) TR X := by
  obtain ⟨T, ht⟩ := Option.isSome_iff_exists.mp ht
  have hx : x = "count" ∨ x = "rule" := by cases hr <;> first | exact .inl rfl | exact .inr rfl
  refine WPS.locs ?_ hs
  cases hw with
  | @list a vs hg hl he =>
    k_places
    refine WL.isinstance (T := "list") (by simp [typV, hg]) rfl ?_
    fold_depth
    refine WL.listOf hg (by omega) ?_
    intro b hb
    fold_depth
    have hle := Le.alloc (o := .list vs) hb
    have hr' : Ref ((b, .list vs) :: st) v (.ref b) x := by
      cases hr with
      | count q => exact .count q
      | long q1 q2 q3 => rw [hg] at q2; cases q2; exact .long q1 get_head q3
      | odd q1 q2 q3 q4 => rw [hg] at q2; cases q2; exact .odd q1 get_head q3 q4
    refine s_told_bad hK hq (typ_mono hle ht) (.list get_head hl fun u hu => (he u hu).up hle) hr' ?_
    intro st₁ hle₁
    fold_depth
    refine W2.neSelfL (hle₁ _ _ get_head) ((hle.trans hle₁) _ _ hg) (fun u hu => (he u hu).self) ?_
    fold_depth
    exact eq_ref hx rfl
  | @tup vs hl he =>
    k_places
    refine s_told_bad hK hq ht (.tup hl he) hr ?_
    intro st₁ hle₁
    fold_depth
    refine W2.neSelfT (fun u hu => (he u hu).self) ?_
    fold_depth
    exact eq_ref hx rfl
  | str y =>
    k_places
    refine s_told_bad hK hq ht (.str _) hr ?_
    intro st₁ hle₁
    fold_depth
    refine cnd_is false (by simp) ?_
    fold_depth
    exact eq_ref hx rfl
  | none =>
    k_places
    refine s_told_bad hK hq ht .none hr ?_
    intro st₁ hle₁
    fold_depth
    refine W2.neNone ?_
    fold_depth
    exact eq_ref hx rfl
/-- it is told, as is due -/
theorem fin_good (hK : Kc c) (hq : c.q = true) {fs : Int} {rs : List Ru} {d : Addr} {ρ₁ : Loc} (h0 : 0 ≤ fs) (h1 : fs ≤ 999982) (hr : ∀ r ∈ rs, r.Ok) (hl : rs.length ≤ 100) (hg : get st d = some (.list (rs.map Ru.v))) (hs : Sub [("_law_first", .int fs), ("_law_rules", .ref d), ("_law_due", .none)] ρ₁) : WPS c 20 (LS c) ρ₁ st (LB c 4) TR X := by
  refine WPS.locs ?_ hs
  k_places
  refine WL.isinstance (T := "list") (by simp [typV, hg]) rfl ?_
  fold_depth
  refine WL.listOf hg (by simp; omega) ?_
  intro b hb
  fold_depth
  have hle := Le.alloc (o := .list (rs.map Ru.v)) hb
  refine s_told hK hq h0 h1 hr hl get_head ?_
  intro fd st₁ hle₁ hfn hfd
  fold_depth
  have gb : get st₁ b = some (.list (rs.map Ru.v)) := hle₁ _ _ get_head
  have gd : get st₁ d = some (.list (rs.map Ru.v)) := (hle.trans hle₁) _ _ hg
  have hbd : d ≠ b := fun q => by rw [q, hb] at hg; cases hg
  have hfb : fd ≠ b := fun q => by rw [q, get_head] at hfn; cases hfn
  have hfd' : fd ≠ d := fun q => by rw [q, hle _ _ hg] at hfn; cases hfn
  refine W2.neSelfL gb gd (by intro u hu; obtain ⟨r, _, rfl⟩ := List.mem_map.mp hu; exact (r.el (st := st)).self) ?_
  fold_depth
  refine ⟨_, _, rfl, gb, ?_⟩
  fold_depth
  refine WL.append gb (by simp; omega) ?_
  fold_depth
  generalize hst₂ : upd st₁ b (.list (rs.map Ru.v ++ [.none])) = st₂
  have gd₂ : get st₂ d = some (.list (rs.map Ru.v)) := by rw [← hst₂, get_upd_ne hbd]; exact gd
  have gf₂ : get st₂ fd = some (.list ((stL fs rs (rs.length + 1)).map .int)) := by rw [← hst₂, get_upd_ne hfb]; exact hfd
  refine s_law_states hK hq h0 h1 hr (by omega) gd₂ ?_
  intro ag st₃ hle₃ han hag
  fold_depth
  have gf₃ := hle₃ _ _ gf₂
  refine WL.isinstance (T := "list") (by simp [typV, gf₃]) rfl ?_
  fold_depth
  refine W2.neInts gf₃ hag ?_
  fold_depth
  refine cnd_is false (by simp) ?_
  fold_depth
  refine ⟨_, .list gf₃, by simp [stL_len]; exact small_ok'' (by omega), ?_⟩
  refine COMP.pure (fun _ => V.bool true) (.list gf₃) ?_ ?_
  · intro i u hu
    rw [List.getElem?_map] at hu
    obtain ⟨z, _, rfl⟩ := Option.map_eq_some_iff.mp hu
    fold_depth
    exact s_whole hK ⟨rfl, rfl⟩
  intro bl hbl
  fold_depth
  refine WL.allBools (bs := (List.range ((stL fs rs (rs.length + 1)).map V.int).length).map fun _ => true) hq (by rw [get_head, List.map_map]; rfl) ?_
  fold_depth
  refine cnd_is true (by simp) ?_
  have hle₄ := Le.alloc (o := .list ((List.range ((stL fs rs (rs.length + 1)).map V.int).length).map fun _ => V.bool true)) hbl
  have gf₄ := hle₄ _ _ gf₃
  have gd₄ := hle₄ _ _ (hle₃ _ _ gd₂)
  have ga₄ := hle₄ _ _ hag
  have haf : ag ≠ fd := fun q => by rw [q, gf₂] at han; cases han
  generalize ((bl, O.list ((List.range ((stL fs rs (rs.length + 1)).map V.int).length).map fun _ => V.bool true)) :: st₃) = st₄ at gf₄ gd₄ ga₄
  k_ownIn
  k_places
  refine ⟨_, _, rfl, gf₄, ?_⟩
  fold_depth
  refine WL.append gf₄ (by simp [stL_len]; omega) ?_
  fold_depth
  generalize hst₅ : upd st₄ fd (.list (((stL fs rs (rs.length + 1)).map V.int) ++ [.int 0])) = st₅
  have gf₅ : get st₅ fd = some (.list ((stL fs rs (rs.length + 1) ++ [0]).map .int)) := by rw [← hst₅, get_upd_self gf₄, List.map_append]; rfl
  have gd₅ : get st₅ d = some (.list (rs.map Ru.v)) := by rw [← hst₅, get_upd_ne (Ne.symm hfd')]; exact gd₄
  have ga₅ : get st₅ ag = some (.list ((stL fs rs (rs.length + 1)).map .int)) := by rw [← hst₅, get_upd_ne haf]; exact ga₄
  refine WL.listOf gd₅ (by simp; omega) ?_
  intro b2 hb2
  fold_depth
  refine s_told hK hq h0 h1 hr hl get_head ?_
  intro f2 st₆ hle₆ _ hf2
  fold_depth
  have L6 := (Le.alloc (o := .list (rs.map Ru.v)) hb2).trans hle₆
  refine W2.eqInts hf2 (L6 _ _ ga₅) ?_
  fold_depth
  refine cnd_is true (by simp) ?_
  fold_depth
  intro b3 hb3
  refine W2.cat (vs := (stL fs rs (rs.length + 1)).map .int) (ws := [.int 0]) ((Le.alloc hb3) _ _ (L6 _ _ ga₅)) get_head (by simp [stL_len, Nat.ble_eq]; omega) ?_
  intro b4 hb4
  refine W2.eqInts (ns := stL fs rs (rs.length + 1) ++ [0]) (ms := stL fs rs (rs.length + 1) ++ [0]) ((Le.alloc hb4) _ _ ((Le.alloc hb3) _ _ (L6 _ _ gf₅))) (by rw [get_head, List.map_append]; rfl) ?_
  rw [show decide (stL fs rs (rs.length + 1) ++ [0] = stL fs rs (rs.length + 1) ++ [0]) = true by simp]
  exact nxt_ret rfl
theorem mid (hK : Kc c) (hq : c.q = true) {ns : List Int} (hl : ns.length < 1000) {fs : Int} {rs : List Ru} {d : Addr} {ρ₁ : Loc} (h0 : 0 ≤ fs) (h1 : fs ≤ 999982) (hr : ∀ r ∈ rs, r.Ok) (hrl : rs.length ≤ 101) (hg : get st d = some (.list (rs.map Ru.v))) (hs : Sub [("_law_script", .scr ns), ("_law_first", .int fs), ("_law_rules", .ref d)] ρ₁) : WPS c 20 (LS c) ρ₁ st (LB c 2) TR X := by
  refine WPS.locs ?_ hs
  refine WPS.cons ?_
  refine WPs.unpack hq rfl rfl ?_
  k_ownIn
  refine s_spoilt hK hq hl h0 h1 hr hrl hg ?_
  intro v w due st₁ hle hsp
  refine ⟨_, rfl, rfl, ?_⟩
  cases hsp with
  | same =>
    have gd := hle _ _ hg
    k_ownIn
    refine WPS.cons ?_
    k_ownIn
    refine WL.lenList gd (by simp; omega) ?_
    k_ownIn
    refine cnd_cases (fun hb => ?_) (fun hb => ?_)
    · have hb' : 100 < rs.length := by simp at hb; omega
      k_ownIn
      refine WPS.cons ?_
      k_ownIn
      exact fin_bad (v := .int fs) (w := .ref d) (x := "rule") hK hq rfl (.rus hrl gd) (.long (by simp [btwV, h0, h1]) gd (by simpa using hb')) (Sub.of (by intro p hp; simp at hp; rcases hp with rfl | rfl | rfl <;> rfl))
    · have hb' : rs.length ≤ 100 := by simp at hb; omega
      k_ownIn
      exact fin_good hK hq h0 h1 hr hb' gd (Sub.of (by intro p hp; simp at hp; rcases hp with rfl | rfl | rfl <;> rfl))
  | rule hw hrf =>
    k_ownIn
    refine WPS.cons ?_
    k_ownIn
    exact fin_bad (x := "rule") hK hq rfl hw hrf (Sub.of (by intro p hp; simp at hp; rcases hp with rfl | rfl | rfl <;> rfl))
  | count ht hb hw =>
    k_ownIn
    refine WPS.cons ?_
    k_ownIn
    exact fin_bad (x := "count") hK hq ht hw (.count hb) (Sub.of (by intro p hp; simp at hp; rcases hp with rfl | rfl | rfl <;> rfl))
theorem law_ok (hK : Kc c) (hq : c.q = true) {ns : List Int} (hl : ns.length < 1000) : WPS c 20 (S_law) [("_law_script", .scr ns)] [] B_law (fun fl _ _ => retV fl = .bool true) X := by
  refine WPS.cons ?_
  refine WPs.unpack hq rfl rfl ?_
  k_ownIn
  refine s_row (a := 3) (m := 12) hK hq (by decide) (by decide) hl ?_
  intro fs rs d st₁ h0 h1 hr hrl hle hn hg
  refine ⟨_, rfl, rfl, ?_⟩
  k_ownIn
  refine WPS.cons ?_
  k_ownIn
  refine s_cell_at hK (by decide) hl ?_
  k_ownIn
  refine W2.modI (by decide) ?_
  k_ownIn
  refine cnd_cases (fun hb => ?_) (fun hb => ?_)
  · k_ownIn
    refine WPS.cons ?_
    refine WPs.asgComp hq rfl rfl ?_ (by intro env he; unfold swapsWith; simp only [Env.blockKind, Env.kindOf, he]; rfl)
    k_ownIn
    refine s_cell_at hK (by decide) hl ?_
    k_ownIn
    refine W2.divI (by decide) (by decide) ?_
    k_ownIn
    refine W2.modI (by decide) ?_
    have hm := fmod_lt (a := (cellV ns 0).fdiv 8) (b := 2) (by decide)
    generalize ((cellV ns 0).fdiv 8).fmod 2 = jj at hm
    obtain ⟨jj, rfl⟩ : ∃ n : Nat, jj = n := ⟨jj.toNat, by omega⟩
    k_ownIn
    have hsrc : ∀ st', Src st' (.rng 0 (100 + (jj : Int)) 1) (upTo 0 (100 + jj)) := fun st' => Src.up 0 (100 + jj) rfl (by omega) (by omega)
    refine WL.range1 ⟨_, hsrc _, by rw [upTo_len]; exact small_ok'' (by omega), ?_⟩
    refine COMP.inv (fun i acc st₂ => Le st₁ st₂ ∧ ∃ rs : List Ru, acc = rs.map Ru.v ∧ rs.length = i ∧ ∀ r ∈ rs, r.Ok) ⟨Le.refl, [], rfl, rfl, by intro r hr; cases hr⟩ ?_ ?_
    · rintro i u acc st₂ hu ⟨hle₂, rs, rfl, hrl, hrs⟩
      obtain ⟨hi, rfl⟩ := upTo_get hu
      fold_depth
      refine s_number hK (by omega) (by omega) hl ?_
      fold_depth
      refine s_rule hK fun r st₃ hr hle₃ => ⟨hsrc _, hle₂.trans hle₃, rs ++ [r], by simp, by simp [hrl], ?_⟩
      intro r' hr'
      rcases List.mem_append.mp hr' with q | q
      · exact hrs r' q
      · simp at q; subst q; exact hr
    · rintro acc st₂ ⟨hle₂, rs, rfl, hrl, hrs⟩
      intro d hd
      rw [upTo_len] at hrl
      k_ownIn
      exact mid hK hq hl h0 h1 hrs (by omega) get_head (Sub.of (by intro p hp; simp at hp; rcases hp with rfl | rfl | rfl <;> rfl))
  · k_ownIn
    exact mid hK hq hl h0 h1 hr (by omega) hg (Sub.of (by intro p hp; simp at hp; rcases hp with rfl | rfl | rfl <;> rfl))
end

end Mine
def Mine.top.tw16900427199656544559 : Unit := ()
def Mine.top.tw18186074749648716422 : Unit := ()
def Mine.top.tw13177472732611162249 : Unit := ()
def Mine.top.tw15569959144833144457 : Unit := ()
def Mine.top.tw14372152842798730730 : Unit := ()
def Mine.top.tw12094960947251128927 : Unit := ()
def Mine.top.tw12317137736924338119 : Unit := ()
def Mine.top.tw4498253355057717688 : Unit := ()
def Mine.top.tw16541100652227675460 : Unit := ()
def Mine.top.tw8443935842833279946 : Unit := ()
def Mine.top.tw14208091113509526093 : Unit := ()
def Mine.top.tw13370750898655102155 : Unit := ()
def Mine.top.tw16082718784150747160 : Unit := ()
def Mine.top.tw2243170655852947205 : Unit := ()
def Mine.top.tw18064794426631996164 : Unit := ()
def Mine.top.tw7429413206186439793 : Unit := ()
def Mine.top.tw4047667213573674445 : Unit := ()
def Mine.top.tw2812155379371279736 : Unit := ()
def Mine.top.tw11470252648414753811 : Unit := ()
def Mine.top.tw8321918168302905379 : Unit := ()
def Mine.top.tw8265191368974092141 : Unit := ()
def Mine.top.tw23087011456773342 : Unit := ()
def Mine.top.tw7458633546980236471 : Unit := ()
def Mine.top.tw620129878449983639 : Unit := ()
def Mine.top.tw9614876229902214918 : Unit := ()
def Mine.top.tw16123964013534891561 : Unit := ()
def Mine.top.tw16273406610938067001 : Unit := ()
def Mine.top.tw2834867161891130308 : Unit := ()
def Mine.top.tw17315540178315561739 : Unit := ()
def Mine.top.tw14597223018079223185 : Unit := ()
def Mine.top.tw11960245374511038805 : Unit := ()
def Mine.top.tw6333448901615975916 : Unit := ()
def Mine.top.tw16438675227054289182 : Unit := ()
def Mine.top.tw11624971203582042403 : Unit := ()
def Mine.top.tw11219769389204665010 : Unit := ()
def Mine.top.tw1676862907878916244 : Unit := ()
def Mine.top.tw968817249337777631 : Unit := ()
def Mine.top.tw1149218181149386328 : Unit := ()
def Mine.top.tw9378254376102152143 : Unit := ()
def Mine.top.tw2462062305354472974 : Unit := ()
def Mine.top.tw10550483600851626476 : Unit := ()
def Mine.top.tw16598799759364053327 : Unit := ()
def Mine.top.tw4159251561096739476 : Unit := ()
def Mine.top.tw3561193834555079511 : Unit := ()
def Mine.top.tw9063741608606530840 : Unit := ()
def Mine.top.tw16174758807025615021 : Unit := ()
def Mine.top.tw14282377253939248939 : Unit := ()
def Mine.top.tw11334350811105764591 : Unit := ()
def Mine.top.tw6919701780365589675 : Unit := ()
def Mine.top.tw9382581127745807760 : Unit := ()
def Mine.top.tw5969682004907312646 : Unit := ()
def Mine.top.tw6883741973766446791 : Unit := ()
def Mine.top.tw15988258018655671626 : Unit := ()
def Mine.top.tw6189045185395380447 : Unit := ()
set_option Elab.async true in
set_option maxHeartbeats 8000000 in
theorem Mine.top : PySem.Challenge.rw_uf040029_02.Holds := by
  w_on; o_law; k_head; (case hw => w_witness2)
  intro w s₀ s₁ mg mb G Y fa o pm cd doc dV kV ho hd' hcd hD hmg hg args vals as hpre hlay hrd hwl hlo
  have KX := kIn_of Y
  have T := G.T
  refine Mine.useK KX ?_ (fun kf => ?_)
  · exact {
      fn_between := ⟨⟨_, _, rfl, rfl, rfl, rfl, rfl, rfl, rfl, rfl, fun xs h => by obtain ⟨x0, ys0, e0, h0⟩ := Mine.len1 h; subst e0; obtain ⟨x1, ys1, e1, h1⟩ := Mine.len1 h0; subst e1; obtain ⟨x2, ys2, e2, h2⟩ := Mine.len1 h1; subst e2; have e := Mine.len0 h2; subst e; rfl⟩, by rfl, rfl, rfl, rfl, by decide⟩
      g_between := rfl
      k_between := rfl
      fn_is_state := ⟨⟨_, _, rfl, rfl, rfl, rfl, rfl, rfl, rfl, rfl, fun xs h => by obtain ⟨x0, ys0, e0, h0⟩ := Mine.len1 h; subst e0; have e := Mine.len0 h0; subst e; rfl⟩, by rfl, rfl, rfl, rfl, by decide⟩
      g_is_state := rfl
      k_is_state := rfl
      fn_is_rule := ⟨⟨_, _, rfl, rfl, rfl, rfl, rfl, rfl, rfl, rfl, fun xs h => by obtain ⟨x0, ys0, e0, h0⟩ := Mine.len1 h; subst e0; have e := Mine.len0 h0; subst e; rfl⟩, by rfl, rfl, rfl, rfl, by decide⟩
      g_is_rule := rfl
      k_is_rule := rfl
      fn_forth := ⟨⟨_, _, rfl, rfl, rfl, rfl, rfl, rfl, rfl, rfl, fun xs h => by obtain ⟨x0, ys0, e0, h0⟩ := Mine.len1 h; subst e0; obtain ⟨x1, ys1, e1, h1⟩ := Mine.len1 h0; subst e1; have e := Mine.len0 h1; subst e; rfl⟩, by rfl, rfl, rfl, rfl, by decide⟩
      g_forth := rfl
      k_forth := rfl
      fn_need_row := ⟨⟨_, _, rfl, rfl, rfl, rfl, rfl, rfl, rfl, rfl, fun xs h => by obtain ⟨x0, ys0, e0, h0⟩ := Mine.len1 h; subst e0; obtain ⟨x1, ys1, e1, h1⟩ := Mine.len1 h0; subst e1; have e := Mine.len0 h1; subst e; rfl⟩, by rfl, rfl, rfl, rfl, by decide⟩
      g_need_row := rfl
      k_need_row := rfl
      fn_states := ⟨⟨_, _, rfl, rfl, rfl, rfl, rfl, rfl, rfl, rfl, fun xs h => by obtain ⟨x0, ys0, e0, h0⟩ := Mine.len1 h; subst e0; obtain ⟨x1, ys1, e1, h1⟩ := Mine.len1 h0; subst e1; have e := Mine.len0 h1; subst e; rfl⟩, by rfl, rfl, rfl, rfl, by decide⟩
      g_states := rfl
      k_states := rfl
      fn_law_cell_at := ⟨⟨_, _, rfl, rfl, rfl, rfl, rfl, rfl, rfl, rfl, fun xs h => by obtain ⟨x0, ys0, e0, h0⟩ := Mine.len1 h; subst e0; obtain ⟨x1, ys1, e1, h1⟩ := Mine.len1 h0; subst e1; have e := Mine.len0 h1; subst e; rfl⟩, by rfl, rfl, rfl, rfl, by decide⟩
      g_law_cell_at := rfl
      k_law_cell_at := rfl
      fn_law_number := ⟨⟨_, _, rfl, rfl, rfl, rfl, rfl, rfl, rfl, rfl, fun xs h => by obtain ⟨x0, ys0, e0, h0⟩ := Mine.len1 h; subst e0; obtain ⟨x1, ys1, e1, h1⟩ := Mine.len1 h0; subst e1; have e := Mine.len0 h1; subst e; rfl⟩, by rfl, rfl, rfl, rfl, by decide⟩
      g_law_number := rfl
      k_law_number := rfl
      fn_law_whole := ⟨⟨_, _, rfl, rfl, rfl, rfl, rfl, rfl, rfl, rfl, fun xs h => by obtain ⟨x0, ys0, e0, h0⟩ := Mine.len1 h; subst e0; have e := Mine.len0 h0; subst e; rfl⟩, by rfl, rfl, rfl, rfl, by decide⟩
      g_law_whole := rfl
      k_law_whole := rfl
      fn_law_rule := ⟨⟨_, _, rfl, rfl, rfl, rfl, rfl, rfl, rfl, rfl, fun xs h => by obtain ⟨x0, ys0, e0, h0⟩ := Mine.len1 h; subst e0; have e := Mine.len0 h0; subst e; rfl⟩, by rfl, rfl, rfl, rfl, by decide⟩
      g_law_rule := rfl
      k_law_rule := rfl
      fn_law_forth := ⟨⟨_, _, rfl, rfl, rfl, rfl, rfl, rfl, rfl, rfl, fun xs h => by obtain ⟨x0, ys0, e0, h0⟩ := Mine.len1 h; subst e0; obtain ⟨x1, ys1, e1, h1⟩ := Mine.len1 h0; subst e1; have e := Mine.len0 h1; subst e; rfl⟩, by rfl, rfl, rfl, rfl, by decide⟩
      g_law_forth := rfl
      k_law_forth := rfl
      fn_law_row := ⟨⟨_, _, rfl, rfl, rfl, rfl, rfl, rfl, rfl, rfl, fun xs h => by obtain ⟨x0, ys0, e0, h0⟩ := Mine.len1 h; subst e0; obtain ⟨x1, ys1, e1, h1⟩ := Mine.len1 h0; subst e1; obtain ⟨x2, ys2, e2, h2⟩ := Mine.len1 h1; subst e2; have e := Mine.len0 h2; subst e; rfl⟩, by rfl, rfl, rfl, rfl, by decide⟩
      g_law_row := rfl
      k_law_row := rfl
      fn_law_states := ⟨⟨_, _, rfl, rfl, rfl, rfl, rfl, rfl, rfl, rfl, fun xs h => by obtain ⟨x0, ys0, e0, h0⟩ := Mine.len1 h; subst e0; obtain ⟨x1, ys1, e1, h1⟩ := Mine.len1 h0; subst e1; have e := Mine.len0 h1; subst e; rfl⟩, by rfl, rfl, rfl, rfl, by decide⟩
      g_law_states := rfl
      k_law_states := rfl
      fn_law_class := ⟨⟨_, _, rfl, rfl, rfl, rfl, rfl, rfl, rfl, rfl, fun xs h => by obtain ⟨x0, ys0, e0, h0⟩ := Mine.len1 h; subst e0; have e := Mine.len0 h0; subst e; rfl⟩, by rfl, rfl, rfl, rfl, by decide⟩
      g_law_class := rfl
      k_law_class := rfl
      fn_law_told := ⟨⟨_, _, rfl, rfl, rfl, rfl, rfl, rfl, rfl, rfl, fun xs h => by obtain ⟨x0, ys0, e0, h0⟩ := Mine.len1 h; subst e0; obtain ⟨x1, ys1, e1, h1⟩ := Mine.len1 h0; subst e1; have e := Mine.len0 h1; subst e; rfl⟩, by rfl, rfl, rfl, rfl, by decide⟩
      g_law_told := rfl
      k_law_told := rfl
      fn_law_spoilt := ⟨⟨_, _, rfl, rfl, rfl, rfl, rfl, rfl, rfl, rfl, fun xs h => by obtain ⟨x0, ys0, e0, h0⟩ := Mine.len1 h; subst e0; obtain ⟨x1, ys1, e1, h1⟩ := Mine.len1 h0; subst e1; obtain ⟨x2, ys2, e2, h2⟩ := Mine.len1 h1; subst e2; have e := Mine.len0 h2; subst e; rfl⟩, by rfl, rfl, rfl, rfl, by decide⟩
      g_law_spoilt := rfl
      k_law_spoilt := rfl
      fn_law := ⟨⟨_, _, rfl, rfl, rfl, rfl, rfl, rfl, rfl, rfl, fun xs h => by obtain ⟨x0, ys0, e0, h0⟩ := Mine.len1 h; subst e0; have e := Mine.len0 h0; subst e; rfl⟩, by rfl, rfl, rfl, rfl, by decide⟩
      g_law := rfl
      k_law := rfl
      g_MarkError := rfl
      k_MarkError := by kernel_rfl
      g_BadCount := rfl
      k_BadCount := by kernel_rfl
      g_BadRule := rfl
      k_BadRule := by kernel_rfl
      g_BadDeed := rfl
      k_BadDeed := by kernel_rfl
      g_Full := rfl
      k_Full := by kernel_rfl
      g_Twice := rfl
      k_Twice := by kernel_rfl
      g_NotKept := rfl
      k_NotKept := by kernel_rfl
      g_AtEnd := rfl
      k_AtEnd := by kernel_rfl
      g_NotWanted := rfl
      k_NotWanted := by kernel_rfl
      ex_BadCount := by kernel_rfl
      ek_BadCount := ⟨by kernel_rfl, by kernel_rfl, by kernel_rfl, by kernel_rfl, by kernel_rfl, by kernel_rfl, by kernel_rfl, by kernel_rfl⟩
      em_BadCount := by kernel_rfl
      kit_BadCount := ⟨by kernel_rfl, by kernel_rfl, by kernel_rfl, by kernel_rfl, by kernel_rfl, by kernel_rfl, by kernel_rfl, by kernel_rfl, by kernel_rfl⟩
      ex_BadRule := by kernel_rfl
      ek_BadRule := ⟨by kernel_rfl, by kernel_rfl, by kernel_rfl, by kernel_rfl, by kernel_rfl, by kernel_rfl, by kernel_rfl, by kernel_rfl⟩
      em_BadRule := by kernel_rfl
      kit_BadRule := ⟨by kernel_rfl, by kernel_rfl, by kernel_rfl, by kernel_rfl, by kernel_rfl, by kernel_rfl, by kernel_rfl, by kernel_rfl, by kernel_rfl⟩
      ex_BadDeed := by kernel_rfl
      ek_BadDeed := ⟨by kernel_rfl, by kernel_rfl, by kernel_rfl, by kernel_rfl, by kernel_rfl, by kernel_rfl, by kernel_rfl, by kernel_rfl⟩
      em_BadDeed := by kernel_rfl
      kit_BadDeed := ⟨by kernel_rfl, by kernel_rfl, by kernel_rfl, by kernel_rfl, by kernel_rfl, by kernel_rfl, by kernel_rfl, by kernel_rfl, by kernel_rfl⟩
      ex_Full := by kernel_rfl
      ek_Full := ⟨by kernel_rfl, by kernel_rfl, by kernel_rfl, by kernel_rfl, by kernel_rfl, by kernel_rfl, by kernel_rfl, by kernel_rfl⟩
      em_Full := by kernel_rfl
      kit_Full := ⟨by kernel_rfl, by kernel_rfl, by kernel_rfl, by kernel_rfl, by kernel_rfl, by kernel_rfl, by kernel_rfl, by kernel_rfl, by kernel_rfl⟩
      ex_Twice := by kernel_rfl
      ek_Twice := ⟨by kernel_rfl, by kernel_rfl, by kernel_rfl, by kernel_rfl, by kernel_rfl, by kernel_rfl, by kernel_rfl, by kernel_rfl⟩
      em_Twice := by kernel_rfl
      kit_Twice := ⟨by kernel_rfl, by kernel_rfl, by kernel_rfl, by kernel_rfl, by kernel_rfl, by kernel_rfl, by kernel_rfl, by kernel_rfl, by kernel_rfl⟩
      ex_NotKept := by kernel_rfl
      ek_NotKept := ⟨by kernel_rfl, by kernel_rfl, by kernel_rfl, by kernel_rfl, by kernel_rfl, by kernel_rfl, by kernel_rfl, by kernel_rfl⟩
      em_NotKept := by kernel_rfl
      kit_NotKept := ⟨by kernel_rfl, by kernel_rfl, by kernel_rfl, by kernel_rfl, by kernel_rfl, by kernel_rfl, by kernel_rfl, by kernel_rfl, by kernel_rfl⟩
      ex_AtEnd := by kernel_rfl
      ek_AtEnd := ⟨by kernel_rfl, by kernel_rfl, by kernel_rfl, by kernel_rfl, by kernel_rfl, by kernel_rfl, by kernel_rfl, by kernel_rfl⟩
      em_AtEnd := by kernel_rfl
      kit_AtEnd := ⟨by kernel_rfl, by kernel_rfl, by kernel_rfl, by kernel_rfl, by kernel_rfl, by kernel_rfl, by kernel_rfl, by kernel_rfl, by kernel_rfl⟩
      ex_NotWanted := by kernel_rfl
      ek_NotWanted := ⟨by kernel_rfl, by kernel_rfl, by kernel_rfl, by kernel_rfl, by kernel_rfl, by kernel_rfl, by kernel_rfl, by kernel_rfl⟩
      em_NotWanted := by kernel_rfl
      kit_NotWanted := ⟨by kernel_rfl, by kernel_rfl, by kernel_rfl, by kernel_rfl, by kernel_rfl, by kernel_rfl, by kernel_rfl, by kernel_rfl, by kernel_rfl⟩
      g_ROUND := ⟨_, rfl⟩
      g_MOST_RULES := ⟨_, rfl⟩
      g_isinstance := rfl
      g_len := rfl
      g_all := rfl
      g_list := rfl
      g_int := rfl
      g_str := rfl
      g_tuple := rfl
      g_range := rfl
      g_bool := rfl
      g_ValueError := rfl}
  have e1 : mg "law" = some (.ref 238) := mg_of KX T.g kf.g_law
  have e2 : fa = 238 := by
    have := hmg
    rw [show mg _ = some (Value.ref 238) from e1] at this
    cases this; rfl
  subst e2
  clear ho hd' hcd hD hmg
  wrow_args hpre hlay hrd hwl hlo
  rename_i ns _ _ _ _ _ _ _ l vals _ hL _ _ _ hI _ hn _
  refine enter_call (codeAny_mono ?_ (fun _ _ g => GoodW.toG g))
  refine Mine.enterLaw (c := { prog := _, w := w, K := _, p := _, loose := _, mean := _, mg := mg, mb := mb, base := s₁.heap, s₀ := s₁, q := true }) (k := 20) kf.fn_law rfl rfl KX T (by decide) hL hI (by refine Mine.law_ok ?_ ?_ ?_; exact kf; rfl; omega) ?_
  intro L m h' tk F
  refine goodW_bool F hg (raisesW_false ?_) ?_
  · wrow_none_raised
  · wrow_post
theorem PySem.Challenge.cw_uf040029_02_holds : PySem.Challenge.rw_uf040029_02.Holds :=
  Mine.top
