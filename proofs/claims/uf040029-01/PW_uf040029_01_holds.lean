import PyProof.Rows.All
import Wide.All
import OpenK.AllK
import Wide.FinOn
import PySem.Challenge.RW_uf040029_01
open PySem PySem.W PySem.Calls PySem.Spec PyProof.Rows
set_option Elab.async false
set_option maxRecDepth 100000
set_option linter.unusedVariables false
set_option linter.unusedSimpArgs false
set_option maxHeartbeats 1000000
namespace Mine
abbrev Led := List (Addr × Obj)
abbrev tupObj (vals : List Value) (n : Nat) : Obj := { cls := .type "tuple", data := .seq vals.toArray n }
abbrev rngObj (a b c : Int) (t u v : Tok) : Obj := { cls := .type "range", dict := none, data := .fields #[.int a t, .int b u, .int c v], slots := #[] }

/-- abstract values -/
inductive V where
  | none
  | bool (b : Bool)
  | int (i : Int)
  | str (x : Str)
  | tup (vs : List V)
  | rng (a b c : Int)
  | ref (a : Addr)
  | stat (v : Value)
  | scr (ns : List Int)

/-- abstract objects -/
inductive O where
  | list (vs : List V)
  | dictI (kvs : List (Int × V))
  | dictS (kvs : List (Str × V))
  | inst (C d : Addr)
  | attrs (fs : List (Str × V))

abbrev St := List (Addr × O)
abbrev Loc := List (Str × V)
def setL : Loc → Str → V → Loc
  | [], x, v => [(x, v)]
  | (y, u) :: r, x, v => if y = x then (x, v) :: r else (y, u) :: setL r x v
def getL : Loc → Str → Option V
  | [], _ => none
  | (y, u) :: r, x => if y = x then some u else getL r x
theorem getL_nil (x : Str) : getL [] x = none := rfl
theorem getL_cons (y : Str) (u : V) (r : Loc) (x : Str) : getL ((y, u) :: r) x = if y = x then some u else getL r x := rfl
theorem getL_setL (ρ : Loc) (x : Str) (v : V) (y : Str) : getL (setL ρ x v) y = if y = x then some v else getL ρ y := by
  induction ρ with
  | nil => rw [setL, getL_cons, getL_nil]; by_cases h : y = x
           · subst h; simp
           · have : ¬ x = y := fun e => h e.symm
             simp [h, this]
  | cons p r ih =>
    obtain ⟨z, u⟩ := p
    rw [setL]
    by_cases hz : z = x
    · subst hz
      rw [if_pos rfl, getL_cons, getL_cons]
      by_cases h : z = y
      · subst h; simp
      · have : ¬ y = z := fun e => h e.symm
        simp [h, this]
    · rw [if_neg hz, getL_cons, ih, getL_cons]
      by_cases h : z = y
      · subst h; simp [hz]
      · simp [h]

/-- the whole, unchanging -/
structure Cx where
  prog : Program
  w : World
  K : Frag
  p : Program
  loose : List Str
  mean : ExcName → Option Value
  mg : Str → Option Value
  mb : Str → Option Value
  base : Heap
  s₀ : Shared
  q : Bool

abbrev Cx.M (c : Cx) : Model := model c.prog c.w

mutual
inductive RV (base : Heap) (imm : Led) : V → Value → Prop
  | none : RV base imm .none .none
  | bool (b : Bool) : RV base imm (.bool b) (.bool b)
  | int (i : Int) (t : Tok) : RV base imm (.int i) (.int i t)
  | str (x : Str) (t : Tok) : RV base imm (.str x) (.str x t)
  | tup {a : Addr} {vals : List Value} {n : Nat} {vs : List V} : (a, tupObj vals n) ∈ imm → RVs base imm vs vals → RV base imm (.tup vs) (.ref a)
  | rng {r : Addr} {a b c : Int} {t u v : Tok} : (r, rngObj a b c t u v) ∈ imm → RV base imm (.rng a b c) (.ref r)
  | ref (a : Addr) : RV base imm (.ref a) (.ref a)
  | stat (v : Value) : RV base imm (.stat v) v
  | scr {a : Addr} {vals : List Value} {ns : List Int} : base.IsList a vals.toArray → IntsAre vals ns → RV base imm (.scr ns) (.ref a)
inductive RVs (base : Heap) (imm : Led) : List V → List Value → Prop
  | nil : RVs base imm [] []
  | cons {v : V} {vs : List V} {x : Value} {xs : List Value} : RV base imm v x → RVs base imm vs xs → RVs base imm (v :: vs) (x :: xs)
end

mutual
theorem RV.mono {base : Heap} {imm imm' : Led} (hs : ∀ p ∈ imm, p ∈ imm') : ∀ {v : V} {x : Value}, RV base imm v x → RV base imm' v x
  | _, _, .none => .none
  | _, _, .bool b => .bool b
  | _, _, .int i t => .int i t
  | _, _, .str x t => .str x t
  | _, _, .tup h r => .tup (hs _ h) (RVs.mono hs r)
  | _, _, .rng h => .rng (hs _ h)
  | _, _, .ref a => .ref a
  | _, _, .stat v => .stat v
  | _, _, .scr h i => .scr h i
theorem RVs.mono {base : Heap} {imm imm' : Led} (hs : ∀ p ∈ imm, p ∈ imm') : ∀ {v : List V} {x : List Value}, RVs base imm v x → RVs base imm' v x
  | _, _, .nil => .nil
  | _, _, .cons h r => .cons (RV.mono hs h) (RVs.mono hs r)
end

section
variable {base : Heap} {imm : Led} {vs ws : List V} {xs ys : List Value} {v : V} {x : Value}
theorem RVs.length (h : RVs base imm vs xs) : xs.length = vs.length := by
  induction vs generalizing xs with
  | nil => cases h; rfl
  | cons v vs ih => cases h with | cons _ r => simp [ih r]
theorem RVs.append (h : RVs base imm vs xs) (k : RVs base imm ws ys) : RVs base imm (vs ++ ws) (xs ++ ys) := by
  induction vs generalizing xs with
  | nil => cases h; exact k
  | cons v vs ih => cases h with | cons a r => exact .cons a (ih r)
theorem RVs.get (h : RVs base imm vs xs) {i : Nat} {v : V} (hi : vs[i]? = some v) : ∃ x, xs[i]? = some x ∧ RV base imm v x := by
  induction vs generalizing xs i with
  | nil => simp at hi
  | cons w vs ih => cases h with
    | cons a r => cases i with
      | zero => simp at hi; subst hi; exact ⟨_, by simp, a⟩
      | succ i => simpa using ih r (by simpa using hi)
theorem RVs.get' (h : RVs base imm vs xs) {i : Nat} {x : Value} (hi : xs[i]? = some x) : ∃ v, vs[i]? = some v ∧ RV base imm v x := by
  induction vs generalizing xs i with
  | nil => cases h; simp at hi
  | cons w vs ih => cases h with
    | cons a r => cases i with
      | zero => simp at hi; subst hi; exact ⟨_, by simp, a⟩
      | succ i => simpa using ih r (by simpa using hi)
theorem RVs.one (h : RV base imm v x) : RVs base imm [v] [x] := .cons h .nil
theorem RVs.two {v' : V} {x' : Value} (h : RV base imm v x) (h' : RV base imm v' x') : RVs base imm [v, v'] [x, x'] := .cons h (.cons h' .nil)
end

/-- values under keys -/
inductive RKs (base : Heap) (imm : Led) {α : Type} : List (α × V) → List (α × Value) → Prop
  | nil : RKs base imm [] []
  | cons {k : α} {v : V} {x : Value} {l : List (α × V)} {r : List (α × Value)} : RV base imm v x → RKs base imm l r → RKs base imm ((k, v) :: l) ((k, x) :: r)
theorem RKs.mono {base : Heap} {imm imm' : Led} (hs : ∀ p ∈ imm, p ∈ imm') {α : Type} {l : List (α × V)} {r : List (α × Value)} (h : RKs base imm l r) : RKs base imm' l r := by
  induction h with
  | nil => exact .nil
  | cons a _ ih => exact .cons (a.mono hs) ih

/-- a dict whose keys are of one kind -/
def IsDict {α : Type} [DecidableEq α] {prog : Program} {w : World} (knd : KeyKind prog w α) (o : Obj) (kvs : List (α × Value)) : Prop :=
  o.ExactDict ∧ ∃ es ep, o.data = .dict es ep ∧ KeysOf knd es ∧ Pairs knd es.toList kvs ∧ (kvs.map (·.1)).Nodup

/-- an abstract object and the concrete one -/
inductive RO (c : Cx) (imm : Led) : O → Obj → Prop
  | list {vs : List V} {vals : List Value} {n : Nat} : RVs c.base imm vs vals → RO c imm (.list vs) (listOf vals.toArray n)
  | dictI {kvs : List (Int × V)} {kvals : List (Int × Value)} {o : Obj} : RKs c.base imm kvs kvals → IsDict (intKind c.prog c.w) o kvals → RO c imm (.dictI kvs) o
  | dictS {kvs : List (Str × V)} {kvals : List (Str × Value)} {o : Obj} : RKs c.base imm kvs kvals → IsDict (strKind c.prog c.w) o kvals → RO c imm (.dictS kvs) o
  | inst (C d : Addr) : RO c imm (.inst C d) (instObj C d)
theorem RO.mono {c : Cx} {imm imm' : Led} (hs : ∀ p ∈ imm, p ∈ imm') {o : O} {co : Obj} (h : RO c imm o co) : RO c imm' o co := by
  cases h with
  | list r => exact .list (r.mono hs)
  | dictI r d => exact .dictI (r.mono hs) d
  | dictS r d => exact .dictS (r.mono hs) d
  | inst C d => exact .inst C d

inductive StR (c : Cx) (imm : Led) : St → Led → Prop
  | nil : StR c imm [] []
  | cons {a : Addr} {o : O} {co : Obj} {st : St} {mt : Led} : RO c imm o co → StR c imm st mt → StR c imm ((a, o) :: st) ((a, co) :: mt)
theorem StR.mono {c : Cx} {imm imm' : Led} (hs : ∀ p ∈ imm, p ∈ imm') {st : St} {mt : Led} (h : StR c imm st mt) : StR c imm' st mt := by
  induction h with
  | nil => exact .nil
  | cons a _ ih => exact .cons (a.mono hs) ih
theorem StR.keys {c : Cx} {imm : Led} {st : St} {mt : Led} (h : StR c imm st mt) : mt.map (·.1) = st.map (·.1) := by
  induction h with
  | nil => rfl
  | cons _ _ ih => simp [ih]

def get (st : St) (a : Addr) : Option O := st.lookup a
def upd (st : St) (a : Addr) (o : O) : St := st.map fun p => if p.1 = a then (a, o) else p

theorem StR.get {c : Cx} {imm : Led} {st : St} {mt : Led} (h : StR c imm st mt) {a : Addr} {o : O} (e : get st a = some o) : ∃ co, (a, co) ∈ mt ∧ RO c imm o co := by
  induction h with
  | nil => cases e
  | @cons b o' co st mt r _ ih =>
    unfold Mine.get at e ih
    rw [List.lookup_cons] at e
    split at e
    · rename_i q
      have q' : a = b := by simpa using q
      subst q'; cases e
      exact ⟨co, .head _, r⟩
    · obtain ⟨co', m, r'⟩ := ih e
      exact ⟨co', .tail _ m, r'⟩

/-- a frame -/
structure Fm where
  outer : List Env
  frs : List (Addr × (Str → Option Value))
  L : Addr
  fenv : Env
  env : Env
  A : Around

/-- a dict that is a namespace -/
def NsObj (o : Obj) (m : Str → Option Value) : Prop := ∃ es ep, o.data = .dict es ep ∧ StrKeys es ∧ ∀ name, nsFind es name = m name

/-- the callers' frames -/
inductive FoR : List (Addr × (Str → Option Value)) → Led → Prop
  | nil : FoR [] []
  | cons {L : Addr} {m : Str → Option Value} {o : Obj} {fs : List (Addr × (Str → Option Value))} {fo : Led} : NsObj o m → FoR fs fo → FoR ((L, m) :: fs) ((L, o) :: fo)

inductive OuterOk : List Env → List (Addr × (Str → Option Value)) → Prop
  | nil : OuterOk [] []
  | cons {env : Env} {L : Addr} {m : Str → Option Value} {es : List Env} {fs : List (Addr × (Str → Option Value))} : env.frame = some L → env.scope.kind = .function → OuterOk es fs → OuterOk (env :: es) ((L, m) :: fs)

structure Fm.Ok (c : Cx) (k : Nat) (f : Fm) : Prop where
  kin : c.K.In c.base
  top : Top c.p c.loose c.mean c.mg c.mb c.base
  callers : OuterOk f.outer f.frs
  frames : f.A.frames = some (f.fenv :: f.outer)
  fframe : f.fenv.frame = some f.L
  fkind : f.fenv.scope.kind = .function
  ekind : f.env.scope.kind = .function
  eglob : f.env.globals = mainGlobals
  ebi : f.env.builtins = builtinsNs
  ecell : ∀ x, f.env.kindOf x = some .cell → ∃ cc, f.env.cells.lookup x = some cc
  hnd : c.q = true → f.A.handled = none
  depth : f.A.depth + k + 200 < recursionLimit
  units : f.A.units + 8 * k + 200 < cLine

/-- what a name reads -/
def ReadsName (f : Fm) (m : Str → Option Value) (cs fr : Led) (x : Str) (val : Value) : Prop :=
  (f.env.kindOf x = some .local ∧ f.env.locals = f.L ∧ m x = some val) ∨
  (f.env.kindOf x = some .local ∧ ∃ o es ep, (f.env.locals, o) ∈ fr ∧ o.data = .dict es ep ∧ StrKeys es ∧ nsFind es x = some val) ∨
  ((f.env.kindOf x = some .cell ∨ f.env.kindOf x = some .free) ∧ ∃ c o, f.env.cells.lookup x = some c ∧ (c, o) ∈ cs ∧ o.data = .cell (some val))

structure LocR (base : Heap) (imm : Led) (f : Fm) (ρ : Loc) (m : Str → Option Value) (cs fr : Led) : Prop where
  reads : ∀ x v, getL ρ x = some v → ∃ val, RV base imm v val ∧ ReadsName f m cs fr x val
  cells : ∀ x c, f.env.cells.lookup x = some c → ∃ o v, (c, o) ∈ cs ∧ o.data = .cell v
  inj : ∀ x y c, f.env.cells.lookup x = some c → f.env.cells.lookup y = some c → x = y

theorem LocR.mono {base : Heap} {imm imm' : Led} {f : Fm} {ρ : Loc} {m : Str → Option Value} {cs fr : Led} (hs : ∀ p ∈ imm, p ∈ imm') (h : LocR base imm f ρ m cs fr) : LocR base imm' f ρ m cs fr :=
  ⟨fun x v e => let ⟨val, r, q⟩ := h.reads x v e; ⟨val, r.mono hs, q⟩, h.cells, h.inj⟩

abbrev whole (mt cs imm fr fo : Led) : Led := mt ++ (cs ++ (imm ++ (fr ++ fo)))

structure RelAt (c : Cx) (f : Fm) (ρ : Loc) (st : St) (imm fr : Led) (h : Heap) (m : Str → Option Value) (mt cs fo : Led) : Prop where
  frm : Fr c.base f.L h m
  news : News c.base f.L h (whole mt cs imm fr fo)
  nodup : ((whole mt cs imm fr fo).map (·.1)).Nodup
  sto : StR c imm st mt
  fos : FoR f.frs fo
  loc : LocR c.base imm f ρ m cs fr

def Rel (c : Cx) (f : Fm) (ρ : Loc) (st : St) (imm fr : Led) (s : Shared) : Prop :=
  (∃ h tk, s = { c.s₀ with heap := h, toks := tk }) ∧ ∃ m mt cs fo, RelAt c f ρ st imm fr s.heap m mt cs fo

section
variable {c : Cx} {f : Fm} {k : Nat} {ρ : Loc} {st : St} {imm fr : Led} {s : Shared} {h h' : Heap} {m : Str → Option Value} {mt cs fo : Led} {a : Addr} {o o' : Obj} {tk : Nat}

theorem RelAt.keeps (R : RelAt c f ρ st imm fr h m mt cs fo) (hk : ∀ b o, h.get? b = some o → h'.get? b = some o) : RelAt c f ρ st imm fr h' m mt cs fo :=
  ⟨R.frm.keeps hk, R.news.grown hk, R.nodup, R.sto, R.fos, R.loc⟩
theorem Rel.keeps (R : Rel c f ρ st imm fr s) (hk : ∀ b o, s.heap.get? b = some o → h'.get? b = some o) : Rel c f ρ st imm fr { s with heap := h', toks := tk } := by
  obtain ⟨⟨h0, tk0, rfl⟩, m, mt, cs, fo, r⟩ := R
  exact ⟨⟨h', tk, rfl⟩, m, mt, cs, fo, r.keeps hk⟩
theorem Rel.toks (R : Rel c f ρ st imm fr s) : Rel c f ρ st imm fr { s with toks := tk } := R.keeps (h' := s.heap) fun _ _ e => e
theorem Rel.push (R : Rel c f ρ st imm fr s) : Rel c f ρ st imm fr { s with heap := s.heap.push o, toks := tk } := R.keeps fun _ _ e => Heap.get?_push_of_some _ e

theorem RelAt.size (R : RelAt c f ρ st imm fr h m mt cs fo) : ∀ p ∈ whole mt cs imm fr fo, p.1 < h.objs.size := fun p hp => Heap.lt_size (R.news p hp).1
theorem RelAt.none (R : RelAt c f ρ st imm fr h m mt cs fo) : get st h.objs.size = none := by
  cases e : get st h.objs.size with
  | none => rfl
  | some o =>
    obtain ⟨co, hm, _⟩ := R.sto.get e
    exact absurd (R.size _ (List.mem_append_left _ hm)) (Nat.lt_irrefl _)

theorem newAt (F : Fr c.base f.L h m) (ho : o.isFreed = false) : (h.push o).get? h.objs.size = some o ∧ h.objs.size ≠ f.L ∧ c.base.get? h.objs.size = none := by
  refine ⟨Heap.get?_push_size _ ho, Nat.ne_of_gt F.ns.lt, ?_⟩
  cases hq : c.base.get? h.objs.size with
  | none => rfl
  | some o' => exact absurd (Heap.lt_size (F.keep _ _ hq)) (Nat.lt_irrefl _)

theorem nodup_ins {α β : Type} {l₁ l₂ : List (α × β)} {p : α × β} (h : ((l₁ ++ l₂).map (·.1)).Nodup) (hn : ∀ q ∈ l₁ ++ l₂, q.1 ≠ p.1) : ((l₁ ++ p :: l₂).map (·.1)).Nodup := by
  have e : ((l₁ ++ p :: l₂).map (·.1)).Perm ((p :: (l₁ ++ l₂)).map (·.1)) := List.Perm.map _ List.perm_middle
  refine e.nodup_iff.mpr ?_
  rw [List.map_cons, List.nodup_cons]
  refine ⟨fun hm => ?_, h⟩
  obtain ⟨q, hq, e⟩ := List.mem_map.mp hm
  exact hn q hq e

/-- one more object, anywhere in the ledger -/
theorem news_ins {l₁ l₂ : Led} (F : Fr c.base f.L h m) (N : News c.base f.L h (l₁ ++ l₂)) (nd : ((l₁ ++ l₂).map (·.1)).Nodup) (ho : o.isFreed = false) :
    News c.base f.L (h.push o) (l₁ ++ (h.objs.size, o) :: l₂) ∧ ((l₁ ++ (h.objs.size, o) :: l₂).map (·.1)).Nodup := by
  refine ⟨fun p hp => ?_, nodup_ins nd fun q hq => Nat.ne_of_lt (Heap.lt_size (N q hq).1)⟩
  have hp' : p = (h.objs.size, o) ∨ p ∈ l₁ ++ l₂ := by
    simp only [List.mem_append, List.mem_cons] at hp ⊢
    rcases hp with hp | hp | hp
    · exact .inr (.inl hp)
    · exact .inl hp
    · exact .inr (.inr hp)
  rcases hp' with rfl | hp'
  · exact newAt F ho
  · exact ⟨Heap.get?_push_of_some _ (N p hp').1, (N p hp').2⟩

theorem LocR.more {base : Heap} {p : Addr × Obj} (h : LocR base imm f ρ m cs fr) : LocR base imm f ρ m cs (p :: fr) := by
  refine ⟨fun x v e => ?_, h.cells, h.inj⟩
  obtain ⟨val, r, q⟩ := h.reads x v e
  refine ⟨val, r, ?_⟩
  rcases q with q | ⟨q1, o', es, ep, q2, q3⟩ | q
  · exact .inl q
  · exact .inr (.inl ⟨q1, o', es, ep, .tail _ q2, q3⟩)
  · exact .inr (.inr q)

theorem RelAt.pushImm (R : RelAt c f ρ st imm fr h m mt cs fo) (ho : o.isFreed = false) : RelAt c f ρ st ((h.objs.size, o) :: imm) fr (h.push o) m mt cs fo := by
  have hs : ∀ p ∈ imm, p ∈ (h.objs.size, o) :: imm := fun p hp => .tail _ hp
  have e : whole mt cs ((h.objs.size, o) :: imm) fr fo = (mt ++ cs) ++ (h.objs.size, o) :: (imm ++ (fr ++ fo)) := by simp
  have e' : whole mt cs imm fr fo = (mt ++ cs) ++ (imm ++ (fr ++ fo)) := by simp
  have z := news_ins R.frm (e' ▸ R.news) (e' ▸ R.nodup) ho
  exact ⟨R.frm.push _, e ▸ z.1, e ▸ z.2, R.sto.mono hs, R.fos, R.loc.mono hs⟩
theorem RelAt.pushSt (R : RelAt c f ρ st imm fr h m mt cs fo) {x : O} (ho : o.isFreed = false) (hr : RO c imm x o) : RelAt c f ρ ((h.objs.size, x) :: st) imm fr (h.push o) m ((h.objs.size, o) :: mt) cs fo := by
  have z := news_ins (l₁ := []) R.frm R.news R.nodup ho
  exact ⟨R.frm.push _, z.1, z.2, .cons hr R.sto, R.fos, R.loc⟩
theorem RelAt.pushFr (R : RelAt c f ρ st imm fr h m mt cs fo) (ho : o.isFreed = false) : RelAt c f ρ st imm ((h.objs.size, o) :: fr) (h.push o) m mt cs fo := by
  have e : whole mt cs imm ((h.objs.size, o) :: fr) fo = (mt ++ cs ++ imm) ++ (h.objs.size, o) :: (fr ++ fo) := by simp
  have e' : whole mt cs imm fr fo = (mt ++ cs ++ imm) ++ (fr ++ fo) := by simp
  have z := news_ins R.frm (e' ▸ R.news) (e' ▸ R.nodup) ho
  exact ⟨R.frm.push _, e ▸ z.1, e ▸ z.2, R.sto, R.fos, R.loc.more⟩

theorem Rel.pushImm (R : Rel c f ρ st imm fr s) (ho : o.isFreed = false := by rfl) : Rel c f ρ st ((s.heap.objs.size, o) :: imm) fr { s with heap := s.heap.push o, toks := tk } := by
  obtain ⟨⟨h0, tk0, rfl⟩, m, mt, cs, fo, r⟩ := R
  exact ⟨⟨_, tk, rfl⟩, m, mt, cs, fo, r.pushImm ho⟩
theorem Rel.pushSt (R : Rel c f ρ st imm fr s) {x : O} (hr : RO c imm x o) (ho : o.isFreed = false := by rfl) : Rel c f ρ ((s.heap.objs.size, x) :: st) imm fr { s with heap := s.heap.push o, toks := tk } := by
  obtain ⟨⟨h0, tk0, rfl⟩, m, mt, cs, fo, r⟩ := R
  exact ⟨⟨_, tk, rfl⟩, m, _, cs, fo, r.pushSt ho hr⟩
theorem Rel.pushFr (R : Rel c f ρ st imm fr s) (ho : o.isFreed = false := by rfl) : Rel c f ρ st imm ((s.heap.objs.size, o) :: fr) { s with heap := s.heap.push o, toks := tk } := by
  obtain ⟨⟨h0, tk0, rfl⟩, m, mt, cs, fo, r⟩ := R
  exact ⟨⟨_, tk, rfl⟩, m, mt, cs, fo, r.pushFr ho⟩
theorem Rel.none (R : Rel c f ρ st imm fr s) : get st s.heap.objs.size = none := by
  obtain ⟨_, m, mt, cs, fo, r⟩ := R
  exact r.none

theorem RelAt.get (R : RelAt c f ρ st imm fr h m mt cs fo) {x : O} (e : get st a = some x) : ∃ co, (a, co) ∈ mt ∧ RO c imm x co ∧ h.get? a = some co := by
  obtain ⟨co, hm, r⟩ := R.sto.get e
  exact ⟨co, hm, r, (R.news _ (List.mem_append_left _ hm)).1⟩
theorem StR.upd {imm : Led} {st : St} {mt : Led} (h : StR c imm st mt) {x : O} (hr : RO c imm x o) : StR c imm (upd st a x) (mt.map fun p => if p.1 = a then (a, o) else p) := by
  induction h with
  | nil => exact .nil
  | @cons b o' co st mt r _ ih =>
    simp only [Mine.upd, List.map_cons] at ih ⊢
    by_cases e : b = a
    · subst e; simp only [if_true]; exact .cons hr ih
    · simp only [if_neg e]; exact .cons r ih
theorem Fr.other (F : Fr c.base f.L h m) (hs : Heap.SameBut a h h') (hL : a ≠ f.L) (hn : c.base.get? a = none) : Fr c.base f.L h' m :=
  ⟨F.ns.sameBut hs (Ne.symm hL), fun b ob e => (hs.2 b (fun q => by rw [q, hn] at e; cases e)).trans (F.keep b ob e), F.above⟩
theorem RelAt.upd (R : RelAt c f ρ st imm fr h m mt cs fo) {x y : O} (e : Mine.get st a = some y) (hs : Heap.SameBut a h h') (ho : h'.get? a = some o) (hr : RO c imm x o) :
    RelAt c f ρ (upd st a x) imm fr h' m (mt.map fun p => if p.1 = a then (a, o) else p) cs fo := by
  obtain ⟨co, hm, _, hg⟩ := R.get e
  have hw := R.news _ (List.mem_append_left _ hm)
  have ne : ∀ p ∈ cs ++ (imm ++ (fr ++ fo)), p.1 ≠ a := fun p hp q => by
    have := R.nodup
    rw [List.map_append, List.nodup_append] at this
    exact this.2.2 a (List.mem_map_of_mem hm) p.1 (List.mem_map_of_mem hp) q.symm
  refine ⟨Fr.other R.frm hs hw.2.1 hw.2.2, ?_, ?_, R.sto.upd hr, R.fos, R.loc⟩
  · intro p hp
    rcases List.mem_append.mp hp with hp | hp
    · obtain ⟨q, hq, rfl⟩ := List.mem_map.mp hp
      by_cases e1 : q.1 = a
      · simp only [if_pos e1]; exact ⟨ho, hw.2⟩
      · simp only [if_neg e1]
        have z := R.news q (List.mem_append_left _ hq)
        exact ⟨(hs.2 _ e1).trans z.1, z.2⟩
    · have z := R.news p (List.mem_append_right _ hp)
      exact ⟨(hs.2 _ (ne p hp)).trans z.1, z.2⟩
  · have e1 : (mt.map fun p => if p.1 = a then (a, o) else p).map (·.1) = mt.map (·.1) := by
      rw [List.map_map]
      refine List.map_congr_left fun p _ => ?_
      simp only [Function.comp]
      split
      · rename_i q; exact q.symm
      · rfl
    have := R.nodup
    simp only [whole, List.map_append] at this ⊢
    rw [e1]; exact this
theorem Rel.upd (R : Rel c f ρ st imm fr s) {x y : O} (e : Mine.get st a = some y) (hs : Heap.SameBut a s.heap h') (ho : h'.get? a = some o) (hr : RO c imm x o) :
    Rel c f ρ (upd st a x) imm fr { s with heap := h', toks := tk } := by
  obtain ⟨⟨h0, tk0, rfl⟩, m, mt, cs, fo, r⟩ := R
  exact ⟨⟨_, tk, rfl⟩, m, _, cs, fo, r.upd e hs ho hr⟩
theorem Rel.get (R : Rel c f ρ st imm fr s) {x : O} (e : Mine.get st a = some x) : ∃ co, RO c imm x co ∧ s.heap.get? a = some co := by
  obtain ⟨_, m, mt, cs, fo, r⟩ := R
  obtain ⟨co, _, h1, h2⟩ := r.get e
  exact ⟨co, h1, h2⟩
theorem Rel.inImm (R : Rel c f ρ st imm fr s) (hm : (a, o) ∈ imm) : s.heap.get? a = some o := by
  obtain ⟨_, m, mt, cs, fo, r⟩ := R
  exact (r.news (a, o) (by simp [hm])).1
theorem Rel.inFr (R : Rel c f ρ st imm fr s) (hm : (a, o) ∈ fr) : s.heap.get? a = some o := by
  obtain ⟨_, m, mt, cs, fo, r⟩ := R
  exact (r.news (a, o) (by simp [hm])).1
theorem Rel.keep (R : Rel c f ρ st imm fr s) : ∀ b o, c.base.get? b = some o → s.heap.get? b = some o := by
  obtain ⟨_, m, mt, cs, fo, r⟩ := R
  exact r.frm.keep
theorem Rel.kin (R : Rel c f ρ st imm fr s) (ok : f.Ok c k) : c.K.In s.heap := ok.kin.keeps R.keep
theorem Rel.nolimit (R : Rel c f ρ st imm fr s) (ok : f.Ok c k) : s.heap.NoLimit := ok.top.nolimit.keeps R.keep
/-- the first of the frame's own changes -/
theorem Rel.frSet (R : Rel c f ρ st imm ((a, o) :: fr) s) (hs : Heap.SameBut a s.heap h') (ho : h'.get? a = some o') (hl : a ≠ f.env.locals) : Rel c f ρ st imm ((a, o') :: fr) { s with heap := h', toks := tk } := by
  obtain ⟨⟨h0, tk0, rfl⟩, m, mt, cs, fo, r⟩ := R
  refine ⟨⟨_, tk, rfl⟩, m, mt, cs, fo, ?_⟩
  have hw := r.news (a, o) (by simp)
  have nd := r.nodup
  have e : whole mt cs imm ((a, o) :: fr) fo = (mt ++ cs ++ imm) ++ (a, o) :: (fr ++ fo) := by simp
  have e' : whole mt cs imm ((a, o') :: fr) fo = (mt ++ cs ++ imm) ++ (a, o') :: (fr ++ fo) := by simp
  rw [e] at nd
  have h1 : ∀ p ∈ mt ++ cs ++ imm, p.1 ≠ a := fun p hp q => by
    rw [List.map_append, List.nodup_append] at nd
    exact nd.2.2 p.1 (List.mem_map_of_mem hp) a (by simp) q
  have h2 : ∀ p ∈ fr ++ fo, p.1 ≠ a := fun p hp q => by
    rw [List.map_append, List.nodup_append, List.map_cons, List.nodup_cons] at nd
    exact nd.2.1.1 (List.mem_map.mpr ⟨p, hp, q⟩)
  refine ⟨Fr.other r.frm hs hw.2.1 hw.2.2, ?_, ?_, r.sto, r.fos, ?_⟩
  · rw [e']
    have := r.news
    rw [e] at this
    exact News.setAt this h1 h2 hs ho
  · rw [e']; simp only [List.map_append, List.map_cons] at nd ⊢; exact nd
  · refine ⟨fun x v q => ?_, r.loc.cells, r.loc.inj⟩
    obtain ⟨val, rv, z⟩ := r.loc.reads x v q
    refine ⟨val, rv, ?_⟩
    rcases z with z | ⟨z1, ob, es, ep, z2, z3⟩ | z
    · exact .inl z
    · refine .inr (.inl ⟨z1, ob, es, ep, ?_, z3⟩)
      rcases List.mem_cons.mp z2 with z2 | z2
      · exact absurd (congrArg Prod.fst z2).symm hl
      · exact .tail _ z2
    · exact .inr (.inr z)
/-- the first of the frame's own is forgotten -/
theorem Rel.frDrop (R : Rel c f ρ st imm ((a, o) :: fr) s) (hl : a ≠ f.env.locals) : Rel c f ρ st imm fr s := by
  obtain ⟨hr, m, mt, cs, fo, r⟩ := R
  refine ⟨hr, m, mt, cs, fo, r.frm, fun p hp => r.news p ?_, ?_, r.sto, r.fos, ?_⟩
  · simp only [List.mem_append, List.mem_cons] at hp ⊢
    rcases hp with hp | hp | hp | hp | hp
    · exact .inl hp
    · exact .inr (.inl hp)
    · exact .inr (.inr (.inl hp))
    · exact .inr (.inr (.inr (.inl (.inr hp))))
    · exact .inr (.inr (.inr (.inr hp)))
  · have nd := r.nodup
    have e : whole mt cs imm ((a, o) :: fr) fo = (mt ++ cs ++ imm) ++ (a, o) :: (fr ++ fo) := by simp
    have e' : whole mt cs imm fr fo = (mt ++ cs ++ imm) ++ (fr ++ fo) := by simp
    rw [e, List.map_append, List.nodup_append, List.map_cons, List.nodup_cons] at nd
    rw [e', List.map_append, List.nodup_append]
    exact ⟨nd.1, nd.2.1.2, fun x hx y hy => nd.2.2 x hx y (.tail _ hy)⟩
  · refine ⟨fun x v q => ?_, r.loc.cells, r.loc.inj⟩
    obtain ⟨val, rv, z⟩ := r.loc.reads x v q
    refine ⟨val, rv, ?_⟩
    rcases z with z | ⟨z1, ob, es, ep, z2, z3⟩ | z
    · exact .inl z
    · refine .inr (.inl ⟨z1, ob, es, ep, ?_, z3⟩)
      rcases List.mem_cons.mp z2 with z2 | z2
      · exact absurd (congrArg Prod.fst z2).symm hl
      · exact z2
    · exact .inr (.inr z)
end

/-- what was thrown; refined later -/
def Thrown (c : Cx) (f : Fm) (imm fr : Led) (X : Addr → Loc → St → Prop) (ev : Value) (s : Shared) : Prop := False
theorem Thrown.mono {c : Cx} {f : Fm} {imm imm' fr : Led} {X : Addr → Loc → St → Prop} {ev : Value} {s : Shared} (hs : ∀ p ∈ imm, p ∈ imm') (h : Thrown c f imm' fr X ev s) : Thrown c f imm fr X ev s := h

def PostE (c : Cx) (f : Fm) (ρ : Loc) (imm fr : Led) (Q : V → St → Prop) (val : Value) (s : Shared) : Prop :=
  ∃ v st imm', (∀ p ∈ imm, p ∈ imm') ∧ RV c.base imm' v val ∧ Rel c f ρ st imm' fr s ∧ Q v st
theorem PostE.mono {c : Cx} {f : Fm} {ρ : Loc} {imm imm' fr : Led} {Q : V → St → Prop} {val : Value} {s : Shared} (hs : ∀ p ∈ imm, p ∈ imm') (h : PostE c f ρ imm' fr Q val s) : PostE c f ρ imm fr Q val s :=
  let ⟨v, st, imm'', a, r⟩ := h; ⟨v, st, imm'', fun p hp => a p (hs p hp), r⟩

abbrev Xp := Addr → Loc → St → Prop

/-- an expression -/
structure WPE (c : Cx) (k : Nat) (sc : Scope) (ρ : Loc) (st : St) (e : Expr) (Q : V → St → Prop) (X : Xp) : Prop where
  go : ∀ f imm fr s, f.Ok c k → f.env.scope = sc → Rel c f ρ st imm fr s →
    wpAny c.M f.A (eval e f.env) (PostE c f ρ imm fr Q) (Thrown c f imm fr X) s

/-- one value in, one out -/
structure W1 (c : Cx) (k : Nat) (t : Value → Sem Value) (a : V) (ρ : Loc) (st : St) (Q : V → St → Prop) (X : Xp) : Prop where
  go : ∀ f imm fr s x, f.Ok c k → Rel c f ρ st imm fr s → RV c.base imm a x → wpAny c.M f.A (t x) (PostE c f ρ imm fr Q) (Thrown c f imm fr X) s
/-- two values in, one out -/
structure W2 (c : Cx) (k : Nat) (t : Value → Value → Sem Value) (a b : V) (ρ : Loc) (st : St) (Q : V → St → Prop) (X : Xp) : Prop where
  go : ∀ f imm fr s x y, f.Ok c k → Rel c f ρ st imm fr s → RV c.base imm a x → RV c.base imm b y → wpAny c.M f.A (t x y) (PostE c f ρ imm fr Q) (Thrown c f imm fr X) s
/-- some values in, one out -/
structure WL (c : Cx) (k : Nat) (t : List Value → Sem Value) (as : List V) (ρ : Loc) (st : St) (Q : V → St → Prop) (X : Xp) : Prop where
  go : ∀ f imm fr s xs, f.Ok c k → Rel c f ρ st imm fr s → RVs c.base imm as xs → wpAny c.M f.A (t xs) (PostE c f ρ imm fr Q) (Thrown c f imm fr X) s
end Mine
namespace Mine
/-- two ways, by a bool -/
def cnd (b : Bool) (p q : Prop) : Prop := match b with
  | true => p
  | false => q
theorem cnd_t {p q : Prop} (h : p) : cnd true p q := h
theorem cnd_f {p q : Prop} (h : q) : cnd false p q := h
theorem of_t {p q : Prop} (h : cnd true p q) : p := h
theorem of_f {p q : Prop} (h : cnd false p q) : q := h
theorem cnd_is {b : Bool} {p q : Prop} (b' : Bool) (e : b = b') (h : cnd b' p q) : cnd b p q := e ▸ h
theorem cnd_cases {b : Bool} {p q : Prop} (h1 : b = true → p) (h2 : b = false → q) : cnd b p q := by
  cases b with
  | true => exact h1 rfl
  | false => exact h2 rfl

section
variable {c : Cx} {k : Nat} {sc : Scope} {ρ : Loc} {st : St} {Q : V → St → Prop} {X : Xp} {f : Fm} {imm fr : Led} {s : Shared} {tk : Nat}

theorem PostE.of {v : V} {x : Value} (hr : RV c.base imm v x) (R : Rel c f ρ st imm fr s) (h : Q v st) : PostE c f ρ imm fr Q x s := ⟨v, st, imm, fun _ h => h, hr, R, h⟩
theorem PostE.int {i : Int} {t : Tok} (R : Rel c f ρ st imm fr s) (h : Q (.int i) st) : PostE c f ρ imm fr Q (.int i t) { s with toks := tk } := .of (.int i t) R.toks h
theorem PostE.bool {b : Bool} (R : Rel c f ρ st imm fr s) (h : Q (.bool b) st) : PostE c f ρ imm fr Q (.bool b) s := .of (.bool b) R h
theorem PostE.none (R : Rel c f ρ st imm fr s) (h : Q .none st) : PostE c f ρ imm fr Q .none s := .of .none R h
theorem PostE.str {x : Str} {t : Tok} (R : Rel c f ρ st imm fr s) (h : Q (.str x) st) : PostE c f ρ imm fr Q (.str x t) { s with toks := tk } := .of (.str x t) R.toks h

theorem Rel.ns (R : Rel c f ρ st imm fr s) : ∃ m, Fr c.base f.L s.heap m := by
  obtain ⟨_, m, mt, cs, fo, r⟩ := R; exact ⟨m, r.frm⟩

/-- a name of the frame's -/
theorem WPE.nm {x : Str} {pos : Pos} {v : V} (e : getL ρ x = some v) (h : Q v st) (hd : (x == ("__debug__" : Str)) = false := by decide) (hn : (x == ("__classdict__" : Str)) = false := by decide) : WPE c k sc ρ st (.Name x pos) Q X := by
  refine ⟨fun f imm fr s ok hsc R => ?_⟩
  obtain ⟨hr, m, mt, cs, fo, r⟩ := id R
  obtain ⟨val, rv, q⟩ := r.loc.reads x v e
  refine wpAny_Name ?_ hd
  have P : PostE c f ρ imm fr Q val s := .of rv R h
  rcases q with ⟨q1, q2, q3⟩ | ⟨q1, o, es, ep, q2, q3, q4, q5⟩ | ⟨q1, cc, o, q2, q3, q4⟩
  · exact wpAny_loadName_local ok.ekind q1 (q2 ▸ r.frm.ns) q3 P
  · exact wpAny_loadName_local (m := nsFind es) ok.ekind q1 ⟨o, es, ep, R.inFr q2, q3, q4, fun _ => rfl⟩ q5 P
  · have hc : s.heap.get? cc = some o := (r.news (cc, o) (by simp [q3])).1
    rcases q1 with q1 | q1
    · exact wpAny_loadName_cell ok.ekind q1 q2 ⟨o, hc, q4⟩ P
    · exact wpAny_loadName_free ok.ekind q1 q2 ⟨o, hc, q4⟩ P hn

theorem WPE.glob {x : Str} {pos : Pos} {v : V} {val : Value} (hx : sc.names.lookup x = some .globalImplicit) (e : nsIn c.K mainGlobals x = some (some val)) (hv : ∀ base imm, RV base imm v val) (h : Q v st)
    (hd : (x == ("__debug__" : Str)) = false := by decide) : WPE c k sc ρ st (.Name x pos) Q X := by
  refine ⟨fun f imm fr s ok hsc R => ?_⟩
  obtain ⟨m, F⟩ := R.ns
  have T := topRead_of ok.top
  exact Name_function_global ok.ekind (by unfold Env.kindOf; rw [hsc]; exact hx) (loadGlobal_global (env := f.env) (ok.eglob ▸ T.g.keeps F.keep) (mg_of ok.kin T.g e) (.of (hv _ _) R h)) hd
theorem WPE.blt {x : Str} {pos : Pos} {val : Value} (hx : sc.names.lookup x = some .globalImplicit) (e : nsIn c.K mainGlobals x = some none) (hv : bootBuiltins x = some val) (h : Q (.stat val) st)
    (hn : x ≠ "__name__" := by decide) (hd : (x == ("__debug__" : Str)) = false := by decide) : WPE c k sc ρ st (.Name x pos) Q X := by
  refine ⟨fun f imm fr s ok hsc R => ?_⟩
  obtain ⟨m, F⟩ := R.ns
  have T := topRead_of ok.top
  exact Name_function_global ok.ekind (by unfold Env.kindOf; rw [hsc]; exact hx) (loadGlobal_builtin (env := f.env) (ok.eglob ▸ T.g.keeps F.keep) (mg_none_of ok.kin T.g e) (ok.ebi ▸ T.b.keeps F.keep) ((T.builtins x hn).trans hv) (.of (.stat val) R h)) hd

theorem WPE.cint {i : Int} {n : Nat} {pos : Pos} (h : Q (.int i) st) : WPE c k sc ρ st (.Constant (.int i) n pos) Q X := ⟨fun _ _ _ _ _ _ R => wpAny_Constant_int (.int R h)⟩
theorem WPE.cbool {b : Bool} {n : Nat} {pos : Pos} (h : Q (.bool b) st) : WPE c k sc ρ st (.Constant (.bool b) n pos) Q X := ⟨fun _ _ _ _ _ _ R => wpAny_Constant_bool (.bool R h)⟩
theorem WPE.cnone {n : Nat} {pos : Pos} (h : Q .none st) : WPE c k sc ρ st (.Constant .none n pos) Q X := ⟨fun _ _ _ _ _ _ R => wpAny_Constant_none (.none R h)⟩

theorem WPE.bin {l r : Expr} {op : Operator} {pos : Pos} (h : WPE c k sc ρ st l (fun a st₁ => WPE c k sc ρ st₁ r (fun b st₂ => W2 c k (binaryOp op) a b ρ st₂ Q X) X) X) : WPE c k sc ρ st (.BinOp l op r pos) Q X := by
  refine ⟨fun f imm fr s ok hsc R => ?_⟩
  refine wpAny_BinOp (wpAny_mono (h.go f imm fr s ok hsc R) (fun x s₁ p => ?_) fun _ _ t => t)
  obtain ⟨a, st₁, imm₁, i₁, ra, R₁, h₁⟩ := p
  refine wpAny_mono (h₁.go f imm₁ fr s₁ ok hsc R₁) (fun y s₂ p => ?_) fun _ _ t => t.mono i₁
  obtain ⟨b, st₂, imm₂, i₂, rb, R₂, h₂⟩ := p
  exact wpAny_mono (h₂.go f imm₂ fr s₂ x y ok R₂ (ra.mono i₂) rb) (fun _ _ p => p.mono fun q hq => i₂ q (i₁ q hq)) fun _ _ t => t.mono fun q hq => i₂ q (i₁ q hq)
theorem WPE.un {e : Expr} {op : UnaryOp} {pos : Pos} (h : WPE c k sc ρ st e (fun a st₁ => W1 c k (unaryOp op) a ρ st₁ Q X) X) : WPE c k sc ρ st (.UnaryOp op e pos) Q X := by
  refine ⟨fun f imm fr s ok hsc R => ?_⟩
  refine wpAny_UnaryOp (wpAny_mono (h.go f imm fr s ok hsc R) (fun x s₁ p => ?_) fun _ _ t => t)
  obtain ⟨a, st₁, imm₁, i₁, ra, R₁, h₁⟩ := p
  exact wpAny_mono (h₁.go f imm₁ fr s₁ x ok R₁ ra) (fun _ _ p => p.mono i₁) fun _ _ t => t.mono i₁
theorem WPE.cmp {l r : Expr} {op : CmpOp} {pos : Pos} (h : WPE c k sc ρ st l (fun a st₁ => WPE c k sc ρ st₁ r (fun b st₂ => W2 c k (compareOp op) a b ρ st₂ Q X) X) X) (hm : behindInMarks op r = false := by rfl) : WPE c k sc ρ st (.Compare l [op] [r] pos) Q X := by
  refine ⟨fun f imm fr s ok hsc R => ?_⟩
  refine wpAny_Compare1 (wpAny_mono (h.go f imm fr s ok hsc R) (fun x s₁ p => ?_) fun _ _ t => t) hm
  obtain ⟨a, st₁, imm₁, i₁, ra, R₁, h₁⟩ := p
  refine wpAny_mono (h₁.go f imm₁ fr s₁ ok hsc R₁) (fun y s₂ p => ?_) fun _ _ t => t.mono i₁
  obtain ⟨b, st₂, imm₂, i₂, rb, R₂, h₂⟩ := p
  exact wpAny_mono (h₂.go f imm₂ fr s₂ x y ok R₂ (ra.mono i₂) rb) (fun _ _ p => p.mono fun q hq => i₂ q (i₁ q hq)) fun _ _ t => t.mono fun q hq => i₂ q (i₁ q hq)

theorem WPE.cstr {x : Str} {n : Nat} {pos : Pos} (h : Q (.str x) st) : WPE c k sc ρ st (.Constant (.str x) n pos) Q X := ⟨fun _ _ _ _ _ _ R => wpAny_Constant_str (.str R h)⟩

/-- ints -/
theorem W2.addI {a b : Int} (h : Q (.int (a + b)) st) : W2 c k (binaryOp .Add) (.int a) (.int b) ρ st Q X := by
  refine ⟨fun f imm fr s x y ok R ra rb => ?_⟩
  cases ra; cases rb
  exact add_int (.int R h)
theorem W2.subI {a b : Int} (h : Q (.int (a - b)) st) : W2 c k (binaryOp .Sub) (.int a) (.int b) ρ st Q X := by
  refine ⟨fun f imm fr s x y ok R ra rb => ?_⟩
  cases ra; cases rb
  exact sub_int (.int R h)
theorem W2.mulI {a b : Int} (hm : IntMulOk a b) (h : Q (.int (a * b)) st) : W2 c k (binaryOp .Mult) (.int a) (.int b) ρ st Q X := by
  refine ⟨fun f imm fr s x y ok R ra rb => ?_⟩
  cases ra; cases rb
  exact mul_int (.int R h) hm
theorem W2.modI {a b : Int} (hb : b ≠ 0) (h : Q (.int (a.fmod b)) st) : W2 c k (binaryOp .Mod) (.int a) (.int b) ρ st Q X := by
  refine ⟨fun f imm fr s x y ok R ra rb => ?_⟩
  cases ra; cases rb
  exact mod_int' hb (.int R h)
theorem W2.divI {a b : Int} (hb : b ≠ 0) (hs : b.natAbs < 1073741824) (h : Q (.int (a.fdiv b)) st) : W2 c k (binaryOp .FloorDiv) (.int a) (.int b) ρ st Q X := by
  refine ⟨fun f imm fr s x y ok R ra rb => ?_⟩
  cases ra; cases rb
  exact floordiv_int hb (.int R h) (.inl (PyProof.noPylong_small hs))
theorem W1.negI {a : Int} (h : Q (.int (-a)) st) : W1 c k (unaryOp .USub) (.int a) ρ st Q X := by
  refine ⟨fun f imm fr s x ok R ra => ?_⟩
  cases ra
  exact neg_int (.int R h)
theorem W2.eqI {a b : Int} (h : Q (.bool (a == b)) st) : W2 c k (compareOp .Eq) (.int a) (.int b) ρ st Q X := by
  refine ⟨fun f imm fr s x y ok R ra rb => ?_⟩
  cases ra; cases rb
  exact eq_int (.bool R h)
theorem W2.neI {a b : Int} (h : Q (.bool (a != b)) st) : W2 c k (compareOp .NotEq) (.int a) (.int b) ρ st Q X := by
  refine ⟨fun f imm fr s x y ok R ra rb => ?_⟩
  cases ra; cases rb
  exact ne_int (.bool R h)
theorem W2.ltI {a b : Int} (h : Q (.bool (decide (a < b))) st) : W2 c k (compareOp .Lt) (.int a) (.int b) ρ st Q X := by
  refine ⟨fun f imm fr s x y ok R ra rb => ?_⟩
  cases ra; cases rb
  exact lt_int (.bool R h)
theorem W2.leI {a b : Int} (h : Q (.bool (decide (a ≤ b))) st) : W2 c k (compareOp .LtE) (.int a) (.int b) ρ st Q X := by
  refine ⟨fun f imm fr s x y ok R ra rb => ?_⟩
  cases ra; cases rb
  exact le_int (.bool R h)
theorem W2.gtI {a b : Int} (h : Q (.bool (decide (b < a))) st) : W2 c k (compareOp .Gt) (.int a) (.int b) ρ st Q X := by
  refine ⟨fun f imm fr s x y ok R ra rb => ?_⟩
  cases ra; cases rb
  exact gt_int (.bool R h)
theorem W2.geI {a b : Int} (h : Q (.bool (decide (b ≤ a))) st) : W2 c k (compareOp .GtE) (.int a) (.int b) ρ st Q X := by
  refine ⟨fun f imm fr s x y ok R ra rb => ?_⟩
  cases ra; cases rb
  exact ge_int (.bool R h)
theorem W2.eqS {a b : Str} (h : Q (.bool (a == b)) st) : W2 c k (compareOp .Eq) (.str a) (.str b) ρ st Q X := by
  refine ⟨fun f imm fr s x y ok R ra rb => ?_⟩
  cases ra; cases rb
  exact PyProof.Rows.eq_str (.bool R h)


/-- is: a value that is no int, no text, no object of two -/
def isOk : V → V → Bool
  | .none, .none => true
  | .none, .bool _ => true
  | .none, .int _ => true
  | .none, .str _ => true
  | .none, .tup _ => true
  | .none, .ref _ => true
  | .bool _, .none => true
  | .bool _, .bool _ => true
  | .int _, .none => true
  | .int _, .bool _ => true
  | .str _, .none => true
  | .str _, .bool _ => true
  | .tup _, .none => true
  | .tup _, .bool _ => true
  | .ref _, .none => true
  | .ref _, .bool _ => true
  | _, _ => false
def isSameV : V → V → Bool
  | .none, .none => true
  | .bool a, .bool b => a == b
  | _, _ => false
theorem is_plain {base : Heap} {imm : Led} {a b : V} {x y : Value} (ra : RV base imm a x) (rb : RV base imm b y) (ho : isOk a b = true) : plainIs x y = true ∧ (x == y) = isSameV a b := by
  cases ra <;> cases rb <;> first | (exact ⟨rfl, rfl⟩) | (cases ho; done) | (rename_i a b; cases a <;> cases b <;> exact ⟨rfl, rfl⟩)
theorem W2.is {a b : V} (ho : isOk a b = true) (h : Q (.bool (isSameV a b)) st) : W2 c k (compareOp .Is) a b ρ st Q X := by
  refine ⟨fun f imm fr s x y ok R ra rb => ?_⟩
  have q := is_plain ra rb ho
  exact wpAny_is_plain q.1 (.bool R (q.2 ▸ h))
theorem W2.isNot {a b : V} (ho : isOk a b = true) (h : Q (.bool (!isSameV a b)) st) : W2 c k (compareOp .IsNot) a b ρ st Q X := by
  refine ⟨fun f imm fr s x y ok R ra rb => ?_⟩
  have q := is_plain ra rb ho
  exact wpAny_isNot_plain q.1 (.bool R (q.2 ▸ h))

/-! truth -/
def PostB (c : Cx) (f : Fm) (ρ : Loc) (imm fr : Led) (Q : Bool → St → Prop) (b : Bool) (s : Shared) : Prop :=
  ∃ st imm', (∀ p ∈ imm, p ∈ imm') ∧ Rel c f ρ st imm' fr s ∧ Q b st
theorem PostB.mono {imm' : Led} {Q : Bool → St → Prop} {b : Bool} (hs : ∀ p ∈ imm, p ∈ imm') (h : PostB c f ρ imm' fr Q b s) : PostB c f ρ imm fr Q b s :=
  let ⟨st, imm'', a, r⟩ := h; ⟨st, imm'', fun p hp => a p (hs p hp), r⟩
structure WPB (c : Cx) (k : Nat) (sc : Scope) (ρ : Loc) (st : St) (e : Expr) (Q : Bool → St → Prop) (X : Xp) : Prop where
  go : ∀ f imm fr s, f.Ok c k → f.env.scope = sc → Rel c f ρ st imm fr s →
    wpAny c.M f.A (isTrue e f.env (eval e f.env)) (PostB c f ρ imm fr Q) (Thrown c f imm fr X) s
/-- and, or: the rest of them -/
structure WPAll (c : Cx) (k : Nat) (sc : Scope) (op : BoolOp) (ρ : Loc) (st : St) (es : List Expr) (Q : Bool → St → Prop) (X : Xp) : Prop where
  go : ∀ f imm fr s, f.Ok c k → f.env.scope = sc → Rel c f ρ st imm fr s →
    wpAny c.M f.A (allTrue op es f.env) (PostB c f ρ imm fr Q) (Thrown c f imm fr X) s
variable {B : Bool → St → Prop}

theorem WPB.val {e : Expr} (h : WPE c k sc ρ st e (fun v st₁ => ∃ b, v = .bool b ∧ B b st₁) X)
    (he : ∀ env whole, isTrue e env whole = (do let v ← whole; standAt e.pos; holding [v] (truthy v)) := by intro _ _; rfl) : WPB c k sc ρ st e B X := by
  refine ⟨fun f imm fr s ok hsc R => ?_⟩
  refine wpAny_isTrue_value (wpAny_mono (h.go f imm fr s ok hsc R) (fun x s₁ p => ?_) fun _ _ t => t) (he _ _)
  obtain ⟨v, st₁, imm₁, i₁, rv, R₁, b, rfl, h₁⟩ := p
  cases rv
  exact wpAny_truthy_bool ⟨st₁, imm₁, i₁, R₁, h₁⟩
theorem WPB.not {e : Expr} {pos : Pos} (h : WPB c k sc ρ st e (fun b st₁ => cnd b (B false st₁) (B true st₁)) X) : WPB c k sc ρ st (.UnaryOp .Not e pos) B X := by
  refine ⟨fun f imm fr s ok hsc R => ?_⟩
  refine wpAny_isTrue_Not (wpAny_mono (h.go f imm fr s ok hsc R) (fun b s₁ p => ?_) fun _ _ t => t)
  obtain ⟨st₁, imm₁, i₁, R₁, h₁⟩ := p
  cases b with
  | true => exact ⟨st₁, imm₁, i₁, R₁, of_t h₁⟩
  | false => exact ⟨st₁, imm₁, i₁, R₁, of_f h₁⟩
theorem WPB.cmp {l r : Expr} {op : CmpOp} {pos : Pos} (h : WPE c k sc ρ st l (fun a st₁ => WPE c k sc ρ st₁ r (fun b st₂ => W2 c k (compareOp op) a b ρ st₂ (fun v st₃ => ∃ b, v = .bool b ∧ B b st₃) X) X) X) (hm : behindInMarks op r = false := by rfl) : WPB c k sc ρ st (.Compare l [op] [r] pos) B X := by
  refine ⟨fun f imm fr s ok hsc R => ?_⟩
  refine wpAny_isTrue_Compare1 (wpAny_mono (h.go f imm fr s ok hsc R) (fun x s₁ p => ?_) fun _ _ t => t) hm
  obtain ⟨a, st₁, imm₁, i₁, ra, R₁, h₁⟩ := p
  refine wpAny_mono (h₁.go f imm₁ fr s₁ ok hsc R₁) (fun y s₂ p => ?_) fun _ _ t => t.mono i₁
  obtain ⟨b, st₂, imm₂, i₂, rb, R₂, h₂⟩ := p
  refine wpAny_mono (h₂.go f imm₂ fr s₂ x y ok R₂ (ra.mono i₂) rb) (fun z s₃ p => ?_) fun _ _ t => t.mono fun q hq => i₂ q (i₁ q hq)
  obtain ⟨v, st₃, imm₃, i₃, rv, R₃, b, rfl, h₃⟩ := p
  cases rv
  exact wpAny_truthy_bool ⟨st₃, imm₃, fun q hq => i₃ q (i₂ q (i₁ q hq)), R₃, h₃⟩
theorem WPB.op {op : BoolOp} {es : List Expr} {pos : Pos} (h : WPAll c k sc op ρ st es B X) : WPB c k sc ρ st (.BoolOp op es pos) B X := ⟨fun f imm fr s ok hsc R => wpAny_isTrue_BoolOp (h.go f imm fr s ok hsc R)⟩
theorem WPAll.and {e : Expr} {es : List Expr} (h : WPB c k sc ρ st e (fun b st₁ => cnd b (WPAll c k sc .And ρ st₁ es B X) (B false st₁)) X) : WPAll c k sc .And ρ st (e :: es) B X := by
  refine ⟨fun f imm fr s ok hsc R => ?_⟩
  refine wpAny_allTrue_And_cons (wpAny_mono (h.go f imm fr s ok hsc R) (fun b s₁ p => ?_) fun _ _ t => t)
  obtain ⟨st₁, imm₁, i₁, R₁, h₁⟩ := p
  cases b with
  | true => exact wpAny_mono ((of_t h₁).go f imm₁ fr s₁ ok hsc R₁) (fun _ _ p => p.mono i₁) fun _ _ t => t.mono i₁
  | false => exact ⟨st₁, imm₁, i₁, R₁, h₁⟩
theorem WPAll.or {e : Expr} {es : List Expr} (h : WPB c k sc ρ st e (fun b st₁ => cnd b (B true st₁) (WPAll c k sc .Or ρ st₁ es B X)) X) : WPAll c k sc .Or ρ st (e :: es) B X := by
  refine ⟨fun f imm fr s ok hsc R => ?_⟩
  refine wpAny_allTrue_Or_cons (wpAny_mono (h.go f imm fr s ok hsc R) (fun b s₁ p => ?_) fun _ _ t => t)
  obtain ⟨st₁, imm₁, i₁, R₁, h₁⟩ := p
  cases b with
  | false => exact wpAny_mono ((of_f h₁).go f imm₁ fr s₁ ok hsc R₁) (fun _ _ p => p.mono i₁) fun _ _ t => t.mono i₁
  | true => exact ⟨st₁, imm₁, i₁, R₁, h₁⟩
theorem WPAll.andNil (h : B true st) : WPAll c k sc .And ρ st [] B X := ⟨fun f imm fr s ok hsc R => wpAny_allTrue_And_nil ⟨st, imm, fun _ h => h, R, h⟩⟩
theorem WPAll.orNil (h : B false st) : WPAll c k sc .Or ρ st [] B X := ⟨fun f imm fr s ok hsc R => wpAny_allTrue_Or_nil ⟨st, imm, fun _ h => h, R, h⟩⟩
theorem WPB.ife {t b o : Expr} {pos : Pos} (h : WPB c k sc ρ st t (fun v st₁ => cnd v (WPB c k sc ρ st₁ b B X) (WPB c k sc ρ st₁ o B X)) X) : WPB c k sc ρ st (.IfExp t b o pos) B X := by
  refine ⟨fun f imm fr s ok hsc R => ?_⟩
  refine isTrue_IfExp (wpAny_mono (h.go f imm fr s ok hsc R) (fun b s₁ p => ?_) fun _ _ t => t)
  obtain ⟨st₁, imm₁, i₁, R₁, h₁⟩ := p
  cases b with
  | false => exact wpAny_mono ((of_f h₁).go f imm₁ fr s₁ ok hsc R₁) (fun _ _ p => p.mono i₁) fun _ _ t => t.mono i₁
  | true => exact wpAny_mono ((of_t h₁).go f imm₁ fr s₁ ok hsc R₁) (fun _ _ p => p.mono i₁) fun _ _ t => t.mono i₁

/-! and, or, if as values -/
theorem WPE.ife {t b o : Expr} {pos : Pos} (h : WPB c k sc ρ st t (fun v st₁ => cnd v (WPE c k sc ρ st₁ b Q X) (WPE c k sc ρ st₁ o Q X)) X) : WPE c k sc ρ st (.IfExp t b o pos) Q X := by
  refine ⟨fun f imm fr s ok hsc R => ?_⟩
  refine wpAny_IfExp (wpAny_mono (h.go f imm fr s ok hsc R) (fun b s₁ p => ?_) fun _ _ t => t)
  obtain ⟨st₁, imm₁, i₁, R₁, h₁⟩ := p
  cases b with
  | false => exact wpAny_mono ((of_f h₁).go f imm₁ fr s₁ ok hsc R₁) (fun _ _ p => p.mono i₁) fun _ _ t => t.mono i₁
  | true => exact wpAny_mono ((of_t h₁).go f imm₁ fr s₁ ok hsc R₁) (fun _ _ p => p.mono i₁) fun _ _ t => t.mono i₁
theorem WPE.not {e : Expr} {pos : Pos} (h : WPE c k sc ρ st e (fun v st₁ => ∃ b, v = .bool b ∧ cnd b (Q (.bool false) st₁) (Q (.bool true) st₁)) X) : WPE c k sc ρ st (.UnaryOp .Not e pos) Q X := by
  refine ⟨fun f imm fr s ok hsc R => ?_⟩
  refine wpAny_UnaryOp (wpAny_mono (h.go f imm fr s ok hsc R) (fun x s₁ p => ?_) fun _ _ t => t)
  obtain ⟨v, st₁, imm₁, i₁, rv, R₁, b, rfl, h₁⟩ := p
  cases rv
  cases b with
  | true => exact not_of (wpAny_truthy_bool (PostE.mono i₁ (.bool R₁ (of_t h₁))))
  | false => exact not_of (wpAny_truthy_bool (PostE.mono i₁ (.bool R₁ (of_f h₁))))
theorem boolOp_one {M : Model} {A : Around} {E : Value → Shared → Prop} {x : Sem Value} {pos : Pos} {op : BoolOp} {P : Value → Shared → Prop} (h : wpAny M A x P E s) : wpAny M A (boolOp pos op [x]) P E s := h
theorem boolOp_more {M : Model} {A : Around} {E : Value → Shared → Prop} {x y : Sem Value} {r : List (Sem Value)} {pos : Pos} {op : BoolOp} {P : Value → Shared → Prop}
    (h : wpAny M A x (fun v s₁ => wpAny M A (truthy v) (fun t s₂ => match op, t with | .And, false | .Or, true => P v s₂ | _, _ => wpAny M A (boolOp pos op (y :: r)) P E s₂) E s₁) E s) : wpAny M A (boolOp pos op (x :: y :: r)) P E s := by
  show wpAny M A (do
    let v ← x
    standAt pos
    let t ← holding [v] (truthy v)
    match op, t with
    | .And, false | .Or, true => pure v
    | _, _ => boolOp pos op (y :: r)) P E s
  refine wpAny_bind (wpAny_mono h (fun v s₁ h₁ => wpAny_bind (wpAny_standAt (wpAny_bind (wpAny_holding (wpAny_mono h₁ (fun t s₂ h₂ => ?_) fun _ _ x => x))))) fun _ _ x => x)
  cases op <;> cases t <;> first | exact wpAny_pure h₂ | exact h₂
theorem WPE.opOne {op : BoolOp} {e : Expr} {pos : Pos} (h : WPE c k sc ρ st e Q X) : WPE c k sc ρ st (.BoolOp op [e] pos) Q X := ⟨fun f imm fr s ok hsc R => boolOp_one (h.go f imm fr s ok hsc R)⟩
theorem WPE.and {e e' : Expr} {es : List Expr} {pos : Pos} (h : WPE c k sc ρ st e (fun v st₁ => ∃ b, v = .bool b ∧ cnd b (WPE c k sc ρ st₁ (.BoolOp .And (e' :: es) pos) Q X) (Q (.bool false) st₁)) X) : WPE c k sc ρ st (.BoolOp .And (e :: e' :: es) pos) Q X := by
  refine ⟨fun f imm fr s ok hsc R => ?_⟩
  refine boolOp_more (wpAny_mono (h.go f imm fr s ok hsc R) (fun x s₁ p => ?_) fun _ _ t => t)
  obtain ⟨v, st₁, imm₁, i₁, rv, R₁, b, rfl, h₁⟩ := p
  cases rv
  refine wpAny_truthy_bool ?_
  cases b with
  | true => exact wpAny_mono ((of_t h₁).go f imm₁ fr s₁ ok hsc R₁) (fun _ _ p => p.mono i₁) fun _ _ t => t.mono i₁
  | false => exact PostE.mono i₁ (.bool R₁ h₁)
theorem WPE.or {e e' : Expr} {es : List Expr} {pos : Pos} (h : WPE c k sc ρ st e (fun v st₁ => ∃ b, v = .bool b ∧ cnd b (Q (.bool true) st₁) (WPE c k sc ρ st₁ (.BoolOp .Or (e' :: es) pos) Q X)) X) : WPE c k sc ρ st (.BoolOp .Or (e :: e' :: es) pos) Q X := by
  refine ⟨fun f imm fr s ok hsc R => ?_⟩
  refine boolOp_more (wpAny_mono (h.go f imm fr s ok hsc R) (fun x s₁ p => ?_) fun _ _ t => t)
  obtain ⟨v, st₁, imm₁, i₁, rv, R₁, b, rfl, h₁⟩ := p
  cases rv
  refine wpAny_truthy_bool ?_
  cases b with
  | false => exact wpAny_mono ((of_f h₁).go f imm₁ fr s₁ ok hsc R₁) (fun _ _ p => p.mono i₁) fun _ _ t => t.mono i₁
  | true => exact PostE.mono i₁ (.bool R₁ h₁)
theorem WPE.cmp2 {l r₁ r₂ : Expr} {op₁ op₂ : CmpOp} {pos : Pos} (h : WPE c k sc ρ st l (fun a st₁ => WPE c k sc ρ st₁ r₁ (fun b st₂ => W2 c k (compareOp op₁) a b ρ st₂ (fun v st₃ => ∃ t, v = .bool t ∧ cnd t (WPE c k sc ρ st₃ r₂ (fun d st₄ => W2 c k (compareOp op₂) b d ρ st₄ Q X) X) (Q (.bool false) st₃)) X) X) X)
    (hm : lastMarks [op₁, op₂] [r₁, r₂] = false := by rfl) : WPE c k sc ρ st (.Compare l [op₁, op₂] [r₁, r₂] pos) Q X := by
  refine ⟨fun f imm fr s ok hsc R => ?_⟩
  refine Compare_chain (wpAny_mono (h.go f imm fr s ok hsc R) (fun x s₁ p => ?_) fun _ _ t => t) hm
  obtain ⟨a, st₁, imm₁, i₁, ra, R₁, h₁⟩ := p
  refine chain_link (wpAny_mono (h₁.go f imm₁ fr s₁ ok hsc R₁) (fun y s₂ p => ?_) fun _ _ t => t.mono i₁)
  obtain ⟨b, st₂, imm₂, i₂, rb, R₂, h₂⟩ := p
  refine wpAny_mono (h₂.go f imm₂ fr s₂ x y ok R₂ (ra.mono i₂) rb) (fun z s₃ p => ?_) fun _ _ t => t.mono fun q hq => i₂ q (i₁ q hq)
  obtain ⟨v, st₃, imm₃, i₃, rv, R₃, t, rfl, h₃⟩ := p
  cases rv
  refine wpAny_truthy_bool ?_
  have i₁₃ : ∀ p ∈ imm, p ∈ imm₃ := fun q hq => i₃ q (i₂ q (i₁ q hq))
  cases t with
  | false => exact PostE.mono i₁₃ (.bool R₃ h₃)
  | true =>
    refine chain_last (wpAny_mono ((of_t h₃).go f imm₃ fr s₃ ok hsc R₃) (fun u s₄ p => ?_) fun _ _ t => t.mono i₁₃)
    obtain ⟨d, st₄, imm₄, i₄, rd, R₄, h₄⟩ := p
    exact wpAny_mono (h₄.go f imm₄ fr s₄ y u ok R₄ ((rb.mono i₃).mono i₄) rd) (fun _ _ p => p.mono fun q hq => i₄ q (i₁₃ q hq)) fun _ _ t => t.mono fun q hq => i₄ q (i₁₃ q hq)
theorem WPB.cmp2 {l r₁ r₂ : Expr} {op₁ op₂ : CmpOp} {pos : Pos} (h : WPE c k sc ρ st l (fun a st₁ => WPE c k sc ρ st₁ r₁ (fun b st₂ => W2 c k (compareOp op₁) a b ρ st₂ (fun v st₃ => ∃ t, v = .bool t ∧ cnd t (WPE c k sc ρ st₃ r₂ (fun d st₄ => W2 c k (compareOp op₂) b d ρ st₄ (fun v st₅ => ∃ t, v = .bool t ∧ B t st₅) X) X) (B false st₃)) X) X) X)
    (hm : lastMarks [op₁, op₂] [r₁, r₂] = false := by rfl) : WPB c k sc ρ st (.Compare l [op₁, op₂] [r₁, r₂] pos) B X := by
  refine ⟨fun f imm fr s ok hsc R => ?_⟩
  refine isTrue_chain (wpAny_mono (h.go f imm fr s ok hsc R) (fun x s₁ p => ?_) fun _ _ t => t) hm
  obtain ⟨a, st₁, imm₁, i₁, ra, R₁, h₁⟩ := p
  refine test_link (wpAny_mono (h₁.go f imm₁ fr s₁ ok hsc R₁) (fun y s₂ p => ?_) fun _ _ t => t.mono i₁)
  obtain ⟨b, st₂, imm₂, i₂, rb, R₂, h₂⟩ := p
  refine wpAny_mono (h₂.go f imm₂ fr s₂ x y ok R₂ (ra.mono i₂) rb) (fun z s₃ p => ?_) fun _ _ t => t.mono fun q hq => i₂ q (i₁ q hq)
  obtain ⟨v, st₃, imm₃, i₃, rv, R₃, t, rfl, h₃⟩ := p
  cases rv
  refine wpAny_truthy_bool ?_
  have i₁₃ : ∀ p ∈ imm, p ∈ imm₃ := fun q hq => i₃ q (i₂ q (i₁ q hq))
  cases t with
  | false => exact ⟨st₃, imm₃, i₁₃, R₃, h₃⟩
  | true =>
    refine test_last (wpAny_mono ((of_t h₃).go f imm₃ fr s₃ ok hsc R₃) (fun u s₄ p => ?_) fun _ _ t => t.mono i₁₃)
    obtain ⟨d, st₄, imm₄, i₄, rd, R₄, h₄⟩ := p
    have i₁₄ : ∀ p ∈ imm, p ∈ imm₄ := fun q hq => i₄ q (i₁₃ q hq)
    refine wpAny_mono (h₄.go f imm₄ fr s₄ y u ok R₄ ((rb.mono i₃).mono i₄) rd) (fun z s₅ p => ?_) fun _ _ t => t.mono i₁₄
    obtain ⟨v, st₅, imm₅, i₅, rv, R₅, t, rfl, h₅⟩ := p
    cases rv
    exact wpAny_truthy_bool ⟨st₅, imm₅, fun q hq => i₅ q (i₁₄ q hq), R₅, h₅⟩
end
end Mine
namespace Mine
inductive Fl where
  | next | brk | cont
  | ret (v : V)
/-- on, or out -/
def nxt (fl : Fl) (p q : Prop) : Prop := match fl with
  | .next => p
  | _ => q
theorem nxt_next {p q : Prop} (h : p) : nxt .next p q := h
theorem nxt_ret {v : V} {p q : Prop} (h : q) : nxt (.ret v) p q := h
theorem nxt_cont {p q : Prop} (h : q) : nxt .cont p q := h
theorem nxt_brk {p q : Prop} (h : q) : nxt .brk p q := h
inductive RFl (base : Heap) (imm : Led) : Fl → Flow → Prop
  | next : RFl base imm .next .next
  | brk : RFl base imm .brk .brk
  | cont : RFl base imm .cont .cont
  | ret {v : V} {x : Value} : RV base imm v x → RFl base imm (.ret v) (.ret x)

def PostS (c : Cx) (f : Fm) (imm fr : Led) (Q : Fl → Loc → St → Prop) (fl : Flow) (s : Shared) : Prop :=
  ∃ fl' ρ st imm', (∀ p ∈ imm, p ∈ imm') ∧ RFl c.base imm' fl' fl ∧ Rel c f ρ st imm' fr s ∧ Q fl' ρ st
theorem PostS.mono {c : Cx} {f : Fm} {imm imm' fr : Led} {Q : Fl → Loc → St → Prop} {fl : Flow} {s : Shared} (hs : ∀ p ∈ imm, p ∈ imm') (h : PostS c f imm' fr Q fl s) : PostS c f imm fr Q fl s :=
  let ⟨v, ρ, st, imm'', a, r⟩ := h; ⟨v, ρ, st, imm'', fun p hp => a p (hs p hp), r⟩

/-- a function's own block -/
structure Fm.Own (f : Fm) : Prop where
  same : f.env = f.fenv
  locals : f.env.locals = f.L

/-- statements -/
structure WPS (c : Cx) (k : Nat) (sc : Scope) (ρ : Loc) (st : St) (ss : List Stmt) (Q : Fl → Loc → St → Prop) (X : Xp) : Prop where
  go : ∀ f imm fr s, f.Ok c k → f.env.scope = sc → f.Own → Rel c f ρ st imm fr s →
    wpAny c.M f.A (execs ss f.env) (PostS c f imm fr Q) (Thrown c f imm fr X) s
/-- one statement -/
structure WPs (c : Cx) (k : Nat) (sc : Scope) (ρ : Loc) (st : St) (ss : Stmt) (Q : Fl → Loc → St → Prop) (X : Xp) : Prop where
  go : ∀ f imm fr s, f.Ok c k → f.env.scope = sc → f.Own → Rel c f ρ st imm fr s →
    wpAny c.M f.A (exec ss f.env) (PostS c f imm fr Q) (Thrown c f imm fr X) s
/-- expressions, one behind the other -/
def PostL (c : Cx) (f : Fm) (ρ : Loc) (imm fr : Led) (n : Nat) (Q : List V → St → Prop) (xs : List Value) (s : Shared) : Prop :=
  ∃ vs st imm', (∀ p ∈ imm, p ∈ imm') ∧ RVs c.base imm' vs xs ∧ Rel c f ρ st imm' fr s ∧ vs.length = n ∧ Q vs st
structure WPEs (c : Cx) (k : Nat) (sc : Scope) (ρ : Loc) (st : St) (es : List Expr) (Q : List V → St → Prop) (X : Xp) : Prop where
  go : ∀ f imm fr s pos, f.Ok c k → f.env.scope = sc → Rel c f ρ st imm fr s →
    wpAny c.M f.A (spliced (backTo pos (starEach es f.env))) (PostL c f ρ imm fr es.length Q) (Thrown c f imm fr X) s

section
variable {c : Cx} {k : Nat} {sc : Scope} {ρ : Loc} {st : St} {Q : V → St → Prop} {S : Fl → Loc → St → Prop} {X : Xp} {f : Fm} {imm fr : Led} {s : Shared} {tk : Nat}

theorem PostS.next (R : Rel c f ρ st imm fr s) (h : S .next ρ st) : PostS c f imm fr S .next s := ⟨.next, ρ, st, imm, fun _ h => h, .next, R, h⟩

theorem WPS.nil (h : S .next ρ st) : WPS c k sc ρ st [] S X := ⟨fun f imm fr s ok hsc own R => wpAny_execs_nil (.next R h)⟩
theorem WPS.cons {t : Stmt} {ts : List Stmt} (h : WPs c k sc ρ st t (fun fl ρ₁ st₁ => nxt fl (WPS c k sc ρ₁ st₁ ts S X) (S fl ρ₁ st₁)) X) : WPS c k sc ρ st (t :: ts) S X := by
  refine ⟨fun f imm fr s ok hsc own R => ?_⟩
  refine wpAny_execs_cons (wpAny_mono (h.go f imm fr s ok hsc own R) (fun fl s₁ p => ?_) fun _ _ t => t)
  obtain ⟨fl', ρ₁, st₁, imm₁, i₁, rf, R₁, h₁⟩ := p
  cases rf with
  | next => exact wpAny_mono ((show WPS c k sc ρ₁ st₁ ts S X from h₁).go f imm₁ fr s₁ ok hsc own R₁) (fun _ _ p => p.mono i₁) fun _ _ t => t.mono i₁
  | brk => exact ⟨.brk, ρ₁, st₁, imm₁, i₁, .brk, R₁, h₁⟩
  | cont => exact ⟨.cont, ρ₁, st₁, imm₁, i₁, .cont, R₁, h₁⟩
  | ret r => exact ⟨_, ρ₁, st₁, imm₁, i₁, .ret r, R₁, h₁⟩

theorem WPs.ret {e : Expr} {pos : Pos} (h : WPE c k sc ρ st e (fun v st₁ => S (.ret v) ρ st₁) X) : WPs c k sc ρ st (.Return (some e) pos) S X := by
  refine ⟨fun f imm fr s ok hsc own R => ?_⟩
  refine wpAny_Return_some (wpAny_mono (h.go f imm fr s ok hsc R) (fun x s₁ p => ?_) fun _ _ t => t)
  obtain ⟨v, st₁, imm₁, i₁, rv, R₁, h₁⟩ := p
  exact ⟨.ret v, ρ, st₁, imm₁, i₁, .ret rv, R₁, h₁⟩
theorem WPs.pass {pos : Pos} (h : S .next ρ st) : WPs c k sc ρ st (.Pass pos) S X := ⟨fun f imm fr s ok hsc own R => wpAny_Pass (.next R h)⟩
theorem WPs.cont {pos : Pos} (h : S .cont ρ st) : WPs c k sc ρ st (.Continue pos) S X := ⟨fun f imm fr s ok hsc own R => wpAny_Continue ⟨.cont, ρ, st, imm, fun _ h => h, .cont, R, h⟩⟩
theorem WPs.ifs {e : Expr} {b o : List Stmt} {pos : Pos} (h : WPB c k sc ρ st e (fun v st₁ => cnd v (WPS c k sc ρ st₁ b S X) (WPS c k sc ρ st₁ o S X)) X) : WPs c k sc ρ st (.If e b o pos) S X := by
  refine ⟨fun f imm fr s ok hsc own R => ?_⟩
  refine wpAny_If (wpAny_mono (h.go f imm fr s ok hsc R) (fun b s₁ p => ?_) fun _ _ t => t)
  obtain ⟨st₁, imm₁, i₁, R₁, h₁⟩ := p
  cases b with
  | false => exact wpAny_mono ((of_f h₁).go f imm₁ fr s₁ ok hsc own R₁) (fun _ _ p => p.mono i₁) fun _ _ t => t.mono i₁
  | true => exact wpAny_mono ((of_t h₁).go f imm₁ fr s₁ ok hsc own R₁) (fun _ _ p => p.mono i₁) fun _ _ t => t.mono i₁
theorem WPs.expr {e : Expr} {pos : Pos} (h : WPE c k sc ρ st e (fun _ st₁ => S .next ρ st₁) X) (hs : ∀ env, swapsWith e none pos.line env = pure false := by intro _; rfl) : WPs c k sc ρ st (.Expr e pos) S X := by
  refine ⟨fun f imm fr s ok hsc own R => ?_⟩
  refine wpAny_Expr_any (wpAny_mono (h.go f imm fr s ok hsc R) (fun x s₁ p => ?_) fun _ _ t => t) ?_ (hs _)
  · obtain ⟨v, st₁, imm₁, i₁, rv, R₁, h₁⟩ := p
    exact ⟨.next, ρ, st₁, imm₁, i₁, .next, R₁, h₁⟩
  · unfold interactive; rw [ok.ekind]; rfl

/-! storing a name -/
theorem getL_set_reads {base : Heap} {f : Fm} {m : Str → Option Value} {cs : Led} {x : Str} {v : V} {val : Value} (L : LocR base imm f ρ m cs fr) (hl : f.env.kindOf x = some .local) (own : f.env.locals = f.L) (rv : RV base imm v val) :
    LocR base imm f (setL ρ x v) (fun y => if y = x then some val else m y) cs fr := by
  refine ⟨fun y u e => ?_, L.cells, L.inj⟩
  rw [getL_setL] at e
  by_cases h : y = x
  · subst h
    rw [if_pos rfl] at e
    cases e
    exact ⟨val, rv, .inl ⟨hl, own, by simp⟩⟩
  · rw [if_neg h] at e
    obtain ⟨w, rw', q⟩ := L.reads y u e
    refine ⟨w, rw', ?_⟩
    rcases q with ⟨q1, q2, q3⟩ | q | q
    · exact .inl ⟨q1, q2, by simpa [h] using q3⟩
    · exact .inr (.inl q)
    · exact .inr (.inr q)
theorem store_local {x : Str} {v : V} {val : Value} {P : Unit → Shared → Prop} {E : Value → Shared → Prop} (ok : f.Ok c k) (own : f.Own) (R : Rel c f ρ st imm fr s) (hx : f.env.kindOf x = some .local) (rv : RV c.base imm v val)
    (h : ∀ s', Rel c f (setL ρ x v) st imm fr s' → P () s') : wpAny c.M f.A (storeName f.env x val) P E s := by
  obtain ⟨⟨h0, tk0, rfl⟩, m, mt, cs, fo, r⟩ := R
  refine wpAny_storeName_local hx (own.locals ▸ r.frm.ns) (fun h' hn hs => h _ ⟨⟨h', _, rfl⟩, (fun y => if y = x then some val else m y), mt, cs, fo, ?_⟩) (by rw [ok.ekind]; rfl)
  rw [own.locals] at hn hs
  exact ⟨r.frm.set hn hs, r.news.set hs, r.nodup, r.sto, r.fos, getL_set_reads r.loc hx own.locals rv⟩
theorem store_cell {x : Str} {v : V} {val : Value} {P : Unit → Shared → Prop} {E : Value → Shared → Prop} {cc : Addr} (ok : f.Ok c k) (R : Rel c f ρ st imm fr s) (hx : f.env.kindOf x = some .cell) (hc : f.env.cells.lookup x = some cc) (rv : RV c.base imm v val)
    (h : ∀ s', Rel c f (setL ρ x v) st imm fr s' → P () s') : wpAny c.M f.A (storeName f.env x val) P E s := by
  obtain ⟨⟨h0, tk0, rfl⟩, m, mt, cs, fo, r⟩ := R
  obtain ⟨o, v₀, hm, hd⟩ := r.loc.cells x cc hc
  have hw := r.news (cc, o) (by simp [hm])
  refine wpAny_storeName_cell ok.ekind hx hc ⟨o, hw.1, hd⟩ fun h' hv hs => ?_
  obtain ⟨o', ho', hd'⟩ := hv
  obtain ⟨c1, c2, rfl⟩ := List.append_of_mem hm
  have e : whole mt (c1 ++ (cc, o) :: c2) imm fr fo = (mt ++ c1) ++ (cc, o) :: (c2 ++ (imm ++ (fr ++ fo))) := by simp
  have e' : whole mt (c1 ++ (cc, o') :: c2) imm fr fo = (mt ++ c1) ++ (cc, o') :: (c2 ++ (imm ++ (fr ++ fo))) := by simp
  have nd := r.nodup
  rw [e] at nd
  have h1 : ∀ p ∈ mt ++ c1, p.1 ≠ cc := fun p hp q => by
    rw [List.map_append, List.nodup_append] at nd
    exact nd.2.2 p.1 (List.mem_map_of_mem hp) cc (by simp) q
  have h2 : ∀ p ∈ c2 ++ (imm ++ (fr ++ fo)), p.1 ≠ cc := fun p hp q => by
    rw [List.map_append, List.nodup_append, List.map_cons, List.nodup_cons] at nd
    exact nd.2.1.1 (List.mem_map.mpr ⟨p, hp, q⟩)
  have hne : ∀ b ob, (b, ob) ∈ c1 ++ (cc, o) :: c2 → b ≠ cc → (b, ob) ∈ c1 ++ (cc, o') :: c2 := fun b ob hb n => by
    simp only [List.mem_append, List.mem_cons, Prod.mk.injEq] at hb ⊢
    rcases hb with hb | ⟨hb, _⟩ | hb
    · exact .inl hb
    · exact absurd hb n
    · exact .inr (.inr hb)
  refine h _ ⟨⟨h', _, rfl⟩, m, mt, c1 ++ (cc, o') :: c2, fo, Fr.other r.frm hs hw.2.1 hw.2.2, ?_, ?_, r.sto, r.fos, ?_⟩
  · rw [e']
    have := r.news
    rw [e] at this
    exact News.setAt this h1 h2 hs ho'
  · rw [e']; simp only [List.map_append, List.map_cons] at nd ⊢; exact nd
  · refine ⟨fun y u q => ?_, fun y cy q => ?_, r.loc.inj⟩
    · rw [getL_setL] at q
      by_cases hy : y = x
      · subst hy
        rw [if_pos rfl] at q
        cases q
        exact ⟨val, rv, .inr (.inr ⟨.inl hx, cc, o', hc, by simp, hd'⟩)⟩
      · rw [if_neg hy] at q
        obtain ⟨w, rw', z⟩ := r.loc.reads y u q
        refine ⟨w, rw', ?_⟩
        rcases z with z | z | ⟨z1, c', oc, z2, z3, z4⟩
        · exact .inl z
        · exact .inr (.inl z)
        · refine .inr (.inr ⟨z1, c', oc, z2, hne _ _ z3 fun e => hy (r.loc.inj y x cc (e ▸ z2) hc), z4⟩)
    · obtain ⟨oy, vy, z1, z2⟩ := r.loc.cells y cy q
      by_cases e : cy = cc
      · subst e; exact ⟨o', _, by simp, hd'⟩
      · exact ⟨oy, vy, hne _ _ z1 e, z2⟩
/-- any name that the frame stores -/
def storesB (sc : Scope) (x : Str) : Bool := match sc.names.lookup x with | some .local | some .cell => true | _ => false
theorem store {x : Str} {v : V} {val : Value} {P : Unit → Shared → Prop} {E : Value → Shared → Prop} (ok : f.Ok c k) (own : f.Own) (R : Rel c f ρ st imm fr s) (hx : storesB f.env.scope x = true) (rv : RV c.base imm v val)
    (h : ∀ s', Rel c f (setL ρ x v) st imm fr s' → P () s') : wpAny c.M f.A (storeName f.env x val) P E s := by
  unfold storesB at hx
  cases hk : f.env.scope.names.lookup x with
  | none => rw [hk] at hx; cases hx
  | some kd =>
    rw [hk] at hx
    cases kd <;> first | (cases hx; done) | (exact store_local ok own R hk rv h) | skip
    obtain ⟨cc, hcc⟩ := ok.ecell x hk
    exact store_cell ok R hk hcc rv h

theorem WPs.asg {x : Str} {e : Expr} {np pos : Pos} (h : WPE c k sc ρ st e (fun v st₁ => S .next (setL ρ x v) st₁) X) (hx : storesB sc x = true := by rfl)
    (hs : ∀ env, swapsWith e (some (.Name x np)) pos.line env = pure false := by intro _; rfl) : WPs c k sc ρ st (.Assign [.Name x np] e pos) S X := by
  refine ⟨fun f imm fr s ok hsc own R => ?_⟩
  refine wpAny_Assign_Name (wpAny_mono (h.go f imm fr s ok hsc R) (fun val s₁ p => ?_) fun _ _ t => t) (hs _)
  obtain ⟨v, st₁, imm₁, i₁, rv, R₁, h₁⟩ := p
  exact store ok own R₁ (hsc ▸ hx) rv fun s' R' => ⟨.next, _, st₁, imm₁, i₁, .next, R', h₁⟩

/-! tuples and lists made -/
theorem WPEs.nil {P : List V → St → Prop} (h : P [] st) : WPEs c k sc ρ st [] P X := ⟨fun f imm fr s pos ok hsc R => spliced_none ⟨[], st, imm, fun _ h => h, .nil, R, rfl, h⟩⟩
theorem WPEs.cons {e : Expr} {es : List Expr} {P : List V → St → Prop} (h : WPE c k sc ρ st e (fun v st₁ => WPEs c k sc ρ st₁ es (fun vs st₂ => P (v :: vs) st₂) X) X)
    (he : ∀ env, starEach (e :: es) env = (false, eval e env) :: starEach es env := by intro _; rfl) : WPEs c k sc ρ st (e :: es) P X := by
  refine ⟨fun f imm fr s pos ok hsc R => ?_⟩
  refine spliced_more (wpAny_mono (h.go f imm fr s ok hsc R) (fun x s₁ p => ?_) fun _ _ t => t) (he _)
  obtain ⟨v, st₁, imm₁, i₁, rv, R₁, h₁⟩ := p
  refine wpAny_mono (h₁.go f imm₁ fr s₁ pos ok hsc R₁) (fun xs s₂ p => ?_) fun _ _ t => t.mono i₁
  obtain ⟨vs, st₂, imm₂, i₂, rvs, R₂, hn, h₂⟩ := p
  exact ⟨v :: vs, st₂, imm₂, fun q hq => i₂ q (i₁ q hq), .cons (rv.mono i₂) rvs, R₂, by simp [hn], h₂⟩
theorem WPE.tup {es : List Expr} {n : Nat} {pos : Pos} (h : WPEs c k sc ρ st es (fun vs st₁ => Q (.tup vs) st₁) X) (hl : es.length ≤ sizeLine := by decide) : WPE c k sc ρ st (.Tuple es n pos) Q X := by
  refine ⟨fun f imm fr s ok hsc R => ?_⟩
  refine wpAny_Tuple (wpAny_mono (h.go f imm fr s pos ok hsc R) (fun xs s₁ p => ?_) fun _ _ t => t)
  obtain ⟨vs, st₁, imm₁, i₁, rvs, R₁, hn, h₁⟩ := p
  have hs : ∀ p ∈ imm₁, p ∈ (s₁.heap.objs.size, tupObj xs 0) :: imm₁ := fun p hp => .tail _ hp
  exact ⟨by rw [rvs.length, hn]; exact hl, _, st₁, _, fun q hq => hs q (i₁ q hq), .tup (.head _) (rvs.mono hs), R₁.pushImm (tk := s₁.toks), h₁⟩
theorem WPE.lst {es : List Expr} {pos : Pos} (h : WPEs c k sc ρ st es (fun vs st₁ => ∀ a, get st₁ a = none → Q (.ref a) ((a, .list vs) :: st₁)) X) (hl : es.length ≤ sizeLine := by decide) : WPE c k sc ρ st (.List es pos) Q X := by
  refine ⟨fun f imm fr s ok hsc R => ?_⟩
  refine wpAny_List (wpAny_mono (h.go f imm fr s pos ok hsc R) (fun xs s₁ p => ?_) fun _ _ t => t)
  obtain ⟨vs, st₁, imm₁, i₁, rvs, R₁, hn, h₁⟩ := p
  exact ⟨by rw [rvs.length, hn]; exact hl, _, _, _, i₁, .ref _, R₁.pushSt (tk := s₁.toks) (.list rvs), h₁ _ R₁.none⟩
end
end Mine
namespace Mine
/-- a def of the text -/
structure FnAt (K : Frag) (a : Addr) (names : List Str) (sc : Scope) (body : List Stmt) : Prop where
  ex : ∃ fo fd, K.lookup a = some fo ∧ fo.data = .func fd ∧ fd.body = .stmts body ∧ fd.scope = sc ∧ fd.globals = mainGlobals ∧ fd.closure = [] ∧ fd.builtins = builtinsNs ∧
    codeIn K fd.code fd.qualname = true ∧ ∀ xs : List Value, xs.length = names.length → bindArgs fd ⟨xs, []⟩ = pure (names.zip xs)
  locB : names.all (storesB sc) = true
  co : sc.isCoroutine = false
  gen : sc.isGenerator = false
  kind : sc.kind = .function
  nodup : names.Nodup

theorem FnAt.loc {K : Frag} {a : Addr} {names : List Str} {sc : Scope} {body : List Stmt} (H : FnAt K a names sc body) : ∀ x ∈ names, storesB sc x = true := List.all_eq_true.mp H.locB
theorem zip_mem {base : Heap} {imm : Led} : ∀ {names : List Str} {vs : List V} {xs : List Value}, RVs base imm vs xs → ∀ {x : Str} {v : V}, getL (names.zip vs) x = some v → ∃ val, (x, val) ∈ names.zip xs ∧ RV base imm v val := by
  intro names
  induction names with
  | nil => intro vs xs _ x v e; simp [getL] at e
  | cons n names ih =>
    intro vs xs r x v e
    cases r with
    | nil => simp [getL] at e
    | cons rv rvs =>
      rw [List.zip_cons_cons, getL_cons] at e
      by_cases h : n = x
      · subst h
        rw [if_pos rfl] at e; cases e
        exact ⟨_, by simp, rv⟩
      · rw [if_neg h] at e
        obtain ⟨val, hm, hv⟩ := ih rvs e
        exact ⟨val, by rw [List.zip_cons_cons]; exact .tail _ hm, hv⟩
theorem zip_keys (ns : List Str) (ys : List Value) : ((ns.zip ys).map (·.1)).Sublist ns := by
  induction ns generalizing ys with
  | nil => simp
  | cons n ns ih => cases ys with
    | nil => simp
    | cons y ys => simpa using ih ys
theorem bindL_other {kd : Str → Option NameKind} {x : Str} : ∀ {b : List (Str × Value)} {m : Str → Option Value}, x ∉ b.map (·.1) → bindL kd b m x = m x
  | [], _, _ => rfl
  | (n, v) :: r, m, h => by
    simp only [List.map_cons, List.mem_cons, not_or] at h
    unfold bindL
    rw [bindL_other h.2]
    split
    · simp [h.1]
    · rfl
theorem bindC_other {kd : Str → Option NameKind} {x : Str} : ∀ {b : List (Str × Value)} {m : Str → Option Value}, x ∉ b.map (·.1) → bindC kd b m x = m x
  | [], _, _ => rfl
  | (n, v) :: r, m, h => by
    simp only [List.map_cons, List.mem_cons, not_or] at h
    unfold bindC
    rw [bindC_other h.2]
    split
    · rfl
    · simp [h.1]
theorem bindL_at {kd : Str → Option NameKind} {x : Str} {val : Value} (hk : kd x = some .local) : ∀ {b : List (Str × Value)} {m : Str → Option Value}, (b.map (·.1)).Nodup → (x, val) ∈ b → bindL kd b m x = some val
  | (n, v) :: r, m, nd, h => by
    simp only [List.map_cons, List.nodup_cons] at nd
    unfold bindL
    rcases List.mem_cons.mp h with h | h
    · cases h
      rw [bindL_other nd.1, if_pos hk]; simp
    · exact bindL_at hk nd.2 h
theorem bindC_at {kd : Str → Option NameKind} {x : Str} {val : Value} (hk : ¬ kd x = some .local) : ∀ {b : List (Str × Value)} {m : Str → Option Value}, (b.map (·.1)).Nodup → (x, val) ∈ b → bindC kd b m x = some val
  | (n, v) :: r, m, nd, h => by
    simp only [List.map_cons, List.nodup_cons] at nd
    unfold bindC
    rcases List.mem_cons.mp h with h | h
    · cases h
      rw [bindC_other nd.1, if_neg hk]; simp
    · exact bindC_at hk nd.2 h
theorem cells_look {x : Str} : ∀ (names : List (Str × NameKind)) (n : Nat) (acc : List (Str × Addr)), ((x, NameKind.cell) ∈ names ∨ (acc.lookup x).isSome = true) → ((cellsFrom n names acc).lookup x).isSome = true
  | [], n, acc, h => by
    rcases h with h | h
    · cases h
    · exact h
  | (y, kd) :: r, n, acc, h => by
    unfold cellsFrom
    split
    · rename_i hk
      refine cells_look r _ _ ?_
      rcases h with h | h
      · rcases List.mem_cons.mp h with h | h
        · cases h; right; simp
        · exact .inl h
      · right
        rw [List.lookup_cons]
        split
        · rfl
        · exact h
    · rename_i hk
      refine cells_look r _ _ ?_
      rcases h with h | h
      · rcases List.mem_cons.mp h with h | h
        · cases h; exact absurd rfl hk
        · exact .inl h
      · exact .inr h

section
variable {c : Cx} {k : Nat} {ρ : Loc} {st : St} {Q : V → St → Prop} {X : Xp} {f : Fm} {imm fr : Led} {s : Shared}

def retV : Fl → V
  | .ret v => v
  | _ => .none

/-- the callee's frame -/
abbrev Fm.call (f : Fm) (m : Str → Option Value) (L : Addr) (env : Env) : Fm := { outer := f.fenv :: f.outer, frs := (f.L, m) :: f.frs, L := L, fenv := env, env := env, A := f.A.deeper env }

theorem nodup_count {l : List Nat} (h : ∀ a, l.count a ≤ 1) : l.Nodup := List.nodup_iff_count.mpr h

/-- back in the caller's frame -/
theorem back {m : Str → Option Value} {L : Addr} {env : Env} {ρ' : Loc} {st' : St} {imm' cs : Led} {s' : Shared} {h : Heap} (R : Rel c (f.call m L env) ρ' st' imm' (cs ++ fr) s') (F : Fr c.base f.L h m) (hl : LocR c.base imm f ρ m cs fr) (hi : ∀ p ∈ imm, p ∈ imm')
    (hL : ∀ p ∈ cs ++ fr, p.1 ≠ f.L) : Rel c f ρ st' imm' fr s' := by
  obtain ⟨hr, m', mt', cs', fo', r⟩ := R
  have fos := r.fos
  cases fos with
  | @cons _ _ oL _ fo no fos =>
    have hw := r.news (f.L, oL) (by simp)
    obtain ⟨es, ep, n1, n2, n3⟩ := no
    have nd := List.nodup_iff_count.mp r.nodup
    simp only [List.map_append, List.map_cons, List.count_append, List.count_cons] at nd
    refine ⟨hr, m, mt', cs, fo, ⟨⟨oL, es, ep, hw.1, n1, n2, n3⟩, r.frm.keep, F.above⟩, fun p hp => ?_, nodup_count fun a => ?_, r.sto, fos, hl.mono hi⟩
    · have hp' : p ∈ whole mt' cs' imm' (cs ++ fr) ((f.L, oL) :: fo) := by
        simp only [List.mem_append, List.mem_cons] at hp ⊢
        rcases hp with hp | hp | hp | hp | hp
        · exact .inl hp
        · exact .inr (.inr (.inr (.inl (.inl hp))))
        · exact .inr (.inr (.inl hp))
        · exact .inr (.inr (.inr (.inl (.inr hp))))
        · exact .inr (.inr (.inr (.inr (.inr hp))))
      refine ⟨(r.news p hp').1, fun e => ?_, (r.news p hp').2.2⟩
      have q := nd f.L
      simp only [beq_self_eq_true, if_true] at q
      have hin : p.1 ∈ (mt' ++ (cs ++ (imm' ++ (fr ++ fo)))).map (·.1) := List.mem_map_of_mem hp
      rw [e] at hin
      have := List.count_pos_iff.mpr hin
      simp only [List.map_append, List.count_append] at this
      omega
    · have q := nd a
      simp only [List.map_append, List.count_append]
      omega

/-- a frame begins -/
theorem enterAt {a : Addr} {names : List Str} {sc : Scope} {body : List Stmt} {vs : List V} {xs : List Value} {fd : FuncData} {s s₁ : Shared} {f : Fm} {mt fo : Led} (H : FnAt c.K a names sc body) (hsc : fd.scope = sc) (hcl : fd.closure = []) (rvs : RVs c.base imm vs xs)
    (hs : ∃ h tk, s = { c.s₀ with heap := h, toks := tk }) (hkeep : ∀ b o, c.base.get? b = some o → s.heap.get? b = some o) (hbase : c.base.objs.size ≤ s.heap.objs.size) (N : ∀ p ∈ whole mt [] imm fr fo, s.heap.get? p.1 = some p.2 ∧ c.base.get? p.1 = none) (nd : ((whole mt [] imm fr fo).map (·.1)).Nodup)
    (hst : StR c imm st mt) (hfo : FoR f.frs fo) (hL : f.L = s.heap.objs.size) (he : f.env = callEnvC fd s.heap.objs.size a)
    (x : InCallC s (callEnvC fd s.heap.objs.size a).locals (bindL (callEnvC fd s.heap.objs.size a).kindOf (names.zip xs) fun _ => none) (callEnvC fd s.heap.objs.size a).cells (bindC (callEnvC fd s.heap.objs.size a).kindOf (names.zip xs) fun _ => none) s₁) :
    Rel c f (names.zip vs) st imm fr s₁ := by
  obtain ⟨h0, tk0, rfl⟩ := hs
  obtain ⟨h₁, tk₁, rfl, hk₁⟩ := x.done
  have hloc : (callEnvC fd h0.objs.size a).locals = h0.objs.size := rfl
  have ns := x.toInCall.ns
  have above := x.above
  have apart := x.apart
  have cell := x.cell
  generalize hcells : (callEnvC fd h0.objs.size a).cells = cells at above apart cell
  have hfc : f.env.cells = cells := by rw [he]; exact hcells
  dsimp only at cell hk₁ ns N hkeep hL hbase
  have hobj : ∀ n cc, cells.lookup n = some cc → h₁.get? cc = some ((h₁.get? cc).getD default) ∧ ((h₁.get? cc).getD default).data = .cell (bindC (callEnvC fd h0.objs.size a).kindOf (names.zip xs) (fun _ => none) n) := fun n cc hn => by
    obtain ⟨o, ho, hd⟩ := cell n cc hn
    rw [ho]; exact ⟨rfl, hd⟩
  let cs : Led := (cells.filter fun p => decide (cells.lookup p.1 = some p.2)).map fun p => (p.2, (h₁.get? p.2).getD default)
  have hcs : ∀ p ∈ cs, ∃ n, cells.lookup n = some p.1 ∧ p.2 = (h₁.get? p.1).getD default := fun p hp => by
    obtain ⟨q, hq, rfl⟩ := List.mem_map.mp hp
    have := (List.mem_filter.mp hq).2
    exact ⟨q.1, by simpa using this, rfl⟩
  have hin : ∀ n cc, cells.lookup n = some cc → (cc, (h₁.get? cc).getD default) ∈ cs := fun n cc hn =>
    List.mem_map.mpr ⟨(n, cc), List.mem_filter.mpr ⟨mem_of_lookup hn, by simpa using hn⟩, rfl⟩
  have hcnd : (cs.map (·.1)).Nodup := by
    show ((((cells.filter fun p => decide (cells.lookup p.1 = some p.2)).map fun p => (p.2, (h₁.get? p.2).getD default))).map (·.1)).Nodup
    rw [List.map_map]
    exact List.pairwise_map.mpr (apart.filter _)
  have hab : ∀ p ∈ cs, h0.objs.size < p.1 := fun p hp => by
    obtain ⟨n, hn, _⟩ := hcs p hp
    have := above n p.1 (mem_of_lookup hn)
    rw [hloc] at this; exact this
  have hlt : ∀ p ∈ whole mt [] imm fr fo, p.1 < h0.objs.size := fun p hp => Heap.lt_size (N p hp).1
  have hzn : ((names.zip xs).map (·.1)).Nodup := H.nodup.sublist (zip_keys names xs)
  refine ⟨⟨h₁, tk₁, rfl⟩, _, mt, cs, fo, ⟨hL ▸ hloc ▸ ns, fun b o e => hk₁ b o (hkeep b o e), hL ▸ hbase⟩, fun p hp => ?_, nodup_count fun b => ?_, hst, hfo, ⟨fun y v e => ?_, fun y cc e => ?_, fun y z cc e e' => ?_⟩⟩
  · have hp' : p ∈ cs ∨ p ∈ whole mt [] imm fr fo := by
      simp only [List.mem_append, List.nil_append, List.not_mem_nil, false_or] at hp ⊢
      rcases hp with hp | hp | hp | hp | hp
      · exact .inr (.inl hp)
      · exact .inl hp
      · exact .inr (.inr (.inl hp))
      · exact .inr (.inr (.inr (.inl hp)))
      · exact .inr (.inr (.inr (.inr hp)))
    rcases hp' with hp' | hp'
    · obtain ⟨n, hn, e⟩ := hcs p hp'
      have z := hab p hp'
      exact ⟨e ▸ (hobj n p.1 hn).1, by rw [hL]; exact Nat.ne_of_gt z, Heap.get?_none_of_le (Nat.le_trans hbase (Nat.le_of_lt z))⟩
    · exact ⟨hk₁ _ _ (N p hp').1, by rw [hL]; exact Nat.ne_of_lt (hlt p hp'), (N p hp').2⟩
  · have z := List.nodup_iff_count.mp nd b
    have z' := List.nodup_iff_count.mp hcnd b
    have z2 : (cs.map (·.1)).count b = 0 ∨ ((whole mt [] imm fr fo).map (·.1)).count b = 0 := by
      by_cases q : h0.objs.size < b
      · right
        refine List.count_eq_zero.mpr fun hm => ?_
        obtain ⟨p, hp, e⟩ := List.mem_map.mp hm
        have := hlt p hp
        have e2 : p.1 = b := e
        rw [e2] at this
        exact Nat.lt_asymm q this
      · left
        refine List.count_eq_zero.mpr fun hm => ?_
        obtain ⟨p, hp, e⟩ := List.mem_map.mp hm
        have := hab p hp
        have e2 : p.1 = b := e
        rw [e2] at this
        exact q this
    simp only [List.map_append, List.count_append, List.map_nil, List.count_nil] at z z2 ⊢
    omega
  · obtain ⟨val, h1, h2⟩ := zip_mem rvs e
    have hy : y ∈ names := (List.of_mem_zip h1).1
    have hk := H.loc y hy
    unfold storesB at hk
    refine ⟨val, h2, ?_⟩
    cases hkd : sc.names.lookup y with
    | none => rw [hkd] at hk; cases hk
    | some kd =>
      have hkind : f.env.kindOf y = some kd := by rw [he]; show fd.scope.names.lookup y = _; rw [hsc]; exact hkd
      have hkind' : (callEnvC fd h0.objs.size a).kindOf y = some kd := he ▸ hkind
      rw [hkd] at hk
      by_cases hl : kd = .local
      · subst hl
        refine .inl ⟨hkind, ?_, bindL_at hkind' hzn h1⟩
        rw [he, hL]; rfl
      · have hce : kd = .cell := by cases kd <;> first | rfl | (cases hk; done) | exact absurd rfl hl
        subst hce
        have hlk := cells_look (x := y) fd.scope.names (h0.objs.size + 1) [] (.inl (mem_of_lookup (by rw [hsc]; exact hkd)))
        obtain ⟨cc, hcc⟩ := Option.isSome_iff_exists.mp hlk
        have hcc' : cells.lookup y = some cc := hcells ▸ hcc
        refine .inr (.inr ⟨.inl hkind, cc, _, hfc ▸ hcc', hin y cc hcc', ?_⟩)
        rw [(hobj y cc hcc').2, bindC_at (by rw [hkind']; decide) hzn h1]
  · rw [hfc] at e
    exact ⟨_, _, hin y cc e, (hobj y cc e).2⟩
  · rw [hfc] at e e'
    exact name_of_addr apart (mem_of_lookup e) (mem_of_lookup e')

theorem CallW.fn {a : Addr} {names : List Str} {sc : Scope} {body : List Stmt} {vs : List V} (H : FnAt c.K a names sc body) (hn : vs.length = names.length)
    (h : WPS c k sc (names.zip vs) st body (fun fl ρ' st' => Q (retV fl) st') X) : WL c (k + 1) (fun xs => call (.ref a) xs) vs ρ st Q X := by
  refine ⟨fun f imm fr s xs ok R rvs => ?_⟩
  obtain ⟨fo, fd, hK, hd, hb, hsc, hg, hcl, hbi, hcd, hbind⟩ := H.ex
  have hx : xs.length = names.length := rvs.length.trans hn
  have kin := R.kin ok
  obtain ⟨hs, m, mt, cs, fo, r⟩ := R
  have hzip : ∀ y ∈ names.zip xs, fd.scope.names.lookup y.1 = some .local ∨ (fd.scope.names.lookup y.1 = some .cell ∧ ((cellsFrom (s.heap.objs.size + 1) fd.scope.names []).lookup y.1).isSome = true) := fun y hy => by
    have := H.loc _ (List.of_mem_zip hy).1
    unfold storesB at this
    rw [hsc]
    cases hkd : sc.names.lookup y.1 with
    | none => rw [hkd] at this; cases this
    | some kd =>
      rw [hkd] at this
      cases kd <;> first | (cases this; done) | exact .inl rfl | exact .inr ⟨rfl, cells_look _ _ _ (.inl (mem_of_lookup hkd))⟩
  refine wpAny_call (codeAny_call_cells (binds := names.zip xs) (by have := ok.depth; omega) (kin _ _ hK) hd (ok.top.nolimit.keeps r.frm.keep) (codeRec_of kin hcd) hb (hbind xs hx) hcl hzip (fun s₁ x => ?_) (hsc ▸ H.co) (hsc ▸ H.gen) (hsc ▸ H.kind))
  obtain ⟨oL, es, ep, hL, hLd, hLk, hLf⟩ := r.frm.ns
  have hkd : fd.scope.kind = .function := hsc ▸ H.kind
  have ok' : (f.call m s.heap.objs.size (callEnvC fd s.heap.objs.size a)).Ok c k := by
    refine ⟨ok.kin, ok.top, .cons ok.fframe ok.fkind ok.callers, Around.frames_deeper ok.frames, rfl, hkd, hkd, hg, hbi, fun x hx => ?_, ok.hnd, ?_, ?_⟩
    · exact Option.isSome_iff_exists.mp (cells_look _ _ _ (.inl (mem_of_lookup hx)))
    · show f.A.depth + 1 + k + 200 < _; have := ok.depth; omega
    · show f.A.units + 3 + 8 * k + 200 < _; have := ok.units; omega
  have R' : Rel c (f.call m s.heap.objs.size (callEnvC fd s.heap.objs.size a)) (names.zip vs) st imm (cs ++ fr) s₁ := by
    refine enterAt (fo := (f.L, oL) :: fo) H hsc hcl rvs hs r.frm.keep (Nat.le_trans r.frm.above (Nat.le_of_lt r.frm.ns.lt)) (fun p hp => ?_) (nodup_count fun b => ?_) r.sto (.cons ⟨es, ep, hLd, hLk, hLf⟩ r.fos) rfl rfl x
    · have hp' : p = (f.L, oL) ∨ p ∈ whole mt cs imm fr fo := by
        simp only [List.mem_append, List.mem_cons, List.nil_append, List.not_mem_nil, false_or] at hp ⊢
        rcases hp with hp | hp | (hp | hp) | hp | hp
        · exact .inr (.inl hp)
        · exact .inr (.inr (.inr (.inl hp)))
        · exact .inr (.inr (.inl hp))
        · exact .inr (.inr (.inr (.inr (.inl hp))))
        · exact .inl hp
        · exact .inr (.inr (.inr (.inr (.inr hp))))
      rcases hp' with rfl | hp'
      · exact ⟨hL, Heap.get?_none_of_le r.frm.above⟩
      · exact ⟨(r.news p hp').1, (r.news p hp').2.2⟩
    · have nd := List.nodup_iff_count.mp r.nodup b
      simp only [List.map_append, List.map_cons, List.count_append, List.count_cons, List.map_nil, List.count_nil] at nd ⊢
      by_cases e : f.L = b
      · subst e
        have : (List.map (fun x => x.fst) (whole mt cs imm fr fo)).count f.L = 0 := List.count_eq_zero.mpr fun hm => by
          obtain ⟨p, hp, e⟩ := List.mem_map.mp hm
          exact (r.news p hp).2.1 e
        simp only [List.map_append, List.count_append] at this
        simp only [beq_self_eq_true, if_true]
        omega
      · have : (f.L == b) = false := by simpa using e
        simp only [this]
        simp only [Bool.false_eq_true, if_false]
        omega
  refine wpAny_mono (h.go _ imm (cs ++ fr) _ ok' hsc ⟨rfl, rfl⟩ R') (fun fl s' p => ?_) fun _ _ t => t.elim
  obtain ⟨fl', ρ', st', imm', i', rf, R'', h'⟩ := p
  have B := back R'' r.frm r.loc i' fun p hp => (r.news p (by
    simp only [List.mem_append] at hp ⊢
    rcases hp with hp | hp
    · exact .inr (.inl hp)
    · exact .inr (.inr (.inr (.inl hp))))).2.1
  cases rf with
  | ret rv => exact ⟨_, st', imm', i', rv, B, h'⟩
  | next => exact ⟨.none, st', imm', i', .none, B, h'⟩
  | brk => exact ⟨.none, st', imm', i', .none, B, h'⟩
  | cont => exact ⟨.none, st', imm', i', .none, B, h'⟩

/-- the law itself is called -/
theorem enterLaw {a l : Addr} {name : Str} {sc : Scope} {body : List Stmt} {vals : List Value} {ns : List Int} {s : Shared} {Rr : Result → Shared → Prop} (H : FnAt c.K a [name] sc body) (hs : c.s₀ = s) (hb : c.base = s.heap) (kin : c.K.In c.base) (top : Top c.p c.loose c.mean c.mg c.mb c.base)
    (hk : 301 + k + 201 < 1000) (hl : c.base.IsList l vals.toArray) (hn : IntsAre vals ns)
    (h : WPS c k sc [(name, .scr ns)] [] body (fun fl _ _ => retV fl = .bool true) (fun _ _ _ => False))
    (hR : ∀ L m h' tk, Fr s.heap L h' m → Rr (.ok (.ret (.bool true))) { s with heap := h', toks := tk }) : codeAny c.M callerA (.call (.ref a) ⟨[.ref l], []⟩) Rr s := by
  subst hs
  obtain ⟨fo, fd, hK, hd, hbd, hsc, hg, hcl, hbi, hcd, hbind⟩ := H.ex
  rw [hb] at kin
  have hbase := hb
  have hzip : ∀ y ∈ [name].zip [Value.ref l], fd.scope.names.lookup y.1 = some .local ∨ (fd.scope.names.lookup y.1 = some .cell ∧ ((cellsFrom (c.s₀.heap.objs.size + 1) fd.scope.names []).lookup y.1).isSome = true) := fun y hy => by
    have := H.loc _ (List.of_mem_zip hy).1
    unfold storesB at this
    rw [hsc]
    cases hkd : sc.names.lookup y.1 with
    | none => rw [hkd] at this; cases this
    | some kd =>
      rw [hkd] at this
      cases kd <;> first | (cases this; done) | exact .inl rfl | exact .inr ⟨rfl, cells_look _ _ _ (.inl (mem_of_lookup hkd))⟩
  refine codeAny_call_cells (binds := [name].zip [Value.ref l]) (by decide) (kin _ _ hK) hd (hb ▸ top.nolimit) (codeRec_of kin hcd) hbd (hbind [.ref l] rfl) hcl hzip (fun s₁ x => ?_) (hsc ▸ H.co) (hsc ▸ H.gen) (hsc ▸ H.kind)
  let f : Fm := { outer := [], frs := [], L := c.s₀.heap.objs.size, fenv := callEnvC fd c.s₀.heap.objs.size a, env := callEnvC fd c.s₀.heap.objs.size a, A := callerA.deeper (callEnvC fd c.s₀.heap.objs.size a) }
  have hkd : fd.scope.kind = .function := hsc ▸ H.kind
  have ok' : f.Ok c k := by
    refine ⟨hb ▸ kin, top, .nil, rfl, rfl, hkd, hkd, hg, hbi, fun x hx => ?_, fun _ => rfl, ?_, ?_⟩
    · exact Option.isSome_iff_exists.mp (cells_look _ _ _ (.inl (mem_of_lookup hx)))
    · show 1 + claimMargin + 1 + k + 200 < recursionLimit
      unfold claimMargin recursionLimit; omega
    · show 4 + 3 + 8 * k + 200 < cLine
      unfold cLine; omega
  have R' : Rel c f ([name].zip [V.scr ns]) [] [] [] s₁ :=
    enterAt (mt := []) (fo := []) H hsc hcl (.one (.scr hl hn)) ⟨_, _, rfl⟩ (fun b o e => hb ▸ e) (by rw [hb]; exact Nat.le_refl _) (fun p hp => nomatch hp) .nil .nil .nil rfl rfl x
  refine wpAny_mono (h.go f [] [] s₁ ok' hsc ⟨rfl, rfl⟩ R') (fun fl s' p => ?_) fun _ _ t => t.elim
  obtain ⟨fl', ρ', st', imm', i', rf, R'', h'⟩ := p
  obtain ⟨⟨h1, tk1, rfl⟩, m, mt, cs, fo, r⟩ := R''
  have F : Fr c.s₀.heap c.s₀.heap.objs.size h1 m := by
    have := r.frm
    rw [hb] at this
    exact this
  cases rf with
  | ret rv =>
    cases h'
    cases rv
    exact hR _ _ _ _ F
  | next => cases h'
  | brk => cases h'
  | cont => cases h'
end
end Mine
namespace Mine
section
variable {c : Cx} {k : Nat} {sc : Scope} {ρ : Loc} {st : St} {Q : V → St → Prop} {S : Fl → Loc → St → Prop} {X : Xp} {f : Fm} {imm fr : Led} {s : Shared} {tk : Nat}

/-! calls -/
def isStar : Expr → Bool
  | .Starred _ _ => true
  | _ => false
theorem star_cons {e : Expr} {es : List Expr} {env : Env} (h : isStar e = false) : starEach (e :: es) env = (false, eval e env) :: starEach es env := by
  cases e <;> first | rfl | (cases h)
theorem star_plain {es : List Expr} {env : Env} {pos : Pos} (h : es.any isStar = false) : (backTo pos (starEach es env)).any (·.1) = false := by
  induction es with
  | nil => rfl
  | cons e es ih =>
    simp only [List.any_cons, Bool.or_eq_false_iff] at h
    rw [star_cons h.1]
    have := ih h.2
    simp only [backTo, List.map_cons, List.any_cons, Bool.false_or] at this ⊢
    exact this

def callable (K : Frag) : Value → Bool
  | .builtin _ => true
  | .type _ => true
  | .ref a => keepIn K (.ref a)
  | _ => false

theorem callWithW {val : Value} {args : List Expr} {first : List Value} {vs₀ : List V} {pos : Pos} (hc : callable c.K val = true) (hp : args.any isStar = false) (ok : f.Ok c k) (hsc : f.env.scope = sc) (R : Rel c f ρ st imm fr s) (rf : RVs c.base imm vs₀ first)
    (hf0 : first = [] ∨ (∀ T, val ≠ .type T))
    (h : WPEs c k sc ρ st args (fun vs st₂ => WL c k (fun xs => call val xs) (vs₀ ++ vs) ρ st₂ Q X) X) :
    wpAny c.M f.A (callWith pos val first (backTo pos (starEach args f.env)) []) (PostE c f ρ imm fr Q) (Thrown c f imm fr X) s := by
  have K : ∀ xs s₁, PostL c f ρ imm fr args.length (fun vs st₂ => WL c k (fun xs => call val xs) (vs₀ ++ vs) ρ st₂ Q X) xs s₁ → wpAny c.M f.A (call val (first ++ xs)) (PostE c f ρ imm fr Q) (Thrown c f imm fr X) s₁ := by
    rintro xs s₁ ⟨vs, st₁, imm₁, i₁, rvs, R₁, hn, h₁⟩
    exact wpAny_mono (h₁.go f imm₁ fr s₁ (first ++ xs) ok R₁ ((rf.mono i₁).append rvs)) (fun _ _ p => p.mono i₁) fun _ _ t => t.mono i₁
  have H := h.go f imm fr s pos ok hsc R
  cases args with
  | nil =>
    have KK : wpAny c.M f.A (call val (first ++ [])) (PostE c f ρ imm fr Q) (Thrown c f imm fr X) s := by
      have e : wpAny c.M f.A (spliced (backTo pos (starEach [] f.env))) (fun xs s₁ => wpAny c.M f.A (call val (first ++ xs)) (PostE c f ρ imm fr Q) (Thrown c f imm fr X) s₁) (Thrown c f imm fr X) s :=
        wpAny_mono H (fun xs s₁ p => K xs s₁ p) fun _ _ t => t
      exact fun Γ p hΓ => e Γ p hΓ Γ p hΓ
    cases val <;> first | (cases hc; done) | skip
    · rename_i T
      rcases hf0 with rfl | hf0
      · exact callWith_type0 KK
      · exact absurd rfl (hf0 T)
    · exact callWith_method0 (by simpa using KK)
    · exact callWith_K0 (R.kin ok) hc KK
  | cons e es =>
    simp only [List.any_cons, Bool.or_eq_false_iff] at hp
    cases val <;> first | (cases hc; done) | skip
    · rename_i T
      rcases hf0 with rfl | hf0
      · exact callWith_type1 (wpAny_mono H (fun xs s₁ p => by simpa using K xs s₁ p) fun _ _ t => t) (star_cons hp.1) (star_plain hp.2)
      · exact absurd rfl (hf0 T)
    · exact callWith_method1 (wpAny_mono H (fun xs s₁ p => K xs s₁ p) fun _ _ t => t) (star_cons hp.1) (star_plain hp.2)
    · refine callWith_K ok.kin hc (wpAny_mono H (fun xs s₁ p => ⟨?_, K xs s₁ p⟩) fun _ _ t => t) (star_cons hp.1) (star_plain hp.2)
      obtain ⟨vs, st₁, imm₁, i₁, rvs, R₁, hn, h₁⟩ := p
      exact R₁.kin ok

theorem WPE.call {id : Str} {p pos : Pos} {args : List Expr}
    (h : WPE c k sc ρ st (.Name id p) (fun fv st₁ => ∃ val, fv = .stat val ∧ callable c.K val = true ∧ WPEs c k sc ρ st₁ args (fun vs st₂ => WL c k (fun xs => call val xs) vs ρ st₂ Q X) X) X)
    (hp : args.any isStar = false := by rfl) : WPE c k sc ρ st (.Call (.Name id p) args [] pos) Q X := by
  refine ⟨fun f imm fr s ok hsc R => ?_⟩
  refine wpAny_Call_NameR (wpAny_mono (h.go f imm fr s ok hsc R) (fun x s₁ q => ?_) fun _ _ t => t)
  obtain ⟨v, st₁, imm₁, i₁, rv, R₁, val, rfl, hc, h₁⟩ := q
  cases rv
  exact wpAny_mono (callWithW (vs₀ := []) hc hp ok hsc R₁ .nil (.inl rfl) h₁) (fun _ _ p => p.mono i₁) fun _ _ t => t.mono i₁

/-! isinstance of the plain types -/
def typV (st : St) : V → Option String
  | .none => some "NoneType"
  | .bool _ => some "bool"
  | .int _ => some "int"
  | .str _ => some "str"
  | .tup _ => some "tuple"
  | .scr _ => some "list"
  | .ref a => match get st a with
    | some (.list _) => some "list"
    | some (.dictI _) => some "dict"
    | some (.dictS _) => some "dict"
    | _ => none
  | _ => none
def isi (T U : String) : Bool := T == U || (T == "bool" && U == "int")

theorem typV_ref {a : Addr} {T : String} (R : Rel c f ρ st imm fr s) (ht : typV st (.ref a) = some T) : (T = "list" ∨ T = "dict") ∧ ∃ o, s.heap.get? a = some o ∧ o.cls = .type T := by
  simp only [typV] at ht
  cases hg : get st a with
  | none => rw [hg] at ht; cases ht
  | some o =>
    rw [hg] at ht
    obtain ⟨co, hr, ho⟩ := R.get hg
    cases hr with
    | list r => cases ht; exact ⟨.inl rfl, _, ho, rfl⟩
    | dictI r d => cases ht; exact ⟨.inr rfl, _, ho, d.1.1⟩
    | dictS r d => cases ht; exact ⟨.inr rfl, _, ho, d.1.1⟩
    | inst C d => cases ht

def isiTypes : List String := ["int", "bool", "str", "tuple", "list"]
open IsiPair in
theorem WL.isinstance {v : V} {T U : String} (ht : typV st v = some T) (hu : isiTypes.contains U = true) (h : Q (.bool (isi T U)) st) : WL c k (fun xs => call (.builtin "isinstance") xs) [v, .stat (.type U)] ρ st Q X := by
  refine ⟨fun f imm fr s xs ok R rvs => ?_⟩
  cases rvs with
  | cons rv rvs =>
  cases rvs with
  | cons ru rvs =>
  cases rvs
  cases ru
  have P : ∀ b, isi T U = b → PostE c f ρ imm fr Q (.bool b) s := fun b e => .bool R (e ▸ h)
  have P' : ∀ b tk, isi T U = b → PostE c f ρ imm fr Q (.bool b) { s with toks := tk } := fun b tk e => .bool R.toks (e ▸ h)
  have hu' : U = "int" ∨ U = "bool" ∨ U = "str" ∨ U = "tuple" ∨ U = "list" := by
    simpa [isiTypes] using hu
  cases rv with
  | none => cases ht; rcases hu' with rfl | rfl | rfl | rfl | rfl <;> first | exact NoneType_int (P' _ _ rfl) | exact NoneType_bool (P' _ _ rfl) | exact NoneType_str (P' _ _ rfl) | exact NoneType_tuple (P' _ _ rfl) | exact NoneType_list (P' _ _ rfl)
  | bool b => cases ht; rcases hu' with rfl | rfl | rfl | rfl | rfl <;> first | exact bool_int (P _ rfl) | exact bool_bool (P _ rfl) | exact bool_str (P' _ _ rfl) | exact bool_tuple (P' _ _ rfl) | exact bool_list (P' _ _ rfl)
  | int i t => cases ht; rcases hu' with rfl | rfl | rfl | rfl | rfl <;> first | exact int_int (P _ rfl) | exact int_bool (P' _ _ rfl) | exact int_str (P' _ _ rfl) | exact int_tuple (P' _ _ rfl) | exact int_list (P' _ _ rfl)
  | str x t => cases ht; rcases hu' with rfl | rfl | rfl | rfl | rfl <;> first | exact str_int (P' _ _ rfl) | exact str_bool (P' _ _ rfl) | exact str_str (P _ rfl) | exact str_tuple (P' _ _ rfl) | exact str_list (P' _ _ rfl)
  | tup hm r =>
    cases ht
    have hg := R.inImm hm
    rcases hu' with rfl | rfl | rfl | rfl | rfl <;> first | exact tuple_int hg rfl (P' _ _ rfl) | exact tuple_bool hg rfl (P' _ _ rfl) | exact tuple_str hg rfl (P' _ _ rfl) | exact tuple_tuple hg rfl (P _ rfl) | exact tuple_list hg rfl (P' _ _ rfl)
  | scr hl hi =>
    cases ht
    obtain ⟨o, ho, hc, n, hd⟩ := hl
    have hg := R.keep _ _ ho
    rcases hu' with rfl | rfl | rfl | rfl | rfl <;> first | exact list_int hg hc (P' _ _ rfl) | exact list_bool hg hc (P' _ _ rfl) | exact list_str hg hc (P' _ _ rfl) | exact list_tuple hg hc (P' _ _ rfl) | exact list_list hg hc (P _ rfl)
  | ref a =>
    obtain ⟨hT, o, hg, hc⟩ := typV_ref R ht
    rcases hT with rfl | rfl
    · rcases hu' with rfl | rfl | rfl | rfl | rfl <;> first | exact list_int hg hc (P' _ _ rfl) | exact list_bool hg hc (P' _ _ rfl) | exact list_str hg hc (P' _ _ rfl) | exact list_tuple hg hc (P' _ _ rfl) | exact list_list hg hc (P _ rfl)
    · rcases hu' with rfl | rfl | rfl | rfl | rfl <;> first | exact dict_int hg hc (P' _ _ rfl) | exact dict_bool hg hc (P' _ _ rfl) | exact dict_str hg hc (P' _ _ rfl) | exact dict_tuple hg hc (P' _ _ rfl) | exact dict_list hg hc (P' _ _ rfl)
  | rng _ => cases ht
  | stat _ => cases ht

/-! len -/
theorem IntsAre.len {vals : List Value} {ns : List Int} (h : IntsAre vals ns) : vals.length = ns.length := h.length
theorem WL.lenTup {vs : List V} (hl : (vs.length : Int) < 2 ^ 63) (h : Q (.int vs.length) st) : WL c k (fun xs => call (.builtin "len") xs) [.tup vs] ρ st Q X := by
  refine ⟨fun f imm fr s xs ok R rvs => ?_⟩
  cases rvs with
  | cons rv rvs =>
  cases rvs
  cases rv with
  | tup hm r =>
    have e := r.length
    refine PyProof.Rows.len_tuple (items := _) ⟨_, R.inImm hm, rfl, _, rfl⟩ (by simpa [e] using hl) ?_
    simp only [List.size_toArray, e]
    exact .int R h
theorem WL.lenList {a : Addr} {vs : List V} (hg : get st a = some (.list vs)) (hl : (vs.length : Int) < 2 ^ 63) (h : Q (.int vs.length) st) : WL c k (fun xs => call (.builtin "len") xs) [.ref a] ρ st Q X := by
  refine ⟨fun f imm fr s xs ok R rvs => ?_⟩
  cases rvs with
  | cons rv rvs =>
  cases rvs
  cases rv with
  | ref =>
    obtain ⟨co, hr, ho⟩ := R.get hg
    cases hr with
    | list r =>
      have e := r.length
      refine PyProof.Rows.len_list (items := _) ⟨_, ho, rfl, _, rfl⟩ (by simpa [e] using hl) ?_
      simp only [List.size_toArray, e]
      exact .int R h
theorem WL.lenScr {ns : List Int} (hl : (ns.length : Int) < 2 ^ 63) (h : Q (.int ns.length) st) : WL c k (fun xs => call (.builtin "len") xs) [.scr ns] ρ st Q X := by
  refine ⟨fun f imm fr s xs ok R rvs => ?_⟩
  cases rvs with
  | cons rv rvs =>
  cases rvs
  cases rv with
  | scr hi hn =>
    have e := hn.length
    refine PyProof.Rows.len_list (items := _) (hi.at fun o e => R.keep _ _ e) (by simpa [e] using hl) ?_
    simp only [List.size_toArray, e]
    exact .int R h
end
end Mine
namespace Mine
section
variable {c : Cx} {k : Nat} {sc : Scope} {ρ : Loc} {st : St} {Q : V → St → Prop} {S : Fl → Loc → St → Prop} {X : Xp} {f : Fm} {imm fr : Led} {s : Shared} {tk : Nat}

/-! subscripts -/
def isSl : Expr → Bool
  | .Slice .. => true
  | _ => false
theorem sub_plain {e : Expr} (h : isSl e = false) (o i : Value) : subscripted e false o i = operate [o, i] (getItem o i) := by
  cases e <;> first | rfl | (cases h)
theorem WPE.sub {e i : Expr} {pos : Pos} (h : WPE c k sc ρ st e (fun a st₁ => WPE c k sc ρ st₁ i (fun b st₂ => W2 c k (subscriptTail e i) a b ρ st₂ Q X) X) X) : WPE c k sc ρ st (.Subscript e i pos) Q X := by
  refine ⟨fun f imm fr s ok hsc R => ?_⟩
  refine Subscript_ (wpAny_mono (h.go f imm fr s ok hsc R) (fun x s₁ p => ?_) fun _ _ t => t)
  obtain ⟨a, st₁, imm₁, i₁, ra, R₁, h₁⟩ := p
  refine wpAny_mono (h₁.go f imm₁ fr s₁ ok hsc R₁) (fun y s₂ p => ?_) fun _ _ t => t.mono i₁
  obtain ⟨b, st₂, imm₂, i₂, rb, R₂, h₂⟩ := p
  exact wpAny_mono (h₂.go f imm₂ fr s₂ x y ok R₂ (ra.mono i₂) rb) (fun _ _ p => p.mono fun q hq => i₂ q (i₁ q hq)) fun _ _ t => t.mono fun q hq => i₂ q (i₁ q hq)

theorem seqIndex_lt {i : Int} {n j : Nat} (h : seqIndex? i n = some j) : -(n : Int) ≤ i ∧ i < n ∧ j < n ∧ (0 ≤ i → j = i.toNat) ∧ (i < 0 → j = (i + n).toNat) := by
  unfold seqIndex? at h
  dsimp only at h
  by_cases hi : i < 0
  · simp only [if_pos hi] at h
    by_cases hq : 0 ≤ i + (n : Int) ∧ i + (n : Int) < n
    · simp only [hq, decide_true, Bool.and_self, if_true, Option.some.injEq] at h
      subst h
      refine ⟨by omega, by omega, by omega, by omega, fun _ => rfl⟩
    · have : (decide (0 ≤ i + (n : Int)) && decide (i + (n : Int) < n)) = false := by
        rw [Bool.and_eq_false_iff]
        by_cases h1 : 0 ≤ i + (n : Int)
        · right; exact decide_eq_false fun h2 => hq ⟨h1, h2⟩
        · left; exact decide_eq_false h1
      rw [this] at h; cases h
  · simp only [if_neg hi] at h
    by_cases hq : 0 ≤ i ∧ i < (n : Int)
    · simp only [hq, decide_true, Bool.and_self, if_true, Option.some.injEq] at h
      subst h
      refine ⟨by omega, by omega, by omega, fun _ => rfl, by omega⟩
    · have : (decide (0 ≤ i) && decide (i < (n : Int))) = false := by
        rw [Bool.and_eq_false_iff]
        by_cases h1 : 0 ≤ i
        · right; exact decide_eq_false fun h2 => hq ⟨h1, h2⟩
        · left; exact decide_eq_false h1
      rw [this] at h; cases h

theorem W2.subTup {e ie : Expr} {vs : List V} {i : Int} {j : Nat} {v : V} (hs : isSl ie = false) (hl : (vs.length : Int) < 2 ^ 63) (hj : seqIndex? i vs.length = some j) (hv : vs[j]? = some v) (h : Q v st) : W2 c k (subscriptTail e ie) (.tup vs) (.int i) ρ st Q X := by
  refine ⟨fun f imm fr s x y ok R ra rb => ?_⟩
  cases rb with
  | int =>
  cases ra with
  | tup hm r =>
    obtain ⟨x, hx, rx⟩ := r.get hv
    have q := seqIndex_lt hj
    exact item_tupleT ⟨_, R.inImm hm, rfl, _, rfl⟩ (by omega) (by omega) (by rw [r.length]; exact hj) hx (.of rx R h) (sub_plain hs _ _)
theorem getItem_listJ {prog : Program} {w : World} {A : Around} {E : Value → Shared → Prop} {P : Value → Shared → Prop} {a : Addr} {items : Array Value} {i : Int} {t : Tok} {j : Nat} {x : Value} (hl : s.heap.IsList a items) (hb : (items.size : Int) < 2 ^ 63) (hj : seqIndex? i items.size = some j) (hx : items[j]? = some x) (h : P x s) :
    wpAny (model prog w) A (getItem (.ref a) (.int i t)) P E s := by
  have q := seqIndex_lt hj
  by_cases h0 : 0 ≤ i
  · exact wpAny_getItem_list hl h0 (by omega) (by rw [← q.2.2.2.1 h0]; exact hx) h
  · exact wpAny_getItem_list_neg hl (by omega) (by omega) (by omega) (by rw [← q.2.2.2.2 (by omega)]; exact hx) h
theorem W2.subList {e ie : Expr} {a : Addr} {vs : List V} {i : Int} {j : Nat} {v : V} (hg : get st a = some (.list vs)) (hs : isSl ie = false) (hl : (vs.length : Int) < 2 ^ 63) (hj : seqIndex? i vs.length = some j) (hv : vs[j]? = some v) (h : Q v st) : W2 c k (subscriptTail e ie) (.ref a) (.int i) ρ st Q X := by
  refine ⟨fun f imm fr s x y ok R ra rb => ?_⟩
  cases rb with
  | int =>
  cases ra with
  | ref =>
    obtain ⟨co, hr, ho⟩ := R.get hg
    cases hr with
    | list r =>
      obtain ⟨x, hx, rx⟩ := r.get hv
      have hL : s.heap.IsList a _ := ⟨_, ho, rfl, _, rfl⟩
      exact tail_any hL.typeIs slot_list_getitem.lookup (getItem_listJ hL (by simpa [r.length] using hl) (by simpa [r.length] using hj) (by simpa using hx) (.of rx R h)) (sub_plain hs _ _)
theorem IntsAre.at {vals : List Value} {ns : List Int} (h : IntsAre vals ns) {j : Nat} {n : Int} (e : ns[j]? = some n) : ∃ t, vals[j]? = some (.int n t) := h.get j n e
theorem W2.subScr {e ie : Expr} {ns : List Int} {i : Int} {j : Nat} {n : Int} (hs : isSl ie = false) (hl : (ns.length : Int) < 2 ^ 63) (hj : seqIndex? i ns.length = some j) (hv : ns[j]? = some n) (h : Q (.int n) st) : W2 c k (subscriptTail e ie) (.scr ns) (.int i) ρ st Q X := by
  refine ⟨fun f imm fr s x y ok R ra rb => ?_⟩
  cases rb with
  | int =>
  cases ra with
  | scr hi hn =>
    obtain ⟨t, hx⟩ := hn.get j n hv
    have hL := hi.at fun o e => R.keep _ _ e
    exact tail_any hL.typeIs slot_list_getitem.lookup (getItem_listJ hL (by simpa [hn.length] using hl) (by simpa [hn.length] using hj) (by simpa using hx) (.of (.int _ _) R h)) (sub_plain hs _ _)

/-! data: what a value reads as -/
mutual
inductive Dat (st : St) : V → PyData → Prop
  | none : Dat st .none .none
  | bool (b : Bool) : Dat st (.bool b) (.bool b)
  | int (i : Int) : Dat st (.int i) (.int i)
  | str (x : Str) : Dat st (.str x) (.str x)
  | tup {vs : List V} {ds : List PyData} : Dats st vs ds → Dat st (.tup vs) (.tuple ds)
  | list {a : Addr} {vs : List V} {ds : List PyData} : get st a = some (.list vs) → Dats st vs ds → Dat st (.ref a) (.list ds)
inductive Dats (st : St) : List V → List PyData → Prop
  | nil : Dats st [] []
  | cons {v : V} {vs : List V} {d : PyData} {ds : List PyData} : Dat st v d → Dats st vs ds → Dats st (v :: vs) (d :: ds)
end
mutual
theorem Dat.reads (R : Rel c f ρ st imm fr s) : ∀ {v : V} {d : PyData} {x : Value}, Dat st v d → RV c.base imm v x → ∃ as, Reads s.heap x d as
  | _, _, _, .none, .none => ⟨_, .none⟩
  | _, _, _, .bool b, .bool _ => ⟨_, .bool b⟩
  | _, _, _, .int i, .int _ t => ⟨_, .int i t⟩
  | _, _, _, .str x, .str _ t => ⟨_, .str x t⟩
  | _, _, _, .tup h, .tup hm r => by
    obtain ⟨as, q⟩ := Dats.reads R h r
    exact ⟨as, .tuple (R.inImm hm) rfl rfl (by simpa using q)⟩
  | _, _, _, .list hg h, .ref _ => by
    obtain ⟨co, hr, ho⟩ := R.get hg
    cases hr with
    | list r =>
      obtain ⟨as, q⟩ := Dats.reads R h r
      exact ⟨_, .list ho rfl rfl (by simpa using q)⟩
theorem Dats.reads (R : Rel c f ρ st imm fr s) : ∀ {vs : List V} {ds : List PyData} {xs : List Value}, Dats st vs ds → RVs c.base imm vs xs → ∃ as, ReadsAll s.heap xs ds as
  | _, _, _, .nil, .nil => ⟨_, .nil⟩
  | _, _, _, .cons h hs, .cons r rs => by
    obtain ⟨as, q⟩ := Dat.reads R h r
    obtain ⟨bs, p⟩ := Dats.reads R hs rs
    exact ⟨_, .cons q p⟩
end
theorem W2.eq {a b : V} {da db : PyData} (ha : Dat st a da) (hb : Dat st b db) (sa : SeqAt.shaped da = true) (sb : SeqAt.shaped db = true) (h : Q (.bool (PyData.eqv da db)) st) : W2 c k (compareOp .Eq) a b ρ st Q X := by
  refine ⟨fun f imm fr s x y ok R ra rb => ?_⟩
  obtain ⟨as, r1⟩ := ha.reads R ra
  obtain ⟨bs, r2⟩ := hb.reads R rb
  exact eq_dataH r1 r2 sa sb (by have := ok.units; omega) (.bool R h)
theorem W2.ne {a b : V} {da db : PyData} (ha : Dat st a da) (hb : Dat st b db) (sa : SeqAt.shaped da = true) (sb : SeqAt.shaped db = true) (h : Q (.bool (!PyData.eqv da db)) st) : W2 c k (compareOp .NotEq) a b ρ st Q X := by
  refine ⟨fun f imm fr s x y ok R ra rb => ?_⟩
  obtain ⟨as, r1⟩ := ha.reads R ra
  obtain ⟨bs, r2⟩ := hb.reads R rb
  exact ne_dataH r1 r2 sa sb (by have := ok.units; omega) (.bool R h)
theorem W2.inTup {a : V} {vs : List V} {da : PyData} {ds : List PyData} (ha : Dat st a da) (hb : Dats st vs ds) (sa : da.canLay0 = true) (sb : PyData.canLayAll0 ds = true) (hd : da.depth ≤ 100) (h : Q (.bool (ds.any fun y => PyData.eqv y da)) st) : W2 c k (compareOp .In) a (.tup vs) ρ st Q X := by
  refine ⟨fun f imm fr s x y ok R ra rb => ?_⟩
  obtain ⟨as, r1⟩ := ha.reads R ra
  obtain ⟨bs, r2⟩ := (Dat.tup hb).reads R rb
  exact SeqAt.in_tuple_reads r2 r1 sb sa (by have := ok.units; have := Nat.min_le_right (PyData.depthAll ds) da.depth; omega) (.bool R h)
theorem W2.inList {a : V} {l : Addr} {vs : List V} {da : PyData} {ds : List PyData} (hg : get st l = some (.list vs)) (ha : Dat st a da) (hb : Dats st vs ds) (sa : da.canLay0 = true) (sb : PyData.canLayAll0 ds = true) (hd : da.depth ≤ 100) (h : Q (.bool (ds.any fun y => PyData.eqv y da)) st) : W2 c k (compareOp .In) a (.ref l) ρ st Q X := by
  refine ⟨fun f imm fr s x y ok R ra rb => ?_⟩
  obtain ⟨as, r1⟩ := ha.reads R ra
  obtain ⟨bs, r2⟩ := (Dat.list hg hb).reads R rb
  exact SeqAt.in_list_reads r2 r1 sb sa (by have := ok.units; have := Nat.min_le_right (PyData.depthAll ds) da.depth; omega) (.bool R h)
theorem W2.notInList {a : V} {l : Addr} {vs : List V} {da : PyData} {ds : List PyData} (hg : get st l = some (.list vs)) (ha : Dat st a da) (hb : Dats st vs ds) (sa : da.canLay0 = true) (sb : PyData.canLayAll0 ds = true) (hd : da.depth ≤ 100) (h : Q (.bool (!(ds.any fun y => PyData.eqv y da))) st) : W2 c k (compareOp .NotIn) a (.ref l) ρ st Q X := by
  refine ⟨fun f imm fr s x y ok R ra rb => ?_⟩
  obtain ⟨as, r1⟩ := ha.reads R ra
  obtain ⟨bs, r2⟩ := (Dat.list hg hb).reads R rb
  exact SeqAt.notIn_list_reads r2 r1 sb sa (by have := ok.units; have := Nat.min_le_right (PyData.depthAll ds) da.depth; omega) (.bool R h)

/-! lists glued -/
theorem W2.addList {a b : Addr} {vs ws : List V} (ha : get st a = some (.list vs)) (hb : get st b = some (.list ws)) (hl : vs.length + ws.length ≤ sizeLine) (h : ∀ l, get st l = none → Q (.ref l) ((l, .list (vs ++ ws)) :: st)) : W2 c k (binaryOp .Add) (.ref a) (.ref b) ρ st Q X := by
  refine ⟨fun f imm fr s x y ok R ra rb => ?_⟩
  cases ra with
  | ref =>
  cases rb with
  | ref =>
    obtain ⟨co, hr, ho⟩ := R.get ha
    obtain ⟨co', hr', ho'⟩ := R.get hb
    cases hr with
    | list r =>
    cases hr' with
    | list r' =>
      have fr0 := R.none
      obtain ⟨⟨h0, tk0, rfl⟩, m, mt, cs, fo, rr⟩ := id R
      refine add_arrays rr.frm rr.news ⟨_, ho, rfl, _, rfl⟩ ⟨_, ho', rfl, _, rfl⟩ (fun h' F' N' => ?_) (by simpa [r.length, r'.length] using hl)
      refine ⟨_, _, imm, fun _ h => h, .ref _, ⟨⟨h', tk0, rfl⟩, m, _ :: mt, cs, fo, F', N', ?_, .cons (.list (vals := _ ++ _) (n := 0) (by simpa using r.append r')) rr.sto, rr.fos, rr.loc⟩, h _ fr0⟩
      rw [show (whole ((h0.objs.size, _) :: mt) cs imm fr fo) = (h0.objs.size, _) :: whole mt cs imm fr fo from rfl, List.map_cons, List.nodup_cons]
      refine ⟨fun hm => ?_, rr.nodup⟩
      obtain ⟨p, hp, e⟩ := List.mem_map.mp hm
      exact absurd (rr.size p hp) (by rw [e]; exact Nat.lt_irrefl _)
end
end Mine
namespace Mine
def fdOf (K : Frag) (a : Addr) : Option FuncData := match K.lookup a with
  | some ⟨_, _, .func fd, _⟩ => some fd
  | _ => none
def scOf (K : Frag) (a : Addr) : Scope := match fdOf K a with
  | some fd => fd.scope
  | none => { kind := .module, names := [], isGenerator := false, isCoroutine := false, more := [] }
def bodyOf (K : Frag) (a : Addr) : List Stmt := match fdOf K a with
  | some fd => (match fd.body with | .stmts b => b | _ => [])
  | none => []

section
variable {c : Cx} {k : Nat} {sc : Scope} {ρ : Loc} {st : St} {Q : V → St → Prop} {S : Fl → Loc → St → Prop} {X : Xp}

theorem WPE.globR {x : Str} {pos : Pos} {a : Addr} (hx : sc.names.lookup x = some .globalImplicit) (e : nsIn c.K mainGlobals x = some (some (.ref a))) (h : Q (.stat (.ref a)) st)
    (hd : (x == ("__debug__" : Str)) = false := by decide) : WPE c k sc ρ st (.Name x pos) Q X := WPE.glob hx e (fun _ _ => .stat _) h hd
theorem WPE.globI {x : Str} {pos : Pos} {i : Int} {t : Tok} (hx : sc.names.lookup x = some .globalImplicit) (e : nsIn c.K mainGlobals x = some (some (.int i t))) (h : Q (.int i) st)
    (hd : (x == ("__debug__" : Str)) = false := by decide) : WPE c k sc ρ st (.Name x pos) Q X := WPE.glob hx e (fun _ _ => .int _ _) h hd
theorem WPE.callF {id : Str} {p pos : Pos} {args : List Expr} {a : Addr} (hx : sc.names.lookup id = some .globalImplicit) (e : nsIn c.K mainGlobals id = some (some (.ref a))) (hk : keepIn c.K (.ref a) = true)
    (h : WPEs c k sc ρ st args (fun vs st₂ => WL c k (fun xs => PySem.call (.ref a) xs) vs ρ st₂ Q X) X)
    (hp : args.any isStar = false := by rfl) (hd : (id == ("__debug__" : Str)) = false := by decide) : WPE c k sc ρ st (.Call (.Name id p) args [] pos) Q X :=
  WPE.call (WPE.globR hx e ⟨_, rfl, hk, h⟩ hd) hp
theorem WPE.callB {id : Str} {p pos : Pos} {args : List Expr} {b : String} (hx : sc.names.lookup id = some .globalImplicit) (e : nsIn c.K mainGlobals id = some none) (hv : bootBuiltins id = some (.builtin b))
    (h : WPEs c k sc ρ st args (fun vs st₂ => WL c k (fun xs => PySem.call (.builtin b) xs) vs ρ st₂ Q X) X)
    (hp : args.any isStar = false := by rfl) (hn : id ≠ "__name__" := by decide) (hd : (id == ("__debug__" : Str)) = false := by decide) : WPE c k sc ρ st (.Call (.Name id p) args [] pos) Q X :=
  WPE.call (WPE.blt hx e hv ⟨_, rfl, rfl, h⟩ hn hd) hp
theorem WPE.callT {id : Str} {p pos : Pos} {args : List Expr} {b : String} (hx : sc.names.lookup id = some .globalImplicit) (e : nsIn c.K mainGlobals id = some none) (hv : bootBuiltins id = some (.type b))
    (h : WPEs c k sc ρ st args (fun vs st₂ => WL c k (fun xs => PySem.call (.type b) xs) vs ρ st₂ Q X) X)
    (hp : args.any isStar = false := by rfl) (hn : id ≠ "__name__" := by decide) (hd : (id == ("__debug__" : Str)) = false := by decide) : WPE c k sc ρ st (.Call (.Name id p) args [] pos) Q X :=
  WPE.call (WPE.blt hx e hv ⟨_, rfl, rfl, h⟩ hn hd) hp
theorem WPE.bltT {x : Str} {pos : Pos} {b : String} (hx : sc.names.lookup x = some .globalImplicit) (e : nsIn c.K mainGlobals x = some none) (hv : bootBuiltins x = some (.type b)) (h : Q (.stat (.type b)) st)
    (hn : x ≠ "__name__" := by decide) (hd : (x == ("__debug__" : Str)) = false := by decide) : WPE c k sc ρ st (.Name x pos) Q X := WPE.blt hx e hv h hn hd
end
end Mine
namespace Mine
def namesIn : List Expr → Option (List Str)
  | [] => some []
  | .Name n _ :: r => (namesIn r).map (n :: ·)
  | _ :: _ => none
def setAll : Loc → List Str → List V → Loc
  | ρ, n :: ns, v :: vs => setAll (setL ρ n v) ns vs
  | ρ, _, _ => ρ

section
variable {c : Cx} {k : Nat} {sc : Scope} {ρ : Loc} {st : St} {Q : V → St → Prop} {S : Fl → Loc → St → Prop} {X : Xp} {f : Fm} {imm fr : Led} {s : Shared} {tk : Nat}

theorem assignEach_names {env : Env} : ∀ {es : List Expr} {ns : List Str}, namesIn es = some ns → (assignEach es env).length = ns.length ∧ (assignEach es env).findIdx? (·.1) = none
  | [], ns, h => by cases h; exact ⟨rfl, rfl⟩
  | .Name n p :: r, ns, h => by
    simp only [namesIn, Option.map_eq_some_iff] at h
    obtain ⟨ns', h', rfl⟩ := h
    obtain ⟨h1, h2⟩ := assignEach_names (env := env) h'
    have e : assignEach (.Name n p :: r) env = (false, assign (.Name n p) env) :: assignEach r env := rfl
    rw [e]
    refine ⟨by simp [h1], ?_⟩
    rw [List.findIdx?_cons, h2]; rfl
  | .BoolOp .. :: _, _, h => by cases h
  | .NamedExpr .. :: _, _, h => by cases h
  | .BinOp .. :: _, _, h => by cases h
  | .UnaryOp .. :: _, _, h => by cases h
  | .Lambda .. :: _, _, h => by cases h
  | .IfExp .. :: _, _, h => by cases h
  | .Dict .. :: _, _, h => by cases h
  | .Set .. :: _, _, h => by cases h
  | .ListComp .. :: _, _, h => by cases h
  | .SetComp .. :: _, _, h => by cases h
  | .DictComp .. :: _, _, h => by cases h
  | .GeneratorExp .. :: _, _, h => by cases h
  | .Await .. :: _, _, h => by cases h
  | .Yield .. :: _, _, h => by cases h
  | .YieldFrom .. :: _, _, h => by cases h
  | .Compare .. :: _, _, h => by cases h
  | .Call .. :: _, _, h => by cases h
  | .FormattedValue .. :: _, _, h => by cases h
  | .JoinedStr .. :: _, _, h => by cases h
  | .Constant .. :: _, _, h => by cases h
  | .Attribute .. :: _, _, h => by cases h
  | .Subscript .. :: _, _, h => by cases h
  | .Starred .. :: _, _, h => by cases h
  | .List .. :: _, _, h => by cases h
  | .Tuple .. :: _, _, h => by cases h
  | .Slice .. :: _, _, h => by cases h

theorem assign_names {P : Unit → Shared → Prop} {E : Value → Shared → Prop} (ok : f.Ok c k) (own : f.Own) : ∀ {es : List Expr} {ns : List Str} {vs : List V} {xs : List Value} {ρ : Loc} {s : Shared}, namesIn es = some ns → ns.all (storesB f.env.scope) = true → vs.length = ns.length → RVs c.base imm vs xs → Rel c f ρ st imm fr s →
    (∀ s', Rel c f (setAll ρ ns vs) st imm fr s' → P () s') → wpAny c.M f.A (assignInOrder ((assignEach es f.env).map (·.2)) xs) P E s := by
  intro es
  induction es with
  | nil =>
    intro ns vs xs ρ s h _ hl r R k
    cases h
    cases vs with
    | nil => cases r; exact wpAny_assignInOrder_none (k s R)
    | cons => simp at hl
  | cons e es ih =>
    intro ns vs xs ρ s h hs hl r R hk
    cases e <;> first | (cases h; done) | skip
    rename_i n p
    simp only [namesIn, Option.map_eq_some_iff] at h
    obtain ⟨ns', h', rfl⟩ := h
    cases r with
    | nil => simp at hl
    | cons rv rvs =>
      simp only [List.all_cons, Bool.and_eq_true] at hs
      show wpAny c.M f.A (assignInOrder (assign (.Name n p) f.env :: (assignEach es f.env).map (·.2)) (_ :: _)) P E s
      refine wpAny_assignInOrder_more (wpAny_assign_Name ?_)
      exact store ok own R hs.1 rv fun s' R' => ih h' hs.2 (by simpa using hl) rvs R' hk

theorem WPs.unpack {es : List Expr} {n : Nat} {tp pos : Pos} {e : Expr} {ns : List Str} (hq : c.q = true) (hn : namesIn es = some ns) (hst : ns.all (storesB sc) = true)
    (h : WPE c k sc ρ st e (fun v st₁ => ∃ vs, v = .tup vs ∧ vs.length = ns.length ∧ S .next (setAll ρ ns vs) st₁) X)
    (hs : ∀ env, swapsWithSole [.Tuple es n tp] e pos.line env = pure false := by intro _; rfl) (hw : ∀ env, swappedStores [.Tuple es n tp] e env = pure none := by intro _; rfl) : WPs c k sc ρ st (.Assign [.Tuple es n tp] e pos) S X := by
  refine ⟨fun f imm fr s ok hsc own R => ?_⟩
  refine Assign_Tuple (wpAny_mono (h.go f imm fr s ok hsc R) (fun x s₁ p => ?_) fun _ _ t => t) (hs _) (hw _)
  obtain ⟨v, st₁, imm₁, i₁, rv, R₁, vs, rfl, hl, h₁⟩ := p
  cases rv with
  | tup hm r =>
    have hA := assignEach_names (env := f.env) hn
    refine wpAny_assign_Tuple (ok.hnd hq) ⟨_, R₁.inImm hm, rfl, _, rfl⟩ (by rw [hA.1]; simp [r.length, hl]) hA.2 (fun h' hx => ?_)
    have R₂ : Rel c f ρ st₁ imm₁ fr { s₁ with heap := h' } := R₁.keeps (tk := s₁.toks) fun b o e => hx b o (Nat.ne_of_lt (Heap.lt_size e)) e
    exact assign_names ok own hn (hsc ▸ hst) hl (by simpa using r) R₂ fun s' R' => ⟨.next, _, st₁, imm₁, i₁, .next, R', h₁⟩

theorem RVs.strs {base : Heap} {imm : Led} : ∀ {ys : List Str} {xs : List Value}, RVs base imm (ys.map V.str) xs → StrsAre xs ys
  | [], _, .nil => .nil
  | y :: ys, _, .cons (.str _ t) r => .cons y t (RVs.strs r)
theorem W2.inStrs {a : Str} {ys : List Str} {vs : List V} (hv : vs = ys.map V.str) (h : Q (.bool (ys.any (· == a))) st) : W2 c k (compareOp .In) (.str a) (.tup vs) ρ st Q X := by
  subst hv
  refine ⟨fun f imm fr s x y ok R ra rb => ?_⟩
  cases ra with
  | str =>
  cases rb with
  | tup hm r => exact in_tuple_strs ⟨_, R.inImm hm, rfl, _, rfl⟩ (by simpa using RVs.strs r) (.bool R h)
theorem W2.notInStrs {a : Str} {ys : List Str} {vs : List V} (hv : vs = ys.map V.str) (h : Q (.bool (!(ys.any (· == a)))) st) : W2 c k (compareOp .NotIn) (.str a) (.tup vs) ρ st Q X := by
  subst hv
  refine ⟨fun f imm fr s x y ok R ra rb => ?_⟩
  cases ra with
  | str =>
  cases rb with
  | tup hm r => exact notin_tuple_strs ⟨_, R.inImm hm, rfl, _, rfl⟩ (by simpa using RVs.strs r) (.bool R h)
theorem W2.neS {a b : Str} (h : Q (.bool (a != b)) st) : W2 c k (compareOp .NotEq) (.str a) (.str b) ρ st Q X := by
  refine ⟨fun f imm fr s x y ok R ra rb => ?_⟩
  cases ra; cases rb
  exact PyProof.Rows.ne_str (.bool R h)
/-- weaker ends -/
theorem WL.mono {t : List Value → Sem Value} {vs : List V} {Q' : V → St → Prop} (h : WL c k t vs ρ st Q X) (hq : ∀ v st', Q v st' → Q' v st') : WL c k t vs ρ st Q' X :=
  ⟨fun f imm fr s xs ok R rvs => wpAny_mono (h.go f imm fr s xs ok R rvs) (fun _ _ ⟨v, st, imm', a, b, r, q⟩ => ⟨v, st, imm', a, b, r, hq _ _ q⟩) fun _ _ t => t⟩
theorem Fm.Ok.le {k' : Nat} (ok : f.Ok c k) (h : k' ≤ k) : f.Ok c k' := { ok with depth := by have := ok.depth; omega, units := by have := ok.units; omega }
theorem WL.le {t : List Value → Sem Value} {vs : List V} {k' : Nat} (h : WL c k' t vs ρ st Q X) (hk : k' ≤ k) : WL c k t vs ρ st Q X :=
  ⟨fun f imm fr s xs ok R rvs => h.go f imm fr s xs (ok.le hk) R rvs⟩

abbrev CF (c : Cx) (k : Nat) (a : Addr) (vs : List V) (ρ : Loc) (st : St) (Q : V → St → Prop) (X : Xp) : Prop := WL c k (fun xs => PySem.call (.ref a) xs) vs ρ st Q X
theorem seqIndex_pos {i : Int} {n : Nat} (h0 : 0 ≤ i) (h1 : i < n) : seqIndex? i n = some i.toNat := by
  unfold seqIndex?
  have h : ¬ i < 0 := by omega
  simp [h, h0, h1]
theorem seqIndex_neg {i : Int} {n : Nat} (h0 : i < 0) (h1 : -(n : Int) ≤ i) : seqIndex? i n = some (i + n).toNat := by
  unfold seqIndex?
  have h2 : 0 ≤ i + (n : Int) := by omega
  have h3 : i + (n : Int) < n := by omega
  simp [h0, h2, h3]
theorem seqIndex_0 {n : Nat} : seqIndex? 0 (n + 1) = some 0 := seqIndex_pos (by decide) (by omega)
theorem seqIndex_1 {n : Nat} : seqIndex? 1 (n + 2) = some 1 := seqIndex_pos (by decide) (by omega)
/-- a store that has grown -/
def Le (st st' : St) : Prop := ∀ a o, get st a = some o → get st' a = some o
theorem Le.refl : Le st st := fun _ _ h => h
theorem Le.trans {st₁ st₂ st₃ : St} (h : Le st₁ st₂) (h' : Le st₂ st₃) : Le st₁ st₃ := fun a o e => h' a o (h a o e)
theorem get_head {a : Addr} {o : O} : get ((a, o) :: st) a = some o := by simp [get]
theorem get_tail {a b : Addr} {o : O} (h : b ≠ a) : get ((a, o) :: st) b = get st b := by
  unfold get
  rw [List.lookup_cons]
  have : (b == a) = false := by simpa using h
  rw [this]
theorem Le.alloc {a : Addr} {o : O} (h : get st a = none) : Le st ((a, o) :: st) := fun b p e => by
  have : b ≠ a := fun q => by rw [q, h] at e; cases e
  rw [get_tail this]; exact e
theorem get_upd {a b : Addr} {o : O} : get (upd st a o) b = if b = a then (get st a).map (fun _ => o) else get st b := by
  induction st with
  | nil => simp [get, upd]
  | cons p r ih =>
    obtain ⟨x, y⟩ := p
    by_cases h1 : x = a
    · subst h1
      have e : upd ((x, y) :: r) x o = (x, o) :: upd r x o := by simp [upd]
      rw [e]
      by_cases h2 : b = x
      · subst h2; rw [get_head, get_head, if_pos rfl]; rfl
      · rw [get_tail h2, ih, if_neg h2, if_neg h2, get_tail h2]
    · have e : upd ((x, y) :: r) a o = (x, y) :: upd r a o := by simp [upd, h1]
      rw [e]
      by_cases h2 : b = x
      · subst h2; rw [get_head, if_neg h1, get_head]
      · rw [get_tail h2, ih, get_tail h2, get_tail (fun q => h1 q.symm)]
theorem get_upd_self {a : Addr} {o o' : O} (h : get st a = some o') : get (upd st a o) a = some o := by rw [get_upd, if_pos rfl, h]; rfl
theorem get_upd_ne {a b : Addr} {o : O} (h : b ≠ a) : get (upd st a o) b = get st b := by rw [get_upd, if_neg h]
theorem W2.tupAt {e ie : Expr} {vs : List V} {i : Int} {v : V} (hs : isSl ie = false) (hl : Nat.blt vs.length 1000000 = true) (hv : (seqIndex? i vs.length).bind (fun j => vs[j]?) = some v) (h : Q v st) : W2 c k (subscriptTail e ie) (.tup vs) (.int i) ρ st Q X := by
  have hl' : vs.length < 1000000 := by simpa [Nat.blt_eq] using hl
  cases hj : seqIndex? i vs.length with
  | none => rw [hj] at hv; cases hv
  | some j => rw [hj] at hv; exact W2.subTup hs (by omega) hj hv h
theorem W2.listAt {e ie : Expr} {a : Addr} {vs : List V} {i : Int} {v : V} (hg : get st a = some (.list vs)) (hs : isSl ie = false) (hl : Nat.blt vs.length 1000000 = true) (hv : (seqIndex? i vs.length).bind (fun j => vs[j]?) = some v) (h : Q v st) : W2 c k (subscriptTail e ie) (.ref a) (.int i) ρ st Q X := by
  have hl' : vs.length < 1000000 := by simpa [Nat.blt_eq] using hl
  cases hj : seqIndex? i vs.length with
  | none => rw [hj] at hv; cases hv
  | some j => rw [hj] at hv; exact W2.subList hg hs (by omega) hj hv h
theorem isDict_nil {α : Type} [DecidableEq α] {knd : KeyKind c.prog c.w α} : IsDict knd { cls := .type "dict", data := .dict #[] } [] :=
  ⟨⟨rfl, rfl, rfl⟩, #[], 0, rfl, fun e he => by simp at he, .nil, .nil⟩
theorem WPE.dict0 {pos : Pos} (h : ∀ a, get st a = none → Q (.ref a) ((a, .dictI []) :: st)) : WPE c k sc ρ st (.Dict [] [] pos) Q X :=
  ⟨fun f imm fr s ok hsc R => wpAny_Dict_empty ⟨_, _, imm, fun _ h => h, .ref _, R.pushSt (tk := s.toks) (.dictI .nil isDict_nil), h _ R.none⟩⟩
theorem WPE.dict0S {pos : Pos} (h : ∀ a, get st a = none → Q (.ref a) ((a, .dictS []) :: st)) : WPE c k sc ρ st (.Dict [] [] pos) Q X :=
  ⟨fun f imm fr s ok hsc R => wpAny_Dict_empty ⟨_, _, imm, fun _ h => h, .ref _, R.pushSt (tk := s.toks) (.dictS .nil isDict_nil), h _ R.none⟩⟩
theorem W2.cat {a b : Addr} {vs ws : List V} (ha : get st a = some (.list vs)) (hb : get st b = some (.list ws)) (hl : Nat.ble (vs.length + ws.length) 1000000 = true) (h : ∀ l, get st l = none → Q (.ref l) ((l, .list (vs ++ ws)) :: st)) : W2 c k (binaryOp .Add) (.ref a) (.ref b) ρ st Q X :=
  W2.addList ha hb (Nat.le_trans (Nat.le_of_ble_eq_true hl) (by decide)) h
end
end Mine
namespace Mine
set_option maxHeartbeats 8000000 in
open_top hd for PySem.Challenge.rw_uf040029_01
noncomputable abbrev KK (w : World) : Frag := Mine.hd.heap_39 w.params
def Kc (c : Cx) : Prop := c.K = KK c.w
theorem gl {c : Cx} (h : Kc c) {x : Str} {v : Option Value} (e : nsIn (KK c.w) mainGlobals x = some v) : nsIn c.K mainGlobals x = some v := by rw [h]; exact e
theorem kp {c : Cx} (h : Kc c) {a : Addr} (e : keepIn (KK c.w) (.ref a) = true) : keepIn c.K (.ref a) = true := by rw [h]; exact e
theorem fnK {c : Cx} (h : Kc c) {a : Addr} {names : List Str} {sc : Scope} {body : List Stmt} (e : FnAt (KK c.w) a names sc body) : FnAt c.K a names sc body := by rw [h]; exact e
local macro_rules | `(tactic| kp_flats) => `(tactic| exact ⟨⟨_, _, rfl, rfl, rfl, rfl, rfl, rfl, rfl, rfl, by
     intro xs h
     first
     | (match xs, h with | [], _ => rfl)
     | (match xs, h with | [x], _ => rfl)
     | (match xs, h with | [x, y], _ => rfl)
     | (match xs, h with | [x, y, z], _ => rfl)
     | (match xs, h with | [x, y, z, u], _ => rfl)⟩, by rfl, rfl, rfl, rfl, by decide⟩)
section
variable {c : Cx} {k : Nat} {sc : Scope} {ρ : Loc} {st : St} {Q : V → St → Prop} {X : Xp} {p pos : Pos} {args : List Expr}
theorem fn_between (w : World) : FnAt (KK w) 21 ["thing", "low", "high"] (scOf (KK w) 21) (bodyOf (KK w) 21) := by kp_flats
theorem c_between (hK : Kc c) (hx : sc.names.lookup ("between" : Str) = some .globalImplicit) (h : WPEs c k sc ρ st args (fun vs st₂ => WL c k (fun xs => PySem.call (.ref 21) xs) vs ρ st₂ Q X) X) (hp : args.any isStar = false := by rfl) : WPE c k sc ρ st (.Call (.Name "between" p) args [] pos) Q X :=
  WPE.callF hx (gl hK rfl) (kp hK rfl) h hp
theorem fn_is_state (w : World) : FnAt (KK w) 28 ["thing"] (scOf (KK w) 28) (bodyOf (KK w) 28) := by kp_flats
theorem c_is_state (hK : Kc c) (hx : sc.names.lookup ("is_state" : Str) = some .globalImplicit) (h : WPEs c k sc ρ st args (fun vs st₂ => WL c k (fun xs => PySem.call (.ref 28) xs) vs ρ st₂ Q X) X) (hp : args.any isStar = false := by rfl) : WPE c k sc ρ st (.Call (.Name "is_state" p) args [] pos) Q X :=
  WPE.callF hx (gl hK rfl) (kp hK rfl) h hp
theorem fn_is_rule (w : World) : FnAt (KK w) 35 ["thing"] (scOf (KK w) 35) (bodyOf (KK w) 35) := by kp_flats
theorem c_is_rule (hK : Kc c) (hx : sc.names.lookup ("is_rule" : Str) = some .globalImplicit) (h : WPEs c k sc ρ st args (fun vs st₂ => WL c k (fun xs => PySem.call (.ref 35) xs) vs ρ st₂ Q X) X) (hp : args.any isStar = false := by rfl) : WPE c k sc ρ st (.Call (.Name "is_rule" p) args [] pos) Q X :=
  WPE.callF hx (gl hK rfl) (kp hK rfl) h hp
theorem fn_forth (w : World) : FnAt (KK w) 42 ["rule", "state"] (scOf (KK w) 42) (bodyOf (KK w) 42) := by kp_flats
theorem c_forth (hK : Kc c) (hx : sc.names.lookup ("forth" : Str) = some .globalImplicit) (h : WPEs c k sc ρ st args (fun vs st₂ => WL c k (fun xs => PySem.call (.ref 42) xs) vs ρ st₂ Q X) X) (hp : args.any isStar = false := by rfl) : WPE c k sc ρ st (.Call (.Name "forth" p) args [] pos) Q X :=
  WPE.callF hx (gl hK rfl) (kp hK rfl) h hp
theorem fn_law_cell_at (w : World) : FnAt (KK w) 49 ["_law_script", "_law_k"] (scOf (KK w) 49) (bodyOf (KK w) 49) := by kp_flats
theorem c_law_cell_at (hK : Kc c) (hx : sc.names.lookup ("_law_cell_at" : Str) = some .globalImplicit) (h : WPEs c k sc ρ st args (fun vs st₂ => WL c k (fun xs => PySem.call (.ref 49) xs) vs ρ st₂ Q X) X) (hp : args.any isStar = false := by rfl) : WPE c k sc ρ st (.Call (.Name "_law_cell_at" p) args [] pos) Q X :=
  WPE.callF hx (gl hK rfl) (kp hK rfl) h hp
theorem fn_law_number (w : World) : FnAt (KK w) 56 ["_law_script", "_law_k"] (scOf (KK w) 56) (bodyOf (KK w) 56) := by kp_flats
theorem c_law_number (hK : Kc c) (hx : sc.names.lookup ("_law_number" : Str) = some .globalImplicit) (h : WPEs c k sc ρ st args (fun vs st₂ => WL c k (fun xs => PySem.call (.ref 56) xs) vs ρ st₂ Q X) X) (hp : args.any isStar = false := by rfl) : WPE c k sc ρ st (.Call (.Name "_law_number" p) args [] pos) Q X :=
  WPE.callF hx (gl hK rfl) (kp hK rfl) h hp
theorem fn_law_whole (w : World) : FnAt (KK w) 63 ["_law_found"] (scOf (KK w) 63) (bodyOf (KK w) 63) := by kp_flats
theorem c_law_whole (hK : Kc c) (hx : sc.names.lookup ("_law_whole" : Str) = some .globalImplicit) (h : WPEs c k sc ρ st args (fun vs st₂ => WL c k (fun xs => PySem.call (.ref 63) xs) vs ρ st₂ Q X) X) (hp : args.any isStar = false := by rfl) : WPE c k sc ρ st (.Call (.Name "_law_whole" p) args [] pos) Q X :=
  WPE.callF hx (gl hK rfl) (kp hK rfl) h hp
theorem fn_law_rule (w : World) : FnAt (KK w) 70 ["_law_number_here"] (scOf (KK w) 70) (bodyOf (KK w) 70) := by kp_flats
theorem c_law_rule (hK : Kc c) (hx : sc.names.lookup ("_law_rule" : Str) = some .globalImplicit) (h : WPEs c k sc ρ st args (fun vs st₂ => WL c k (fun xs => PySem.call (.ref 70) xs) vs ρ st₂ Q X) X) (hp : args.any isStar = false := by rfl) : WPE c k sc ρ st (.Call (.Name "_law_rule" p) args [] pos) Q X :=
  WPE.callF hx (gl hK rfl) (kp hK rfl) h hp
theorem fn_law_forth (w : World) : FnAt (KK w) 77 ["_law_rule_here", "_law_state"] (scOf (KK w) 77) (bodyOf (KK w) 77) := by kp_flats
theorem c_law_forth (hK : Kc c) (hx : sc.names.lookup ("_law_forth" : Str) = some .globalImplicit) (h : WPEs c k sc ρ st args (fun vs st₂ => WL c k (fun xs => PySem.call (.ref 77) xs) vs ρ st₂ Q X) X) (hp : args.any isStar = false := by rfl) : WPE c k sc ρ st (.Call (.Name "_law_forth" p) args [] pos) Q X :=
  WPE.callF hx (gl hK rfl) (kp hK rfl) h hp
theorem fn_law_row (w : World) : FnAt (KK w) 82 ["_law_script", "_law_start", "_law_most"] (scOf (KK w) 82) (bodyOf (KK w) 82) := by kp_flats
theorem c_law_row (hK : Kc c) (hx : sc.names.lookup ("_law_row" : Str) = some .globalImplicit) (h : WPEs c k sc ρ st args (fun vs st₂ => WL c k (fun xs => PySem.call (.ref 82) xs) vs ρ st₂ Q X) X) (hp : args.any isStar = false := by rfl) : WPE c k sc ρ st (.Call (.Name "_law_row" p) args [] pos) Q X :=
  WPE.callF hx (gl hK rfl) (kp hK rfl) h hp
theorem fn_law_states (w : World) : FnAt (KK w) 89 ["_law_first", "_law_rules"] (scOf (KK w) 89) (bodyOf (KK w) 89) := by kp_flats
theorem c_law_states (hK : Kc c) (hx : sc.names.lookup ("_law_states" : Str) = some .globalImplicit) (h : WPEs c k sc ρ st args (fun vs st₂ => WL c k (fun xs => PySem.call (.ref 89) xs) vs ρ st₂ Q X) X) (hp : args.any isStar = false := by rfl) : WPE c k sc ρ st (.Call (.Name "_law_states" p) args [] pos) Q X :=
  WPE.callF hx (gl hK rfl) (kp hK rfl) h hp
theorem fn_law_things (w : World) : FnAt (KK w) 96 [] (scOf (KK w) 96) (bodyOf (KK w) 96) := by kp_flats
theorem c_law_things (hK : Kc c) (hx : sc.names.lookup ("_law_things" : Str) = some .globalImplicit) (h : WPEs c k sc ρ st args (fun vs st₂ => WL c k (fun xs => PySem.call (.ref 96) xs) vs ρ st₂ Q X) X) (hp : args.any isStar = false := by rfl) : WPE c k sc ρ st (.Call (.Name "_law_things" p) args [] pos) Q X :=
  WPE.callF hx (gl hK rfl) (kp hK rfl) h hp
theorem fn_law (w : World) : FnAt (KK w) 103 ["_law_script"] (scOf (KK w) 103) (bodyOf (KK w) 103) := by kp_flats
theorem c_law (hK : Kc c) (hx : sc.names.lookup ("law" : Str) = some .globalImplicit) (h : WPEs c k sc ρ st args (fun vs st₂ => WL c k (fun xs => PySem.call (.ref 103) xs) vs ρ st₂ Q X) X) (hp : args.any isStar = false := by rfl) : WPE c k sc ρ st (.Call (.Name "law" p) args [] pos) Q X :=
  WPE.callF hx (gl hK rfl) (kp hK rfl) h hp
theorem n_ROUND (hK : Kc c) (hx : sc.names.lookup ("ROUND" : Str) = some .globalImplicit) (h : Q (.int 999983) st) : WPE c k sc ρ st (.Name "ROUND" p) Q X := WPE.globI hx (gl hK rfl) h
theorem c_isinstance (hK : Kc c) (hx : sc.names.lookup ("isinstance" : Str) = some .globalImplicit) (h : WPEs c k sc ρ st args (fun vs st₂ => WL c k (fun xs => PySem.call (.builtin "isinstance") xs) vs ρ st₂ Q X) X) (hp : args.any isStar = false := by rfl) : WPE c k sc ρ st (.Call (.Name "isinstance" p) args [] pos) Q X :=
  WPE.callB hx (gl hK rfl) (by boot_by_name) h hp
theorem c_len (hK : Kc c) (hx : sc.names.lookup ("len" : Str) = some .globalImplicit) (h : WPEs c k sc ρ st args (fun vs st₂ => WL c k (fun xs => PySem.call (.builtin "len") xs) vs ρ st₂ Q X) X) (hp : args.any isStar = false := by rfl) : WPE c k sc ρ st (.Call (.Name "len" p) args [] pos) Q X :=
  WPE.callB hx (gl hK rfl) (by boot_by_name) h hp
theorem c_int (hK : Kc c) (hx : sc.names.lookup ("int" : Str) = some .globalImplicit) (h : WPEs c k sc ρ st args (fun vs st₂ => WL c k (fun xs => PySem.call (.type "int") xs) vs ρ st₂ Q X) X) (hp : args.any isStar = false := by rfl) : WPE c k sc ρ st (.Call (.Name "int" p) args [] pos) Q X :=
  WPE.callT hx (gl hK rfl) (by boot_by_name) h hp
theorem n_int (hK : Kc c) (hx : sc.names.lookup ("int" : Str) = some .globalImplicit) (h : Q (.stat (.type "int")) st) : WPE c k sc ρ st (.Name "int" p) Q X := WPE.bltT hx (gl hK rfl) (by boot_by_name) h
theorem c_str (hK : Kc c) (hx : sc.names.lookup ("str" : Str) = some .globalImplicit) (h : WPEs c k sc ρ st args (fun vs st₂ => WL c k (fun xs => PySem.call (.type "str") xs) vs ρ st₂ Q X) X) (hp : args.any isStar = false := by rfl) : WPE c k sc ρ st (.Call (.Name "str" p) args [] pos) Q X :=
  WPE.callT hx (gl hK rfl) (by boot_by_name) h hp
theorem n_str (hK : Kc c) (hx : sc.names.lookup ("str" : Str) = some .globalImplicit) (h : Q (.stat (.type "str")) st) : WPE c k sc ρ st (.Name "str" p) Q X := WPE.bltT hx (gl hK rfl) (by boot_by_name) h
theorem c_tuple (hK : Kc c) (hx : sc.names.lookup ("tuple" : Str) = some .globalImplicit) (h : WPEs c k sc ρ st args (fun vs st₂ => WL c k (fun xs => PySem.call (.type "tuple") xs) vs ρ st₂ Q X) X) (hp : args.any isStar = false := by rfl) : WPE c k sc ρ st (.Call (.Name "tuple" p) args [] pos) Q X :=
  WPE.callT hx (gl hK rfl) (by boot_by_name) h hp
theorem n_tuple (hK : Kc c) (hx : sc.names.lookup ("tuple" : Str) = some .globalImplicit) (h : Q (.stat (.type "tuple")) st) : WPE c k sc ρ st (.Name "tuple" p) Q X := WPE.bltT hx (gl hK rfl) (by boot_by_name) h
theorem c_range (hK : Kc c) (hx : sc.names.lookup ("range" : Str) = some .globalImplicit) (h : WPEs c k sc ρ st args (fun vs st₂ => WL c k (fun xs => PySem.call (.type "range") xs) vs ρ st₂ Q X) X) (hp : args.any isStar = false := by rfl) : WPE c k sc ρ st (.Call (.Name "range" p) args [] pos) Q X :=
  WPE.callT hx (gl hK rfl) (by boot_by_name) h hp
theorem n_range (hK : Kc c) (hx : sc.names.lookup ("range" : Str) = some .globalImplicit) (h : Q (.stat (.type "range")) st) : WPE c k sc ρ st (.Name "range" p) Q X := WPE.bltT hx (gl hK rfl) (by boot_by_name) h
theorem c_bool (hK : Kc c) (hx : sc.names.lookup ("bool" : Str) = some .globalImplicit) (h : WPEs c k sc ρ st args (fun vs st₂ => WL c k (fun xs => PySem.call (.type "bool") xs) vs ρ st₂ Q X) X) (hp : args.any isStar = false := by rfl) : WPE c k sc ρ st (.Call (.Name "bool" p) args [] pos) Q X :=
  WPE.callT hx (gl hK rfl) (by boot_by_name) h hp
theorem n_bool (hK : Kc c) (hx : sc.names.lookup ("bool" : Str) = some .globalImplicit) (h : Q (.stat (.type "bool")) st) : WPE c k sc ρ st (.Name "bool" p) Q X := WPE.bltT hx (gl hK rfl) (by boot_by_name) h
end
local macro_rules | `(tactic| kct_strs) => `(tactic| first | ((with_reducible refine c_between ‹Kc _› ?hx ?_ ?hp); (case hx => rfl); (case hp => rfl)) | ((with_reducible refine c_is_state ‹Kc _› ?hx ?_ ?hp); (case hx => rfl); (case hp => rfl)) | ((with_reducible refine c_is_rule ‹Kc _› ?hx ?_ ?hp); (case hx => rfl); (case hp => rfl)) | ((with_reducible refine c_forth ‹Kc _› ?hx ?_ ?hp); (case hx => rfl); (case hp => rfl)) | ((with_reducible refine c_law_cell_at ‹Kc _› ?hx ?_ ?hp); (case hx => rfl); (case hp => rfl)) | ((with_reducible refine c_law_number ‹Kc _› ?hx ?_ ?hp); (case hx => rfl); (case hp => rfl)) | ((with_reducible refine c_law_whole ‹Kc _› ?hx ?_ ?hp); (case hx => rfl); (case hp => rfl)) | ((with_reducible refine c_law_rule ‹Kc _› ?hx ?_ ?hp); (case hx => rfl); (case hp => rfl)) | ((with_reducible refine c_law_forth ‹Kc _› ?hx ?_ ?hp); (case hx => rfl); (case hp => rfl)) | ((with_reducible refine c_law_row ‹Kc _› ?hx ?_ ?hp); (case hx => rfl); (case hp => rfl)) | ((with_reducible refine c_law_states ‹Kc _› ?hx ?_ ?hp); (case hx => rfl); (case hp => rfl)) | ((with_reducible refine c_law_things ‹Kc _› ?hx ?_ ?hp); (case hx => rfl); (case hp => rfl)) | ((with_reducible refine c_law ‹Kc _› ?hx ?_ ?hp); (case hx => rfl); (case hp => rfl)) | ((with_reducible refine c_isinstance ‹Kc _› ?hx ?_ ?hp); (case hx => rfl); (case hp => rfl)) | ((with_reducible refine c_len ‹Kc _› ?hx ?_ ?hp); (case hx => rfl); (case hp => rfl)) | ((with_reducible refine c_int ‹Kc _› ?hx ?_ ?hp); (case hx => rfl); (case hp => rfl)) | ((with_reducible refine c_str ‹Kc _› ?hx ?_ ?hp); (case hx => rfl); (case hp => rfl)) | ((with_reducible refine c_tuple ‹Kc _› ?hx ?_ ?hp); (case hx => rfl); (case hp => rfl)) | ((with_reducible refine c_range ‹Kc _› ?hx ?_ ?hp); (case hx => rfl); (case hp => rfl)) | ((with_reducible refine c_bool ‹Kc _› ?hx ?_ ?hp); (case hx => rfl); (case hp => rfl)))
local macro_rules | `(tactic| kbo_bools) => `(tactic| first | ((with_reducible refine n_ROUND ‹Kc _› ?hx ?_); (case hx => rfl)) | ((with_reducible refine n_int ‹Kc _› ?hx ?_); (case hx => rfl)) | ((with_reducible refine n_str ‹Kc _› ?hx ?_); (case hx => rfl)) | ((with_reducible refine n_tuple ‹Kc _› ?hx ?_); (case hx => rfl)) | ((with_reducible refine n_range ‹Kc _› ?hx ?_); (case hx => rfl)) | ((with_reducible refine n_bool ‹Kc _› ?hx ?_); (case hx => rfl)) | fail "no name")
-- one step of the abstract walk
local macro_rules | `(tactic| k_clsL) => `(tactic| first
  | ((with_reducible show WPE _ _ _ _ _ _ _ _); first
    | ((with_reducible show WPE _ _ _ _ _ (.Name _ _) _ _); first
      | ((with_reducible refine' WPE.nm ?e ?_ ?d1 ?d2); (case e => rfl); (case d1 => decide); (case d2 => decide))
      | kbo_bools)
    | (with_reducible refine WPE.cint ?_) | (with_reducible refine WPE.cstr ?_)
    | (with_reducible refine WPE.bin ?_) | (with_reducible refine WPE.sub ?_)
    | ((with_reducible show WPE _ _ _ _ _ (.Call _ _ _ _) _ _); kct_strs)
    | ((with_reducible refine WPE.cmp ?_ ?hm); (case hm => rfl))
    | ((with_reducible refine WPE.tup ?_ ?hl); (case hl => decide)) | ((with_reducible refine WPE.lst ?_ ?hl); (case hl => decide))
    | (with_reducible refine WPE.cbool ?_) | (with_reducible refine WPE.cnone ?_)
    | (with_reducible refine WPE.opOne ?_) | (with_reducible refine WPE.and ?_) | (with_reducible refine WPE.or ?_)
    | (with_reducible refine WPE.not ?_) | (with_reducible refine WPE.un ?_) | ((with_reducible refine WPE.cmp2 ?_ ?hm); (case hm => rfl))
    | (with_reducible refine WPE.ife ?_)
    | fail "no step")
  | ((with_reducible show WPEs _ _ _ _ _ _ _ _); first | ((with_reducible refine WPEs.cons ?_ ?he); (case he => intro _; rfl)) | (with_reducible refine WPEs.nil ?_))
  | ((with_reducible show W2 _ _ _ _ _ _ _ _ _); first
    | (with_reducible refine W2.eqI ?_) | (with_reducible refine W2.addI ?_) | (with_reducible refine W2.subI ?_) | (with_reducible refine W2.ltI ?_) | (with_reducible refine W2.leI ?_) | (with_reducible refine W2.geI ?_) | (with_reducible refine W2.gtI ?_) | (with_reducible refine W2.neI ?_)
    | (with_reducible refine W2.eqS ?_) | (with_reducible refine W2.neS ?_)
    | ((with_reducible refine' W2.tupAt ?s ?l ?v ?_); (case s => rfl); (case l => rfl); (case v => rfl))
    | fail "no step")
  | (with_reducible refine W1.negI ?_)
  | ((with_reducible show cnd _ _ _); first | (with_reducible refine cnd_t ?_) | (with_reducible refine cnd_f ?_) | ((with_reducible refine cnd_is true ?e ?_); (case e => rfl)) | ((with_reducible refine cnd_is false ?e ?_); (case e => rfl)) | fail "no step")
  | ((with_reducible show nxt _ _ _); first | (with_reducible refine nxt_next ?_) | (with_reducible refine nxt_ret ?_) | (with_reducible refine nxt_cont ?_))
  | ((with_reducible show WPS _ _ _ _ _ _ _ _); first | (with_reducible refine WPS.cons ?_) | (with_reducible refine WPS.nil ?_))
  | ((with_reducible show WPs _ _ _ _ _ _ _ _); first
    | ((with_reducible refine WPs.asg ?_ ?hx ?hs); (case hx => rfl); (case hs => intro _; rfl))
    | (with_reducible refine WPs.ret ?_) | (with_reducible refine WPs.ifs ?_) | ((with_reducible refine WPs.expr ?_ ?hs); (case hs => intro _; rfl)) | (with_reducible refine WPs.pass ?_) | (with_reducible refine WPs.cont ?_)
    | fail "no step")
  | ((with_reducible show WPB _ _ _ _ _ _ _ _); first
    | ((with_reducible refine WPB.cmp ?_ ?hm); (case hm => rfl)) | (with_reducible refine WPB.op ?_) | (with_reducible refine WPB.not ?_) | ((with_reducible refine WPB.cmp2 ?_ ?hm); (case hm => rfl))
    | ((with_reducible refine WPB.val ?_ ?he); (case he => intro _ _; rfl)))
  | ((with_reducible show WPAll _ _ _ _ _ _ _ _ _); first | (with_reducible refine WPAll.or ?_) | (with_reducible refine WPAll.and ?_) | (with_reducible refine WPAll.orNil ?_) | (with_reducible refine WPAll.andNil ?_))
  | (with_reducible refine ⟨_, rfl, ?_⟩)
  | ((with_reducible refine' WL.isinstance ?a ?b ?_); (case a => rfl); (case b => rfl))
  | fail "no step")
-- into a def
local macro_rules | `(tactic| k_places) => `(tactic| ((refine WPS.cons ?_); (repeat' k_clsL)))
local macro_rules | `(tactic| fold_depth) => `(tactic| (repeat' k_clsL))
-- the same, but no further than the next statement
local macro_rules | `(tactic| k_memK) => `(tactic| first | (with_reducible refine WPS.nil ?_) | ((fail_if_success (with_reducible show WPS _ _ _ _ _ _ _ _)); k_clsL))
local macro_rules | `(tactic| k_ownIn) => `(tactic| (repeat' k_memK))
-- an object of the store
local macro_rules | `(tactic| k_offL) => `(tactic| first | exact get_head | ((refine Le.alloc ?_ _ _ ?_); (first | assumption | skip); k_offL) | assumption)
section
variable {c : Cx} {k : Nat} {ρ : Loc} {st : St} {Q : V → St → Prop} {X : Xp}
/-- a cell of the script, 0 behind its end -/
def cellV (ns : List Int) (i : Int) : Int := ns.getD i.toNat 0
def numV (ns : List Int) (i : Int) : Int := if ns.length = 0 then 5003 * i else ((ns.getD (i.fmod ns.length).toNat 0 + 7919 * i.fdiv ns.length + 101 * i) * 48271).fmod 2147483647
theorem fmod_lt {a b : Int} (h : 0 < b) : 0 ≤ a.fmod b ∧ a.fmod b < b := by
  rw [Int.fmod_eq_emod_of_nonneg _ (Int.le_of_lt h)]
  exact ⟨Int.emod_nonneg _ (by omega), Int.emod_lt_of_pos _ h⟩
theorem mulOk_right {a b : Int} (h : b.natAbs < 2 ^ 63) : IntMulOk a b := by
  refine IntMulOk.of_right ?_
  unfold Builtin.Int.intBits
  split
  · omega
  · rename_i hb
    have h0 : b.natAbs ≠ 0 := by simpa using hb
    have : b.natAbs.log2 < 63 := (Nat.log2_lt h0).mpr h
    omega

theorem s_cell_at (hK : Kc c) {ns : List Int} {i : Int} (h0 : 0 ≤ i) (hl : ns.length < 1000) (h : Q (.int (cellV ns i)) st) : CF c (k + 1) 49 [.scr ns, .int i] ρ st Q X := by
  refine CallW.fn (fnK hK (fn_law_cell_at _)) rfl ?_
  k_places
  fold_depth
  refine WL.lenScr (by omega) ?_
  fold_depth
  refine cnd_cases (fun hb => ?_) (fun hb => ?_)
  · have hb' : i < (ns.length : Int) := by simpa using hb
    fold_depth
    refine W2.subScr rfl (by omega) (seqIndex_pos h0 hb') (List.getElem?_eq_getElem (by omega)) ?_
    have : cellV ns i = ns[i.toNat] := by unfold cellV; rw [List.getD_eq_getElem?_getD, List.getElem?_eq_getElem (by omega)]; rfl
    rw [this] at h; exact h
  · have hb' : ¬ i < (ns.length : Int) := by simpa using hb
    fold_depth
    have : cellV ns i = 0 := by unfold cellV; rw [List.getD_eq_getElem?_getD, List.getElem?_eq_none (by omega)]; rfl
    rw [this] at h; exact h
theorem s_number (hK : Kc c) {ns : List Int} {i : Int} (h0 : 0 ≤ i) (hi : i < 1000000) (hl : ns.length < 1000) (h : Q (.int (numV ns i)) st) : CF c (k + 1) 56 [.scr ns, .int i] ρ st Q X := by
  refine CallW.fn (fnK hK (fn_law_number _)) rfl ?_
  k_places
  fold_depth
  refine WL.lenScr (by omega) ?_
  fold_depth
  refine cnd_cases (fun hb => ?_) (fun hb => ?_)
  · have hb' : ns.length = 0 := by simpa using hb
    fold_depth
    refine W2.mulI (mulOk_right (by omega)) ?_
    unfold numV at h; rw [if_pos hb'] at h; exact h
  · have hb' : ¬ ns.length = 0 := by simpa using hb
    have hm := fmod_lt (a := i) (b := ns.length) (by omega)
    unfold numV at h; rw [if_neg hb'] at h
    fold_depth
    refine WL.lenScr (by omega) ?_
    refine W2.modI (by omega) ?_
    refine W2.subScr rfl (by omega) (seqIndex_pos hm.1 hm.2) (List.getElem?_eq_getElem (by omega)) ?_
    fold_depth
    refine WL.lenScr (by omega) ?_
    refine W2.divI (by omega) (by omega) ?_
    refine W2.mulI (IntMulOk.of_left (by decide)) ?_
    fold_depth
    refine W2.mulI (IntMulOk.of_left (by decide)) ?_
    fold_depth
    refine W2.mulI (mulOk_right (by decide)) ?_
    fold_depth
    refine W2.modI (by decide) ?_
    rw [List.getD_eq_getElem?_getD, List.getElem?_eq_getElem (by omega)] at h
    exact h
end
section
variable {c : Cx} {k : Nat} {ρ : Loc} {st : St} {Q : V → St → Prop} {X : Xp}
def btwV (lo hi : Int) : V → Bool
  | .int i => decide (lo ≤ i) && decide (i ≤ hi)
  | _ => false
theorem typ_int {v : V} (h : typV st v = some "int") : ∃ i, v = .int i := by
  cases v <;> simp [typV] at h
  · exact ⟨_, rfl⟩
  · split at h <;> simp at h
theorem s_between (hK : Kc c) {v : V} {T : String} {lo hi : Int} (ht : typV st v = some T) (h : Q (.bool (btwV lo hi v)) st) : CF c (k + 1) 21 [v, .int lo, .int hi] ρ st Q X := by
  refine CallW.fn (fnK hK (fn_between _)) rfl ?_
  k_places
  fold_depth
  refine WL.isinstance ht rfl ⟨_, rfl, ?_⟩
  by_cases hT : T = "int"
  · subst hT
    obtain ⟨i, rfl⟩ := typ_int ht
    fold_depth
    simp only [btwV] at h
    refine cnd_cases (fun hb => ?_) (fun hb => ?_)
    · fold_depth
      rw [hb, Bool.true_and] at h; exact h
    · rw [hb, Bool.false_and] at h; exact h
  · have hf : btwV lo hi v = false := by
      cases v <;> first | rfl | (exact absurd (Option.some.inj ht).symm hT)
    rw [hf] at h
    by_cases hB : T = "bool"
    · subst hB
      fold_depth
      refine WL.isinstance ht rfl ⟨_, rfl, ?_⟩
      fold_depth
      exact h
    · have : isi T "int" = false := by simp [isi, hT, hB]
      rw [this]
      fold_depth
      exact h
theorem s_is_state (hK : Kc c) {v : V} {T : String} (ht : typV st v = some T) (h : Q (.bool (btwV 0 999982 v)) st) : CF c (k + 2) 28 [v] ρ st Q X := by
  refine CallW.fn (fnK hK (fn_is_state _)) rfl ?_
  k_places
  fold_depth
  exact s_between hK ht h
theorem s_whole (hK : Kc c) {i : Int} (h : Q (.bool true) st) : CF c (k + 1) 63 [.int i] ρ st Q X := by
  refine CallW.fn (fnK hK (fn_law_whole _)) rfl ?_
  k_places
  fold_depth
  exact h
def ruleV : V → Bool
  | .tup (.str x :: r) => if (["square", "half"] : List Str).any (· == x) then ((r.length + 1 : Nat) : Int) == 1 else (["add", "times"] : List Str).any (· == x) && (((r.length + 1 : Nat) : Int) == 2 && (match r with | v :: _ => btwV 0 999982 v | [] => false))
  | _ => false
theorem typ_tup {v : V} (h : typV st v = some "tuple") : ∃ vs, v = .tup vs := by
  cases v <;> simp [typV] at h
  · exact ⟨_, rfl⟩
  · split at h <;> simp at h
theorem typ_str {v : V} (h : typV st v = some "str") : ∃ x, v = .str x := by
  cases v <;> simp [typV] at h
  · exact ⟨_, rfl⟩
  · split at h <;> simp at h
theorem s_is_rule (hK : Kc c) {v : V} {T : String} (ht : typV st v = some T) (hs : ∀ vs, v = .tup vs → (vs.length < 1000 ∧ ∀ u ∈ vs, (typV st u).isSome = true)) (h : Q (.bool (ruleV v)) st) : CF c (k + 3) 35 [v] ρ st Q X := by
  refine CallW.fn (fnK hK (fn_is_rule _)) rfl ?_
  k_places
  fold_depth
  refine WL.isinstance ht rfl ⟨_, rfl, ?_⟩
  by_cases hT : T = "tuple"
  · subst hT
    obtain ⟨vs, rfl⟩ := typ_tup ht
    obtain ⟨hl, hs⟩ := hs vs rfl
    fold_depth
    refine WL.lenTup (by omega) ?_
    fold_depth
    cases vs with
    | nil =>
      fold_depth
      exact h
    | cons u r =>
      have hl' : ((u :: r).length : Int) < 2 ^ 63 := by omega
      fold_depth
      refine W2.subTup rfl hl' seqIndex_0 rfl ?_
      obtain ⟨U, hU⟩ := Option.isSome_iff_exists.mp (hs u (by simp))
      fold_depth
      refine WL.isinstance hU rfl ⟨_, rfl, ?_⟩
      by_cases hS : U = "str"
      · subst hS
        obtain ⟨x, rfl⟩ := typ_str hU
        fold_depth
        refine W2.subTup rfl hl' seqIndex_0 rfl ?_
        fold_depth
        refine W2.inStrs (ys := ["square", "half"]) rfl ⟨_, rfl, ?_⟩
        simp only [ruleV] at h
        refine cnd_cases (fun hb => ?_) (fun hb => ?_)
        · rw [if_pos hb] at h
          fold_depth
          refine WL.lenTup hl' ?_
          fold_depth
          exact h
        · rw [if_neg (by rw [hb]; decide)] at h
          fold_depth
          refine W2.subTup rfl hl' seqIndex_0 rfl ?_
          fold_depth
          refine W2.inStrs (ys := ["add", "times"]) rfl ⟨_, rfl, ?_⟩
          refine cnd_cases (fun hb2 => ?_) (fun hb2 => ?_)
          · rw [hb2, Bool.true_and] at h
            fold_depth
            refine WL.lenTup hl' ?_
            fold_depth
            refine cnd_cases (fun hb3 => ?_) (fun hb3 => ?_)
            · have e3 : ((r.length + 1 : Nat) : Int) == 2 := hb3
              rw [e3, Bool.true_and] at h
              cases r with
              | nil => simp at e3
              | cons w r =>
                fold_depth
                refine W2.subTup rfl hl' seqIndex_1 rfl ?_
                obtain ⟨W, hW⟩ := Option.isSome_iff_exists.mp (hs w (by simp))
                fold_depth
                exact s_is_state hK hW h
            · have e3 : (((r.length + 1 : Nat) : Int) == 2) = false := hb3
              rw [e3, Bool.false_and] at h
              exact h
          · rw [hb2, Bool.false_and] at h
            exact h
      · have : isi U "str" = false := by simp [isi, hS]
        rw [this]
        fold_depth
        have hf : ruleV (.tup (u :: r)) = false := by
          cases u <;> first | rfl | (exact absurd (Option.some.inj hU).symm hS)
        rw [hf] at h; exact h
  · have : isi T "tuple" = false := by simp [isi, hT]
    rw [this]
    fold_depth
    have hf : ruleV v = false := by
      cases v <;> first | rfl | (exact absurd (Option.some.inj ht).symm hT)
    rw [hf] at h; exact h
end
section
variable {c : Cx} {k : Nat} {ρ : Loc} {st : St} {Q : V → St → Prop} {X : Xp}
/-- the rules that are -/
inductive Ru where
  | add (i : Int) | times (i : Int) | square | half
def Ru.v : Ru → V
  | .add i => .tup [.str "add", .int i]
  | .times i => .tup [.str "times", .int i]
  | .square => .tup [.str "square"]
  | .half => .tup [.str "half"]
def Ru.Ok : Ru → Prop
  | .add i => 0 ≤ i ∧ i ≤ 999982
  | .times i => 0 ≤ i ∧ i ≤ 999982
  | _ => True
def Ru.fwd : Ru → Int → Int
  | .add i, s => (s + i).fmod 999983
  | .times i, s => (s * i).fmod 999983
  | .square, s => (s * s).fmod 999983
  | .half, s => s.fdiv 2
theorem fdiv_small {a : Int} {b : Int} (h : 0 < b) (h' : b < 1000000) : b ≠ 0 ∧ b.natAbs < 1073741824 := by omega
theorem s_rule (hK : Kc c) {n : Int} (h : ∀ (r : Ru) st', r.Ok → Le st st' → Q r.v st') : CF c (k + 1) 70 [.int n] ρ st Q X := by
  refine CallW.fn (fnK hK (fn_law_rule _)) rfl ?_
  k_places
  refine W2.divI (by decide) (by decide) ?_
  fold_depth
  refine W2.modI (by decide) ?_
  fold_depth
  refine W2.divI (by decide) (by decide) ?_
  fold_depth
  refine W2.modI (by decide) ?_
  fold_depth
  have rest : ∀ (i : Int) (st₁ : St), 0 ≤ i → i ≤ 999982 → Le st st₁ → WPS c k (scOf (KK c.w) 70) [("_law_number_here", .int n), ("_law_k", .int i)] st₁ ((bodyOf (KK c.w) 70).drop 2) (fun fl _ st' => Q (retV fl) st') X := by
    intro i st₁ i0 i1 hle
    k_places
    refine W2.modI (by decide) ?_
    fold_depth
    refine cnd_cases (fun hb => ?_) (fun hb => ?_)
    · fold_depth
      exact h (.add i) _ ⟨i0, i1⟩ hle
    · fold_depth
      refine W2.modI (by decide) ?_
      fold_depth
      refine cnd_cases (fun hb2 => ?_) (fun hb2 => ?_)
      · fold_depth
        exact h (.times i) _ ⟨i0, i1⟩ hle
      · fold_depth
        intro a ha
        fold_depth
        refine W2.modI (by decide) ?_
        fold_depth
        have hm := fmod_lt (a := n) (b := 5) (by decide)
        have e1 : ¬ n.fmod 5 < 2 := by simpa using hb
        have e2 : ¬ n.fmod 5 = 2 := by simpa using hb2
        have e3 : n.fmod 5 = 3 ∨ n.fmod 5 = 4 := by omega
        rcases e3 with e3 | e3
        · rw [e3]
          refine W2.subList get_head rfl (by decide) (by rfl) (by rfl) ?_
          fold_depth
          exact h .square _ trivial (hle.trans (.alloc ha))
        · rw [e3]
          refine W2.subList get_head rfl (by decide) (by rfl) (by rfl) ?_
          fold_depth
          exact h .half _ trivial (hle.trans (.alloc ha))
  refine cnd_cases (fun hb => ?_) (fun hb => ?_)
  · refine WPS.cons ?_
    k_ownIn
    intro a ha
    k_ownIn
    refine W2.divI (by decide) (by decide) ?_
    k_ownIn
    refine W2.modI (by decide) ?_
    have hm := fmod_lt (a := n.fdiv 15) (b := 5) (by decide)
    generalize (n.fdiv 15).fmod 5 = j at hm
    have e3 : j = 0 ∨ j = 1 ∨ j = 2 ∨ j = 3 ∨ j = 4 := by omega
    rcases e3 with rfl | rfl | rfl | rfl | rfl <;>
    · refine W2.subList get_head rfl (by decide) (by rfl) (by rfl) ?_
      k_ownIn
      exact rest _ _ (by decide) (by decide) (.alloc ha)
  · k_ownIn
    have hm := fmod_lt (a := n.fdiv 5) (b := 999983) (by decide)
    exact rest _ _ hm.1 (by omega) .refl
end
section
variable {c : Cx} {k : Nat} {ρ : Loc} {st : St} {Q : V → St → Prop} {X : Xp}
theorem Ru.fwd_ok {r : Ru} {s : Int} (hr : r.Ok) (h0 : 0 ≤ s) (h1 : s ≤ 999982) : 0 ≤ r.fwd s ∧ r.fwd s ≤ 999982 := by
  cases r with
  | half =>
    simp only [Ru.fwd]
    rw [Int.fdiv_eq_ediv_of_nonneg _ (by decide)]
    omega
  | add i => have := fmod_lt (a := s + i) (b := 999983) (by decide); simp only [Ru.fwd]; omega
  | times i => have := fmod_lt (a := s * i) (b := 999983) (by decide); simp only [Ru.fwd]; omega
  | square => have := fmod_lt (a := s * s) (b := 999983) (by decide); simp only [Ru.fwd]; omega
theorem s_forth (hK : Kc c) {r : Ru} {s : Int} (hr : r.Ok) (h0 : 0 ≤ s) (h1 : s ≤ 999982) (h : Q (.int (r.fwd s)) st) : CF c (k + 1) 42 [r.v, .int s] ρ st Q X := by
  refine CallW.fn (fnK hK (fn_forth _)) rfl ?_
  cases r with
  | add i =>
    simp only [Ru.v, Ru.fwd, Ru.Ok] at *
    k_places
    refine W2.modI (by decide) ?_
    fold_depth
    exact h
  | times i =>
    simp only [Ru.v, Ru.fwd, Ru.Ok] at *
    k_places
    refine W2.mulI (mulOk_right (by omega)) ?_
    fold_depth
    refine W2.modI (by decide) ?_
    fold_depth
    exact h
  | square =>
    simp only [Ru.v, Ru.fwd, Ru.Ok] at *
    k_places
    refine W2.mulI (mulOk_right (by omega)) ?_
    fold_depth
    refine W2.modI (by decide) ?_
    fold_depth
    exact h
  | half =>
    simp only [Ru.v, Ru.fwd, Ru.Ok] at *
    k_places
    refine W2.divI (by decide) (by decide) ?_
    fold_depth
    exact h
theorem s_law_forth (hK : Kc c) {r : Ru} {s : Int} (hr : r.Ok) (h0 : 0 ≤ s) (h1 : s ≤ 999982) (h : Q (.int (r.fwd s)) st) : CF c (k + 1) 77 [r.v, .int s] ρ st Q X := by
  refine CallW.fn (fnK hK (fn_law_forth _)) rfl ?_
  cases r with
  | add i =>
    simp only [Ru.v, Ru.fwd, Ru.Ok] at *
    k_places
    refine W2.modI (by decide) ?_
    fold_depth
    exact h
  | times i =>
    simp only [Ru.v, Ru.fwd, Ru.Ok] at *
    k_places
    refine W2.mulI (mulOk_right (by omega)) ?_
    fold_depth
    refine W2.modI (by decide) ?_
    fold_depth
    exact h
  | square =>
    simp only [Ru.v, Ru.fwd, Ru.Ok] at *
    k_places
    refine W2.mulI (mulOk_right (by omega)) ?_
    fold_depth
    refine W2.modI (by decide) ?_
    fold_depth
    exact h
  | half =>
    simp only [Ru.v, Ru.fwd, Ru.Ok] at *
    k_places
    refine W2.divI (by decide) (by decide) ?_
    fold_depth
    exact h
end
section
variable {c : Cx} {k : Nat} {ρ : Loc} {st : St} {Q : V → St → Prop} {X : Xp}
def GoodThing (st : St) (t : V) : Prop := ∃ v sd rd T, t = .tup [v, .bool sd, .bool rd] ∧ typV st v = some T ∧ (∀ vs, v = .tup vs → (vs.length < 1000 ∧ ∀ u ∈ vs, (typV st u).isSome = true)) ∧ btwV 0 999982 v = sd ∧ ruleV v = rd
def isTupV : V → Bool
  | .tup _ => true
  | _ => false
theorem gt_flat {st : St} {v : V} {sd rd : Bool} {T : String} (ht : typV st v = some T) (hv : isTupV v = false) (h1 : btwV 0 999982 v = sd) (h2 : ruleV v = rd) : GoodThing st (.tup [v, .bool sd, .bool rd]) :=
  ⟨v, sd, rd, T, rfl, ht, (fun vs e => by subst e; cases hv), h1, h2⟩
theorem gt_tup {st : St} {us : List V} {sd rd : Bool} (hl : Nat.blt us.length 1000 = true) (hu : us.all (fun u => (typV st u).isSome) = true) (h1 : btwV 0 999982 (.tup us) = sd) (h2 : ruleV (.tup us) = rd) : GoodThing st (.tup [.tup us, .bool sd, .bool rd]) :=
  ⟨.tup us, sd, rd, "tuple", rfl, rfl, fun vs e => by cases e; exact ⟨by simpa [Nat.blt_eq] using hl, fun u hu' => List.all_eq_true.mp hu u hu'⟩, h1, h2⟩
theorem typ_list {st : St} {a : Addr} {vs : List V} (h : get st a = some (.list vs)) : typV st (.ref a) = some "list" := by simp [typV, h]
theorem typ_dict {st : St} {a : Addr} {vs : List (Int × V)} (h : get st a = some (.dictI vs)) : typV st (.ref a) = some "dict" := by simp [typV, h]
theorem typ_mono {st st' : St} (hle : Le st st') {v : V} {T : String} (h : typV st v = some T) : typV st' v = some T := by
  cases v <;> first | exact h | skip
  rename_i a
  simp only [typV] at h ⊢
  cases e : get st a with
  | none => rw [e] at h; cases h
  | some o => rw [hle a o e]; rw [e] at h; exact h
theorem GoodThing.mono {st st' : St} (hle : Le st st') {t : V} (h : GoodThing st t) : GoodThing st' t := by
  obtain ⟨v, sd, rd, T, rfl, h1, h2, h3, h4⟩ := h
  refine ⟨v, sd, rd, T, rfl, typ_mono hle h1, fun vs e => ⟨(h2 vs e).1, fun u hu => ?_⟩, h3, h4⟩
  obtain ⟨U, hU⟩ := Option.isSome_iff_exists.mp ((h2 vs e).2 u hu)
  rw [typ_mono hle hU]; rfl
theorem all_nil' {p : V → Bool} : ([] : List V).all p = true := rfl
theorem all_cons' {p : V → Bool} {u : V} {us : List V} (h1 : p u = true) (h2 : us.all p = true) : (u :: us).all p = true := by simp [h1, h2]
theorem some_of {o : Option String} {T : String} (h : o = some T) : o.isSome = true := by rw [h]; rfl
theorem small_ok {a : Nat} (h : Nat.ble a 1000 = true) : a ≤ sizeLine := Nat.le_trans (Nat.le_of_ble_eq_true h) (by decide)
structure Things (st : St) (l n : Nat) : Prop where
  ex : ∃ vs, get st l = some (.list vs) ∧ vs.length = n ∧ ∀ t ∈ vs, GoodThing st t
theorem Things.more {st st' : St} {l l' n m : Nat} {vs ws : List V} (h1 : get st l = some (.list vs)) (h2 : vs.length = n) (h3 : ∀ t ∈ vs, GoodThing st t) (hle : Le st st') (hg : get st' l' = some (.list (vs ++ ws))) (hm : ws.length = m) (hw : ∀ t ∈ ws, GoodThing st' t) : Things st' l' (n + m) :=
  ⟨vs ++ ws, hg, by simp [h2, hm], fun t ht => (List.mem_append.mp ht).elim (fun q => (h3 t q).mono hle) (hw t)⟩
local macro_rules | `(tactic| k_subL) => `(tactic| repeat' (first | exact List.forall_mem_nil _ | (refine List.forall_mem_cons.mpr ⟨?_, ?_⟩) | exact gt_flat rfl rfl rfl rfl | exact gt_flat (typ_list (by k_offL)) rfl rfl rfl | exact gt_flat (typ_dict (by k_offL)) rfl rfl rfl | exact gt_tup rfl rfl rfl rfl | (refine gt_tup rfl ?_ rfl rfl) | exact all_nil' | (refine all_cons' ?_ ?_) | exact some_of (typ_list (by k_offL)) | exact some_of (typ_dict (by k_offL)) | rfl))
-- all the stores behind are grown ones
local macro_rules | `(tactic| k_upd) => `(tactic| first | exact Le.refl | exact (Le.alloc (by assumption)) | (refine Le.trans ?_ (Le.alloc (by assumption)); k_upd))
theorem s_things (hK : Kc c) (h : ∀ l st', Things st' l 35 → Q (.ref l) st') : CF c (k + 1) 96 [] ρ st Q X := by
  refine CallW.fn (fnK hK (fn_law_things _)) rfl ?_
  have r10 : ∀ l st, Things st l 32 → WPS c k (scOf (KK c.w) 96) [("_law_some", .ref l)] st ((bodyOf (KK c.w) 96).drop 10) (fun fl _ st' => Q (retV fl) st') X := by
    intro l st ht
    obtain ⟨vs, h1, h2, h3⟩ := ht.ex
    refine WPS.cons ?_
    repeat' (first | k_memK | (with_reducible refine WPE.dict0 ?_) | (intro _ _))
    refine W2.addList (by k_offL) (by k_offL) (by rw [h2]; exact small_ok rfl) ?_
    intro l' hl'
    k_ownIn
    exact h _ _ (Things.more h1 h2 h3 (by k_upd) get_head rfl (by k_subL))
  have r9 : ∀ l st, Things st l 30 → WPS c k (scOf (KK c.w) 96) [("_law_some", .ref l)] st ((bodyOf (KK c.w) 96).drop 9) (fun fl _ st' => Q (retV fl) st') X := by
    intro l st ht
    obtain ⟨vs, h1, h2, h3⟩ := ht.ex
    refine WPS.cons ?_
    repeat' (first | k_memK | (with_reducible refine WPE.dict0 ?_) | (intro _ _))
    refine W2.addList (by k_offL) (by k_offL) (by rw [h2]; exact small_ok rfl) ?_
    intro l' hl'
    k_ownIn
    exact r10 _ _ (Things.more h1 h2 h3 (by k_upd) get_head rfl (by k_subL))
  have r8 : ∀ l st, Things st l 27 → WPS c k (scOf (KK c.w) 96) [("_law_some", .ref l)] st ((bodyOf (KK c.w) 96).drop 8) (fun fl _ st' => Q (retV fl) st') X := by
    intro l st ht
    obtain ⟨vs, h1, h2, h3⟩ := ht.ex
    refine WPS.cons ?_
    repeat' (first | k_memK | (with_reducible refine WPE.dict0 ?_) | (intro _ _))
    refine W2.addList (by k_offL) (by k_offL) (by rw [h2]; exact small_ok rfl) ?_
    intro l' hl'
    k_ownIn
    exact r9 _ _ (Things.more h1 h2 h3 (by k_upd) get_head rfl (by k_subL))
  have r7 : ∀ l st, Things st l 24 → WPS c k (scOf (KK c.w) 96) [("_law_some", .ref l)] st ((bodyOf (KK c.w) 96).drop 7) (fun fl _ st' => Q (retV fl) st') X := by
    intro l st ht
    obtain ⟨vs, h1, h2, h3⟩ := ht.ex
    refine WPS.cons ?_
    repeat' (first | k_memK | (with_reducible refine WPE.dict0 ?_) | (intro _ _))
    refine W2.addList (by k_offL) (by k_offL) (by rw [h2]; exact small_ok rfl) ?_
    intro l' hl'
    k_ownIn
    exact r8 _ _ (Things.more h1 h2 h3 (by k_upd) get_head rfl (by k_subL))
  have r6 : ∀ l st, Things st l 21 → WPS c k (scOf (KK c.w) 96) [("_law_some", .ref l)] st ((bodyOf (KK c.w) 96).drop 6) (fun fl _ st' => Q (retV fl) st') X := by
    intro l st ht
    obtain ⟨vs, h1, h2, h3⟩ := ht.ex
    refine WPS.cons ?_
    repeat' (first | k_memK | (with_reducible refine WPE.dict0 ?_) | (intro _ _))
    refine W2.addList (by k_offL) (by k_offL) (by rw [h2]; exact small_ok rfl) ?_
    intro l' hl'
    k_ownIn
    exact r7 _ _ (Things.more h1 h2 h3 (by k_upd) get_head rfl (by k_subL))
  have r5 : ∀ l st, Things st l 18 → WPS c k (scOf (KK c.w) 96) [("_law_some", .ref l)] st ((bodyOf (KK c.w) 96).drop 5) (fun fl _ st' => Q (retV fl) st') X := by
    intro l st ht
    obtain ⟨vs, h1, h2, h3⟩ := ht.ex
    refine WPS.cons ?_
    repeat' (first | k_memK | (with_reducible refine WPE.dict0 ?_) | (intro _ _))
    refine W2.addList (by k_offL) (by k_offL) (by rw [h2]; exact small_ok rfl) ?_
    intro l' hl'
    k_ownIn
    exact r6 _ _ (Things.more h1 h2 h3 (by k_upd) get_head rfl (by k_subL))
  have r4 : ∀ l st, Things st l 15 → WPS c k (scOf (KK c.w) 96) [("_law_some", .ref l)] st ((bodyOf (KK c.w) 96).drop 4) (fun fl _ st' => Q (retV fl) st') X := by
    intro l st ht
    obtain ⟨vs, h1, h2, h3⟩ := ht.ex
    refine WPS.cons ?_
    repeat' (first | k_memK | (with_reducible refine WPE.dict0 ?_) | (intro _ _))
    refine W2.addList (by k_offL) (by k_offL) (by rw [h2]; exact small_ok rfl) ?_
    intro l' hl'
    k_ownIn
    exact r5 _ _ (Things.more h1 h2 h3 (by k_upd) get_head rfl (by k_subL))
  have r3 : ∀ l st, Things st l 12 → WPS c k (scOf (KK c.w) 96) [("_law_some", .ref l)] st ((bodyOf (KK c.w) 96).drop 3) (fun fl _ st' => Q (retV fl) st') X := by
    intro l st ht
    obtain ⟨vs, h1, h2, h3⟩ := ht.ex
    refine WPS.cons ?_
    repeat' (first | k_memK | (with_reducible refine WPE.dict0 ?_) | (intro _ _))
    refine W2.addList (by k_offL) (by k_offL) (by rw [h2]; exact small_ok rfl) ?_
    intro l' hl'
    k_ownIn
    exact r4 _ _ (Things.more h1 h2 h3 (by k_upd) get_head rfl (by k_subL))
  have r2 : ∀ l st, Things st l 8 → WPS c k (scOf (KK c.w) 96) [("_law_some", .ref l)] st ((bodyOf (KK c.w) 96).drop 2) (fun fl _ st' => Q (retV fl) st') X := by
    intro l st ht
    obtain ⟨vs, h1, h2, h3⟩ := ht.ex
    refine WPS.cons ?_
    repeat' (first | k_memK | (with_reducible refine WPE.dict0 ?_) | (intro _ _))
    refine W2.addList (by k_offL) (by k_offL) (by rw [h2]; exact small_ok rfl) ?_
    intro l' hl'
    k_ownIn
    exact r3 _ _ (Things.more h1 h2 h3 (by k_upd) get_head rfl (by k_subL))
  have r1 : ∀ l st, Things st l 4 → WPS c k (scOf (KK c.w) 96) [("_law_some", .ref l)] st ((bodyOf (KK c.w) 96).drop 1) (fun fl _ st' => Q (retV fl) st') X := by
    intro l st ht
    obtain ⟨vs, h1, h2, h3⟩ := ht.ex
    refine WPS.cons ?_
    repeat' (first | k_memK | (with_reducible refine WPE.dict0 ?_) | (intro _ _))
    refine W2.addList (by k_offL) (by k_offL) (by rw [h2]; exact small_ok rfl) ?_
    intro l' hl'
    k_ownIn
    exact r2 _ _ (Things.more h1 h2 h3 (by k_upd) get_head rfl (by k_subL))
  refine WPS.cons ?_
  repeat' (first | k_memK | (intro _ _))
  exact r1 _ _ ⟨_, get_head, rfl, by k_subL⟩
end
section
variable {c : Cx} {k : Nat} {ρ : Loc} {st : St} {Q : V → St → Prop} {X : Xp}
theorem Ru.rule_ok {r : Ru} (h : r.Ok) : ruleV r.v = true := by
  cases r with
  | add i => simp only [Ru.Ok] at h; simp only [Ru.v, ruleV]; simp [btwV, h.1, h.2]; decide
  | times i => simp only [Ru.Ok] at h; simp only [Ru.v, ruleV]; simp [btwV, h.1, h.2]; decide
  | square => rfl
  | half => rfl
theorem Ru.typ (r : Ru) : typV st r.v = some "tuple" := by cases r <;> rfl
theorem Ru.parts (r : Ru) : ∀ vs, r.v = .tup vs → (vs.length < 1000 ∧ ∀ u ∈ vs, (typV st u).isSome = true) := by
  intro vs e
  cases r <;> (cases e; refine ⟨by simp, ?_⟩; intro u hu; simp at hu; rcases hu with rfl | rfl <;> rfl)
theorem setL_new {ρ : Loc} {x : Str} {v : V} {ρ' : Loc} (h : setL ρ x v = ρ') : setL ρ x v = ρ' := h
theorem law_ok (hK : Kc c) (hq : c.q = true) {ns : List Int} (hl : ns.length < 1000) : WPS c 20 (scOf (KK c.w) 103) [("_law_script", .scr ns)] [] (bodyOf (KK c.w) 103) (fun fl _ _ => retV fl = .bool true) X := by
  k_places
  refine s_number hK (by decide) (by decide) hl ?_
  fold_depth
  refine s_rule hK fun r st₁ hr hle => ?_
  fold_depth
  refine s_number hK (by decide) (by decide) hl ?_
  generalize numV ns 1 = cell
  fold_depth
  refine W2.divI (by decide) (by decide) ?_
  fold_depth
  refine W2.modI (by decide) ?_
  fold_depth
  intro a ha
  fold_depth
  refine W2.modI (by decide) ?_
  have hm := fmod_lt (a := cell) (b := 4) (by decide)
  have hm2 := fmod_lt (a := cell.fdiv 4) (b := 999983) (by decide)
  obtain ⟨s, hs, h0, h1⟩ : ∃ s, ([V.int 0, V.int 1, V.int 999982, V.int ((cell.fdiv 4).fmod 999983)] : List V)[(cell.fmod 4).toNat]? = some (.int s) ∧ 0 ≤ s ∧ s ≤ 999982 := by
    have e3 : cell.fmod 4 = 0 ∨ cell.fmod 4 = 1 ∨ cell.fmod 4 = 2 ∨ cell.fmod 4 = 3 := by omega
    rcases e3 with e3 | e3 | e3 | e3 <;> rw [e3]
    · exact ⟨0, rfl, by decide, by decide⟩
    · exact ⟨1, rfl, by decide, by decide⟩
    · exact ⟨999982, rfl, by decide, by decide⟩
    · exact ⟨_, rfl, hm2.1, by omega⟩
  refine W2.subList get_head rfl (by show (4 : Int) < _; decide) (seqIndex_pos hm.1 (by show _ < (4 : Int); omega)) hs ?_
  fold_depth
  refine s_forth hK hr h0 h1 ?_
  have hf := Ru.fwd_ok hr h0 h1
  fold_depth
  refine s_whole hK ?_
  fold_depth
  refine s_law_forth hK hr h0 h1 ?_
  fold_depth
  refine cnd_is false (by simp) ?_
  fold_depth
  refine s_is_rule hK r.typ r.parts ?_
  fold_depth
  rw [Ru.rule_ok hr]
  refine W2.isNot rfl ?_
  fold_depth
  refine s_is_state hK rfl ?_
  have hb : ∀ i : Int, 0 ≤ i → i ≤ 999982 → btwV 0 999982 (.int i) = true := fun i h0 h1 => by simp [btwV, h0, h1]
  rw [hb _ h0 h1]
  fold_depth
  refine W2.isNot rfl ?_
  fold_depth
  refine s_is_state hK rfl ?_
  rw [hb _ hf.1 hf.2]
  fold_depth
  refine W2.isNot rfl ?_
  fold_depth
  refine WPs.unpack hq rfl rfl ?_
  fold_depth
  refine s_things hK fun l st' ht => ?_
  obtain ⟨vs, g1, g2, g3⟩ := ht.ex
  fold_depth
  refine s_cell_at hK (by decide) hl ?_
  fold_depth
  refine W2.modI (by decide) ?_
  have hm3 := fmod_lt (a := cellV ns 2) (b := 35) (by decide)
  have hj : ((cellV ns 2).fmod 35).toNat < vs.length := by omega
  refine W2.subList g1 rfl (by omega) (seqIndex_pos hm3.1 (by omega)) (List.getElem?_eq_getElem hj) ?_
  obtain ⟨v, sd, rd, T, e, t1, t2, t3, t4⟩ := g3 _ (List.getElem_mem hj)
  rw [e]
  refine ⟨_, rfl, rfl, ?_⟩
  fold_depth
  refine s_is_state hK t1 ?_
  fold_depth
  refine s_is_rule hK t1 t2 ?_
  rw [t3, t4]
  fold_depth
  intro b hb'
  fold_depth
  intro b2 hb2
  refine W2.eq (da := .list [.bool sd, .bool rd]) (db := .list [.bool sd, .bool rd]) (.list (by k_offL) (.cons (.bool _) (.cons (.bool _) .nil))) (.list (by k_offL) (.cons (.bool _) (.cons (.bool _) .nil))) (by cases sd <;> cases rd <;> decide) (by cases sd <;> cases rd <;> decide) ?_
  have he : PyData.eqv (.list [.bool sd, .bool rd]) (.list [.bool sd, .bool rd]) = true := by cases sd <;> cases rd <;> rfl
  rw [he]
  fold_depth
  refine W2.listAt (by k_offL) rfl rfl rfl ?_
  fold_depth
  refine W2.listAt (by k_offL) rfl rfl rfl ?_
  fold_depth
  rfl
end
end Mine
set_option maxHeartbeats 8000000 in
theorem PySem.Challenge.cw_uf040029_01_holds : PySem.Challenge.rw_uf040029_01.Holds := by
  refine Mine.hd ?_
  intro w s₀ s₁ mg mb G Y fa o pm cd doc dV kV ho hd' hcd hD hmg hg args vals as hpre hlay hrd hwl hlo
  have KX := kIn_of Y
  have T := G.T
  have e1 : mg "law" = some (.ref 103) := mg_of KX T.g rfl
  have e2 : fa = 103 := by
    have := hmg
    rw [show mg _ = some (Value.ref 103) from e1] at this
    cases this; rfl
  subst e2
  clear ho hd' hcd hD hmg
  wrow_args hpre hlay hrd hwl hlo
  rename_i ns _ _ _ _ _ _ _ l vals _ hL _ _ _ hI _ hn _
  refine enter_call (codeAny_mono ?_ (fun _ _ g => GoodW.toG g))
  refine Mine.enterLaw (c := { prog := _, w := w, K := Mine.KK w, p := _, loose := _, mean := _, mg := mg, mb := mb, base := s₁.heap, s₀ := s₁, q := true }) (k := 20) (Mine.fn_law w) rfl rfl KX T (by decide) hL hI (Mine.law_ok (by rfl) rfl (by omega)) ?_
  intro L m h' tk F
  refine goodW_bool F hg (raisesW_false ?_) ?_
  · wrow_none_raised
  · wrow_post
