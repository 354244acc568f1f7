import PyProof.Rows.All
import Wide.All
import OpenK.AllK
import Wide.FinOn
import PySem.Challenge.RW_uf040029_11
open PySem PySem.W PySem.Calls PySem.Spec PyProof.Rows
set_option Elab.async false
set_option maxRecDepth 100000
set_option linter.unusedVariables false
set_option linter.unusedSimpArgs false
set_option maxHeartbeats 1000000
namespace Mine
abbrev Led := List (Addr × Obj)
abbrev tupObj (vals : List Value) (n : Nat) : Obj := { cls := .type "tuple", data := .seq vals.toArray n }
abbrev rngObj (a b c : Int) (t u v : Tok) : Obj := { cls := .type "range", dict := none, data := .fields #[.int a t, .int b u, .int c v], slots := #[] }

/-- abstract values -/
inductive V where
  | none
  | bool (b : Bool)
  | int (i : Int)
  | str (x : Str)
  | tup (vs : List V)
  | rng (a b c : Int)
  | ref (a : Addr)
  | stat (v : Value)
  | scr (ns : List Int)

/-- abstract objects -/
inductive O where
  | list (vs : List V)
  | dictI (kvs : List (Int × V))
  | dictS (kvs : List (Str × V))
  | inst (C d : Addr)
  | attrs (fs : List (Str × V))

abbrev St := List (Addr × O)
abbrev Loc := List (Str × V)
def setL : Loc → Str → V → Loc
  | [], x, v => [(x, v)]
  | (y, u) :: r, x, v => if y = x then (x, v) :: r else (y, u) :: setL r x v
def getL : Loc → Str → Option V
  | [], _ => none
  | (y, u) :: r, x => if y = x then some u else getL r x
theorem getL_nil (x : Str) : getL [] x = none := rfl
theorem getL_cons (y : Str) (u : V) (r : Loc) (x : Str) : getL ((y, u) :: r) x = if y = x then some u else getL r x := rfl
theorem getL_setL (ρ : Loc) (x : Str) (v : V) (y : Str) : getL (setL ρ x v) y = if y = x then some v else getL ρ y := by
  induction ρ with
  | nil => rw [setL, getL_cons, getL_nil]; by_cases h : y = x
           · subst h; simp
           · have : ¬ x = y := fun e => h e.symm
             simp [h, this]
  | cons p r ih =>
    obtain ⟨z, u⟩ := p
    rw [setL]
    by_cases hz : z = x
    · subst hz
      rw [if_pos rfl, getL_cons, getL_cons]
      by_cases h : z = y
      · subst h; simp
      · have : ¬ y = z := fun e => h e.symm
        simp [h, this]
    · rw [if_neg hz, getL_cons, ih, getL_cons]
      by_cases h : z = y
      · subst h; simp [hz]
      · simp [h]

/-- the whole, unchanging -/
structure Cx where
  prog : Program
  w : World
  K : Frag
  p : Program
  loose : List Str
  mean : ExcName → Option Value
  mg : Str → Option Value
  mb : Str → Option Value
  base : Heap
  s₀ : Shared
  q : Bool

abbrev Cx.M (c : Cx) : Model := model c.prog c.w

mutual
inductive RV (base : Heap) (imm : Led) : V → Value → Prop
  | none : RV base imm .none .none
  | bool (b : Bool) : RV base imm (.bool b) (.bool b)
  | int (i : Int) (t : Tok) : RV base imm (.int i) (.int i t)
  | str (x : Str) (t : Tok) : RV base imm (.str x) (.str x t)
  | tup {a : Addr} {vals : List Value} {n : Nat} {vs : List V} : (a, tupObj vals n) ∈ imm → RVs base imm vs vals → RV base imm (.tup vs) (.ref a)
  | rng {r : Addr} {a b c : Int} {t u v : Tok} : (r, rngObj a b c t u v) ∈ imm → RV base imm (.rng a b c) (.ref r)
  | ref (a : Addr) : RV base imm (.ref a) (.ref a)
  | stat (v : Value) : RV base imm (.stat v) v
  | scr {a : Addr} {vals : List Value} {ns : List Int} : base.IsList a vals.toArray → IntsAre vals ns → RV base imm (.scr ns) (.ref a)
inductive RVs (base : Heap) (imm : Led) : List V → List Value → Prop
  | nil : RVs base imm [] []
  | cons {v : V} {vs : List V} {x : Value} {xs : List Value} : RV base imm v x → RVs base imm vs xs → RVs base imm (v :: vs) (x :: xs)
end

mutual
theorem RV.mono {base : Heap} {imm imm' : Led} (hs : ∀ p ∈ imm, p ∈ imm') : ∀ {v : V} {x : Value}, RV base imm v x → RV base imm' v x
  | _, _, .none => .none
  | _, _, .bool b => .bool b
  | _, _, .int i t => .int i t
  | _, _, .str x t => .str x t
  | _, _, .tup h r => .tup (hs _ h) (RVs.mono hs r)
  | _, _, .rng h => .rng (hs _ h)
  | _, _, .ref a => .ref a
  | _, _, .stat v => .stat v
  | _, _, .scr h i => .scr h i
theorem RVs.mono {base : Heap} {imm imm' : Led} (hs : ∀ p ∈ imm, p ∈ imm') : ∀ {v : List V} {x : List Value}, RVs base imm v x → RVs base imm' v x
  | _, _, .nil => .nil
  | _, _, .cons h r => .cons (RV.mono hs h) (RVs.mono hs r)
end

section
variable {base : Heap} {imm : Led} {vs ws : List V} {xs ys : List Value} {v : V} {x : Value}
theorem RVs.length (h : RVs base imm vs xs) : xs.length = vs.length := by
  induction vs generalizing xs with
  | nil => cases h; rfl
  | cons v vs ih => cases h with | cons _ r => simp [ih r]
theorem RVs.append (h : RVs base imm vs xs) (k : RVs base imm ws ys) : RVs base imm (vs ++ ws) (xs ++ ys) := by
  induction vs generalizing xs with
  | nil => cases h; exact k
  | cons v vs ih => cases h with | cons a r => exact .cons a (ih r)
theorem RVs.get (h : RVs base imm vs xs) {i : Nat} {v : V} (hi : vs[i]? = some v) : ∃ x, xs[i]? = some x ∧ RV base imm v x := by
  induction vs generalizing xs i with
  | nil => simp at hi
  | cons w vs ih => cases h with
    | cons a r => cases i with
      | zero => simp at hi; subst hi; exact ⟨_, by simp, a⟩
      | succ i => simpa using ih r (by simpa using hi)
theorem RVs.get' (h : RVs base imm vs xs) {i : Nat} {x : Value} (hi : xs[i]? = some x) : ∃ v, vs[i]? = some v ∧ RV base imm v x := by
  induction vs generalizing xs i with
  | nil => cases h; simp at hi
  | cons w vs ih => cases h with
    | cons a r => cases i with
      | zero => simp at hi; subst hi; exact ⟨_, by simp, a⟩
      | succ i => simpa using ih r (by simpa using hi)
theorem RVs.one (h : RV base imm v x) : RVs base imm [v] [x] := .cons h .nil
theorem RVs.two {v' : V} {x' : Value} (h : RV base imm v x) (h' : RV base imm v' x') : RVs base imm [v, v'] [x, x'] := .cons h (.cons h' .nil)
end

/-- values under keys -/
inductive RKs (base : Heap) (imm : Led) {α : Type} : List (α × V) → List (α × Value) → Prop
  | nil : RKs base imm [] []
  | cons {k : α} {v : V} {x : Value} {l : List (α × V)} {r : List (α × Value)} : RV base imm v x → RKs base imm l r → RKs base imm ((k, v) :: l) ((k, x) :: r)
theorem RKs.mono {base : Heap} {imm imm' : Led} (hs : ∀ p ∈ imm, p ∈ imm') {α : Type} {l : List (α × V)} {r : List (α × Value)} (h : RKs base imm l r) : RKs base imm' l r := by
  induction h with
  | nil => exact .nil
  | cons a _ ih => exact .cons (a.mono hs) ih

/-- a dict whose keys are of one kind -/
def IsDict {α : Type} [DecidableEq α] {prog : Program} {w : World} (knd : KeyKind prog w α) (o : Obj) (kvs : List (α × Value)) : Prop :=
  o.ExactDict ∧ ∃ es ep, o.data = .dict es ep ∧ KeysOf knd es ∧ Pairs knd es.toList kvs ∧ (kvs.map (·.1)).Nodup

/-- an abstract object and the concrete one -/
inductive RO (c : Cx) (imm : Led) : O → Obj → Prop
  | list {vs : List V} {vals : List Value} {n : Nat} : RVs c.base imm vs vals → RO c imm (.list vs) (listOf vals.toArray n)
  | dictI {kvs : List (Int × V)} {kvals : List (Int × Value)} {o : Obj} : RKs c.base imm kvs kvals → IsDict (intKind c.prog c.w) o kvals → RO c imm (.dictI kvs) o
  | dictS {kvs : List (Str × V)} {kvals : List (Str × Value)} {o : Obj} : RKs c.base imm kvs kvals → IsDict (strKind c.prog c.w) o kvals → RO c imm (.dictS kvs) o
  | inst (C d : Addr) : RO c imm (.inst C d) (instObj C d)
theorem RO.mono {c : Cx} {imm imm' : Led} (hs : ∀ p ∈ imm, p ∈ imm') {o : O} {co : Obj} (h : RO c imm o co) : RO c imm' o co := by
  cases h with
  | list r => exact .list (r.mono hs)
  | dictI r d => exact .dictI (r.mono hs) d
  | dictS r d => exact .dictS (r.mono hs) d
  | inst C d => exact .inst C d

inductive StR (c : Cx) (imm : Led) : St → Led → Prop
  | nil : StR c imm [] []
  | cons {a : Addr} {o : O} {co : Obj} {st : St} {mt : Led} : RO c imm o co → StR c imm st mt → StR c imm ((a, o) :: st) ((a, co) :: mt)
theorem StR.mono {c : Cx} {imm imm' : Led} (hs : ∀ p ∈ imm, p ∈ imm') {st : St} {mt : Led} (h : StR c imm st mt) : StR c imm' st mt := by
  induction h with
  | nil => exact .nil
  | cons a _ ih => exact .cons (a.mono hs) ih
theorem StR.keys {c : Cx} {imm : Led} {st : St} {mt : Led} (h : StR c imm st mt) : mt.map (·.1) = st.map (·.1) := by
  induction h with
  | nil => rfl
  | cons _ _ ih => simp [ih]

def get (st : St) (a : Addr) : Option O := st.lookup a
def upd (st : St) (a : Addr) (o : O) : St := st.map fun p => if p.1 = a then (a, o) else p

theorem StR.get {c : Cx} {imm : Led} {st : St} {mt : Led} (h : StR c imm st mt) {a : Addr} {o : O} (e : get st a = some o) : ∃ co, (a, co) ∈ mt ∧ RO c imm o co := by
  induction h with
  | nil => cases e
  | @cons b o' co st mt r _ ih =>
    unfold Mine.get at e ih
    rw [List.lookup_cons] at e
    split at e
    · rename_i q
      have q' : a = b := by simpa using q
      subst q'; cases e
      exact ⟨co, .head _, r⟩
    · obtain ⟨co', m, r'⟩ := ih e
      exact ⟨co', .tail _ m, r'⟩

/-- a frame -/
structure Fm where
  outer : List Env
  frs : List (Addr × (Str → Option Value))
  L : Addr
  fenv : Env
  env : Env
  A : Around
  cmp : Bool

/-- a dict that is a namespace -/
def NsObj (o : Obj) (m : Str → Option Value) : Prop := ∃ es ep, o.data = .dict es ep ∧ StrKeys es ∧ ∀ name, nsFind es name = m name

/-- the callers' frames -/
inductive FoR : List (Addr × (Str → Option Value)) → Led → Prop
  | nil : FoR [] []
  | cons {L : Addr} {m : Str → Option Value} {o : Obj} {fs : List (Addr × (Str → Option Value))} {fo : Led} : NsObj o m → FoR fs fo → FoR ((L, m) :: fs) ((L, o) :: fo)

/-- the frames' envs -/
def EnvOk (f : Fm) (e : Env) : Prop := e.scope.kind = .function ∧ ∃ L, e.frame = some L ∧ (L = f.L ∨ ∃ m, (L, m) ∈ f.frs)

structure Fm.Ok (c : Cx) (k : Nat) (f : Fm) : Prop where
  kin : c.K.In c.base
  top : Top c.p c.loose c.mean c.mg c.mb c.base
  envs : ∀ e ∈ f.fenv :: f.outer, EnvOk f e
  frames : f.A.frames = some (f.fenv :: f.outer)
  eframe : f.env.frame = f.fenv.frame
  ekind : f.env.scope.kind = .function
  eglob : f.env.globals = mainGlobals
  ebi : f.env.builtins = builtinsNs
  ecell : ∀ x, f.env.kindOf x = some .cell → ∃ cc, f.env.cells.lookup x = some cc
  hnd : c.q = true → f.A.handled = none
  depth : f.A.depth + k + 200 < recursionLimit
  units : f.A.units + 8 * k + 200 < cLine

/-- what a name reads -/
def ReadsName (f : Fm) (m : Str → Option Value) (cs fr : Led) (x : Str) (val : Value) : Prop :=
  (f.env.kindOf x = some .local ∧ f.env.locals = f.L ∧ m x = some val) ∨
  ((f.env.kindOf x = some .cell ∨ f.env.kindOf x = some .free) ∧ ∃ c o, f.env.cells.lookup x = some c ∧ (c, o) ∈ cs ++ fr ∧ o.data = .cell (some val))

structure LocR (base : Heap) (imm : Led) (f : Fm) (ρ : Loc) (m : Str → Option Value) (cs fr : Led) : Prop where
  reads : ∀ x v, getL ρ x = some v → ∃ val, RV base imm v val ∧ ReadsName f m cs fr x val
  cells : f.cmp = false → ∀ x c, f.env.cells.lookup x = some c → ∃ o v, (c, o) ∈ cs ∧ o.data = .cell v
  inj : f.cmp = false → ∀ x y c, f.env.cells.lookup x = some c → f.env.cells.lookup y = some c → x = y

theorem LocR.mono {base : Heap} {imm imm' : Led} {f : Fm} {ρ : Loc} {m : Str → Option Value} {cs fr : Led} (hs : ∀ p ∈ imm, p ∈ imm') (h : LocR base imm f ρ m cs fr) : LocR base imm' f ρ m cs fr :=
  ⟨fun x v e => let ⟨val, r, q⟩ := h.reads x v e; ⟨val, r.mono hs, q⟩, h.cells, h.inj⟩

abbrev whole (mt cs imm fr fo : Led) : Led := mt ++ (cs ++ (imm ++ (fr ++ fo)))

structure RelAt (c : Cx) (f : Fm) (ρ : Loc) (st : St) (imm fr : Led) (h : Heap) (m : Str → Option Value) (mt cs fo : Led) : Prop where
  frm : Fr c.base f.L h m
  news : News c.base f.L h (whole mt cs imm fr fo)
  nodup : ((whole mt cs imm fr fo).map (·.1)).Nodup
  sto : StR c imm st mt
  fos : FoR f.frs fo
  loc : LocR c.base imm f ρ m cs fr

def Rel (c : Cx) (f : Fm) (ρ : Loc) (st : St) (imm fr : Led) (s : Shared) : Prop :=
  (∃ h tk, s = { c.s₀ with heap := h, toks := tk }) ∧ ∃ m mt cs fo, RelAt c f ρ st imm fr s.heap m mt cs fo

section
variable {c : Cx} {f : Fm} {k : Nat} {ρ : Loc} {st : St} {imm fr : Led} {s : Shared} {h h' : Heap} {m : Str → Option Value} {mt cs fo : Led} {a : Addr} {o o' : Obj} {tk : Nat}

theorem RelAt.keeps (R : RelAt c f ρ st imm fr h m mt cs fo) (hk : ∀ b o, h.get? b = some o → h'.get? b = some o) : RelAt c f ρ st imm fr h' m mt cs fo :=
  ⟨R.frm.keeps hk, R.news.grown hk, R.nodup, R.sto, R.fos, R.loc⟩
theorem Rel.keeps (R : Rel c f ρ st imm fr s) (hk : ∀ b o, s.heap.get? b = some o → h'.get? b = some o) : Rel c f ρ st imm fr { s with heap := h', toks := tk } := by
  obtain ⟨⟨h0, tk0, rfl⟩, m, mt, cs, fo, r⟩ := R
  exact ⟨⟨h', tk, rfl⟩, m, mt, cs, fo, r.keeps hk⟩
theorem Rel.toks (R : Rel c f ρ st imm fr s) : Rel c f ρ st imm fr { s with toks := tk } := R.keeps (h' := s.heap) fun _ _ e => e
theorem Rel.push (R : Rel c f ρ st imm fr s) : Rel c f ρ st imm fr { s with heap := s.heap.push o, toks := tk } := R.keeps fun _ _ e => Heap.get?_push_of_some _ e

theorem RelAt.size (R : RelAt c f ρ st imm fr h m mt cs fo) : ∀ p ∈ whole mt cs imm fr fo, p.1 < h.objs.size := fun p hp => Heap.lt_size (R.news p hp).1
theorem RelAt.none (R : RelAt c f ρ st imm fr h m mt cs fo) : get st h.objs.size = none := by
  cases e : get st h.objs.size with
  | none => rfl
  | some o =>
    obtain ⟨co, hm, _⟩ := R.sto.get e
    exact absurd (R.size _ (List.mem_append_left _ hm)) (Nat.lt_irrefl _)

theorem newAt (F : Fr c.base f.L h m) (ho : o.isFreed = false) : (h.push o).get? h.objs.size = some o ∧ h.objs.size ≠ f.L ∧ c.base.get? h.objs.size = none := by
  refine ⟨Heap.get?_push_size _ ho, Nat.ne_of_gt F.ns.lt, ?_⟩
  cases hq : c.base.get? h.objs.size with
  | none => rfl
  | some o' => exact absurd (Heap.lt_size (F.keep _ _ hq)) (Nat.lt_irrefl _)

theorem nodup_ins {α β : Type} {l₁ l₂ : List (α × β)} {p : α × β} (h : ((l₁ ++ l₂).map (·.1)).Nodup) (hn : ∀ q ∈ l₁ ++ l₂, q.1 ≠ p.1) : ((l₁ ++ p :: l₂).map (·.1)).Nodup := by
  have e : ((l₁ ++ p :: l₂).map (·.1)).Perm ((p :: (l₁ ++ l₂)).map (·.1)) := List.Perm.map _ List.perm_middle
  refine e.nodup_iff.mpr ?_
  rw [List.map_cons, List.nodup_cons]
  refine ⟨fun hm => ?_, h⟩
  obtain ⟨q, hq, e⟩ := List.mem_map.mp hm
  exact hn q hq e

/-- one more object, anywhere in the ledger -/
theorem news_ins {l₁ l₂ : Led} (F : Fr c.base f.L h m) (N : News c.base f.L h (l₁ ++ l₂)) (nd : ((l₁ ++ l₂).map (·.1)).Nodup) (ho : o.isFreed = false) :
    News c.base f.L (h.push o) (l₁ ++ (h.objs.size, o) :: l₂) ∧ ((l₁ ++ (h.objs.size, o) :: l₂).map (·.1)).Nodup := by
  refine ⟨fun p hp => ?_, nodup_ins nd fun q hq => Nat.ne_of_lt (Heap.lt_size (N q hq).1)⟩
  have hp' : p = (h.objs.size, o) ∨ p ∈ l₁ ++ l₂ := by
    simp only [List.mem_append, List.mem_cons] at hp ⊢
    rcases hp with hp | hp | hp
    · exact .inr (.inl hp)
    · exact .inl hp
    · exact .inr (.inr hp)
  rcases hp' with rfl | hp'
  · exact newAt F ho
  · exact ⟨Heap.get?_push_of_some _ (N p hp').1, (N p hp').2⟩

theorem LocR.more {base : Heap} {p : Addr × Obj} (h : LocR base imm f ρ m cs fr) : LocR base imm f ρ m cs (p :: fr) := by
  refine ⟨fun x v e => ?_, h.cells, h.inj⟩
  obtain ⟨val, r, q⟩ := h.reads x v e
  refine ⟨val, r, ?_⟩
  rcases q with q | ⟨q1, c, o, q2, q3, q4⟩
  · exact .inl q
  · refine .inr ⟨q1, c, o, q2, ?_, q4⟩
    rcases List.mem_append.mp q3 with q3 | q3
    · exact List.mem_append_left _ q3
    · exact List.mem_append_right _ (.tail _ q3)
theorem LocR.other {base : Heap} {l₁ l₂ l₃ : Led} (h : LocR base imm f ρ m cs (l₁ ++ (a, o) :: l₂)) (hd : ∀ v, o.data ≠ .cell v) (hl : ∀ p, p ∈ l₁ ++ l₂ → p ∈ l₃) : LocR base imm f ρ m cs l₃ := by
  refine ⟨fun x v e => ?_, h.cells, h.inj⟩
  obtain ⟨val, r, q⟩ := h.reads x v e
  refine ⟨val, r, ?_⟩
  rcases q with q | ⟨q1, c, ob, q2, q3, q4⟩
  · exact .inl q
  · refine .inr ⟨q1, c, ob, q2, ?_, q4⟩
    rcases List.mem_append.mp q3 with q3 | q3
    · exact List.mem_append_left _ q3
    · refine List.mem_append_right _ (hl _ ?_)
      simp only [List.mem_append, List.mem_cons, Prod.mk.injEq] at q3 ⊢
      rcases q3 with q3 | ⟨_, q3⟩ | q3
      · exact .inl q3
      · exact absurd (q3 ▸ q4) (hd _)
      · exact .inr q3

theorem RelAt.pushImm (R : RelAt c f ρ st imm fr h m mt cs fo) (ho : o.isFreed = false) : RelAt c f ρ st ((h.objs.size, o) :: imm) fr (h.push o) m mt cs fo := by
  have hs : ∀ p ∈ imm, p ∈ (h.objs.size, o) :: imm := fun p hp => .tail _ hp
  have e : whole mt cs ((h.objs.size, o) :: imm) fr fo = (mt ++ cs) ++ (h.objs.size, o) :: (imm ++ (fr ++ fo)) := by simp
  have e' : whole mt cs imm fr fo = (mt ++ cs) ++ (imm ++ (fr ++ fo)) := by simp
  have z := news_ins R.frm (e' ▸ R.news) (e' ▸ R.nodup) ho
  exact ⟨R.frm.push _, e ▸ z.1, e ▸ z.2, R.sto.mono hs, R.fos, R.loc.mono hs⟩
theorem RelAt.pushSt (R : RelAt c f ρ st imm fr h m mt cs fo) {x : O} (ho : o.isFreed = false) (hr : RO c imm x o) : RelAt c f ρ ((h.objs.size, x) :: st) imm fr (h.push o) m ((h.objs.size, o) :: mt) cs fo := by
  have z := news_ins (l₁ := []) R.frm R.news R.nodup ho
  exact ⟨R.frm.push _, z.1, z.2, .cons hr R.sto, R.fos, R.loc⟩
theorem RelAt.pushFr (R : RelAt c f ρ st imm fr h m mt cs fo) (ho : o.isFreed = false) : RelAt c f ρ st imm ((h.objs.size, o) :: fr) (h.push o) m mt cs fo := by
  have e : whole mt cs imm ((h.objs.size, o) :: fr) fo = (mt ++ cs ++ imm) ++ (h.objs.size, o) :: (fr ++ fo) := by simp
  have e' : whole mt cs imm fr fo = (mt ++ cs ++ imm) ++ (fr ++ fo) := by simp
  have z := news_ins R.frm (e' ▸ R.news) (e' ▸ R.nodup) ho
  exact ⟨R.frm.push _, e ▸ z.1, e ▸ z.2, R.sto, R.fos, R.loc.more⟩

theorem Rel.pushImm (R : Rel c f ρ st imm fr s) (ho : o.isFreed = false := by rfl) : Rel c f ρ st ((s.heap.objs.size, o) :: imm) fr { s with heap := s.heap.push o, toks := tk } := by
  obtain ⟨⟨h0, tk0, rfl⟩, m, mt, cs, fo, r⟩ := R
  exact ⟨⟨_, tk, rfl⟩, m, mt, cs, fo, r.pushImm ho⟩
theorem Rel.pushSt (R : Rel c f ρ st imm fr s) {x : O} (hr : RO c imm x o) (ho : o.isFreed = false := by rfl) : Rel c f ρ ((s.heap.objs.size, x) :: st) imm fr { s with heap := s.heap.push o, toks := tk } := by
  obtain ⟨⟨h0, tk0, rfl⟩, m, mt, cs, fo, r⟩ := R
  exact ⟨⟨_, tk, rfl⟩, m, _, cs, fo, r.pushSt ho hr⟩
theorem Rel.pushFr (R : Rel c f ρ st imm fr s) (ho : o.isFreed = false := by rfl) : Rel c f ρ st imm ((s.heap.objs.size, o) :: fr) { s with heap := s.heap.push o, toks := tk } := by
  obtain ⟨⟨h0, tk0, rfl⟩, m, mt, cs, fo, r⟩ := R
  exact ⟨⟨_, tk, rfl⟩, m, mt, cs, fo, r.pushFr ho⟩
theorem Rel.none (R : Rel c f ρ st imm fr s) : get st s.heap.objs.size = none := by
  obtain ⟨_, m, mt, cs, fo, r⟩ := R
  exact r.none

theorem RelAt.get (R : RelAt c f ρ st imm fr h m mt cs fo) {x : O} (e : get st a = some x) : ∃ co, (a, co) ∈ mt ∧ RO c imm x co ∧ h.get? a = some co := by
  obtain ⟨co, hm, r⟩ := R.sto.get e
  exact ⟨co, hm, r, (R.news _ (List.mem_append_left _ hm)).1⟩
theorem StR.upd {imm : Led} {st : St} {mt : Led} (h : StR c imm st mt) {x : O} (hr : RO c imm x o) : StR c imm (upd st a x) (mt.map fun p => if p.1 = a then (a, o) else p) := by
  induction h with
  | nil => exact .nil
  | @cons b o' co st mt r _ ih =>
    simp only [Mine.upd, List.map_cons] at ih ⊢
    by_cases e : b = a
    · subst e; simp only [if_true]; exact .cons hr ih
    · simp only [if_neg e]; exact .cons r ih
theorem Fr.other (F : Fr c.base f.L h m) (hs : Heap.SameBut a h h') (hL : a ≠ f.L) (hn : c.base.get? a = none) : Fr c.base f.L h' m :=
  ⟨F.ns.sameBut hs (Ne.symm hL), fun b ob e => (hs.2 b (fun q => by rw [q, hn] at e; cases e)).trans (F.keep b ob e), F.above⟩
theorem RelAt.upd (R : RelAt c f ρ st imm fr h m mt cs fo) {x y : O} (e : Mine.get st a = some y) (hs : Heap.SameBut a h h') (ho : h'.get? a = some o) (hr : RO c imm x o) :
    RelAt c f ρ (upd st a x) imm fr h' m (mt.map fun p => if p.1 = a then (a, o) else p) cs fo := by
  obtain ⟨co, hm, _, hg⟩ := R.get e
  have hw := R.news _ (List.mem_append_left _ hm)
  have ne : ∀ p ∈ cs ++ (imm ++ (fr ++ fo)), p.1 ≠ a := fun p hp q => by
    have := R.nodup
    rw [List.map_append, List.nodup_append] at this
    exact this.2.2 a (List.mem_map_of_mem hm) p.1 (List.mem_map_of_mem hp) q.symm
  refine ⟨Fr.other R.frm hs hw.2.1 hw.2.2, ?_, ?_, R.sto.upd hr, R.fos, R.loc⟩
  · intro p hp
    rcases List.mem_append.mp hp with hp | hp
    · obtain ⟨q, hq, rfl⟩ := List.mem_map.mp hp
      by_cases e1 : q.1 = a
      · simp only [if_pos e1]; exact ⟨ho, hw.2⟩
      · simp only [if_neg e1]
        have z := R.news q (List.mem_append_left _ hq)
        exact ⟨(hs.2 _ e1).trans z.1, z.2⟩
    · have z := R.news p (List.mem_append_right _ hp)
      exact ⟨(hs.2 _ (ne p hp)).trans z.1, z.2⟩
  · have e1 : (mt.map fun p => if p.1 = a then (a, o) else p).map (·.1) = mt.map (·.1) := by
      rw [List.map_map]
      refine List.map_congr_left fun p _ => ?_
      simp only [Function.comp]
      split
      · rename_i q; exact q.symm
      · rfl
    have := R.nodup
    simp only [whole, List.map_append] at this ⊢
    rw [e1]; exact this
theorem Rel.upd (R : Rel c f ρ st imm fr s) {x y : O} (e : Mine.get st a = some y) (hs : Heap.SameBut a s.heap h') (ho : h'.get? a = some o) (hr : RO c imm x o) :
    Rel c f ρ (upd st a x) imm fr { s with heap := h', toks := tk } := by
  obtain ⟨⟨h0, tk0, rfl⟩, m, mt, cs, fo, r⟩ := R
  exact ⟨⟨_, tk, rfl⟩, m, _, cs, fo, r.upd e hs ho hr⟩
theorem Rel.get (R : Rel c f ρ st imm fr s) {x : O} (e : Mine.get st a = some x) : ∃ co, RO c imm x co ∧ s.heap.get? a = some co := by
  obtain ⟨_, m, mt, cs, fo, r⟩ := R
  obtain ⟨co, _, h1, h2⟩ := r.get e
  exact ⟨co, h1, h2⟩
theorem Rel.inImm (R : Rel c f ρ st imm fr s) (hm : (a, o) ∈ imm) : s.heap.get? a = some o := by
  obtain ⟨_, m, mt, cs, fo, r⟩ := R
  exact (r.news (a, o) (by simp [hm])).1
theorem Rel.inFr (R : Rel c f ρ st imm fr s) (hm : (a, o) ∈ fr) : s.heap.get? a = some o := by
  obtain ⟨_, m, mt, cs, fo, r⟩ := R
  exact (r.news (a, o) (by simp [hm])).1
theorem Rel.keep (R : Rel c f ρ st imm fr s) : ∀ b o, c.base.get? b = some o → s.heap.get? b = some o := by
  obtain ⟨_, m, mt, cs, fo, r⟩ := R
  exact r.frm.keep
theorem Rel.kin (R : Rel c f ρ st imm fr s) (ok : f.Ok c k) : c.K.In s.heap := ok.kin.keeps R.keep
theorem Rel.nolimit (R : Rel c f ρ st imm fr s) (ok : f.Ok c k) : s.heap.NoLimit := ok.top.nolimit.keeps R.keep
/-- one of the frame's own changes -/
theorem Rel.frSetAt (l₁ : Led) {l₂ : Led} (R : Rel c f ρ st imm (l₁ ++ (a, o) :: l₂) s) (hs : Heap.SameBut a s.heap h') (ho : h'.get? a = some o') (hd : ∀ v, o.data ≠ .cell v) : Rel c f ρ st imm (l₁ ++ (a, o') :: l₂) { s with heap := h', toks := tk } := by
  obtain ⟨⟨h0, tk0, rfl⟩, m, mt, cs, fo, r⟩ := R
  refine ⟨⟨_, tk, rfl⟩, m, mt, cs, fo, ?_⟩
  have hw := r.news (a, o) (by simp)
  have nd := r.nodup
  have e : whole mt cs imm (l₁ ++ (a, o) :: l₂) fo = (mt ++ cs ++ imm ++ l₁) ++ (a, o) :: (l₂ ++ fo) := by simp
  have e' : whole mt cs imm (l₁ ++ (a, o') :: l₂) fo = (mt ++ cs ++ imm ++ l₁) ++ (a, o') :: (l₂ ++ fo) := by simp
  rw [e] at nd
  have h1 : ∀ p ∈ mt ++ cs ++ imm ++ l₁, p.1 ≠ a := fun p hp q => by
    rw [List.map_append, List.nodup_append] at nd
    exact nd.2.2 p.1 (List.mem_map_of_mem hp) a (by simp) q
  have h2 : ∀ p ∈ l₂ ++ fo, p.1 ≠ a := fun p hp q => by
    rw [List.map_append, List.nodup_append, List.map_cons, List.nodup_cons] at nd
    exact nd.2.1.1 (List.mem_map.mpr ⟨p, hp, q⟩)
  refine ⟨Fr.other r.frm hs hw.2.1 hw.2.2, ?_, ?_, r.sto, r.fos, r.loc.other hd ?_⟩
  · rw [e']
    have := r.news
    rw [e] at this
    exact News.setAt this h1 h2 hs ho
  · rw [e']; simp only [List.map_append, List.map_cons] at nd ⊢; exact nd
  · intro p hp
    simp only [List.mem_append, List.mem_cons] at hp ⊢
    rcases hp with hp | hp
    · exact .inl hp
    · exact .inr (.inr hp)
theorem Rel.frSet (R : Rel c f ρ st imm ((a, o) :: fr) s) (hs : Heap.SameBut a s.heap h') (ho : h'.get? a = some o') (hd : ∀ v, o.data ≠ .cell v) : Rel c f ρ st imm ((a, o') :: fr) { s with heap := h', toks := tk } := Rel.frSetAt [] R hs ho hd
/-- one of the frame's own is forgotten; it may change at that -/
theorem Rel.frEndAt (l₁ : Led) {l₂ : Led} (R : Rel c f ρ st imm (l₁ ++ (a, o) :: l₂) s) (hs : Heap.ExtBut a s.heap h') (hd : ∀ v, o.data ≠ .cell v) : Rel c f ρ st imm (l₁ ++ l₂) { s with heap := h', toks := tk } := by
  obtain ⟨⟨h0, tk0, rfl⟩, m, mt, cs, fo, r⟩ := R
  have hw := r.news (a, o) (by simp)
  have nd := r.nodup
  have e : whole mt cs imm (l₁ ++ (a, o) :: l₂) fo = (mt ++ cs ++ imm ++ l₁) ++ (a, o) :: (l₂ ++ fo) := by simp
  have e' : whole mt cs imm (l₁ ++ l₂) fo = (mt ++ cs ++ imm ++ l₁) ++ (l₂ ++ fo) := by simp
  rw [e, List.map_append, List.nodup_append, List.map_cons, List.nodup_cons] at nd
  have ne : ∀ p ∈ whole mt cs imm (l₁ ++ l₂) fo, p.1 ≠ a := fun p hp q => by
    rw [e'] at hp
    rcases List.mem_append.mp hp with hp | hp
    · exact nd.2.2 p.1 (List.mem_map_of_mem hp) a (by simp) q
    · exact nd.2.1.1 (List.mem_map.mpr ⟨p, hp, q⟩)
  have sub : ∀ p ∈ whole mt cs imm (l₁ ++ l₂) fo, p ∈ whole mt cs imm (l₁ ++ (a, o) :: l₂) fo := fun p hp => by
    rw [e'] at hp
    rw [e]
    rcases List.mem_append.mp hp with hp | hp
    · exact List.mem_append_left _ hp
    · exact List.mem_append_right _ (.tail _ hp)
  refine ⟨⟨_, tk, rfl⟩, m, mt, cs, fo, ⟨r.frm.ns.at' fun ob q => hs _ _ (fun q' => hw.2.1 q'.symm) q, fun b ob q => hs b ob (fun q' => by rw [q', hw.2.2] at q; cases q) (r.frm.keep b ob q), r.frm.above⟩, fun p hp => ?_, ?_, r.sto, r.fos, r.loc.other hd fun p hp => hp⟩
  · have z := r.news p (sub p hp)
    exact ⟨hs _ _ (ne p hp) z.1, z.2⟩
  · rw [e', List.map_append, List.nodup_append]
    exact ⟨nd.1, nd.2.1.2, fun x hx y hy => nd.2.2 x hx y (.tail _ hy)⟩
theorem Rel.frEnd (R : Rel c f ρ st imm ((a, o) :: fr) s) (hs : Heap.ExtBut a s.heap h') (hd : ∀ v, o.data ≠ .cell v) : Rel c f ρ st imm fr { s with heap := h', toks := tk } := Rel.frEndAt [] R hs hd
/-- one of the frame's own becomes an object of the store -/
theorem Rel.frSt {x : O} (R : Rel c f ρ st imm ((a, o) :: fr) s) (hd : ∀ v, o.data ≠ .cell v) (hr : RO c imm x o) : Rel c f ρ ((a, x) :: st) imm fr s ∧ Mine.get st a = Option.none := by
  obtain ⟨hs, m, mt, cs, fo, r⟩ := R
  have e : whole mt cs imm ((a, o) :: fr) fo = (mt ++ cs ++ imm) ++ (a, o) :: (fr ++ fo) := by simp
  have perm : (whole ((a, o) :: mt) cs imm fr fo).Perm (whole mt cs imm ((a, o) :: fr) fo) := by
    rw [e, show whole ((a, o) :: mt) cs imm fr fo = (a, o) :: ((mt ++ cs ++ imm) ++ (fr ++ fo)) by simp]
    exact List.perm_middle.symm
  have nd := (perm.map (·.1)).nodup_iff.mpr r.nodup
  refine ⟨⟨hs, m, (a, o) :: mt, cs, fo, r.frm, fun p hp => r.news p (perm.mem_iff.mp hp), nd, .cons hr r.sto, r.fos, LocR.other (l₁ := []) r.loc hd fun p hp => hp⟩, ?_⟩
  cases q : Mine.get st a with
  | none => rfl
  | some y =>
    obtain ⟨co, hm, _⟩ := r.sto.get q
    rw [show whole ((a, o) :: mt) cs imm fr fo = (a, o) :: whole mt cs imm fr fo from rfl, List.map_cons, List.nodup_cons] at nd
    exact absurd (List.mem_map.mpr ⟨(a, co), List.mem_append_left _ hm, rfl⟩) nd.1
end

/-- what was thrown; refined later -/
def Thrown (c : Cx) (f : Fm) (imm fr : Led) (X : Addr → Loc → St → Prop) (ev : Value) (s : Shared) : Prop := False
theorem Thrown.mono {c : Cx} {f : Fm} {imm imm' fr : Led} {X : Addr → Loc → St → Prop} {ev : Value} {s : Shared} (hs : ∀ p ∈ imm, p ∈ imm') (h : Thrown c f imm' fr X ev s) : Thrown c f imm fr X ev s := h

def PostE (c : Cx) (f : Fm) (ρ : Loc) (imm fr : Led) (Q : V → St → Prop) (val : Value) (s : Shared) : Prop :=
  ∃ v st imm', (∀ p ∈ imm, p ∈ imm') ∧ RV c.base imm' v val ∧ Rel c f ρ st imm' fr s ∧ Q v st
theorem PostE.mono {c : Cx} {f : Fm} {ρ : Loc} {imm imm' fr : Led} {Q : V → St → Prop} {val : Value} {s : Shared} (hs : ∀ p ∈ imm, p ∈ imm') (h : PostE c f ρ imm' fr Q val s) : PostE c f ρ imm fr Q val s :=
  let ⟨v, st, imm'', a, r⟩ := h; ⟨v, st, imm'', fun p hp => a p (hs p hp), r⟩

abbrev Xp := Addr → Loc → St → Prop

/-- an expression -/
structure WPE (c : Cx) (k : Nat) (sc : Scope) (ρ : Loc) (st : St) (e : Expr) (Q : V → St → Prop) (X : Xp) : Prop where
  go : ∀ f imm fr s, f.Ok c k → f.env.scope = sc → Rel c f ρ st imm fr s →
    wpAny c.M f.A (eval e f.env) (PostE c f ρ imm fr Q) (Thrown c f imm fr X) s

/-- one value in, one out -/
structure W1 (c : Cx) (k : Nat) (t : Value → Sem Value) (a : V) (ρ : Loc) (st : St) (Q : V → St → Prop) (X : Xp) : Prop where
  go : ∀ f imm fr s x, f.Ok c k → Rel c f ρ st imm fr s → RV c.base imm a x → wpAny c.M f.A (t x) (PostE c f ρ imm fr Q) (Thrown c f imm fr X) s
/-- two values in, one out -/
structure W2 (c : Cx) (k : Nat) (t : Value → Value → Sem Value) (a b : V) (ρ : Loc) (st : St) (Q : V → St → Prop) (X : Xp) : Prop where
  go : ∀ f imm fr s x y, f.Ok c k → Rel c f ρ st imm fr s → RV c.base imm a x → RV c.base imm b y → wpAny c.M f.A (t x y) (PostE c f ρ imm fr Q) (Thrown c f imm fr X) s
/-- some values in, one out -/
structure WL (c : Cx) (k : Nat) (t : List Value → Sem Value) (as : List V) (ρ : Loc) (st : St) (Q : V → St → Prop) (X : Xp) : Prop where
  go : ∀ f imm fr s xs, f.Ok c k → Rel c f ρ st imm fr s → RVs c.base imm as xs → wpAny c.M f.A (t xs) (PostE c f ρ imm fr Q) (Thrown c f imm fr X) s
end Mine
namespace Mine
/-- two ways, by a bool -/
def cnd (b : Bool) (p q : Prop) : Prop := match b with
  | true => p
  | false => q
theorem cnd_t {p q : Prop} (h : p) : cnd true p q := h
theorem cnd_f {p q : Prop} (h : q) : cnd false p q := h
theorem of_t {p q : Prop} (h : cnd true p q) : p := h
theorem of_f {p q : Prop} (h : cnd false p q) : q := h
theorem cnd_is {b : Bool} {p q : Prop} (b' : Bool) (e : b = b') (h : cnd b' p q) : cnd b p q := e ▸ h
theorem cnd_cases {b : Bool} {p q : Prop} (h1 : b = true → p) (h2 : b = false → q) : cnd b p q := by
  cases b with
  | true => exact h1 rfl
  | false => exact h2 rfl

section
variable {c : Cx} {k : Nat} {sc : Scope} {ρ : Loc} {st : St} {Q : V → St → Prop} {X : Xp} {f : Fm} {imm fr : Led} {s : Shared} {tk : Nat}

theorem PostE.of {v : V} {x : Value} (hr : RV c.base imm v x) (R : Rel c f ρ st imm fr s) (h : Q v st) : PostE c f ρ imm fr Q x s := ⟨v, st, imm, fun _ h => h, hr, R, h⟩
theorem PostE.int {i : Int} {t : Tok} (R : Rel c f ρ st imm fr s) (h : Q (.int i) st) : PostE c f ρ imm fr Q (.int i t) { s with toks := tk } := .of (.int i t) R.toks h
theorem PostE.bool {b : Bool} (R : Rel c f ρ st imm fr s) (h : Q (.bool b) st) : PostE c f ρ imm fr Q (.bool b) s := .of (.bool b) R h
theorem PostE.none (R : Rel c f ρ st imm fr s) (h : Q .none st) : PostE c f ρ imm fr Q .none s := .of .none R h
theorem PostE.str {x : Str} {t : Tok} (R : Rel c f ρ st imm fr s) (h : Q (.str x) st) : PostE c f ρ imm fr Q (.str x t) { s with toks := tk } := .of (.str x t) R.toks h

theorem Rel.ns (R : Rel c f ρ st imm fr s) : ∃ m, Fr c.base f.L s.heap m := by
  obtain ⟨_, m, mt, cs, fo, r⟩ := R; exact ⟨m, r.frm⟩

/-- a name of the frame's -/
theorem WPE.nm {x : Str} {pos : Pos} {v : V} (e : getL ρ x = some v) (h : Q v st) (hd : (x == ("__debug__" : Str)) = false := by decide) (hn : (x == ("__classdict__" : Str)) = false := by decide) : WPE c k sc ρ st (.Name x pos) Q X := by
  refine ⟨fun f imm fr s ok hsc R => ?_⟩
  obtain ⟨hr, m, mt, cs, fo, r⟩ := id R
  obtain ⟨val, rv, q⟩ := r.loc.reads x v e
  refine wpAny_Name ?_ hd
  have P : PostE c f ρ imm fr Q val s := .of rv R h
  rcases q with ⟨q1, q2, q3⟩ | ⟨q1, cc, o, q2, q3, q4⟩
  · exact wpAny_loadName_local ok.ekind q1 (q2 ▸ r.frm.ns) q3 P
  · have hc : s.heap.get? cc = some o := (r.news (cc, o) (by
      simp only [List.mem_append] at q3 ⊢
      rcases q3 with q3 | q3
      · exact .inr (.inl q3)
      · exact .inr (.inr (.inr (.inl q3))))).1
    rcases q1 with q1 | q1
    · exact wpAny_loadName_cell ok.ekind q1 q2 ⟨o, hc, q4⟩ P
    · exact wpAny_loadName_free ok.ekind q1 q2 ⟨o, hc, q4⟩ P hn

theorem WPE.glob {x : Str} {pos : Pos} {v : V} {val : Value} (hx : sc.names.lookup x = some .globalImplicit) (e : nsIn c.K mainGlobals x = some (some val)) (hv : ∀ base imm, RV base imm v val) (h : Q v st)
    (hd : (x == ("__debug__" : Str)) = false := by decide) : WPE c k sc ρ st (.Name x pos) Q X := by
  refine ⟨fun f imm fr s ok hsc R => ?_⟩
  obtain ⟨m, F⟩ := R.ns
  have T := topRead_of ok.top
  exact Name_function_global ok.ekind (by unfold Env.kindOf; rw [hsc]; exact hx) (loadGlobal_global (env := f.env) (ok.eglob ▸ T.g.keeps F.keep) (mg_of ok.kin T.g e) (.of (hv _ _) R h)) hd
theorem WPE.blt {x : Str} {pos : Pos} {val : Value} (hx : sc.names.lookup x = some .globalImplicit) (e : nsIn c.K mainGlobals x = some none) (hv : bootBuiltins x = some val) (h : Q (.stat val) st)
    (hn : x ≠ "__name__" := by decide) (hd : (x == ("__debug__" : Str)) = false := by decide) : WPE c k sc ρ st (.Name x pos) Q X := by
  refine ⟨fun f imm fr s ok hsc R => ?_⟩
  obtain ⟨m, F⟩ := R.ns
  have T := topRead_of ok.top
  exact Name_function_global ok.ekind (by unfold Env.kindOf; rw [hsc]; exact hx) (loadGlobal_builtin (env := f.env) (ok.eglob ▸ T.g.keeps F.keep) (mg_none_of ok.kin T.g e) (ok.ebi ▸ T.b.keeps F.keep) ((T.builtins x hn).trans hv) (.of (.stat val) R h)) hd

theorem WPE.cint {i : Int} {n : Nat} {pos : Pos} (h : Q (.int i) st) : WPE c k sc ρ st (.Constant (.int i) n pos) Q X := ⟨fun _ _ _ _ _ _ R => wpAny_Constant_int (.int R h)⟩
theorem WPE.cbool {b : Bool} {n : Nat} {pos : Pos} (h : Q (.bool b) st) : WPE c k sc ρ st (.Constant (.bool b) n pos) Q X := ⟨fun _ _ _ _ _ _ R => wpAny_Constant_bool (.bool R h)⟩
theorem WPE.cnone {n : Nat} {pos : Pos} (h : Q .none st) : WPE c k sc ρ st (.Constant .none n pos) Q X := ⟨fun _ _ _ _ _ _ R => wpAny_Constant_none (.none R h)⟩

theorem WPE.bin {l r : Expr} {op : Operator} {pos : Pos} (h : WPE c k sc ρ st l (fun a st₁ => WPE c k sc ρ st₁ r (fun b st₂ => W2 c k (binaryOp op) a b ρ st₂ Q X) X) X) : WPE c k sc ρ st (.BinOp l op r pos) Q X := by
  refine ⟨fun f imm fr s ok hsc R => ?_⟩
  refine wpAny_BinOp (wpAny_mono (h.go f imm fr s ok hsc R) (fun x s₁ p => ?_) fun _ _ t => t)
  obtain ⟨a, st₁, imm₁, i₁, ra, R₁, h₁⟩ := p
  refine wpAny_mono (h₁.go f imm₁ fr s₁ ok hsc R₁) (fun y s₂ p => ?_) fun _ _ t => t.mono i₁
  obtain ⟨b, st₂, imm₂, i₂, rb, R₂, h₂⟩ := p
  exact wpAny_mono (h₂.go f imm₂ fr s₂ x y ok R₂ (ra.mono i₂) rb) (fun _ _ p => p.mono fun q hq => i₂ q (i₁ q hq)) fun _ _ t => t.mono fun q hq => i₂ q (i₁ q hq)
theorem WPE.un {e : Expr} {op : UnaryOp} {pos : Pos} (h : WPE c k sc ρ st e (fun a st₁ => W1 c k (unaryOp op) a ρ st₁ Q X) X) : WPE c k sc ρ st (.UnaryOp op e pos) Q X := by
  refine ⟨fun f imm fr s ok hsc R => ?_⟩
  refine wpAny_UnaryOp (wpAny_mono (h.go f imm fr s ok hsc R) (fun x s₁ p => ?_) fun _ _ t => t)
  obtain ⟨a, st₁, imm₁, i₁, ra, R₁, h₁⟩ := p
  exact wpAny_mono (h₁.go f imm₁ fr s₁ x ok R₁ ra) (fun _ _ p => p.mono i₁) fun _ _ t => t.mono i₁
theorem WPE.cmp {l r : Expr} {op : CmpOp} {pos : Pos} (h : WPE c k sc ρ st l (fun a st₁ => WPE c k sc ρ st₁ r (fun b st₂ => W2 c k (compareOp op) a b ρ st₂ Q X) X) X) (hm : behindInMarks op r = false := by rfl) : WPE c k sc ρ st (.Compare l [op] [r] pos) Q X := by
  refine ⟨fun f imm fr s ok hsc R => ?_⟩
  refine wpAny_Compare1 (wpAny_mono (h.go f imm fr s ok hsc R) (fun x s₁ p => ?_) fun _ _ t => t) hm
  obtain ⟨a, st₁, imm₁, i₁, ra, R₁, h₁⟩ := p
  refine wpAny_mono (h₁.go f imm₁ fr s₁ ok hsc R₁) (fun y s₂ p => ?_) fun _ _ t => t.mono i₁
  obtain ⟨b, st₂, imm₂, i₂, rb, R₂, h₂⟩ := p
  exact wpAny_mono (h₂.go f imm₂ fr s₂ x y ok R₂ (ra.mono i₂) rb) (fun _ _ p => p.mono fun q hq => i₂ q (i₁ q hq)) fun _ _ t => t.mono fun q hq => i₂ q (i₁ q hq)

theorem WPE.cstr {x : Str} {n : Nat} {pos : Pos} (h : Q (.str x) st) : WPE c k sc ρ st (.Constant (.str x) n pos) Q X := ⟨fun _ _ _ _ _ _ R => wpAny_Constant_str (.str R h)⟩

/-- ints -/
theorem W2.addI {a b : Int} (h : Q (.int (a + b)) st) : W2 c k (binaryOp .Add) (.int a) (.int b) ρ st Q X := by
  refine ⟨fun f imm fr s x y ok R ra rb => ?_⟩
  cases ra; cases rb
  exact add_int (.int R h)
theorem W2.subI {a b : Int} (h : Q (.int (a - b)) st) : W2 c k (binaryOp .Sub) (.int a) (.int b) ρ st Q X := by
  refine ⟨fun f imm fr s x y ok R ra rb => ?_⟩
  cases ra; cases rb
  exact sub_int (.int R h)
theorem W2.mulI {a b : Int} (hm : IntMulOk a b) (h : Q (.int (a * b)) st) : W2 c k (binaryOp .Mult) (.int a) (.int b) ρ st Q X := by
  refine ⟨fun f imm fr s x y ok R ra rb => ?_⟩
  cases ra; cases rb
  exact mul_int (.int R h) hm
theorem W2.modI {a b : Int} (hb : b ≠ 0) (h : Q (.int (a.fmod b)) st) : W2 c k (binaryOp .Mod) (.int a) (.int b) ρ st Q X := by
  refine ⟨fun f imm fr s x y ok R ra rb => ?_⟩
  cases ra; cases rb
  exact mod_int' hb (.int R h)
theorem W2.divI {a b : Int} (hb : b ≠ 0) (hs : b.natAbs < 1073741824) (h : Q (.int (a.fdiv b)) st) : W2 c k (binaryOp .FloorDiv) (.int a) (.int b) ρ st Q X := by
  refine ⟨fun f imm fr s x y ok R ra rb => ?_⟩
  cases ra; cases rb
  exact floordiv_int hb (.int R h) (.inl (PyProof.noPylong_small hs))
theorem W1.negI {a : Int} (h : Q (.int (-a)) st) : W1 c k (unaryOp .USub) (.int a) ρ st Q X := by
  refine ⟨fun f imm fr s x ok R ra => ?_⟩
  cases ra
  exact neg_int (.int R h)
theorem W2.eqI {a b : Int} (h : Q (.bool (a == b)) st) : W2 c k (compareOp .Eq) (.int a) (.int b) ρ st Q X := by
  refine ⟨fun f imm fr s x y ok R ra rb => ?_⟩
  cases ra; cases rb
  exact eq_int (.bool R h)
theorem W2.neI {a b : Int} (h : Q (.bool (a != b)) st) : W2 c k (compareOp .NotEq) (.int a) (.int b) ρ st Q X := by
  refine ⟨fun f imm fr s x y ok R ra rb => ?_⟩
  cases ra; cases rb
  exact ne_int (.bool R h)
theorem W2.ltI {a b : Int} (h : Q (.bool (decide (a < b))) st) : W2 c k (compareOp .Lt) (.int a) (.int b) ρ st Q X := by
  refine ⟨fun f imm fr s x y ok R ra rb => ?_⟩
  cases ra; cases rb
  exact lt_int (.bool R h)
theorem W2.leI {a b : Int} (h : Q (.bool (decide (a ≤ b))) st) : W2 c k (compareOp .LtE) (.int a) (.int b) ρ st Q X := by
  refine ⟨fun f imm fr s x y ok R ra rb => ?_⟩
  cases ra; cases rb
  exact le_int (.bool R h)
theorem W2.gtI {a b : Int} (h : Q (.bool (decide (b < a))) st) : W2 c k (compareOp .Gt) (.int a) (.int b) ρ st Q X := by
  refine ⟨fun f imm fr s x y ok R ra rb => ?_⟩
  cases ra; cases rb
  exact gt_int (.bool R h)
theorem W2.geI {a b : Int} (h : Q (.bool (decide (b ≤ a))) st) : W2 c k (compareOp .GtE) (.int a) (.int b) ρ st Q X := by
  refine ⟨fun f imm fr s x y ok R ra rb => ?_⟩
  cases ra; cases rb
  exact ge_int (.bool R h)
theorem W2.eqS {a b : Str} (h : Q (.bool (a == b)) st) : W2 c k (compareOp .Eq) (.str a) (.str b) ρ st Q X := by
  refine ⟨fun f imm fr s x y ok R ra rb => ?_⟩
  cases ra; cases rb
  exact PyProof.Rows.eq_str (.bool R h)


/-- is: a value that is no int, no text, no object of two -/
def isOk : V → V → Bool
  | .none, .none => true
  | .none, .bool _ => true
  | .none, .int _ => true
  | .none, .str _ => true
  | .none, .tup _ => true
  | .none, .ref _ => true
  | .bool _, .none => true
  | .bool _, .bool _ => true
  | .int _, .none => true
  | .int _, .bool _ => true
  | .str _, .none => true
  | .str _, .bool _ => true
  | .tup _, .none => true
  | .tup _, .bool _ => true
  | .ref _, .none => true
  | .ref _, .bool _ => true
  | _, _ => false
def isSameV : V → V → Bool
  | .none, .none => true
  | .bool a, .bool b => a == b
  | _, _ => false
theorem is_plain {base : Heap} {imm : Led} {a b : V} {x y : Value} (ra : RV base imm a x) (rb : RV base imm b y) (ho : isOk a b = true) : plainIs x y = true ∧ (x == y) = isSameV a b := by
  cases ra <;> cases rb <;> first | (exact ⟨rfl, rfl⟩) | (cases ho; done) | (rename_i a b; cases a <;> cases b <;> exact ⟨rfl, rfl⟩)
theorem W2.is {a b : V} (ho : isOk a b = true) (h : Q (.bool (isSameV a b)) st) : W2 c k (compareOp .Is) a b ρ st Q X := by
  refine ⟨fun f imm fr s x y ok R ra rb => ?_⟩
  have q := is_plain ra rb ho
  exact wpAny_is_plain q.1 (.bool R (q.2 ▸ h))
theorem W2.isNot {a b : V} (ho : isOk a b = true) (h : Q (.bool (!isSameV a b)) st) : W2 c k (compareOp .IsNot) a b ρ st Q X := by
  refine ⟨fun f imm fr s x y ok R ra rb => ?_⟩
  have q := is_plain ra rb ho
  exact wpAny_isNot_plain q.1 (.bool R (q.2 ▸ h))

/-! truth -/
def PostB (c : Cx) (f : Fm) (ρ : Loc) (imm fr : Led) (Q : Bool → St → Prop) (b : Bool) (s : Shared) : Prop :=
  ∃ st imm', (∀ p ∈ imm, p ∈ imm') ∧ Rel c f ρ st imm' fr s ∧ Q b st
theorem PostB.mono {imm' : Led} {Q : Bool → St → Prop} {b : Bool} (hs : ∀ p ∈ imm, p ∈ imm') (h : PostB c f ρ imm' fr Q b s) : PostB c f ρ imm fr Q b s :=
  let ⟨st, imm'', a, r⟩ := h; ⟨st, imm'', fun p hp => a p (hs p hp), r⟩
structure WPB (c : Cx) (k : Nat) (sc : Scope) (ρ : Loc) (st : St) (e : Expr) (Q : Bool → St → Prop) (X : Xp) : Prop where
  go : ∀ f imm fr s, f.Ok c k → f.env.scope = sc → Rel c f ρ st imm fr s →
    wpAny c.M f.A (isTrue e f.env (eval e f.env)) (PostB c f ρ imm fr Q) (Thrown c f imm fr X) s
/-- and, or: the rest of them -/
structure WPAll (c : Cx) (k : Nat) (sc : Scope) (op : BoolOp) (ρ : Loc) (st : St) (es : List Expr) (Q : Bool → St → Prop) (X : Xp) : Prop where
  go : ∀ f imm fr s, f.Ok c k → f.env.scope = sc → Rel c f ρ st imm fr s →
    wpAny c.M f.A (allTrue op es f.env) (PostB c f ρ imm fr Q) (Thrown c f imm fr X) s
variable {B : Bool → St → Prop}

theorem WPB.val {e : Expr} (h : WPE c k sc ρ st e (fun v st₁ => ∃ b, v = .bool b ∧ B b st₁) X)
    (he : ∀ env whole, isTrue e env whole = (do let v ← whole; standAt e.pos; holding [v] (truthy v)) := by intro _ _; rfl) : WPB c k sc ρ st e B X := by
  refine ⟨fun f imm fr s ok hsc R => ?_⟩
  refine wpAny_isTrue_value (wpAny_mono (h.go f imm fr s ok hsc R) (fun x s₁ p => ?_) fun _ _ t => t) (he _ _)
  obtain ⟨v, st₁, imm₁, i₁, rv, R₁, b, rfl, h₁⟩ := p
  cases rv
  exact wpAny_truthy_bool ⟨st₁, imm₁, i₁, R₁, h₁⟩
theorem WPB.not {e : Expr} {pos : Pos} (h : WPB c k sc ρ st e (fun b st₁ => cnd b (B false st₁) (B true st₁)) X) : WPB c k sc ρ st (.UnaryOp .Not e pos) B X := by
  refine ⟨fun f imm fr s ok hsc R => ?_⟩
  refine wpAny_isTrue_Not (wpAny_mono (h.go f imm fr s ok hsc R) (fun b s₁ p => ?_) fun _ _ t => t)
  obtain ⟨st₁, imm₁, i₁, R₁, h₁⟩ := p
  cases b with
  | true => exact ⟨st₁, imm₁, i₁, R₁, of_t h₁⟩
  | false => exact ⟨st₁, imm₁, i₁, R₁, of_f h₁⟩
theorem WPB.cmp {l r : Expr} {op : CmpOp} {pos : Pos} (h : WPE c k sc ρ st l (fun a st₁ => WPE c k sc ρ st₁ r (fun b st₂ => W2 c k (compareOp op) a b ρ st₂ (fun v st₃ => ∃ b, v = .bool b ∧ B b st₃) X) X) X) (hm : behindInMarks op r = false := by rfl) : WPB c k sc ρ st (.Compare l [op] [r] pos) B X := by
  refine ⟨fun f imm fr s ok hsc R => ?_⟩
  refine wpAny_isTrue_Compare1 (wpAny_mono (h.go f imm fr s ok hsc R) (fun x s₁ p => ?_) fun _ _ t => t) hm
  obtain ⟨a, st₁, imm₁, i₁, ra, R₁, h₁⟩ := p
  refine wpAny_mono (h₁.go f imm₁ fr s₁ ok hsc R₁) (fun y s₂ p => ?_) fun _ _ t => t.mono i₁
  obtain ⟨b, st₂, imm₂, i₂, rb, R₂, h₂⟩ := p
  refine wpAny_mono (h₂.go f imm₂ fr s₂ x y ok R₂ (ra.mono i₂) rb) (fun z s₃ p => ?_) fun _ _ t => t.mono fun q hq => i₂ q (i₁ q hq)
  obtain ⟨v, st₃, imm₃, i₃, rv, R₃, b, rfl, h₃⟩ := p
  cases rv
  exact wpAny_truthy_bool ⟨st₃, imm₃, fun q hq => i₃ q (i₂ q (i₁ q hq)), R₃, h₃⟩
theorem WPB.op {op : BoolOp} {es : List Expr} {pos : Pos} (h : WPAll c k sc op ρ st es B X) : WPB c k sc ρ st (.BoolOp op es pos) B X := ⟨fun f imm fr s ok hsc R => wpAny_isTrue_BoolOp (h.go f imm fr s ok hsc R)⟩
theorem WPAll.and {e : Expr} {es : List Expr} (h : WPB c k sc ρ st e (fun b st₁ => cnd b (WPAll c k sc .And ρ st₁ es B X) (B false st₁)) X) : WPAll c k sc .And ρ st (e :: es) B X := by
  refine ⟨fun f imm fr s ok hsc R => ?_⟩
  refine wpAny_allTrue_And_cons (wpAny_mono (h.go f imm fr s ok hsc R) (fun b s₁ p => ?_) fun _ _ t => t)
  obtain ⟨st₁, imm₁, i₁, R₁, h₁⟩ := p
  cases b with
  | true => exact wpAny_mono ((of_t h₁).go f imm₁ fr s₁ ok hsc R₁) (fun _ _ p => p.mono i₁) fun _ _ t => t.mono i₁
  | false => exact ⟨st₁, imm₁, i₁, R₁, h₁⟩
theorem WPAll.or {e : Expr} {es : List Expr} (h : WPB c k sc ρ st e (fun b st₁ => cnd b (B true st₁) (WPAll c k sc .Or ρ st₁ es B X)) X) : WPAll c k sc .Or ρ st (e :: es) B X := by
  refine ⟨fun f imm fr s ok hsc R => ?_⟩
  refine wpAny_allTrue_Or_cons (wpAny_mono (h.go f imm fr s ok hsc R) (fun b s₁ p => ?_) fun _ _ t => t)
  obtain ⟨st₁, imm₁, i₁, R₁, h₁⟩ := p
  cases b with
  | false => exact wpAny_mono ((of_f h₁).go f imm₁ fr s₁ ok hsc R₁) (fun _ _ p => p.mono i₁) fun _ _ t => t.mono i₁
  | true => exact ⟨st₁, imm₁, i₁, R₁, h₁⟩
theorem WPAll.andNil (h : B true st) : WPAll c k sc .And ρ st [] B X := ⟨fun f imm fr s ok hsc R => wpAny_allTrue_And_nil ⟨st, imm, fun _ h => h, R, h⟩⟩
theorem WPAll.orNil (h : B false st) : WPAll c k sc .Or ρ st [] B X := ⟨fun f imm fr s ok hsc R => wpAny_allTrue_Or_nil ⟨st, imm, fun _ h => h, R, h⟩⟩
theorem WPB.ife {t b o : Expr} {pos : Pos} (h : WPB c k sc ρ st t (fun v st₁ => cnd v (WPB c k sc ρ st₁ b B X) (WPB c k sc ρ st₁ o B X)) X) : WPB c k sc ρ st (.IfExp t b o pos) B X := by
  refine ⟨fun f imm fr s ok hsc R => ?_⟩
  refine isTrue_IfExp (wpAny_mono (h.go f imm fr s ok hsc R) (fun b s₁ p => ?_) fun _ _ t => t)
  obtain ⟨st₁, imm₁, i₁, R₁, h₁⟩ := p
  cases b with
  | false => exact wpAny_mono ((of_f h₁).go f imm₁ fr s₁ ok hsc R₁) (fun _ _ p => p.mono i₁) fun _ _ t => t.mono i₁
  | true => exact wpAny_mono ((of_t h₁).go f imm₁ fr s₁ ok hsc R₁) (fun _ _ p => p.mono i₁) fun _ _ t => t.mono i₁

/-! and, or, if as values -/
theorem WPE.ife {t b o : Expr} {pos : Pos} (h : WPB c k sc ρ st t (fun v st₁ => cnd v (WPE c k sc ρ st₁ b Q X) (WPE c k sc ρ st₁ o Q X)) X) : WPE c k sc ρ st (.IfExp t b o pos) Q X := by
  refine ⟨fun f imm fr s ok hsc R => ?_⟩
  refine wpAny_IfExp (wpAny_mono (h.go f imm fr s ok hsc R) (fun b s₁ p => ?_) fun _ _ t => t)
  obtain ⟨st₁, imm₁, i₁, R₁, h₁⟩ := p
  cases b with
  | false => exact wpAny_mono ((of_f h₁).go f imm₁ fr s₁ ok hsc R₁) (fun _ _ p => p.mono i₁) fun _ _ t => t.mono i₁
  | true => exact wpAny_mono ((of_t h₁).go f imm₁ fr s₁ ok hsc R₁) (fun _ _ p => p.mono i₁) fun _ _ t => t.mono i₁
theorem WPE.not {e : Expr} {pos : Pos} (h : WPE c k sc ρ st e (fun v st₁ => ∃ b, v = .bool b ∧ cnd b (Q (.bool false) st₁) (Q (.bool true) st₁)) X) : WPE c k sc ρ st (.UnaryOp .Not e pos) Q X := by
  refine ⟨fun f imm fr s ok hsc R => ?_⟩
  refine wpAny_UnaryOp (wpAny_mono (h.go f imm fr s ok hsc R) (fun x s₁ p => ?_) fun _ _ t => t)
  obtain ⟨v, st₁, imm₁, i₁, rv, R₁, b, rfl, h₁⟩ := p
  cases rv
  cases b with
  | true => exact not_of (wpAny_truthy_bool (PostE.mono i₁ (.bool R₁ (of_t h₁))))
  | false => exact not_of (wpAny_truthy_bool (PostE.mono i₁ (.bool R₁ (of_f h₁))))
theorem boolOp_one {M : Model} {A : Around} {E : Value → Shared → Prop} {x : Sem Value} {pos : Pos} {op : BoolOp} {P : Value → Shared → Prop} (h : wpAny M A x P E s) : wpAny M A (boolOp pos op [x]) P E s := h
theorem boolOp_more {M : Model} {A : Around} {E : Value → Shared → Prop} {x y : Sem Value} {r : List (Sem Value)} {pos : Pos} {op : BoolOp} {P : Value → Shared → Prop}
    (h : wpAny M A x (fun v s₁ => wpAny M A (truthy v) (fun t s₂ => match op, t with | .And, false | .Or, true => P v s₂ | _, _ => wpAny M A (boolOp pos op (y :: r)) P E s₂) E s₁) E s) : wpAny M A (boolOp pos op (x :: y :: r)) P E s := by
  show wpAny M A (do
    let v ← x
    standAt pos
    let t ← holding [v] (truthy v)
    match op, t with
    | .And, false | .Or, true => pure v
    | _, _ => boolOp pos op (y :: r)) P E s
  refine wpAny_bind (wpAny_mono h (fun v s₁ h₁ => wpAny_bind (wpAny_standAt (wpAny_bind (wpAny_holding (wpAny_mono h₁ (fun t s₂ h₂ => ?_) fun _ _ x => x))))) fun _ _ x => x)
  cases op <;> cases t <;> first | exact wpAny_pure h₂ | exact h₂
theorem WPE.opOne {op : BoolOp} {e : Expr} {pos : Pos} (h : WPE c k sc ρ st e Q X) : WPE c k sc ρ st (.BoolOp op [e] pos) Q X := ⟨fun f imm fr s ok hsc R => boolOp_one (h.go f imm fr s ok hsc R)⟩
theorem WPE.and {e e' : Expr} {es : List Expr} {pos : Pos} (h : WPE c k sc ρ st e (fun v st₁ => ∃ b, v = .bool b ∧ cnd b (WPE c k sc ρ st₁ (.BoolOp .And (e' :: es) pos) Q X) (Q (.bool false) st₁)) X) : WPE c k sc ρ st (.BoolOp .And (e :: e' :: es) pos) Q X := by
  refine ⟨fun f imm fr s ok hsc R => ?_⟩
  refine boolOp_more (wpAny_mono (h.go f imm fr s ok hsc R) (fun x s₁ p => ?_) fun _ _ t => t)
  obtain ⟨v, st₁, imm₁, i₁, rv, R₁, b, rfl, h₁⟩ := p
  cases rv
  refine wpAny_truthy_bool ?_
  cases b with
  | true => exact wpAny_mono ((of_t h₁).go f imm₁ fr s₁ ok hsc R₁) (fun _ _ p => p.mono i₁) fun _ _ t => t.mono i₁
  | false => exact PostE.mono i₁ (.bool R₁ h₁)
theorem WPE.or {e e' : Expr} {es : List Expr} {pos : Pos} (h : WPE c k sc ρ st e (fun v st₁ => ∃ b, v = .bool b ∧ cnd b (Q (.bool true) st₁) (WPE c k sc ρ st₁ (.BoolOp .Or (e' :: es) pos) Q X)) X) : WPE c k sc ρ st (.BoolOp .Or (e :: e' :: es) pos) Q X := by
  refine ⟨fun f imm fr s ok hsc R => ?_⟩
  refine boolOp_more (wpAny_mono (h.go f imm fr s ok hsc R) (fun x s₁ p => ?_) fun _ _ t => t)
  obtain ⟨v, st₁, imm₁, i₁, rv, R₁, b, rfl, h₁⟩ := p
  cases rv
  refine wpAny_truthy_bool ?_
  cases b with
  | false => exact wpAny_mono ((of_f h₁).go f imm₁ fr s₁ ok hsc R₁) (fun _ _ p => p.mono i₁) fun _ _ t => t.mono i₁
  | true => exact PostE.mono i₁ (.bool R₁ h₁)
theorem WPE.cmp2 {l r₁ r₂ : Expr} {op₁ op₂ : CmpOp} {pos : Pos} (h : WPE c k sc ρ st l (fun a st₁ => WPE c k sc ρ st₁ r₁ (fun b st₂ => W2 c k (compareOp op₁) a b ρ st₂ (fun v st₃ => ∃ t, v = .bool t ∧ cnd t (WPE c k sc ρ st₃ r₂ (fun d st₄ => W2 c k (compareOp op₂) b d ρ st₄ Q X) X) (Q (.bool false) st₃)) X) X) X)
    (hm : lastMarks [op₁, op₂] [r₁, r₂] = false := by rfl) : WPE c k sc ρ st (.Compare l [op₁, op₂] [r₁, r₂] pos) Q X := by
  refine ⟨fun f imm fr s ok hsc R => ?_⟩
  refine Compare_chain (wpAny_mono (h.go f imm fr s ok hsc R) (fun x s₁ p => ?_) fun _ _ t => t) hm
  obtain ⟨a, st₁, imm₁, i₁, ra, R₁, h₁⟩ := p
  refine chain_link (wpAny_mono (h₁.go f imm₁ fr s₁ ok hsc R₁) (fun y s₂ p => ?_) fun _ _ t => t.mono i₁)
  obtain ⟨b, st₂, imm₂, i₂, rb, R₂, h₂⟩ := p
  refine wpAny_mono (h₂.go f imm₂ fr s₂ x y ok R₂ (ra.mono i₂) rb) (fun z s₃ p => ?_) fun _ _ t => t.mono fun q hq => i₂ q (i₁ q hq)
  obtain ⟨v, st₃, imm₃, i₃, rv, R₃, t, rfl, h₃⟩ := p
  cases rv
  refine wpAny_truthy_bool ?_
  have i₁₃ : ∀ p ∈ imm, p ∈ imm₃ := fun q hq => i₃ q (i₂ q (i₁ q hq))
  cases t with
  | false => exact PostE.mono i₁₃ (.bool R₃ h₃)
  | true =>
    refine chain_last (wpAny_mono ((of_t h₃).go f imm₃ fr s₃ ok hsc R₃) (fun u s₄ p => ?_) fun _ _ t => t.mono i₁₃)
    obtain ⟨d, st₄, imm₄, i₄, rd, R₄, h₄⟩ := p
    exact wpAny_mono (h₄.go f imm₄ fr s₄ y u ok R₄ ((rb.mono i₃).mono i₄) rd) (fun _ _ p => p.mono fun q hq => i₄ q (i₁₃ q hq)) fun _ _ t => t.mono fun q hq => i₄ q (i₁₃ q hq)
theorem WPB.cmp2 {l r₁ r₂ : Expr} {op₁ op₂ : CmpOp} {pos : Pos} (h : WPE c k sc ρ st l (fun a st₁ => WPE c k sc ρ st₁ r₁ (fun b st₂ => W2 c k (compareOp op₁) a b ρ st₂ (fun v st₃ => ∃ t, v = .bool t ∧ cnd t (WPE c k sc ρ st₃ r₂ (fun d st₄ => W2 c k (compareOp op₂) b d ρ st₄ (fun v st₅ => ∃ t, v = .bool t ∧ B t st₅) X) X) (B false st₃)) X) X) X)
    (hm : lastMarks [op₁, op₂] [r₁, r₂] = false := by rfl) : WPB c k sc ρ st (.Compare l [op₁, op₂] [r₁, r₂] pos) B X := by
  refine ⟨fun f imm fr s ok hsc R => ?_⟩
  refine isTrue_chain (wpAny_mono (h.go f imm fr s ok hsc R) (fun x s₁ p => ?_) fun _ _ t => t) hm
  obtain ⟨a, st₁, imm₁, i₁, ra, R₁, h₁⟩ := p
  refine test_link (wpAny_mono (h₁.go f imm₁ fr s₁ ok hsc R₁) (fun y s₂ p => ?_) fun _ _ t => t.mono i₁)
  obtain ⟨b, st₂, imm₂, i₂, rb, R₂, h₂⟩ := p
  refine wpAny_mono (h₂.go f imm₂ fr s₂ x y ok R₂ (ra.mono i₂) rb) (fun z s₃ p => ?_) fun _ _ t => t.mono fun q hq => i₂ q (i₁ q hq)
  obtain ⟨v, st₃, imm₃, i₃, rv, R₃, t, rfl, h₃⟩ := p
  cases rv
  refine wpAny_truthy_bool ?_
  have i₁₃ : ∀ p ∈ imm, p ∈ imm₃ := fun q hq => i₃ q (i₂ q (i₁ q hq))
  cases t with
  | false => exact ⟨st₃, imm₃, i₁₃, R₃, h₃⟩
  | true =>
    refine test_last (wpAny_mono ((of_t h₃).go f imm₃ fr s₃ ok hsc R₃) (fun u s₄ p => ?_) fun _ _ t => t.mono i₁₃)
    obtain ⟨d, st₄, imm₄, i₄, rd, R₄, h₄⟩ := p
    have i₁₄ : ∀ p ∈ imm, p ∈ imm₄ := fun q hq => i₄ q (i₁₃ q hq)
    refine wpAny_mono (h₄.go f imm₄ fr s₄ y u ok R₄ ((rb.mono i₃).mono i₄) rd) (fun z s₅ p => ?_) fun _ _ t => t.mono i₁₄
    obtain ⟨v, st₅, imm₅, i₅, rv, R₅, t, rfl, h₅⟩ := p
    cases rv
    exact wpAny_truthy_bool ⟨st₅, imm₅, fun q hq => i₅ q (i₁₄ q hq), R₅, h₅⟩
end
end Mine
namespace Mine
inductive Fl where
  | next | brk | cont
  | ret (v : V)
/-- on, or out -/
def nxt (fl : Fl) (p q : Prop) : Prop := match fl with
  | .next => p
  | _ => q
theorem nxt_next {p q : Prop} (h : p) : nxt .next p q := h
theorem nxt_ret {v : V} {p q : Prop} (h : q) : nxt (.ret v) p q := h
theorem nxt_cont {p q : Prop} (h : q) : nxt .cont p q := h
theorem nxt_brk {p q : Prop} (h : q) : nxt .brk p q := h
inductive RFl (base : Heap) (imm : Led) : Fl → Flow → Prop
  | next : RFl base imm .next .next
  | brk : RFl base imm .brk .brk
  | cont : RFl base imm .cont .cont
  | ret {v : V} {x : Value} : RV base imm v x → RFl base imm (.ret v) (.ret x)

def PostS (c : Cx) (f : Fm) (imm fr : Led) (Q : Fl → Loc → St → Prop) (fl : Flow) (s : Shared) : Prop :=
  ∃ fl' ρ st imm', (∀ p ∈ imm, p ∈ imm') ∧ RFl c.base imm' fl' fl ∧ Rel c f ρ st imm' fr s ∧ Q fl' ρ st
theorem PostS.mono {c : Cx} {f : Fm} {imm imm' fr : Led} {Q : Fl → Loc → St → Prop} {fl : Flow} {s : Shared} (hs : ∀ p ∈ imm, p ∈ imm') (h : PostS c f imm' fr Q fl s) : PostS c f imm fr Q fl s :=
  let ⟨v, ρ, st, imm'', a, r⟩ := h; ⟨v, ρ, st, imm'', fun p hp => a p (hs p hp), r⟩

/-- a function's own block -/
structure Fm.Own (f : Fm) : Prop where
  same : f.env = f.fenv
  locals : f.env.locals = f.L
  cmp : f.cmp = false

/-- statements -/
structure WPS (c : Cx) (k : Nat) (sc : Scope) (ρ : Loc) (st : St) (ss : List Stmt) (Q : Fl → Loc → St → Prop) (X : Xp) : Prop where
  go : ∀ f imm fr s, f.Ok c k → f.env.scope = sc → f.Own → Rel c f ρ st imm fr s →
    wpAny c.M f.A (execs ss f.env) (PostS c f imm fr Q) (Thrown c f imm fr X) s
/-- one statement -/
structure WPs (c : Cx) (k : Nat) (sc : Scope) (ρ : Loc) (st : St) (ss : Stmt) (Q : Fl → Loc → St → Prop) (X : Xp) : Prop where
  go : ∀ f imm fr s, f.Ok c k → f.env.scope = sc → f.Own → Rel c f ρ st imm fr s →
    wpAny c.M f.A (exec ss f.env) (PostS c f imm fr Q) (Thrown c f imm fr X) s
/-- expressions, one behind the other -/
def PostL (c : Cx) (f : Fm) (ρ : Loc) (imm fr : Led) (n : Nat) (Q : List V → St → Prop) (xs : List Value) (s : Shared) : Prop :=
  ∃ vs st imm', (∀ p ∈ imm, p ∈ imm') ∧ RVs c.base imm' vs xs ∧ Rel c f ρ st imm' fr s ∧ vs.length = n ∧ Q vs st
structure WPEs (c : Cx) (k : Nat) (sc : Scope) (ρ : Loc) (st : St) (es : List Expr) (Q : List V → St → Prop) (X : Xp) : Prop where
  go : ∀ f imm fr s pos, f.Ok c k → f.env.scope = sc → Rel c f ρ st imm fr s →
    wpAny c.M f.A (spliced (backTo pos (starEach es f.env))) (PostL c f ρ imm fr es.length Q) (Thrown c f imm fr X) s

section
variable {c : Cx} {k : Nat} {sc : Scope} {ρ : Loc} {st : St} {Q : V → St → Prop} {S : Fl → Loc → St → Prop} {X : Xp} {f : Fm} {imm fr : Led} {s : Shared} {tk : Nat}

theorem PostS.next (R : Rel c f ρ st imm fr s) (h : S .next ρ st) : PostS c f imm fr S .next s := ⟨.next, ρ, st, imm, fun _ h => h, .next, R, h⟩

theorem WPS.nil (h : S .next ρ st) : WPS c k sc ρ st [] S X := ⟨fun f imm fr s ok hsc own R => wpAny_execs_nil (.next R h)⟩
theorem WPS.cons {t : Stmt} {ts : List Stmt} (h : WPs c k sc ρ st t (fun fl ρ₁ st₁ => nxt fl (WPS c k sc ρ₁ st₁ ts S X) (S fl ρ₁ st₁)) X) : WPS c k sc ρ st (t :: ts) S X := by
  refine ⟨fun f imm fr s ok hsc own R => ?_⟩
  refine wpAny_execs_cons (wpAny_mono (h.go f imm fr s ok hsc own R) (fun fl s₁ p => ?_) fun _ _ t => t)
  obtain ⟨fl', ρ₁, st₁, imm₁, i₁, rf, R₁, h₁⟩ := p
  cases rf with
  | next => exact wpAny_mono ((show WPS c k sc ρ₁ st₁ ts S X from h₁).go f imm₁ fr s₁ ok hsc own R₁) (fun _ _ p => p.mono i₁) fun _ _ t => t.mono i₁
  | brk => exact ⟨.brk, ρ₁, st₁, imm₁, i₁, .brk, R₁, h₁⟩
  | cont => exact ⟨.cont, ρ₁, st₁, imm₁, i₁, .cont, R₁, h₁⟩
  | ret r => exact ⟨_, ρ₁, st₁, imm₁, i₁, .ret r, R₁, h₁⟩

theorem WPs.ret {e : Expr} {pos : Pos} (h : WPE c k sc ρ st e (fun v st₁ => S (.ret v) ρ st₁) X) : WPs c k sc ρ st (.Return (some e) pos) S X := by
  refine ⟨fun f imm fr s ok hsc own R => ?_⟩
  refine wpAny_Return_some (wpAny_mono (h.go f imm fr s ok hsc R) (fun x s₁ p => ?_) fun _ _ t => t)
  obtain ⟨v, st₁, imm₁, i₁, rv, R₁, h₁⟩ := p
  exact ⟨.ret v, ρ, st₁, imm₁, i₁, .ret rv, R₁, h₁⟩
theorem WPs.pass {pos : Pos} (h : S .next ρ st) : WPs c k sc ρ st (.Pass pos) S X := ⟨fun f imm fr s ok hsc own R => wpAny_Pass (.next R h)⟩
theorem WPs.cont {pos : Pos} (h : S .cont ρ st) : WPs c k sc ρ st (.Continue pos) S X := ⟨fun f imm fr s ok hsc own R => wpAny_Continue ⟨.cont, ρ, st, imm, fun _ h => h, .cont, R, h⟩⟩
theorem WPs.ifs {e : Expr} {b o : List Stmt} {pos : Pos} (h : WPB c k sc ρ st e (fun v st₁ => cnd v (WPS c k sc ρ st₁ b S X) (WPS c k sc ρ st₁ o S X)) X) : WPs c k sc ρ st (.If e b o pos) S X := by
  refine ⟨fun f imm fr s ok hsc own R => ?_⟩
  refine wpAny_If (wpAny_mono (h.go f imm fr s ok hsc R) (fun b s₁ p => ?_) fun _ _ t => t)
  obtain ⟨st₁, imm₁, i₁, R₁, h₁⟩ := p
  cases b with
  | false => exact wpAny_mono ((of_f h₁).go f imm₁ fr s₁ ok hsc own R₁) (fun _ _ p => p.mono i₁) fun _ _ t => t.mono i₁
  | true => exact wpAny_mono ((of_t h₁).go f imm₁ fr s₁ ok hsc own R₁) (fun _ _ p => p.mono i₁) fun _ _ t => t.mono i₁
theorem WPs.expr {e : Expr} {pos : Pos} (h : WPE c k sc ρ st e (fun _ st₁ => S .next ρ st₁) X) (hs : ∀ env, swapsWith e none pos.line env = pure false := by intro _; rfl) : WPs c k sc ρ st (.Expr e pos) S X := by
  refine ⟨fun f imm fr s ok hsc own R => ?_⟩
  refine wpAny_Expr_any (wpAny_mono (h.go f imm fr s ok hsc R) (fun x s₁ p => ?_) fun _ _ t => t) ?_ (hs _)
  · obtain ⟨v, st₁, imm₁, i₁, rv, R₁, h₁⟩ := p
    exact ⟨.next, ρ, st₁, imm₁, i₁, .next, R₁, h₁⟩
  · unfold interactive; rw [ok.ekind]; rfl

/-! storing a name -/
theorem getL_set_reads {base : Heap} {f : Fm} {m : Str → Option Value} {cs : Led} {x : Str} {v : V} {val : Value} (L : LocR base imm f ρ m cs fr) (hl : f.env.kindOf x = some .local) (own : f.env.locals = f.L) (rv : RV base imm v val) :
    LocR base imm f (setL ρ x v) (fun y => if y = x then some val else m y) cs fr := by
  refine ⟨fun y u e => ?_, L.cells, L.inj⟩
  rw [getL_setL] at e
  by_cases h : y = x
  · subst h
    rw [if_pos rfl] at e
    cases e
    exact ⟨val, rv, .inl ⟨hl, own, by simp⟩⟩
  · rw [if_neg h] at e
    obtain ⟨w, rw', q⟩ := L.reads y u e
    refine ⟨w, rw', ?_⟩
    rcases q with ⟨q1, q2, q3⟩ | q
    · exact .inl ⟨q1, q2, by simpa [h] using q3⟩
    · exact .inr q
theorem store_local {x : Str} {v : V} {val : Value} {P : Unit → Shared → Prop} {E : Value → Shared → Prop} (ok : f.Ok c k) (own : f.env.locals = f.L) (R : Rel c f ρ st imm fr s) (hx : f.env.kindOf x = some .local) (rv : RV c.base imm v val)
    (h : ∀ s', Rel c f (setL ρ x v) st imm fr s' → P () s') : wpAny c.M f.A (storeName f.env x val) P E s := by
  obtain ⟨⟨h0, tk0, rfl⟩, m, mt, cs, fo, r⟩ := R
  refine wpAny_storeName_local hx (own ▸ r.frm.ns) (fun h' hn hs => h _ ⟨⟨h', _, rfl⟩, (fun y => if y = x then some val else m y), mt, cs, fo, ?_⟩) (by rw [ok.ekind]; rfl)
  rw [own] at hn hs
  exact ⟨r.frm.set hn hs, r.news.set hs, r.nodup, r.sto, r.fos, getL_set_reads r.loc hx own rv⟩
theorem store_cell {x : Str} {v : V} {val : Value} {P : Unit → Shared → Prop} {E : Value → Shared → Prop} {cc : Addr} (ok : f.Ok c k) (own : f.Own) (R : Rel c f ρ st imm fr s) (hx : f.env.kindOf x = some .cell) (hc : f.env.cells.lookup x = some cc) (rv : RV c.base imm v val)
    (h : ∀ s', Rel c f (setL ρ x v) st imm fr s' → P () s') : wpAny c.M f.A (storeName f.env x val) P E s := by
  obtain ⟨⟨h0, tk0, rfl⟩, m, mt, cs, fo, r⟩ := R
  obtain ⟨o, v₀, hm, hd⟩ := r.loc.cells own.cmp x cc hc
  have hw := r.news (cc, o) (by simp [hm])
  refine wpAny_storeName_cell ok.ekind hx hc ⟨o, hw.1, hd⟩ fun h' hv hs => ?_
  obtain ⟨o', ho', hd'⟩ := hv
  obtain ⟨c1, c2, rfl⟩ := List.append_of_mem hm
  have e : whole mt (c1 ++ (cc, o) :: c2) imm fr fo = (mt ++ c1) ++ (cc, o) :: (c2 ++ (imm ++ (fr ++ fo))) := by simp
  have e' : whole mt (c1 ++ (cc, o') :: c2) imm fr fo = (mt ++ c1) ++ (cc, o') :: (c2 ++ (imm ++ (fr ++ fo))) := by simp
  have nd := r.nodup
  rw [e] at nd
  have h1 : ∀ p ∈ mt ++ c1, p.1 ≠ cc := fun p hp q => by
    rw [List.map_append, List.nodup_append] at nd
    exact nd.2.2 p.1 (List.mem_map_of_mem hp) cc (by simp) q
  have h2 : ∀ p ∈ c2 ++ (imm ++ (fr ++ fo)), p.1 ≠ cc := fun p hp q => by
    rw [List.map_append, List.nodup_append, List.map_cons, List.nodup_cons] at nd
    exact nd.2.1.1 (List.mem_map.mpr ⟨p, hp, q⟩)
  have hne : ∀ b ob, (b, ob) ∈ c1 ++ (cc, o) :: c2 → b ≠ cc → (b, ob) ∈ c1 ++ (cc, o') :: c2 := fun b ob hb n => by
    simp only [List.mem_append, List.mem_cons, Prod.mk.injEq] at hb ⊢
    rcases hb with hb | ⟨hb, _⟩ | hb
    · exact .inl hb
    · exact absurd hb n
    · exact .inr (.inr hb)
  refine h _ ⟨⟨h', _, rfl⟩, m, mt, c1 ++ (cc, o') :: c2, fo, Fr.other r.frm hs hw.2.1 hw.2.2, ?_, ?_, r.sto, r.fos, ?_⟩
  · rw [e']
    have := r.news
    rw [e] at this
    exact News.setAt this h1 h2 hs ho'
  · rw [e']; simp only [List.map_append, List.map_cons] at nd ⊢; exact nd
  · refine ⟨fun y u q => ?_, fun _ y cy q => ?_, r.loc.inj⟩
    · rw [getL_setL] at q
      by_cases hy : y = x
      · subst hy
        rw [if_pos rfl] at q
        cases q
        exact ⟨val, rv, .inr ⟨.inl hx, cc, o', hc, by simp, hd'⟩⟩
      · rw [if_neg hy] at q
        obtain ⟨w, rw', z⟩ := r.loc.reads y u q
        refine ⟨w, rw', ?_⟩
        rcases z with z | ⟨z1, c', oc, z2, z3, z4⟩
        · exact .inl z
        · refine .inr ⟨z1, c', oc, z2, ?_, z4⟩
          rcases List.mem_append.mp z3 with z3 | z3
          · exact List.mem_append_left _ (hne _ _ z3 fun e => hy (r.loc.inj own.cmp y x cc (e ▸ z2) hc))
          · exact List.mem_append_right _ z3
    · obtain ⟨oy, vy, z1, z2⟩ := r.loc.cells own.cmp y cy q
      by_cases e : cy = cc
      · subst e; exact ⟨o', _, by simp, hd'⟩
      · exact ⟨oy, vy, hne _ _ z1 e, z2⟩
/-- any name that the frame stores -/
def storesB (sc : Scope) (x : Str) : Bool := match sc.names.lookup x with | some .local | some .cell => true | _ => false
theorem store {x : Str} {v : V} {val : Value} {P : Unit → Shared → Prop} {E : Value → Shared → Prop} (ok : f.Ok c k) (own : f.Own) (R : Rel c f ρ st imm fr s) (hx : storesB f.env.scope x = true) (rv : RV c.base imm v val)
    (h : ∀ s', Rel c f (setL ρ x v) st imm fr s' → P () s') : wpAny c.M f.A (storeName f.env x val) P E s := by
  unfold storesB at hx
  cases hk : f.env.scope.names.lookup x with
  | none => rw [hk] at hx; cases hx
  | some kd =>
    rw [hk] at hx
    cases kd <;> first | (cases hx; done) | (exact store_local ok own.locals R hk rv h) | skip
    obtain ⟨cc, hcc⟩ := ok.ecell x hk
    exact store_cell ok own R hk hcc rv h

theorem WPs.asg {x : Str} {e : Expr} {np pos : Pos} (h : WPE c k sc ρ st e (fun v st₁ => S .next (setL ρ x v) st₁) X) (hx : storesB sc x = true := by rfl)
    (hs : ∀ env, swapsWith e (some (.Name x np)) pos.line env = pure false := by intro _; rfl) : WPs c k sc ρ st (.Assign [.Name x np] e pos) S X := by
  refine ⟨fun f imm fr s ok hsc own R => ?_⟩
  refine wpAny_Assign_Name (wpAny_mono (h.go f imm fr s ok hsc R) (fun val s₁ p => ?_) fun _ _ t => t) (hs _)
  obtain ⟨v, st₁, imm₁, i₁, rv, R₁, h₁⟩ := p
  exact store ok own R₁ (hsc ▸ hx) rv fun s' R' => ⟨.next, _, st₁, imm₁, i₁, .next, R', h₁⟩

/-! tuples and lists made -/
theorem WPEs.nil {P : List V → St → Prop} (h : P [] st) : WPEs c k sc ρ st [] P X := ⟨fun f imm fr s pos ok hsc R => spliced_none ⟨[], st, imm, fun _ h => h, .nil, R, rfl, h⟩⟩
theorem WPEs.cons {e : Expr} {es : List Expr} {P : List V → St → Prop} (h : WPE c k sc ρ st e (fun v st₁ => WPEs c k sc ρ st₁ es (fun vs st₂ => P (v :: vs) st₂) X) X)
    (he : ∀ env, starEach (e :: es) env = (false, eval e env) :: starEach es env := by intro _; rfl) : WPEs c k sc ρ st (e :: es) P X := by
  refine ⟨fun f imm fr s pos ok hsc R => ?_⟩
  refine spliced_more (wpAny_mono (h.go f imm fr s ok hsc R) (fun x s₁ p => ?_) fun _ _ t => t) (he _)
  obtain ⟨v, st₁, imm₁, i₁, rv, R₁, h₁⟩ := p
  refine wpAny_mono (h₁.go f imm₁ fr s₁ pos ok hsc R₁) (fun xs s₂ p => ?_) fun _ _ t => t.mono i₁
  obtain ⟨vs, st₂, imm₂, i₂, rvs, R₂, hn, h₂⟩ := p
  exact ⟨v :: vs, st₂, imm₂, fun q hq => i₂ q (i₁ q hq), .cons (rv.mono i₂) rvs, R₂, by simp [hn], h₂⟩
theorem WPE.tup {es : List Expr} {n : Nat} {pos : Pos} (h : WPEs c k sc ρ st es (fun vs st₁ => Q (.tup vs) st₁) X) (hl : es.length ≤ sizeLine := by decide) : WPE c k sc ρ st (.Tuple es n pos) Q X := by
  refine ⟨fun f imm fr s ok hsc R => ?_⟩
  refine wpAny_Tuple (wpAny_mono (h.go f imm fr s pos ok hsc R) (fun xs s₁ p => ?_) fun _ _ t => t)
  obtain ⟨vs, st₁, imm₁, i₁, rvs, R₁, hn, h₁⟩ := p
  have hs : ∀ p ∈ imm₁, p ∈ (s₁.heap.objs.size, tupObj xs 0) :: imm₁ := fun p hp => .tail _ hp
  exact ⟨by rw [rvs.length, hn]; exact hl, _, st₁, _, fun q hq => hs q (i₁ q hq), .tup (.head _) (rvs.mono hs), R₁.pushImm (tk := s₁.toks), h₁⟩
theorem WPE.lst {es : List Expr} {pos : Pos} (h : WPEs c k sc ρ st es (fun vs st₁ => ∀ a, get st₁ a = none → Q (.ref a) ((a, .list vs) :: st₁)) X) (hl : es.length ≤ sizeLine := by decide) : WPE c k sc ρ st (.List es pos) Q X := by
  refine ⟨fun f imm fr s ok hsc R => ?_⟩
  refine wpAny_List (wpAny_mono (h.go f imm fr s pos ok hsc R) (fun xs s₁ p => ?_) fun _ _ t => t)
  obtain ⟨vs, st₁, imm₁, i₁, rvs, R₁, hn, h₁⟩ := p
  exact ⟨by rw [rvs.length, hn]; exact hl, _, _, _, i₁, .ref _, R₁.pushSt (tk := s₁.toks) (.list rvs), h₁ _ R₁.none⟩
end
end Mine
namespace Mine
/-- a def of the text -/
structure FnAt (K : Frag) (a : Addr) (names : List Str) (sc : Scope) (body : List Stmt) : Prop where
  ex : ∃ fo fd, K.lookup a = some fo ∧ fo.data = .func fd ∧ fd.body = .stmts body ∧ fd.scope = sc ∧ fd.globals = mainGlobals ∧ fd.closure = [] ∧ fd.builtins = builtinsNs ∧
    codeIn K fd.code fd.qualname = true ∧ ∀ xs : List Value, xs.length = names.length → bindArgs fd ⟨xs, []⟩ = pure (names.zip xs)
  locB : names.all (storesB sc) = true
  co : sc.isCoroutine = false
  gen : sc.isGenerator = false
  kind : sc.kind = .function
  nodup : names.Nodup

theorem FnAt.loc {K : Frag} {a : Addr} {names : List Str} {sc : Scope} {body : List Stmt} (H : FnAt K a names sc body) : ∀ x ∈ names, storesB sc x = true := List.all_eq_true.mp H.locB
theorem zip_mem {base : Heap} {imm : Led} : ∀ {names : List Str} {vs : List V} {xs : List Value}, RVs base imm vs xs → ∀ {x : Str} {v : V}, getL (names.zip vs) x = some v → ∃ val, (x, val) ∈ names.zip xs ∧ RV base imm v val := by
  intro names
  induction names with
  | nil => intro vs xs _ x v e; simp [getL] at e
  | cons n names ih =>
    intro vs xs r x v e
    cases r with
    | nil => simp [getL] at e
    | cons rv rvs =>
      rw [List.zip_cons_cons, getL_cons] at e
      by_cases h : n = x
      · subst h
        rw [if_pos rfl] at e; cases e
        exact ⟨_, by simp, rv⟩
      · rw [if_neg h] at e
        obtain ⟨val, hm, hv⟩ := ih rvs e
        exact ⟨val, by rw [List.zip_cons_cons]; exact .tail _ hm, hv⟩
theorem zip_keys (ns : List Str) (ys : List Value) : ((ns.zip ys).map (·.1)).Sublist ns := by
  induction ns generalizing ys with
  | nil => simp
  | cons n ns ih => cases ys with
    | nil => simp
    | cons y ys => simpa using ih ys
theorem bindL_other {kd : Str → Option NameKind} {x : Str} : ∀ {b : List (Str × Value)} {m : Str → Option Value}, x ∉ b.map (·.1) → bindL kd b m x = m x
  | [], _, _ => rfl
  | (n, v) :: r, m, h => by
    simp only [List.map_cons, List.mem_cons, not_or] at h
    unfold bindL
    rw [bindL_other h.2]
    split
    · simp [h.1]
    · rfl
theorem bindC_other {kd : Str → Option NameKind} {x : Str} : ∀ {b : List (Str × Value)} {m : Str → Option Value}, x ∉ b.map (·.1) → bindC kd b m x = m x
  | [], _, _ => rfl
  | (n, v) :: r, m, h => by
    simp only [List.map_cons, List.mem_cons, not_or] at h
    unfold bindC
    rw [bindC_other h.2]
    split
    · rfl
    · simp [h.1]
theorem bindL_at {kd : Str → Option NameKind} {x : Str} {val : Value} (hk : kd x = some .local) : ∀ {b : List (Str × Value)} {m : Str → Option Value}, (b.map (·.1)).Nodup → (x, val) ∈ b → bindL kd b m x = some val
  | (n, v) :: r, m, nd, h => by
    simp only [List.map_cons, List.nodup_cons] at nd
    unfold bindL
    rcases List.mem_cons.mp h with h | h
    · cases h
      rw [bindL_other nd.1, if_pos hk]; simp
    · exact bindL_at hk nd.2 h
theorem bindC_at {kd : Str → Option NameKind} {x : Str} {val : Value} (hk : ¬ kd x = some .local) : ∀ {b : List (Str × Value)} {m : Str → Option Value}, (b.map (·.1)).Nodup → (x, val) ∈ b → bindC kd b m x = some val
  | (n, v) :: r, m, nd, h => by
    simp only [List.map_cons, List.nodup_cons] at nd
    unfold bindC
    rcases List.mem_cons.mp h with h | h
    · cases h
      rw [bindC_other nd.1, if_neg hk]; simp
    · exact bindC_at hk nd.2 h
theorem cells_look {x : Str} : ∀ (names : List (Str × NameKind)) (n : Nat) (acc : List (Str × Addr)), ((x, NameKind.cell) ∈ names ∨ (acc.lookup x).isSome = true) → ((cellsFrom n names acc).lookup x).isSome = true
  | [], n, acc, h => by
    rcases h with h | h
    · cases h
    · exact h
  | (y, kd) :: r, n, acc, h => by
    unfold cellsFrom
    split
    · rename_i hk
      refine cells_look r _ _ ?_
      rcases h with h | h
      · rcases List.mem_cons.mp h with h | h
        · cases h; right; simp
        · exact .inl h
      · right
        rw [List.lookup_cons]
        split
        · rfl
        · exact h
    · rename_i hk
      refine cells_look r _ _ ?_
      rcases h with h | h
      · rcases List.mem_cons.mp h with h | h
        · cases h; exact absurd rfl hk
        · exact .inl h
      · exact .inr h

section
variable {c : Cx} {k : Nat} {ρ : Loc} {st : St} {Q : V → St → Prop} {X : Xp} {f : Fm} {imm fr : Led} {s : Shared}

def retV : Fl → V
  | .ret v => v
  | _ => .none

/-- the callee's frame -/
abbrev Fm.call (f : Fm) (m : Str → Option Value) (L : Addr) (env : Env) : Fm := { outer := f.fenv :: f.outer, frs := (f.L, m) :: f.frs, L := L, fenv := env, env := env, A := f.A.deeper env, cmp := false }

theorem nodup_count {l : List Nat} (h : ∀ a, l.count a ≤ 1) : l.Nodup := List.nodup_iff_count.mpr h

/-- back in the caller's frame -/
theorem back {f' : Fm} {m : Str → Option Value} {ρ' : Loc} {st' : St} {imm' cs : Led} {s' : Shared} {h : Heap} (hf : f'.frs = (f.L, m) :: f.frs) (R : Rel c f' ρ' st' imm' (cs ++ fr) s') (F : Fr c.base f.L h m) (hl : LocR c.base imm f ρ m cs fr) (hi : ∀ p ∈ imm, p ∈ imm')
    (hL : ∀ p ∈ cs ++ fr, p.1 ≠ f.L) : Rel c f ρ st' imm' fr s' := by
  obtain ⟨hr, m', mt', cs', fo', r⟩ := R
  have fos := r.fos
  rw [hf] at fos
  cases fos with
  | @cons _ _ oL _ fo no fos =>
    have hw := r.news (f.L, oL) (by simp)
    obtain ⟨es, ep, n1, n2, n3⟩ := no
    have nd := List.nodup_iff_count.mp r.nodup
    simp only [List.map_append, List.map_cons, List.count_append, List.count_cons] at nd
    refine ⟨hr, m, mt', cs, fo, ⟨⟨oL, es, ep, hw.1, n1, n2, n3⟩, r.frm.keep, F.above⟩, fun p hp => ?_, nodup_count fun a => ?_, r.sto, fos, hl.mono hi⟩
    · have hp' : p ∈ whole mt' cs' imm' (cs ++ fr) ((f.L, oL) :: fo) := by
        simp only [List.mem_append, List.mem_cons] at hp ⊢
        rcases hp with hp | hp | hp | hp | hp
        · exact .inl hp
        · exact .inr (.inr (.inr (.inl (.inl hp))))
        · exact .inr (.inr (.inl hp))
        · exact .inr (.inr (.inr (.inl (.inr hp))))
        · exact .inr (.inr (.inr (.inr (.inr hp))))
      refine ⟨(r.news p hp').1, fun e => ?_, (r.news p hp').2.2⟩
      have q := nd f.L
      simp only [beq_self_eq_true, if_true] at q
      have hin : p.1 ∈ (mt' ++ (cs ++ (imm' ++ (fr ++ fo)))).map (·.1) := List.mem_map_of_mem hp
      rw [e] at hin
      have := List.count_pos_iff.mpr hin
      simp only [List.map_append, List.count_append] at this
      omega
    · have q := nd a
      simp only [List.map_append, List.count_append]
      omega

/-- a frame begins -/
theorem enterAt {a : Addr} {names : List Str} {sc : Scope} {body : List Stmt} {vs : List V} {xs : List Value} {fd : FuncData} {s s₁ : Shared} {f : Fm} {mt fo : Led} (H : FnAt c.K a names sc body) (hsc : fd.scope = sc) (hcl : fd.closure = []) (rvs : RVs c.base imm vs xs)
    (hs : ∃ h tk, s = { c.s₀ with heap := h, toks := tk }) (hkeep : ∀ b o, c.base.get? b = some o → s.heap.get? b = some o) (hbase : c.base.objs.size ≤ s.heap.objs.size) (N : ∀ p ∈ whole mt [] imm fr fo, s.heap.get? p.1 = some p.2 ∧ c.base.get? p.1 = none) (nd : ((whole mt [] imm fr fo).map (·.1)).Nodup)
    (hst : StR c imm st mt) (hfo : FoR f.frs fo) (hL : f.L = s.heap.objs.size) (he : f.env = callEnvC fd s.heap.objs.size a)
    (x : InCallC s (callEnvC fd s.heap.objs.size a).locals (bindL (callEnvC fd s.heap.objs.size a).kindOf (names.zip xs) fun _ => none) (callEnvC fd s.heap.objs.size a).cells (bindC (callEnvC fd s.heap.objs.size a).kindOf (names.zip xs) fun _ => none) s₁) :
    Rel c f (names.zip vs) st imm fr s₁ := by
  obtain ⟨h0, tk0, rfl⟩ := hs
  obtain ⟨h₁, tk₁, rfl, hk₁⟩ := x.done
  have hloc : (callEnvC fd h0.objs.size a).locals = h0.objs.size := rfl
  have ns := x.toInCall.ns
  have above := x.above
  have apart := x.apart
  have cell := x.cell
  generalize hcells : (callEnvC fd h0.objs.size a).cells = cells at above apart cell
  have hfc : f.env.cells = cells := by rw [he]; exact hcells
  dsimp only at cell hk₁ ns N hkeep hL hbase
  have hobj : ∀ n cc, cells.lookup n = some cc → h₁.get? cc = some ((h₁.get? cc).getD default) ∧ ((h₁.get? cc).getD default).data = .cell (bindC (callEnvC fd h0.objs.size a).kindOf (names.zip xs) (fun _ => none) n) := fun n cc hn => by
    obtain ⟨o, ho, hd⟩ := cell n cc hn
    rw [ho]; exact ⟨rfl, hd⟩
  let cs : Led := (cells.filter fun p => decide (cells.lookup p.1 = some p.2)).map fun p => (p.2, (h₁.get? p.2).getD default)
  have hcs : ∀ p ∈ cs, ∃ n, cells.lookup n = some p.1 ∧ p.2 = (h₁.get? p.1).getD default := fun p hp => by
    obtain ⟨q, hq, rfl⟩ := List.mem_map.mp hp
    have := (List.mem_filter.mp hq).2
    exact ⟨q.1, by simpa using this, rfl⟩
  have hin : ∀ n cc, cells.lookup n = some cc → (cc, (h₁.get? cc).getD default) ∈ cs := fun n cc hn =>
    List.mem_map.mpr ⟨(n, cc), List.mem_filter.mpr ⟨mem_of_lookup hn, by simpa using hn⟩, rfl⟩
  have hcnd : (cs.map (·.1)).Nodup := by
    show ((((cells.filter fun p => decide (cells.lookup p.1 = some p.2)).map fun p => (p.2, (h₁.get? p.2).getD default))).map (·.1)).Nodup
    rw [List.map_map]
    exact List.pairwise_map.mpr (apart.filter _)
  have hab : ∀ p ∈ cs, h0.objs.size < p.1 := fun p hp => by
    obtain ⟨n, hn, _⟩ := hcs p hp
    have := above n p.1 (mem_of_lookup hn)
    rw [hloc] at this; exact this
  have hlt : ∀ p ∈ whole mt [] imm fr fo, p.1 < h0.objs.size := fun p hp => Heap.lt_size (N p hp).1
  have hzn : ((names.zip xs).map (·.1)).Nodup := H.nodup.sublist (zip_keys names xs)
  refine ⟨⟨h₁, tk₁, rfl⟩, _, mt, cs, fo, ⟨hL ▸ hloc ▸ ns, fun b o e => hk₁ b o (hkeep b o e), hL ▸ hbase⟩, fun p hp => ?_, nodup_count fun b => ?_, hst, hfo, ⟨fun y v e => ?_, fun _ y cc e => ?_, fun _ y z cc e e' => ?_⟩⟩
  · have hp' : p ∈ cs ∨ p ∈ whole mt [] imm fr fo := by
      simp only [List.mem_append, List.nil_append, List.not_mem_nil, false_or] at hp ⊢
      rcases hp with hp | hp | hp | hp | hp
      · exact .inr (.inl hp)
      · exact .inl hp
      · exact .inr (.inr (.inl hp))
      · exact .inr (.inr (.inr (.inl hp)))
      · exact .inr (.inr (.inr (.inr hp)))
    rcases hp' with hp' | hp'
    · obtain ⟨n, hn, e⟩ := hcs p hp'
      have z := hab p hp'
      exact ⟨e ▸ (hobj n p.1 hn).1, by rw [hL]; exact Nat.ne_of_gt z, Heap.get?_none_of_le (Nat.le_trans hbase (Nat.le_of_lt z))⟩
    · exact ⟨hk₁ _ _ (N p hp').1, by rw [hL]; exact Nat.ne_of_lt (hlt p hp'), (N p hp').2⟩
  · have z := List.nodup_iff_count.mp nd b
    have z' := List.nodup_iff_count.mp hcnd b
    have z2 : (cs.map (·.1)).count b = 0 ∨ ((whole mt [] imm fr fo).map (·.1)).count b = 0 := by
      by_cases q : h0.objs.size < b
      · right
        refine List.count_eq_zero.mpr fun hm => ?_
        obtain ⟨p, hp, e⟩ := List.mem_map.mp hm
        have := hlt p hp
        have e2 : p.1 = b := e
        rw [e2] at this
        exact Nat.lt_asymm q this
      · left
        refine List.count_eq_zero.mpr fun hm => ?_
        obtain ⟨p, hp, e⟩ := List.mem_map.mp hm
        have := hab p hp
        have e2 : p.1 = b := e
        rw [e2] at this
        exact q this
    simp only [List.map_append, List.count_append, List.map_nil, List.count_nil] at z z2 ⊢
    omega
  · obtain ⟨val, h1, h2⟩ := zip_mem rvs e
    have hy : y ∈ names := (List.of_mem_zip h1).1
    have hk := H.loc y hy
    unfold storesB at hk
    refine ⟨val, h2, ?_⟩
    cases hkd : sc.names.lookup y with
    | none => rw [hkd] at hk; cases hk
    | some kd =>
      have hkind : f.env.kindOf y = some kd := by rw [he]; show fd.scope.names.lookup y = _; rw [hsc]; exact hkd
      have hkind' : (callEnvC fd h0.objs.size a).kindOf y = some kd := he ▸ hkind
      rw [hkd] at hk
      by_cases hl : kd = .local
      · subst hl
        refine .inl ⟨hkind, ?_, bindL_at hkind' hzn h1⟩
        rw [he, hL]; rfl
      · have hce : kd = .cell := by cases kd <;> first | rfl | (cases hk; done) | exact absurd rfl hl
        subst hce
        have hlk := cells_look (x := y) fd.scope.names (h0.objs.size + 1) [] (.inl (mem_of_lookup (by rw [hsc]; exact hkd)))
        obtain ⟨cc, hcc⟩ := Option.isSome_iff_exists.mp hlk
        have hcc' : cells.lookup y = some cc := hcells ▸ hcc
        refine .inr ⟨.inl hkind, cc, _, hfc ▸ hcc', List.mem_append_left _ (hin y cc hcc'), ?_⟩
        rw [(hobj y cc hcc').2, bindC_at (by rw [hkind']; decide) hzn h1]
  · rw [hfc] at e
    exact ⟨_, _, hin y cc e, (hobj y cc e).2⟩
  · rw [hfc] at e e'
    exact name_of_addr apart (mem_of_lookup e) (mem_of_lookup e')

theorem envs_call {m : Str → Option Value} {L : Addr} {env : Env} (hk : env.scope.kind = .function) (hf : env.frame = some L) (h : ∀ e ∈ f.fenv :: f.outer, EnvOk f e) : ∀ e ∈ (f.call m L env).fenv :: (f.call m L env).outer, EnvOk (f.call m L env) e := by
  intro e he
  rcases List.mem_cons.mp he with rfl | he
  · exact ⟨hk, L, hf, .inl rfl⟩
  · obtain ⟨h1, L', h2, h3⟩ := h e he
    refine ⟨h1, L', h2, .inr ?_⟩
    rcases h3 with rfl | ⟨m', h3⟩
    · exact ⟨m, .head _⟩
    · exact ⟨m', .tail _ h3⟩
theorem CallW.fn {a : Addr} {names : List Str} {sc : Scope} {body : List Stmt} {vs : List V} (H : FnAt c.K a names sc body) (hn : vs.length = names.length)
    (h : WPS c k sc (names.zip vs) st body (fun fl ρ' st' => Q (retV fl) st') X) : WL c (k + 1) (fun xs => call (.ref a) xs) vs ρ st Q X := by
  refine ⟨fun f imm fr s xs ok R rvs => ?_⟩
  obtain ⟨fo, fd, hK, hd, hb, hsc, hg, hcl, hbi, hcd, hbind⟩ := H.ex
  have hx : xs.length = names.length := rvs.length.trans hn
  have kin := R.kin ok
  obtain ⟨hs, m, mt, cs, fo, r⟩ := R
  have hzip : ∀ y ∈ names.zip xs, fd.scope.names.lookup y.1 = some .local ∨ (fd.scope.names.lookup y.1 = some .cell ∧ ((cellsFrom (s.heap.objs.size + 1) fd.scope.names []).lookup y.1).isSome = true) := fun y hy => by
    have := H.loc _ (List.of_mem_zip hy).1
    unfold storesB at this
    rw [hsc]
    cases hkd : sc.names.lookup y.1 with
    | none => rw [hkd] at this; cases this
    | some kd =>
      rw [hkd] at this
      cases kd <;> first | (cases this; done) | exact .inl rfl | exact .inr ⟨rfl, cells_look _ _ _ (.inl (mem_of_lookup hkd))⟩
  refine wpAny_call (codeAny_call_cells (binds := names.zip xs) (by have := ok.depth; omega) (kin _ _ hK) hd (ok.top.nolimit.keeps r.frm.keep) (codeRec_of kin hcd) hb (hbind xs hx) hcl hzip (fun s₁ x => ?_) (hsc ▸ H.co) (hsc ▸ H.gen) (hsc ▸ H.kind))
  obtain ⟨oL, es, ep, hL, hLd, hLk, hLf⟩ := r.frm.ns
  have hkd : fd.scope.kind = .function := hsc ▸ H.kind
  have ok' : (f.call m s.heap.objs.size (callEnvC fd s.heap.objs.size a)).Ok c k := by
    refine ⟨ok.kin, ok.top, envs_call hkd rfl ok.envs, Around.frames_deeper ok.frames, rfl, hkd, hg, hbi, fun x hx => ?_, ok.hnd, ?_, ?_⟩
    · exact Option.isSome_iff_exists.mp (cells_look _ _ _ (.inl (mem_of_lookup hx)))
    · show f.A.depth + 1 + k + 200 < _; have := ok.depth; omega
    · show f.A.units + 3 + 8 * k + 200 < _; have := ok.units; omega
  have R' : Rel c (f.call m s.heap.objs.size (callEnvC fd s.heap.objs.size a)) (names.zip vs) st imm (cs ++ fr) s₁ := by
    refine enterAt (fo := (f.L, oL) :: fo) H hsc hcl rvs hs r.frm.keep (Nat.le_trans r.frm.above (Nat.le_of_lt r.frm.ns.lt)) (fun p hp => ?_) (nodup_count fun b => ?_) r.sto (.cons ⟨es, ep, hLd, hLk, hLf⟩ r.fos) rfl rfl x
    · have hp' : p = (f.L, oL) ∨ p ∈ whole mt cs imm fr fo := by
        simp only [List.mem_append, List.mem_cons, List.nil_append, List.not_mem_nil, false_or] at hp ⊢
        rcases hp with hp | hp | (hp | hp) | hp | hp
        · exact .inr (.inl hp)
        · exact .inr (.inr (.inr (.inl hp)))
        · exact .inr (.inr (.inl hp))
        · exact .inr (.inr (.inr (.inr (.inl hp))))
        · exact .inl hp
        · exact .inr (.inr (.inr (.inr (.inr hp))))
      rcases hp' with rfl | hp'
      · exact ⟨hL, Heap.get?_none_of_le r.frm.above⟩
      · exact ⟨(r.news p hp').1, (r.news p hp').2.2⟩
    · have nd := List.nodup_iff_count.mp r.nodup b
      simp only [List.map_append, List.map_cons, List.count_append, List.count_cons, List.map_nil, List.count_nil] at nd ⊢
      by_cases e : f.L = b
      · subst e
        have : (List.map (fun x => x.fst) (whole mt cs imm fr fo)).count f.L = 0 := List.count_eq_zero.mpr fun hm => by
          obtain ⟨p, hp, e⟩ := List.mem_map.mp hm
          exact (r.news p hp).2.1 e
        simp only [List.map_append, List.count_append] at this
        simp only [beq_self_eq_true, if_true]
        omega
      · have : (f.L == b) = false := by simpa using e
        simp only [this]
        simp only [Bool.false_eq_true, if_false]
        omega
  refine wpAny_mono (h.go _ imm (cs ++ fr) _ ok' hsc ⟨rfl, rfl, rfl⟩ R') (fun fl s' p => ?_) fun _ _ t => t.elim
  obtain ⟨fl', ρ', st', imm', i', rf, R'', h'⟩ := p
  have B := back rfl R'' r.frm r.loc i' fun p hp => (r.news p (by
    simp only [List.mem_append] at hp ⊢
    rcases hp with hp | hp
    · exact .inr (.inl hp)
    · exact .inr (.inr (.inr (.inl hp))))).2.1
  cases rf with
  | ret rv => exact ⟨_, st', imm', i', rv, B, h'⟩
  | next => exact ⟨.none, st', imm', i', .none, B, h'⟩
  | brk => exact ⟨.none, st', imm', i', .none, B, h'⟩
  | cont => exact ⟨.none, st', imm', i', .none, B, h'⟩

/-- the law itself is called -/
theorem enterLaw {a l : Addr} {name : Str} {sc : Scope} {body : List Stmt} {vals : List Value} {ns : List Int} {s : Shared} {Rr : Result → Shared → Prop} (H : FnAt c.K a [name] sc body) (hs : c.s₀ = s) (hb : c.base = s.heap) (kin : c.K.In c.base) (top : Top c.p c.loose c.mean c.mg c.mb c.base)
    (hk : 301 + k + 201 < 1000) (hl : c.base.IsList l vals.toArray) (hn : IntsAre vals ns)
    (h : WPS c k sc [(name, .scr ns)] [] body (fun fl _ _ => retV fl = .bool true) (fun _ _ _ => False))
    (hR : ∀ L m h' tk, Fr s.heap L h' m → Rr (.ok (.ret (.bool true))) { s with heap := h', toks := tk }) : codeAny c.M callerA (.call (.ref a) ⟨[.ref l], []⟩) Rr s := by
  subst hs
  obtain ⟨fo, fd, hK, hd, hbd, hsc, hg, hcl, hbi, hcd, hbind⟩ := H.ex
  rw [hb] at kin
  have hbase := hb
  have hzip : ∀ y ∈ [name].zip [Value.ref l], fd.scope.names.lookup y.1 = some .local ∨ (fd.scope.names.lookup y.1 = some .cell ∧ ((cellsFrom (c.s₀.heap.objs.size + 1) fd.scope.names []).lookup y.1).isSome = true) := fun y hy => by
    have := H.loc _ (List.of_mem_zip hy).1
    unfold storesB at this
    rw [hsc]
    cases hkd : sc.names.lookup y.1 with
    | none => rw [hkd] at this; cases this
    | some kd =>
      rw [hkd] at this
      cases kd <;> first | (cases this; done) | exact .inl rfl | exact .inr ⟨rfl, cells_look _ _ _ (.inl (mem_of_lookup hkd))⟩
  refine codeAny_call_cells (binds := [name].zip [Value.ref l]) (by decide) (kin _ _ hK) hd (hb ▸ top.nolimit) (codeRec_of kin hcd) hbd (hbind [.ref l] rfl) hcl hzip (fun s₁ x => ?_) (hsc ▸ H.co) (hsc ▸ H.gen) (hsc ▸ H.kind)
  let f : Fm := { outer := [], frs := [], L := c.s₀.heap.objs.size, fenv := callEnvC fd c.s₀.heap.objs.size a, env := callEnvC fd c.s₀.heap.objs.size a, A := callerA.deeper (callEnvC fd c.s₀.heap.objs.size a), cmp := false }
  have hkd : fd.scope.kind = .function := hsc ▸ H.kind
  have ok' : f.Ok c k := by
    refine ⟨hb ▸ kin, top, (fun e he => by rw [List.mem_singleton.mp he]; exact ⟨hkd, _, rfl, .inl rfl⟩), rfl, rfl, hkd, hg, hbi, fun x hx => ?_, fun _ => rfl, ?_, ?_⟩
    · exact Option.isSome_iff_exists.mp (cells_look _ _ _ (.inl (mem_of_lookup hx)))
    · show 1 + claimMargin + 1 + k + 200 < recursionLimit
      unfold claimMargin recursionLimit; omega
    · show 4 + 3 + 8 * k + 200 < cLine
      unfold cLine; omega
  have R' : Rel c f ([name].zip [V.scr ns]) [] [] [] s₁ :=
    enterAt (mt := []) (fo := []) H hsc hcl (.one (.scr hl hn)) ⟨_, _, rfl⟩ (fun b o e => hb ▸ e) (by rw [hb]; exact Nat.le_refl _) (fun p hp => nomatch hp) .nil .nil .nil rfl rfl x
  refine wpAny_mono (h.go f [] [] s₁ ok' hsc ⟨rfl, rfl, rfl⟩ R') (fun fl s' p => ?_) fun _ _ t => t.elim
  obtain ⟨fl', ρ', st', imm', i', rf, R'', h'⟩ := p
  obtain ⟨⟨h1, tk1, rfl⟩, m, mt, cs, fo, r⟩ := R''
  have F : Fr c.s₀.heap c.s₀.heap.objs.size h1 m := by
    have := r.frm
    rw [hb] at this
    exact this
  cases rf with
  | ret rv =>
    cases h'
    cases rv
    exact hR _ _ _ _ F
  | next => cases h'
  | brk => cases h'
  | cont => cases h'
end
end Mine
namespace Mine
section
variable {c : Cx} {k : Nat} {sc : Scope} {ρ : Loc} {st : St} {Q : V → St → Prop} {S : Fl → Loc → St → Prop} {X : Xp} {f : Fm} {imm fr : Led} {s : Shared} {tk : Nat}

/-! calls -/
def isStar : Expr → Bool
  | .Starred _ _ => true
  | _ => false
theorem star_cons {e : Expr} {es : List Expr} {env : Env} (h : isStar e = false) : starEach (e :: es) env = (false, eval e env) :: starEach es env := by
  cases e <;> first | rfl | (cases h)
theorem star_plain {es : List Expr} {env : Env} {pos : Pos} (h : es.any isStar = false) : (backTo pos (starEach es env)).any (·.1) = false := by
  induction es with
  | nil => rfl
  | cons e es ih =>
    simp only [List.any_cons, Bool.or_eq_false_iff] at h
    rw [star_cons h.1]
    have := ih h.2
    simp only [backTo, List.map_cons, List.any_cons, Bool.false_or] at this ⊢
    exact this

def callable (K : Frag) : Value → Bool
  | .builtin _ => true
  | .type _ => true
  | .ref a => keepIn K (.ref a)
  | _ => false

theorem callWithW {val : Value} {args : List Expr} {first : List Value} {vs₀ : List V} {pos : Pos} (hc : callable c.K val = true) (hp : args.any isStar = false) (ok : f.Ok c k) (hsc : f.env.scope = sc) (R : Rel c f ρ st imm fr s) (rf : RVs c.base imm vs₀ first)
    (hf0 : first = [] ∨ (∀ T, val ≠ .type T))
    (h : WPEs c k sc ρ st args (fun vs st₂ => WL c k (fun xs => call val xs) (vs₀ ++ vs) ρ st₂ Q X) X) :
    wpAny c.M f.A (callWith pos val first (backTo pos (starEach args f.env)) []) (PostE c f ρ imm fr Q) (Thrown c f imm fr X) s := by
  have K : ∀ xs s₁, PostL c f ρ imm fr args.length (fun vs st₂ => WL c k (fun xs => call val xs) (vs₀ ++ vs) ρ st₂ Q X) xs s₁ → wpAny c.M f.A (call val (first ++ xs)) (PostE c f ρ imm fr Q) (Thrown c f imm fr X) s₁ := by
    rintro xs s₁ ⟨vs, st₁, imm₁, i₁, rvs, R₁, hn, h₁⟩
    exact wpAny_mono (h₁.go f imm₁ fr s₁ (first ++ xs) ok R₁ ((rf.mono i₁).append rvs)) (fun _ _ p => p.mono i₁) fun _ _ t => t.mono i₁
  have H := h.go f imm fr s pos ok hsc R
  cases args with
  | nil =>
    have KK : wpAny c.M f.A (call val (first ++ [])) (PostE c f ρ imm fr Q) (Thrown c f imm fr X) s := by
      have e : wpAny c.M f.A (spliced (backTo pos (starEach [] f.env))) (fun xs s₁ => wpAny c.M f.A (call val (first ++ xs)) (PostE c f ρ imm fr Q) (Thrown c f imm fr X) s₁) (Thrown c f imm fr X) s :=
        wpAny_mono H (fun xs s₁ p => K xs s₁ p) fun _ _ t => t
      exact fun Γ p hΓ => e Γ p hΓ Γ p hΓ
    cases val <;> first | (cases hc; done) | skip
    · rename_i T
      rcases hf0 with rfl | hf0
      · exact callWith_type0 KK
      · exact absurd rfl (hf0 T)
    · exact callWith_method0 (by simpa using KK)
    · exact callWith_K0 (R.kin ok) hc KK
  | cons e es =>
    simp only [List.any_cons, Bool.or_eq_false_iff] at hp
    cases val <;> first | (cases hc; done) | skip
    · rename_i T
      rcases hf0 with rfl | hf0
      · exact callWith_type1 (wpAny_mono H (fun xs s₁ p => by simpa using K xs s₁ p) fun _ _ t => t) (star_cons hp.1) (star_plain hp.2)
      · exact absurd rfl (hf0 T)
    · exact callWith_method1 (wpAny_mono H (fun xs s₁ p => K xs s₁ p) fun _ _ t => t) (star_cons hp.1) (star_plain hp.2)
    · refine callWith_K ok.kin hc (wpAny_mono H (fun xs s₁ p => ⟨?_, K xs s₁ p⟩) fun _ _ t => t) (star_cons hp.1) (star_plain hp.2)
      obtain ⟨vs, st₁, imm₁, i₁, rvs, R₁, hn, h₁⟩ := p
      exact R₁.kin ok

theorem WPE.call {id : Str} {p pos : Pos} {args : List Expr}
    (h : WPE c k sc ρ st (.Name id p) (fun fv st₁ => ∃ val, fv = .stat val ∧ callable c.K val = true ∧ WPEs c k sc ρ st₁ args (fun vs st₂ => WL c k (fun xs => call val xs) vs ρ st₂ Q X) X) X)
    (hp : args.any isStar = false := by rfl) : WPE c k sc ρ st (.Call (.Name id p) args [] pos) Q X := by
  refine ⟨fun f imm fr s ok hsc R => ?_⟩
  refine wpAny_Call_NameR (wpAny_mono (h.go f imm fr s ok hsc R) (fun x s₁ q => ?_) fun _ _ t => t)
  obtain ⟨v, st₁, imm₁, i₁, rv, R₁, val, rfl, hc, h₁⟩ := q
  cases rv
  exact wpAny_mono (callWithW (vs₀ := []) hc hp ok hsc R₁ .nil (.inl rfl) h₁) (fun _ _ p => p.mono i₁) fun _ _ t => t.mono i₁

/-! isinstance of the plain types -/
def typV (st : St) : V → Option String
  | .none => some "NoneType"
  | .bool _ => some "bool"
  | .int _ => some "int"
  | .str _ => some "str"
  | .tup _ => some "tuple"
  | .scr _ => some "list"
  | .ref a => match get st a with
    | some (.list _) => some "list"
    | some (.dictI _) => some "dict"
    | some (.dictS _) => some "dict"
    | _ => none
  | _ => none
def isi (T U : String) : Bool := T == U || (T == "bool" && U == "int")

theorem typV_ref {a : Addr} {T : String} (R : Rel c f ρ st imm fr s) (ht : typV st (.ref a) = some T) : (T = "list" ∨ T = "dict") ∧ ∃ o, s.heap.get? a = some o ∧ o.cls = .type T := by
  simp only [typV] at ht
  cases hg : get st a with
  | none => rw [hg] at ht; cases ht
  | some o =>
    rw [hg] at ht
    obtain ⟨co, hr, ho⟩ := R.get hg
    cases hr with
    | list r => cases ht; exact ⟨.inl rfl, _, ho, rfl⟩
    | dictI r d => cases ht; exact ⟨.inr rfl, _, ho, d.1.1⟩
    | dictS r d => cases ht; exact ⟨.inr rfl, _, ho, d.1.1⟩
    | inst C d => cases ht

def isiTypes : List String := ["int", "bool", "str", "tuple", "list"]
open IsiPair in
theorem WL.isinstance {v : V} {T U : String} (ht : typV st v = some T) (hu : isiTypes.contains U = true) (h : Q (.bool (isi T U)) st) : WL c k (fun xs => call (.builtin "isinstance") xs) [v, .stat (.type U)] ρ st Q X := by
  refine ⟨fun f imm fr s xs ok R rvs => ?_⟩
  cases rvs with
  | cons rv rvs =>
  cases rvs with
  | cons ru rvs =>
  cases rvs
  cases ru
  have P : ∀ b, isi T U = b → PostE c f ρ imm fr Q (.bool b) s := fun b e => .bool R (e ▸ h)
  have P' : ∀ b tk, isi T U = b → PostE c f ρ imm fr Q (.bool b) { s with toks := tk } := fun b tk e => .bool R.toks (e ▸ h)
  have hu' : U = "int" ∨ U = "bool" ∨ U = "str" ∨ U = "tuple" ∨ U = "list" := by
    simpa [isiTypes] using hu
  cases rv with
  | none => cases ht; rcases hu' with rfl | rfl | rfl | rfl | rfl <;> first | exact NoneType_int (P' _ _ rfl) | exact NoneType_bool (P' _ _ rfl) | exact NoneType_str (P' _ _ rfl) | exact NoneType_tuple (P' _ _ rfl) | exact NoneType_list (P' _ _ rfl)
  | bool b => cases ht; rcases hu' with rfl | rfl | rfl | rfl | rfl <;> first | exact bool_int (P _ rfl) | exact bool_bool (P _ rfl) | exact bool_str (P' _ _ rfl) | exact bool_tuple (P' _ _ rfl) | exact bool_list (P' _ _ rfl)
  | int i t => cases ht; rcases hu' with rfl | rfl | rfl | rfl | rfl <;> first | exact int_int (P _ rfl) | exact int_bool (P' _ _ rfl) | exact int_str (P' _ _ rfl) | exact int_tuple (P' _ _ rfl) | exact int_list (P' _ _ rfl)
  | str x t => cases ht; rcases hu' with rfl | rfl | rfl | rfl | rfl <;> first | exact str_int (P' _ _ rfl) | exact str_bool (P' _ _ rfl) | exact str_str (P _ rfl) | exact str_tuple (P' _ _ rfl) | exact str_list (P' _ _ rfl)
  | tup hm r =>
    cases ht
    have hg := R.inImm hm
    rcases hu' with rfl | rfl | rfl | rfl | rfl <;> first | exact tuple_int hg rfl (P' _ _ rfl) | exact tuple_bool hg rfl (P' _ _ rfl) | exact tuple_str hg rfl (P' _ _ rfl) | exact tuple_tuple hg rfl (P _ rfl) | exact tuple_list hg rfl (P' _ _ rfl)
  | scr hl hi =>
    cases ht
    obtain ⟨o, ho, hc, n, hd⟩ := hl
    have hg := R.keep _ _ ho
    rcases hu' with rfl | rfl | rfl | rfl | rfl <;> first | exact list_int hg hc (P' _ _ rfl) | exact list_bool hg hc (P' _ _ rfl) | exact list_str hg hc (P' _ _ rfl) | exact list_tuple hg hc (P' _ _ rfl) | exact list_list hg hc (P _ rfl)
  | ref a =>
    obtain ⟨hT, o, hg, hc⟩ := typV_ref R ht
    rcases hT with rfl | rfl
    · rcases hu' with rfl | rfl | rfl | rfl | rfl <;> first | exact list_int hg hc (P' _ _ rfl) | exact list_bool hg hc (P' _ _ rfl) | exact list_str hg hc (P' _ _ rfl) | exact list_tuple hg hc (P' _ _ rfl) | exact list_list hg hc (P _ rfl)
    · rcases hu' with rfl | rfl | rfl | rfl | rfl <;> first | exact dict_int hg hc (P' _ _ rfl) | exact dict_bool hg hc (P' _ _ rfl) | exact dict_str hg hc (P' _ _ rfl) | exact dict_tuple hg hc (P' _ _ rfl) | exact dict_list hg hc (P' _ _ rfl)
  | rng _ => cases ht
  | stat _ => cases ht

/-! len -/
theorem IntsAre.len {vals : List Value} {ns : List Int} (h : IntsAre vals ns) : vals.length = ns.length := h.length
theorem WL.lenTup {vs : List V} (hl : (vs.length : Int) < 2 ^ 63) (h : Q (.int vs.length) st) : WL c k (fun xs => call (.builtin "len") xs) [.tup vs] ρ st Q X := by
  refine ⟨fun f imm fr s xs ok R rvs => ?_⟩
  cases rvs with
  | cons rv rvs =>
  cases rvs
  cases rv with
  | tup hm r =>
    have e := r.length
    refine PyProof.Rows.len_tuple (items := _) ⟨_, R.inImm hm, rfl, _, rfl⟩ (by simpa [e] using hl) ?_
    simp only [List.size_toArray, e]
    exact .int R h
theorem WL.lenList {a : Addr} {vs : List V} (hg : get st a = some (.list vs)) (hl : (vs.length : Int) < 2 ^ 63) (h : Q (.int vs.length) st) : WL c k (fun xs => call (.builtin "len") xs) [.ref a] ρ st Q X := by
  refine ⟨fun f imm fr s xs ok R rvs => ?_⟩
  cases rvs with
  | cons rv rvs =>
  cases rvs
  cases rv with
  | ref =>
    obtain ⟨co, hr, ho⟩ := R.get hg
    cases hr with
    | list r =>
      have e := r.length
      refine PyProof.Rows.len_list (items := _) ⟨_, ho, rfl, _, rfl⟩ (by simpa [e] using hl) ?_
      simp only [List.size_toArray, e]
      exact .int R h
theorem WL.lenScr {ns : List Int} (hl : (ns.length : Int) < 2 ^ 63) (h : Q (.int ns.length) st) : WL c k (fun xs => call (.builtin "len") xs) [.scr ns] ρ st Q X := by
  refine ⟨fun f imm fr s xs ok R rvs => ?_⟩
  cases rvs with
  | cons rv rvs =>
  cases rvs
  cases rv with
  | scr hi hn =>
    have e := hn.length
    refine PyProof.Rows.len_list (items := _) (hi.at fun o e => R.keep _ _ e) (by simpa [e] using hl) ?_
    simp only [List.size_toArray, e]
    exact .int R h
end
end Mine
namespace Mine
section
variable {c : Cx} {k : Nat} {sc : Scope} {ρ : Loc} {st : St} {Q : V → St → Prop} {S : Fl → Loc → St → Prop} {X : Xp} {f : Fm} {imm fr : Led} {s : Shared} {tk : Nat}

/-! subscripts -/
def isSl : Expr → Bool
  | .Slice .. => true
  | _ => false
theorem sub_plain {e : Expr} (h : isSl e = false) (o i : Value) : subscripted e false o i = operate [o, i] (getItem o i) := by
  cases e <;> first | rfl | (cases h)
theorem WPE.sub {e i : Expr} {pos : Pos} (h : WPE c k sc ρ st e (fun a st₁ => WPE c k sc ρ st₁ i (fun b st₂ => W2 c k (subscriptTail e i) a b ρ st₂ Q X) X) X) : WPE c k sc ρ st (.Subscript e i pos) Q X := by
  refine ⟨fun f imm fr s ok hsc R => ?_⟩
  refine Subscript_ (wpAny_mono (h.go f imm fr s ok hsc R) (fun x s₁ p => ?_) fun _ _ t => t)
  obtain ⟨a, st₁, imm₁, i₁, ra, R₁, h₁⟩ := p
  refine wpAny_mono (h₁.go f imm₁ fr s₁ ok hsc R₁) (fun y s₂ p => ?_) fun _ _ t => t.mono i₁
  obtain ⟨b, st₂, imm₂, i₂, rb, R₂, h₂⟩ := p
  exact wpAny_mono (h₂.go f imm₂ fr s₂ x y ok R₂ (ra.mono i₂) rb) (fun _ _ p => p.mono fun q hq => i₂ q (i₁ q hq)) fun _ _ t => t.mono fun q hq => i₂ q (i₁ q hq)

theorem seqIndex_lt {i : Int} {n j : Nat} (h : seqIndex? i n = some j) : -(n : Int) ≤ i ∧ i < n ∧ j < n ∧ (0 ≤ i → j = i.toNat) ∧ (i < 0 → j = (i + n).toNat) := by
  unfold seqIndex? at h
  dsimp only at h
  by_cases hi : i < 0
  · simp only [if_pos hi] at h
    by_cases hq : 0 ≤ i + (n : Int) ∧ i + (n : Int) < n
    · simp only [hq, decide_true, Bool.and_self, if_true, Option.some.injEq] at h
      subst h
      refine ⟨by omega, by omega, by omega, by omega, fun _ => rfl⟩
    · have : (decide (0 ≤ i + (n : Int)) && decide (i + (n : Int) < n)) = false := by
        rw [Bool.and_eq_false_iff]
        by_cases h1 : 0 ≤ i + (n : Int)
        · right; exact decide_eq_false fun h2 => hq ⟨h1, h2⟩
        · left; exact decide_eq_false h1
      rw [this] at h; cases h
  · simp only [if_neg hi] at h
    by_cases hq : 0 ≤ i ∧ i < (n : Int)
    · simp only [hq, decide_true, Bool.and_self, if_true, Option.some.injEq] at h
      subst h
      refine ⟨by omega, by omega, by omega, fun _ => rfl, by omega⟩
    · have : (decide (0 ≤ i) && decide (i < (n : Int))) = false := by
        rw [Bool.and_eq_false_iff]
        by_cases h1 : 0 ≤ i
        · right; exact decide_eq_false fun h2 => hq ⟨h1, h2⟩
        · left; exact decide_eq_false h1
      rw [this] at h; cases h

theorem W2.subTup {e ie : Expr} {vs : List V} {i : Int} {j : Nat} {v : V} (hs : isSl ie = false) (hl : (vs.length : Int) < 2 ^ 63) (hj : seqIndex? i vs.length = some j) (hv : vs[j]? = some v) (h : Q v st) : W2 c k (subscriptTail e ie) (.tup vs) (.int i) ρ st Q X := by
  refine ⟨fun f imm fr s x y ok R ra rb => ?_⟩
  cases rb with
  | int =>
  cases ra with
  | tup hm r =>
    obtain ⟨x, hx, rx⟩ := r.get hv
    have q := seqIndex_lt hj
    exact item_tupleT ⟨_, R.inImm hm, rfl, _, rfl⟩ (by omega) (by omega) (by rw [r.length]; exact hj) hx (.of rx R h) (sub_plain hs _ _)
theorem getItem_listJ {prog : Program} {w : World} {A : Around} {E : Value → Shared → Prop} {P : Value → Shared → Prop} {a : Addr} {items : Array Value} {i : Int} {t : Tok} {j : Nat} {x : Value} (hl : s.heap.IsList a items) (hb : (items.size : Int) < 2 ^ 63) (hj : seqIndex? i items.size = some j) (hx : items[j]? = some x) (h : P x s) :
    wpAny (model prog w) A (getItem (.ref a) (.int i t)) P E s := by
  have q := seqIndex_lt hj
  by_cases h0 : 0 ≤ i
  · exact wpAny_getItem_list hl h0 (by omega) (by rw [← q.2.2.2.1 h0]; exact hx) h
  · exact wpAny_getItem_list_neg hl (by omega) (by omega) (by omega) (by rw [← q.2.2.2.2 (by omega)]; exact hx) h
theorem W2.subList {e ie : Expr} {a : Addr} {vs : List V} {i : Int} {j : Nat} {v : V} (hg : get st a = some (.list vs)) (hs : isSl ie = false) (hl : (vs.length : Int) < 2 ^ 63) (hj : seqIndex? i vs.length = some j) (hv : vs[j]? = some v) (h : Q v st) : W2 c k (subscriptTail e ie) (.ref a) (.int i) ρ st Q X := by
  refine ⟨fun f imm fr s x y ok R ra rb => ?_⟩
  cases rb with
  | int =>
  cases ra with
  | ref =>
    obtain ⟨co, hr, ho⟩ := R.get hg
    cases hr with
    | list r =>
      obtain ⟨x, hx, rx⟩ := r.get hv
      have hL : s.heap.IsList a _ := ⟨_, ho, rfl, _, rfl⟩
      exact tail_any hL.typeIs slot_list_getitem.lookup (getItem_listJ hL (by simpa [r.length] using hl) (by simpa [r.length] using hj) (by simpa using hx) (.of rx R h)) (sub_plain hs _ _)
theorem IntsAre.at {vals : List Value} {ns : List Int} (h : IntsAre vals ns) {j : Nat} {n : Int} (e : ns[j]? = some n) : ∃ t, vals[j]? = some (.int n t) := h.get j n e
theorem W2.subScr {e ie : Expr} {ns : List Int} {i : Int} {j : Nat} {n : Int} (hs : isSl ie = false) (hl : (ns.length : Int) < 2 ^ 63) (hj : seqIndex? i ns.length = some j) (hv : ns[j]? = some n) (h : Q (.int n) st) : W2 c k (subscriptTail e ie) (.scr ns) (.int i) ρ st Q X := by
  refine ⟨fun f imm fr s x y ok R ra rb => ?_⟩
  cases rb with
  | int =>
  cases ra with
  | scr hi hn =>
    obtain ⟨t, hx⟩ := hn.get j n hv
    have hL := hi.at fun o e => R.keep _ _ e
    exact tail_any hL.typeIs slot_list_getitem.lookup (getItem_listJ hL (by simpa [hn.length] using hl) (by simpa [hn.length] using hj) (by simpa using hx) (.of (.int _ _) R h)) (sub_plain hs _ _)

/-! data: what a value reads as -/
mutual
inductive Dat (st : St) : V → PyData → Prop
  | none : Dat st .none .none
  | bool (b : Bool) : Dat st (.bool b) (.bool b)
  | int (i : Int) : Dat st (.int i) (.int i)
  | str (x : Str) : Dat st (.str x) (.str x)
  | tup {vs : List V} {ds : List PyData} : Dats st vs ds → Dat st (.tup vs) (.tuple ds)
  | list {a : Addr} {vs : List V} {ds : List PyData} : get st a = some (.list vs) → Dats st vs ds → Dat st (.ref a) (.list ds)
inductive Dats (st : St) : List V → List PyData → Prop
  | nil : Dats st [] []
  | cons {v : V} {vs : List V} {d : PyData} {ds : List PyData} : Dat st v d → Dats st vs ds → Dats st (v :: vs) (d :: ds)
end
mutual
theorem Dat.reads (R : Rel c f ρ st imm fr s) : ∀ {v : V} {d : PyData} {x : Value}, Dat st v d → RV c.base imm v x → ∃ as, Reads s.heap x d as
  | _, _, _, .none, .none => ⟨_, .none⟩
  | _, _, _, .bool b, .bool _ => ⟨_, .bool b⟩
  | _, _, _, .int i, .int _ t => ⟨_, .int i t⟩
  | _, _, _, .str x, .str _ t => ⟨_, .str x t⟩
  | _, _, _, .tup h, .tup hm r => by
    obtain ⟨as, q⟩ := Dats.reads R h r
    exact ⟨as, .tuple (R.inImm hm) rfl rfl (by simpa using q)⟩
  | _, _, _, .list hg h, .ref _ => by
    obtain ⟨co, hr, ho⟩ := R.get hg
    cases hr with
    | list r =>
      obtain ⟨as, q⟩ := Dats.reads R h r
      exact ⟨_, .list ho rfl rfl (by simpa using q)⟩
theorem Dats.reads (R : Rel c f ρ st imm fr s) : ∀ {vs : List V} {ds : List PyData} {xs : List Value}, Dats st vs ds → RVs c.base imm vs xs → ∃ as, ReadsAll s.heap xs ds as
  | _, _, _, .nil, .nil => ⟨_, .nil⟩
  | _, _, _, .cons h hs, .cons r rs => by
    obtain ⟨as, q⟩ := Dat.reads R h r
    obtain ⟨bs, p⟩ := Dats.reads R hs rs
    exact ⟨_, .cons q p⟩
end
theorem W2.eq {a b : V} {da db : PyData} (ha : Dat st a da) (hb : Dat st b db) (sa : SeqAt.shaped da = true) (sb : SeqAt.shaped db = true) (h : Q (.bool (PyData.eqv da db)) st) : W2 c k (compareOp .Eq) a b ρ st Q X := by
  refine ⟨fun f imm fr s x y ok R ra rb => ?_⟩
  obtain ⟨as, r1⟩ := ha.reads R ra
  obtain ⟨bs, r2⟩ := hb.reads R rb
  exact eq_dataH r1 r2 sa sb (by have := ok.units; omega) (.bool R h)
theorem W2.ne {a b : V} {da db : PyData} (ha : Dat st a da) (hb : Dat st b db) (sa : SeqAt.shaped da = true) (sb : SeqAt.shaped db = true) (h : Q (.bool (!PyData.eqv da db)) st) : W2 c k (compareOp .NotEq) a b ρ st Q X := by
  refine ⟨fun f imm fr s x y ok R ra rb => ?_⟩
  obtain ⟨as, r1⟩ := ha.reads R ra
  obtain ⟨bs, r2⟩ := hb.reads R rb
  exact ne_dataH r1 r2 sa sb (by have := ok.units; omega) (.bool R h)
theorem W2.inTup {a : V} {vs : List V} {da : PyData} {ds : List PyData} (ha : Dat st a da) (hb : Dats st vs ds) (sa : da.canLay0 = true) (sb : PyData.canLayAll0 ds = true) (hd : da.depth ≤ 100) (h : Q (.bool (ds.any fun y => PyData.eqv y da)) st) : W2 c k (compareOp .In) a (.tup vs) ρ st Q X := by
  refine ⟨fun f imm fr s x y ok R ra rb => ?_⟩
  obtain ⟨as, r1⟩ := ha.reads R ra
  obtain ⟨bs, r2⟩ := (Dat.tup hb).reads R rb
  exact SeqAt.in_tuple_reads r2 r1 sb sa (by have := ok.units; have := Nat.min_le_right (PyData.depthAll ds) da.depth; omega) (.bool R h)
theorem W2.inList {a : V} {l : Addr} {vs : List V} {da : PyData} {ds : List PyData} (hg : get st l = some (.list vs)) (ha : Dat st a da) (hb : Dats st vs ds) (sa : da.canLay0 = true) (sb : PyData.canLayAll0 ds = true) (hd : da.depth ≤ 100) (h : Q (.bool (ds.any fun y => PyData.eqv y da)) st) : W2 c k (compareOp .In) a (.ref l) ρ st Q X := by
  refine ⟨fun f imm fr s x y ok R ra rb => ?_⟩
  obtain ⟨as, r1⟩ := ha.reads R ra
  obtain ⟨bs, r2⟩ := (Dat.list hg hb).reads R rb
  exact SeqAt.in_list_reads r2 r1 sb sa (by have := ok.units; have := Nat.min_le_right (PyData.depthAll ds) da.depth; omega) (.bool R h)
theorem W2.notInList {a : V} {l : Addr} {vs : List V} {da : PyData} {ds : List PyData} (hg : get st l = some (.list vs)) (ha : Dat st a da) (hb : Dats st vs ds) (sa : da.canLay0 = true) (sb : PyData.canLayAll0 ds = true) (hd : da.depth ≤ 100) (h : Q (.bool (!(ds.any fun y => PyData.eqv y da))) st) : W2 c k (compareOp .NotIn) a (.ref l) ρ st Q X := by
  refine ⟨fun f imm fr s x y ok R ra rb => ?_⟩
  obtain ⟨as, r1⟩ := ha.reads R ra
  obtain ⟨bs, r2⟩ := (Dat.list hg hb).reads R rb
  exact SeqAt.notIn_list_reads r2 r1 sb sa (by have := ok.units; have := Nat.min_le_right (PyData.depthAll ds) da.depth; omega) (.bool R h)

/-! lists glued -/
theorem W2.addList {a b : Addr} {vs ws : List V} (ha : get st a = some (.list vs)) (hb : get st b = some (.list ws)) (hl : vs.length + ws.length ≤ sizeLine) (h : ∀ l, get st l = none → Q (.ref l) ((l, .list (vs ++ ws)) :: st)) : W2 c k (binaryOp .Add) (.ref a) (.ref b) ρ st Q X := by
  refine ⟨fun f imm fr s x y ok R ra rb => ?_⟩
  cases ra with
  | ref =>
  cases rb with
  | ref =>
    obtain ⟨co, hr, ho⟩ := R.get ha
    obtain ⟨co', hr', ho'⟩ := R.get hb
    cases hr with
    | list r =>
    cases hr' with
    | list r' =>
      have fr0 := R.none
      obtain ⟨⟨h0, tk0, rfl⟩, m, mt, cs, fo, rr⟩ := id R
      refine add_arrays rr.frm rr.news ⟨_, ho, rfl, _, rfl⟩ ⟨_, ho', rfl, _, rfl⟩ (fun h' F' N' => ?_) (by simpa [r.length, r'.length] using hl)
      refine ⟨_, _, imm, fun _ h => h, .ref _, ⟨⟨h', tk0, rfl⟩, m, _ :: mt, cs, fo, F', N', ?_, .cons (.list (vals := _ ++ _) (n := 0) (by simpa using r.append r')) rr.sto, rr.fos, rr.loc⟩, h _ fr0⟩
      rw [show (whole ((h0.objs.size, _) :: mt) cs imm fr fo) = (h0.objs.size, _) :: whole mt cs imm fr fo from rfl, List.map_cons, List.nodup_cons]
      refine ⟨fun hm => ?_, rr.nodup⟩
      obtain ⟨p, hp, e⟩ := List.mem_map.mp hm
      exact absurd (rr.size p hp) (by rw [e]; exact Nat.lt_irrefl _)
end
end Mine
namespace Mine
def fdOf (K : Frag) (a : Addr) : Option FuncData := match K.lookup a with
  | some ⟨_, _, .func fd, _⟩ => some fd
  | _ => none
def scOf (K : Frag) (a : Addr) : Scope := match fdOf K a with
  | some fd => fd.scope
  | none => { kind := .module, names := [], isGenerator := false, isCoroutine := false, more := [] }
def bodyOf (K : Frag) (a : Addr) : List Stmt := match fdOf K a with
  | some fd => (match fd.body with | .stmts b => b | _ => [])
  | none => []

section
variable {c : Cx} {k : Nat} {sc : Scope} {ρ : Loc} {st : St} {Q : V → St → Prop} {S : Fl → Loc → St → Prop} {X : Xp}

theorem WPE.globR {x : Str} {pos : Pos} {a : Addr} (hx : sc.names.lookup x = some .globalImplicit) (e : nsIn c.K mainGlobals x = some (some (.ref a))) (h : Q (.stat (.ref a)) st)
    (hd : (x == ("__debug__" : Str)) = false := by decide) : WPE c k sc ρ st (.Name x pos) Q X := WPE.glob hx e (fun _ _ => .stat _) h hd
theorem WPE.globI {x : Str} {pos : Pos} {i : Int} {t : Tok} (hx : sc.names.lookup x = some .globalImplicit) (e : nsIn c.K mainGlobals x = some (some (.int i t))) (h : Q (.int i) st)
    (hd : (x == ("__debug__" : Str)) = false := by decide) : WPE c k sc ρ st (.Name x pos) Q X := WPE.glob hx e (fun _ _ => .int _ _) h hd
theorem WPE.callF {id : Str} {p pos : Pos} {args : List Expr} {a : Addr} (hx : sc.names.lookup id = some .globalImplicit) (e : nsIn c.K mainGlobals id = some (some (.ref a))) (hk : keepIn c.K (.ref a) = true)
    (h : WPEs c k sc ρ st args (fun vs st₂ => WL c k (fun xs => PySem.call (.ref a) xs) vs ρ st₂ Q X) X)
    (hp : args.any isStar = false := by rfl) (hd : (id == ("__debug__" : Str)) = false := by decide) : WPE c k sc ρ st (.Call (.Name id p) args [] pos) Q X :=
  WPE.call (WPE.globR hx e ⟨_, rfl, hk, h⟩ hd) hp
theorem WPE.callB {id : Str} {p pos : Pos} {args : List Expr} {b : String} (hx : sc.names.lookup id = some .globalImplicit) (e : nsIn c.K mainGlobals id = some none) (hv : bootBuiltins id = some (.builtin b))
    (h : WPEs c k sc ρ st args (fun vs st₂ => WL c k (fun xs => PySem.call (.builtin b) xs) vs ρ st₂ Q X) X)
    (hp : args.any isStar = false := by rfl) (hn : id ≠ "__name__" := by decide) (hd : (id == ("__debug__" : Str)) = false := by decide) : WPE c k sc ρ st (.Call (.Name id p) args [] pos) Q X :=
  WPE.call (WPE.blt hx e hv ⟨_, rfl, rfl, h⟩ hn hd) hp
theorem WPE.callT {id : Str} {p pos : Pos} {args : List Expr} {b : String} (hx : sc.names.lookup id = some .globalImplicit) (e : nsIn c.K mainGlobals id = some none) (hv : bootBuiltins id = some (.type b))
    (h : WPEs c k sc ρ st args (fun vs st₂ => WL c k (fun xs => PySem.call (.type b) xs) vs ρ st₂ Q X) X)
    (hp : args.any isStar = false := by rfl) (hn : id ≠ "__name__" := by decide) (hd : (id == ("__debug__" : Str)) = false := by decide) : WPE c k sc ρ st (.Call (.Name id p) args [] pos) Q X :=
  WPE.call (WPE.blt hx e hv ⟨_, rfl, rfl, h⟩ hn hd) hp
theorem WPE.bltT {x : Str} {pos : Pos} {b : String} (hx : sc.names.lookup x = some .globalImplicit) (e : nsIn c.K mainGlobals x = some none) (hv : bootBuiltins x = some (.type b)) (h : Q (.stat (.type b)) st)
    (hn : x ≠ "__name__" := by decide) (hd : (x == ("__debug__" : Str)) = false := by decide) : WPE c k sc ρ st (.Name x pos) Q X := WPE.blt hx e hv h hn hd
end
end Mine
namespace Mine
def namesIn : List Expr → Option (List Str)
  | [] => some []
  | .Name n _ :: r => (namesIn r).map (n :: ·)
  | _ :: _ => none
def setAll : Loc → List Str → List V → Loc
  | ρ, n :: ns, v :: vs => setAll (setL ρ n v) ns vs
  | ρ, _, _ => ρ

section
variable {c : Cx} {k : Nat} {sc : Scope} {ρ : Loc} {st : St} {Q : V → St → Prop} {S : Fl → Loc → St → Prop} {X : Xp} {f : Fm} {imm fr : Led} {s : Shared} {tk : Nat}

theorem assignEach_names {env : Env} : ∀ {es : List Expr} {ns : List Str}, namesIn es = some ns → (assignEach es env).length = ns.length ∧ (assignEach es env).findIdx? (·.1) = none
  | [], ns, h => by cases h; exact ⟨rfl, rfl⟩
  | .Name n p :: r, ns, h => by
    simp only [namesIn, Option.map_eq_some_iff] at h
    obtain ⟨ns', h', rfl⟩ := h
    obtain ⟨h1, h2⟩ := assignEach_names (env := env) h'
    have e : assignEach (.Name n p :: r) env = (false, assign (.Name n p) env) :: assignEach r env := rfl
    rw [e]
    refine ⟨by simp [h1], ?_⟩
    rw [List.findIdx?_cons, h2]; rfl
  | .BoolOp .. :: _, _, h => by cases h
  | .NamedExpr .. :: _, _, h => by cases h
  | .BinOp .. :: _, _, h => by cases h
  | .UnaryOp .. :: _, _, h => by cases h
  | .Lambda .. :: _, _, h => by cases h
  | .IfExp .. :: _, _, h => by cases h
  | .Dict .. :: _, _, h => by cases h
  | .Set .. :: _, _, h => by cases h
  | .ListComp .. :: _, _, h => by cases h
  | .SetComp .. :: _, _, h => by cases h
  | .DictComp .. :: _, _, h => by cases h
  | .GeneratorExp .. :: _, _, h => by cases h
  | .Await .. :: _, _, h => by cases h
  | .Yield .. :: _, _, h => by cases h
  | .YieldFrom .. :: _, _, h => by cases h
  | .Compare .. :: _, _, h => by cases h
  | .Call .. :: _, _, h => by cases h
  | .FormattedValue .. :: _, _, h => by cases h
  | .JoinedStr .. :: _, _, h => by cases h
  | .Constant .. :: _, _, h => by cases h
  | .Attribute .. :: _, _, h => by cases h
  | .Subscript .. :: _, _, h => by cases h
  | .Starred .. :: _, _, h => by cases h
  | .List .. :: _, _, h => by cases h
  | .Tuple .. :: _, _, h => by cases h
  | .Slice .. :: _, _, h => by cases h

theorem assign_names {P : Unit → Shared → Prop} {E : Value → Shared → Prop} (ok : f.Ok c k) (own : f.Own) : ∀ {es : List Expr} {ns : List Str} {vs : List V} {xs : List Value} {ρ : Loc} {s : Shared}, namesIn es = some ns → ns.all (storesB f.env.scope) = true → vs.length = ns.length → RVs c.base imm vs xs → Rel c f ρ st imm fr s →
    (∀ s', Rel c f (setAll ρ ns vs) st imm fr s' → P () s') → wpAny c.M f.A (assignInOrder ((assignEach es f.env).map (·.2)) xs) P E s := by
  intro es
  induction es with
  | nil =>
    intro ns vs xs ρ s h _ hl r R k
    cases h
    cases vs with
    | nil => cases r; exact wpAny_assignInOrder_none (k s R)
    | cons => simp at hl
  | cons e es ih =>
    intro ns vs xs ρ s h hs hl r R hk
    cases e <;> first | (cases h; done) | skip
    rename_i n p
    simp only [namesIn, Option.map_eq_some_iff] at h
    obtain ⟨ns', h', rfl⟩ := h
    cases r with
    | nil => simp at hl
    | cons rv rvs =>
      simp only [List.all_cons, Bool.and_eq_true] at hs
      show wpAny c.M f.A (assignInOrder (assign (.Name n p) f.env :: (assignEach es f.env).map (·.2)) (_ :: _)) P E s
      refine wpAny_assignInOrder_more (wpAny_assign_Name ?_)
      exact store ok own R hs.1 rv fun s' R' => ih h' hs.2 (by simpa using hl) rvs R' hk

theorem WPs.unpack {es : List Expr} {n : Nat} {tp pos : Pos} {e : Expr} {ns : List Str} (hq : c.q = true) (hn : namesIn es = some ns) (hst : ns.all (storesB sc) = true)
    (h : WPE c k sc ρ st e (fun v st₁ => ∃ vs, v = .tup vs ∧ vs.length = ns.length ∧ S .next (setAll ρ ns vs) st₁) X)
    (hs : ∀ env, swapsWithSole [.Tuple es n tp] e pos.line env = pure false := by intro _; rfl) (hw : ∀ env, swappedStores [.Tuple es n tp] e env = pure none := by intro _; rfl) : WPs c k sc ρ st (.Assign [.Tuple es n tp] e pos) S X := by
  refine ⟨fun f imm fr s ok hsc own R => ?_⟩
  refine Assign_Tuple (wpAny_mono (h.go f imm fr s ok hsc R) (fun x s₁ p => ?_) fun _ _ t => t) (hs _) (hw _)
  obtain ⟨v, st₁, imm₁, i₁, rv, R₁, vs, rfl, hl, h₁⟩ := p
  cases rv with
  | tup hm r =>
    have hA := assignEach_names (env := f.env) hn
    refine wpAny_assign_Tuple (ok.hnd hq) ⟨_, R₁.inImm hm, rfl, _, rfl⟩ (by rw [hA.1]; simp [r.length, hl]) hA.2 (fun h' hx => ?_)
    have R₂ : Rel c f ρ st₁ imm₁ fr { s₁ with heap := h' } := R₁.keeps (tk := s₁.toks) fun b o e => hx b o (Nat.ne_of_lt (Heap.lt_size e)) e
    exact assign_names ok own hn (hsc ▸ hst) hl (by simpa using r) R₂ fun s' R' => ⟨.next, _, st₁, imm₁, i₁, .next, R', h₁⟩

theorem RVs.strs {base : Heap} {imm : Led} : ∀ {ys : List Str} {xs : List Value}, RVs base imm (ys.map V.str) xs → StrsAre xs ys
  | [], _, .nil => .nil
  | y :: ys, _, .cons (.str _ t) r => .cons y t (RVs.strs r)
theorem W2.inStrs {a : Str} {ys : List Str} {vs : List V} (hv : vs = ys.map V.str) (h : Q (.bool (ys.any (· == a))) st) : W2 c k (compareOp .In) (.str a) (.tup vs) ρ st Q X := by
  subst hv
  refine ⟨fun f imm fr s x y ok R ra rb => ?_⟩
  cases ra with
  | str =>
  cases rb with
  | tup hm r => exact in_tuple_strs ⟨_, R.inImm hm, rfl, _, rfl⟩ (by simpa using RVs.strs r) (.bool R h)
theorem W2.notInStrs {a : Str} {ys : List Str} {vs : List V} (hv : vs = ys.map V.str) (h : Q (.bool (!(ys.any (· == a)))) st) : W2 c k (compareOp .NotIn) (.str a) (.tup vs) ρ st Q X := by
  subst hv
  refine ⟨fun f imm fr s x y ok R ra rb => ?_⟩
  cases ra with
  | str =>
  cases rb with
  | tup hm r => exact notin_tuple_strs ⟨_, R.inImm hm, rfl, _, rfl⟩ (by simpa using RVs.strs r) (.bool R h)
theorem W2.neS {a b : Str} (h : Q (.bool (a != b)) st) : W2 c k (compareOp .NotEq) (.str a) (.str b) ρ st Q X := by
  refine ⟨fun f imm fr s x y ok R ra rb => ?_⟩
  cases ra; cases rb
  exact PyProof.Rows.ne_str (.bool R h)
/-- weaker ends -/
theorem WL.mono {t : List Value → Sem Value} {vs : List V} {Q' : V → St → Prop} (h : WL c k t vs ρ st Q X) (hq : ∀ v st', Q v st' → Q' v st') : WL c k t vs ρ st Q' X :=
  ⟨fun f imm fr s xs ok R rvs => wpAny_mono (h.go f imm fr s xs ok R rvs) (fun _ _ ⟨v, st, imm', a, b, r, q⟩ => ⟨v, st, imm', a, b, r, hq _ _ q⟩) fun _ _ t => t⟩
theorem Fm.Ok.le {k' : Nat} (ok : f.Ok c k) (h : k' ≤ k) : f.Ok c k' := { ok with depth := by have := ok.depth; omega, units := by have := ok.units; omega }
theorem WL.le {t : List Value → Sem Value} {vs : List V} {k' : Nat} (h : WL c k' t vs ρ st Q X) (hk : k' ≤ k) : WL c k t vs ρ st Q X :=
  ⟨fun f imm fr s xs ok R rvs => h.go f imm fr s xs (ok.le hk) R rvs⟩

abbrev CF (c : Cx) (k : Nat) (a : Addr) (vs : List V) (ρ : Loc) (st : St) (Q : V → St → Prop) (X : Xp) : Prop := WL c k (fun xs => PySem.call (.ref a) xs) vs ρ st Q X
theorem seqIndex_pos {i : Int} {n : Nat} (h0 : 0 ≤ i) (h1 : i < n) : seqIndex? i n = some i.toNat := by
  unfold seqIndex?
  have h : ¬ i < 0 := by omega
  simp [h, h0, h1]
theorem seqIndex_neg {i : Int} {n : Nat} (h0 : i < 0) (h1 : -(n : Int) ≤ i) : seqIndex? i n = some (i + n).toNat := by
  unfold seqIndex?
  have h2 : 0 ≤ i + (n : Int) := by omega
  have h3 : i + (n : Int) < n := by omega
  simp [h0, h2, h3]
theorem seqIndex_0 {n : Nat} : seqIndex? 0 (n + 1) = some 0 := seqIndex_pos (by decide) (by omega)
theorem seqIndex_1 {n : Nat} : seqIndex? 1 (n + 2) = some 1 := seqIndex_pos (by decide) (by omega)
/-- a store that has grown -/
def Le (st st' : St) : Prop := ∀ a o, get st a = some o → get st' a = some o
theorem Le.refl : Le st st := fun _ _ h => h
theorem Le.trans {st₁ st₂ st₃ : St} (h : Le st₁ st₂) (h' : Le st₂ st₃) : Le st₁ st₃ := fun a o e => h' a o (h a o e)
theorem get_head {a : Addr} {o : O} : get ((a, o) :: st) a = some o := by simp [get]
theorem get_tail {a b : Addr} {o : O} (h : b ≠ a) : get ((a, o) :: st) b = get st b := by
  unfold get
  rw [List.lookup_cons]
  have : (b == a) = false := by simpa using h
  rw [this]
theorem Le.alloc {a : Addr} {o : O} (h : get st a = none) : Le st ((a, o) :: st) := fun b p e => by
  have : b ≠ a := fun q => by rw [q, h] at e; cases e
  rw [get_tail this]; exact e
theorem get_upd {a b : Addr} {o : O} : get (upd st a o) b = if b = a then (get st a).map (fun _ => o) else get st b := by
  induction st with
  | nil => simp [get, upd]
  | cons p r ih =>
    obtain ⟨x, y⟩ := p
    by_cases h1 : x = a
    · subst h1
      have e : upd ((x, y) :: r) x o = (x, o) :: upd r x o := by simp [upd]
      rw [e]
      by_cases h2 : b = x
      · subst h2; rw [get_head, get_head, if_pos rfl]; rfl
      · rw [get_tail h2, ih, if_neg h2, if_neg h2, get_tail h2]
    · have e : upd ((x, y) :: r) a o = (x, y) :: upd r a o := by simp [upd, h1]
      rw [e]
      by_cases h2 : b = x
      · subst h2; rw [get_head, if_neg h1, get_head]
      · rw [get_tail h2, ih, get_tail h2, get_tail (fun q => h1 q.symm)]
theorem get_upd_self {a : Addr} {o o' : O} (h : get st a = some o') : get (upd st a o) a = some o := by rw [get_upd, if_pos rfl, h]; rfl
theorem get_upd_ne {a b : Addr} {o : O} (h : b ≠ a) : get (upd st a o) b = get st b := by rw [get_upd, if_neg h]
theorem W2.tupAt {e ie : Expr} {vs : List V} {i : Int} {v : V} (hs : isSl ie = false) (hl : Nat.blt vs.length 1000000 = true) (hv : (seqIndex? i vs.length).bind (fun j => vs[j]?) = some v) (h : Q v st) : W2 c k (subscriptTail e ie) (.tup vs) (.int i) ρ st Q X := by
  have hl' : vs.length < 1000000 := by simpa [Nat.blt_eq] using hl
  cases hj : seqIndex? i vs.length with
  | none => rw [hj] at hv; cases hv
  | some j => rw [hj] at hv; exact W2.subTup hs (by omega) hj hv h
theorem W2.listAt {e ie : Expr} {a : Addr} {vs : List V} {i : Int} {v : V} (hg : get st a = some (.list vs)) (hs : isSl ie = false) (hl : Nat.blt vs.length 1000000 = true) (hv : (seqIndex? i vs.length).bind (fun j => vs[j]?) = some v) (h : Q v st) : W2 c k (subscriptTail e ie) (.ref a) (.int i) ρ st Q X := by
  have hl' : vs.length < 1000000 := by simpa [Nat.blt_eq] using hl
  cases hj : seqIndex? i vs.length with
  | none => rw [hj] at hv; cases hv
  | some j => rw [hj] at hv; exact W2.subList hg hs (by omega) hj hv h
theorem isDict_nil {α : Type} [DecidableEq α] {knd : KeyKind c.prog c.w α} : IsDict knd { cls := .type "dict", data := .dict #[] } [] :=
  ⟨⟨rfl, rfl, rfl⟩, #[], 0, rfl, fun e he => by simp at he, .nil, .nil⟩
theorem WPE.dict0 {pos : Pos} (h : ∀ a, get st a = none → Q (.ref a) ((a, .dictI []) :: st)) : WPE c k sc ρ st (.Dict [] [] pos) Q X :=
  ⟨fun f imm fr s ok hsc R => wpAny_Dict_empty ⟨_, _, imm, fun _ h => h, .ref _, R.pushSt (tk := s.toks) (.dictI .nil isDict_nil), h _ R.none⟩⟩
theorem WPE.dict0S {pos : Pos} (h : ∀ a, get st a = none → Q (.ref a) ((a, .dictS []) :: st)) : WPE c k sc ρ st (.Dict [] [] pos) Q X :=
  ⟨fun f imm fr s ok hsc R => wpAny_Dict_empty ⟨_, _, imm, fun _ h => h, .ref _, R.pushSt (tk := s.toks) (.dictS .nil isDict_nil), h _ R.none⟩⟩
theorem W2.cat {a b : Addr} {vs ws : List V} (ha : get st a = some (.list vs)) (hb : get st b = some (.list ws)) (hl : Nat.ble (vs.length + ws.length) 1000000 = true) (h : ∀ l, get st l = none → Q (.ref l) ((l, .list (vs ++ ws)) :: st)) : W2 c k (binaryOp .Add) (.ref a) (.ref b) ρ st Q X :=
  W2.addList ha hb (Nat.le_trans (Nat.le_of_ble_eq_true hl) (by decide)) h
end
end Mine
namespace Mine
def rngItems (a b c : Int) : List V := (List.range (Builtin.Range.rangeSize a b c).toNat).map fun (i : Nat) => .int (a + i * c)
/-- the things of a thing that is gone through -/
inductive Src (st : St) : V → List V → Prop
  | list {a : Addr} {vs : List V} : get st a = some (.list vs) → Src st (.ref a) vs
  | tup {vs : List V} : Src st (.tup vs) vs
  | scr {ns : List Int} : Src st (.scr ns) (ns.map .int)
  | rng {a b c : Int} : Builtin.Range.small a b c = true → Src st (.rng a b c) (rngItems a b c)

/-- an iterator's object, i taken -/
inductive ItO : Value → V → Nat → Obj → Prop
  | list {a : Addr} {i : Nat} {o : Obj} (h1 : o.cls = .type "list_iterator") (h2 : o.data = .fields #[.ref a, .int i 0]) : ItO (.ref a) (.ref a) i o
  | scr {a : Addr} {ns : List Int} {i : Nat} {o : Obj} (h1 : o.cls = .type "list_iterator") (h2 : o.data = .fields #[.ref a, .int i 0]) : ItO (.ref a) (.scr ns) i o
  | tup {a : Addr} {vs : List V} {i : Nat} {o : Obj} (h1 : o.cls = .type "tuple_iterator") (h2 : o.data = .fields #[.ref a, .int i 0]) : ItO (.ref a) (.tup vs) i o
  | rng {r : Addr} {a b c : Int} {i : Nat} : ItO (.ref r) (.rng a b c) i { cls := .type "range_iterator", dict := none, data := .fields #[rawInt (a + i * c), rawInt (Builtin.Range.rangeSize a b c - i), rawInt c], slots := #[] }
theorem ItO.fields {x : Value} {v : V} {i : Nat} {o : Obj} (h : ItO x v i o) : ∀ w, o.data ≠ .cell w := by
  cases h with
  | list _ h => intro w e; rw [h] at e; cases e
  | scr _ h => intro w e; rw [h] at e; cases e
  | tup _ h => intro w e; rw [h] at e; cases e
  | rng => intro w e; cases e

section
variable {c : Cx} {k : Nat} {sc : Scope} {ρ : Loc} {st : St} {Q : V → St → Prop} {S : Fl → Loc → St → Prop} {X : Xp} {f : Fm} {imm fr : Led} {s : Shared} {tk : Nat}

theorem rangeSize_nonneg (a b c : Int) (hc : c ≠ 0) : 0 ≤ Builtin.Range.rangeSize a b c := by
  unfold Builtin.Range.rangeSize
  split
  · split
    · have := Int.ediv_nonneg (a := b - a - 1) (b := c) (by omega) (by omega); omega
    · omega
  · split
    · have := Int.ediv_nonneg (a := a - b - 1) (b := -c) (by omega) (by omega); omega
    · omega

theorem it_start {v : V} {vs : List V} {x : Value} {E : Value → Shared → Prop} (R : Rel c f ρ st imm fr s) (rv : RV c.base imm v x) (hs : Src st v vs) :
    wpAny c.M f.A (pyIter x) (fun it s' => ∃ I o, it = .ref I ∧ ItO x v 0 o ∧ Rel c f ρ st imm ((I, o) :: fr) s') E s := by
  cases hs with
  | list hg =>
    cases rv with
    | ref =>
      obtain ⟨co, hr, ho⟩ := R.get hg
      cases hr with
      | list r => exact wpAny_pyIter_list ⟨_, ho, rfl, _, rfl⟩ ⟨_, _, rfl, .list rfl rfl, R.pushFr (tk := s.toks)⟩
  | tup =>
    cases rv with
    | tup hm r => exact wpAny_pyIter_tuple ⟨_, R.inImm hm, rfl, _, rfl⟩ ⟨_, _, rfl, .tup rfl rfl, R.pushFr (tk := s.toks)⟩
  | scr =>
    cases rv with
    | scr hl hn => exact wpAny_pyIter_list (hl.at fun o e => R.keep _ _ e) ⟨_, _, rfl, .scr rfl rfl, R.pushFr (tk := s.toks)⟩
  | @rng a b cc hsm =>
    cases rv with
    | @rng r _ _ _ _ _ _ hm =>
      refine wpAny_pyIter_range (R.inImm hm) hsm ⟨_, _, rfl, ?_, R.pushFr (tk := s.toks)⟩
      have := ItO.rng (r := r) (a := a) (b := b) (c := cc) (i := 0)
      simpa using this

theorem rngItems_get {a b c : Int} {i : Nat} {u : V} (h : (rngItems a b c)[i]? = some u) : u = .int (a + i * c) ∧ (i : Int) < Builtin.Range.rangeSize a b c := by
  unfold rngItems at h
  rw [List.getElem?_map] at h
  by_cases hi : i < (Builtin.Range.rangeSize a b c).toNat
  · rw [List.getElem?_range hi] at h
    simp at h
    exact ⟨h.symm, by omega⟩
  · rw [List.getElem?_eq_none (by simpa using hi)] at h; cases h
theorem it_next {v u : V} {vs : List V} {x : Value} {I : Addr} {i : Nat} {o : Obj} {E : Value → Shared → Prop} (R : Rel c f ρ st imm ((I, o) :: fr) s) (rv : RV c.base imm v x) (hs : Src st v vs) (hi : ItO x v i o) (hu : vs[i]? = some u) :
    wpAny c.M f.A (pyNext (.ref I)) (fun r s' => ∃ y o', r = some y ∧ RV c.base imm u y ∧ ItO x v (i + 1) o' ∧ Rel c f ρ st imm ((I, o') :: fr) s') E s := by
  have hI := R.inFr (List.mem_cons_self)
  cases hi with
  | list h1 h2 =>
    cases hs with
    | list hg =>
    cases rv with
    | ref =>
      obtain ⟨co, hr, ho⟩ := R.get hg
      cases hr with
      | list r =>
        obtain ⟨y, hy, ry⟩ := r.get hu
        refine wpAny_pyNext_list_item ⟨_, hI, h1, h2⟩ ⟨_, ho, rfl, _, rfl⟩ (by simpa using hy) fun h' hit hsb => ?_
        obtain ⟨o', ho', c1, c2⟩ := hit
        exact ⟨y, o', rfl, ry, .list c1 c2, R.frSet (tk := s.toks) hsb ho' (by rw [h2]; intro _ e; cases e)⟩
  | scr h1 h2 =>
    cases hs with
    | scr =>
    cases rv with
    | scr hl hn =>
      rw [List.getElem?_map] at hu
      obtain ⟨n, hn', rfl⟩ := Option.map_eq_some_iff.mp hu
      obtain ⟨t, ht⟩ := hn.get i n hn'
      refine wpAny_pyNext_list_item ⟨_, hI, h1, h2⟩ (hl.at fun o e => R.keep _ _ e) (by simpa using ht) fun h' hit hsb => ?_
      obtain ⟨o', ho', c1, c2⟩ := hit
      exact ⟨_, o', rfl, .int _ _, .scr c1 c2, R.frSet (tk := s.toks) hsb ho' (by rw [h2]; intro _ e; cases e)⟩
  | tup h1 h2 =>
    cases hs with
    | tup =>
    cases rv with
    | tup hm r =>
      obtain ⟨y, hy, ry⟩ := r.get hu
      refine wpAny_pyNext_tuple_item ⟨_, hI, h1, h2⟩ ⟨_, R.inImm hm, rfl, _, rfl⟩ (by simpa using hy) fun h' hit hsb => ?_
      obtain ⟨o', ho', c1, c2⟩ := hit
      exact ⟨y, o', rfl, ry, .tup c1 c2, R.frSet (tk := s.toks) hsb ho' (by rw [h2]; intro _ e; cases e)⟩
  | @rng r a b cc i =>
    cases hs with
    | rng hsm =>
    obtain ⟨rfl, hlt⟩ := rngItems_get hu
    refine wpAny_pyNext_range_item hI (by omega) fun h' hit hsb => ?_
    refine ⟨_, _, rfl, .int _ _, ?_, R.frSet hsb hit (by intro _ e; cases e)⟩
    have := ItO.rng (r := r) (a := a) (b := b) (c := cc) (i := i + 1)
    have e1 : a + ((i + 1 : Nat) : Int) * cc = a + i * cc + cc := by rw [Int.natCast_add, Int.add_mul]; simp; omega
    have e2 : Builtin.Range.rangeSize a b cc - ((i + 1 : Nat) : Int) = Builtin.Range.rangeSize a b cc - i - 1 := by omega
    rw [e1, e2] at this
    exact this
theorem it_end {v : V} {vs : List V} {x : Value} {I : Addr} {i : Nat} {o : Obj} {E : Value → Shared → Prop} (hh : f.A.handled = none) (R : Rel c f ρ st imm ((I, o) :: fr) s) (rv : RV c.base imm v x) (hs : Src st v vs) (hi : ItO x v i o) (hu : vs.length ≤ i) :
    wpAny c.M f.A (pyNext (.ref I)) (fun r s' => r = none ∧ Rel c f ρ st imm fr s') E s := by
  have hI := R.inFr (List.mem_cons_self)
  have hd := hi.fields
  cases hi with
  | list h1 h2 =>
    cases hs with
    | list hg =>
    cases rv with
    | ref =>
      obtain ⟨co, hr, ho⟩ := R.get hg
      cases hr with
      | list r => exact wpAny_pyNext_list_end hh ⟨_, hI, h1, h2⟩ ⟨_, ho, rfl, _, rfl⟩ (by simpa [r.length] using hu) fun h' hx => ⟨rfl, R.frEnd (tk := s.toks) hx hd⟩
  | scr h1 h2 =>
    cases hs with
    | scr =>
    cases rv with
    | scr hl hn => exact wpAny_pyNext_list_end hh ⟨_, hI, h1, h2⟩ (hl.at fun o e => R.keep _ _ e) (by simpa [hn.length] using hu) fun h' hx => ⟨rfl, R.frEnd (tk := s.toks) hx hd⟩
  | tup h1 h2 =>
    cases hs with
    | tup =>
    cases rv with
    | tup hm r => exact wpAny_pyNext_tuple_end hh ⟨_, hI, h1, h2⟩ ⟨_, R.inImm hm, rfl, _, rfl⟩ (by simpa [r.length] using hu) fun h' hx => ⟨rfl, R.frEnd (tk := s.toks) hx hd⟩
  | @rng r a b cc i =>
    cases hs with
    | rng hsm =>
    refine wpAny_pyNext_range_end hh hI ?_ fun h' hx => ⟨rfl, R.frEnd (tk := s.toks) hx hd⟩
    simp only [rngItems, List.length_map, List.length_range] at hu
    omega
theorem it_self {v : V} {x : Value} {I : Addr} {i : Nat} {o : Obj} {E : Value → Shared → Prop} {P : Value → Shared → Prop} (R : Rel c f ρ st imm ((I, o) :: fr) s) (hi : ItO x v i o) (h : P (.ref I) s) : wpAny c.M f.A (pyIter (.ref I)) P E s := by
  have hI := R.inFr (List.mem_cons_self)
  cases hi with
  | list h1 h2 => exact wpAny_pyIter_listiter ⟨_, hI, h1, h2⟩ h
  | scr h1 h2 => exact wpAny_pyIter_listiter ⟨_, hI, h1, h2⟩ h
  | tup h1 h2 => exact wpAny_pyIter_tupleiter ⟨_, hI, h1, h2⟩ h
  | rng => exact wpAny_pyIter_rangeiter hI h
end
end Mine
namespace Mine
/-- how a turn ends -/
def lp (fl : Fl) (again : Prop) (out : Fl → Prop) : Prop := match fl with
  | .next => again
  | .cont => again
  | .brk => out .next
  | .ret v => out (.ret v)
theorem lp_next {p : Prop} {q : Fl → Prop} (h : p) : lp .next p q := h
theorem lp_cont {p : Prop} {q : Fl → Prop} (h : p) : lp .cont p q := h
theorem lp_ret {v : V} {p : Prop} {q : Fl → Prop} (h : q (.ret v)) : lp (.ret v) p q := h
theorem lp_brk {p : Prop} {q : Fl → Prop} (h : q .next) : lp .brk p q := h

/-- fewer locals -/
def Sub (ρ₂ ρ : Loc) : Prop := ∀ y v, getL ρ₂ y = some v → getL ρ y = some v
theorem Sub.refl {ρ : Loc} : Sub ρ ρ := fun _ _ h => h
theorem getL_mem {ρ : Loc} {y : Str} {v : V} (h : getL ρ y = some v) : (y, v) ∈ ρ := by
  induction ρ with
  | nil => cases h
  | cons p r ih =>
    obtain ⟨x, u⟩ := p
    rw [getL_cons] at h
    by_cases e : x = y
    · subst e; rw [if_pos rfl] at h; cases h; exact .head _
    · rw [if_neg e] at h; exact .tail _ (ih h)
theorem Sub.of {ρ₂ ρ : Loc} (h : ∀ p ∈ ρ₂, getL ρ p.1 = some p.2) : Sub ρ₂ ρ := fun y v e => h (y, v) (getL_mem e)

section
variable {c : Cx} {k : Nat} {sc : Scope} {ρ : Loc} {st : St} {Q : V → St → Prop} {S : Fl → Loc → St → Prop} {X : Xp} {f : Fm} {imm fr : Led} {s : Shared} {tk : Nat}

theorem Rel.locs {ρ' : Loc} (R : Rel c f ρ st imm fr s) (h : Sub ρ' ρ) : Rel c f ρ' st imm fr s := by
  obtain ⟨hs, m, mt, cs, fo, r⟩ := R
  exact ⟨hs, m, mt, cs, fo, r.frm, r.news, r.nodup, r.sto, r.fos, ⟨fun y v e => r.loc.reads y v (h y v e), r.loc.cells, r.loc.inj⟩⟩
theorem WPS.locs {ρ' : Loc} {ss : List Stmt} (h : WPS c k sc ρ' st ss S X) (hs : Sub ρ' ρ) : WPS c k sc ρ st ss S X := ⟨fun f imm fr s ok hsc own R => h.go f imm fr s ok hsc own (R.locs hs)⟩
/-- the turns that are left -/
def FOR (c : Cx) (k : Nat) (sc : Scope) (x : Str) (body : List Stmt) (v : V) (vs : List V) (S : Fl → Loc → St → Prop) (X : Xp) : List V → Loc → St → Prop
  | [], ρ, st => S .next ρ st
  | u :: us, ρ, st => WPS c k sc (setL ρ x u) st body (fun fl ρ' st' => lp fl (∃ ρ₂, Sub ρ₂ ρ' ∧ Src st' v vs ∧ FOR c k sc x body v vs S X us ρ₂ st') (fun fl => S fl ρ' st')) X

theorem WPs.for {x : Str} {px pos : Pos} {iter : Expr} {body : List Stmt} (hq : c.q = true) (h : WPE c k sc ρ st iter (fun v st₁ => ∃ vs, Src st₁ v vs ∧ FOR c k sc x body v vs S X vs ρ st₁) X) (hx : storesB sc x = true := by rfl)
    (hs : ∀ env x, foldedSetIterable iter env x = pure x := by intro _ _; rfl) : WPs c k sc ρ st (.For (.Name x px) iter body [] pos) S X := by
  refine ⟨fun f imm fr s ok hsc own R => ?_⟩
  refine wpAny_For (wpAny_mono (h.go f imm fr s ok hsc R) (fun y s₁ p => ?_) fun _ _ t => t) (hs _)
  obtain ⟨v, st₁, imm₁, i₁, rv, R₁, vs, hsrc, hF⟩ := p
  refine wpAny_mono (it_start (E := Thrown c f imm fr X) R₁ rv hsrc) (fun it s₂ p => ?_) fun _ _ t => t
  obtain ⟨I, o, rfl, hi, R₂⟩ := p
  refine codeAny_forLoop (fun n s' => ∃ us i ρ' st' imm' o, n = us.length ∧ vs.drop i = us ∧ (∀ p ∈ imm₁, p ∈ imm') ∧ ItO y v i o ∧ Rel c f ρ' st' imm' ((I, o) :: fr) s' ∧ Src st' v vs ∧ FOR c k sc x body v vs S X us ρ' st') ?_ vs.length
    ⟨vs, 0, ρ, st₁, imm₁, o, rfl, rfl, fun _ h => h, hi, R₂, hsrc, hF⟩
  rintro n s' ⟨us, i, ρ', st', imm', o', rfl, hus, i', hi', R', hsrc', hF'⟩
  cases us with
  | nil =>
    have hle : vs.length ≤ i := by simpa using hus
    refine wpAny_mono (it_end (ok.hnd hq) R' (rv.mono i') hsrc' hi' hle) (fun r s₃ p => ?_) fun _ _ t => t
    obtain ⟨rfl, R₃⟩ := p
    exact wpAny_execs_nil ⟨.next, ρ', st', imm', fun q hq => i' q (i₁ q hq), .next, R₃, hF'⟩
  | cons u us =>
    have hu : vs[i]? = some u := by
      have := congrArg List.head? hus
      rw [List.head?_drop] at this
      simpa using this
    have hdr : vs.drop (i + 1) = us := by
      have := congrArg List.tail hus
      rwa [List.tail_drop] at this
    refine wpAny_mono (it_next R' (rv.mono i') hsrc' hi' hu) (fun r s₃ p => ?_) fun _ _ t => t
    obtain ⟨w, o₂, rfl, rw', hi₂, R₃⟩ := p
    refine wpAny_assign_Name (store ok own R₃ (hsc ▸ hx) rw' fun s₄ R₄ => ?_)
    refine wpAny_mono ((show WPS c k sc (setL ρ' x u) st' body _ X from hF').go f imm' ((I, o₂) :: fr) s₄ ok hsc own R₄) (fun fl s₅ p => ?_) fun _ _ t => t.elim
    obtain ⟨fl', ρ₅, st₅, imm₅, i₅, rf, R₅, h₅⟩ := p
    have R₆ : Rel c f ρ₅ st₅ imm₅ fr s₅ := by
      have hR := R₅
      obtain ⟨⟨h0, tk0, rfl⟩, _⟩ := hR
      exact R₅.frEnd (h' := h0) (tk := tk0) (fun _ _ _ e => e) hi₂.fields
    cases rf with
    | next => obtain ⟨ρ₂, hsub, h1, h2⟩ := h₅; exact ⟨us.length, by simp, us, i + 1, ρ₂, st₅, imm₅, o₂, rfl, hdr, fun q hq => i₅ q (i' q hq), hi₂, R₅.locs hsub, h1, h2⟩
    | cont => obtain ⟨ρ₂, hsub, h1, h2⟩ := h₅; exact ⟨us.length, by simp, us, i + 1, ρ₂, st₅, imm₅, o₂, rfl, hdr, fun q hq => i₅ q (i' q hq), hi₂, R₅.locs hsub, h1, h2⟩
    | brk => exact ⟨.next, ρ₅, st₅, imm₅, fun q hq => i₅ q (i' q (i₁ q hq)), .next, R₆, h₅⟩
    | ret r => exact ⟨.ret _, ρ₅, st₅, imm₅, fun q hq => i₅ q (i' q (i₁ q hq)), .ret r, R₆, h₅⟩

theorem WPs.while {test : Expr} {body : List Stmt} {pos : Pos} (J : Nat → Loc → St → Prop) (n : Nat) (h0 : J n ρ st)
    (h : ∀ n ρ st, J n ρ st → WPB c k sc ρ st test (fun b st' => cnd b (WPS c k sc ρ st' body (fun fl ρ' st'' => lp fl (∃ m ρ₃, m < n ∧ Sub ρ₃ ρ' ∧ J m ρ₃ st'') (fun fl => S fl ρ' st'')) X) (S .next ρ st')) X) : WPs c k sc ρ st (.While test body [] pos) S X := by
  refine ⟨fun f imm fr s ok hsc own R => ?_⟩
  refine wpAny_While (codeAny_whileLoop (fun n s' => ∃ ρ' st' imm', (∀ p ∈ imm, p ∈ imm') ∧ Rel c f ρ' st' imm' fr s' ∧ J n ρ' st') ?_ n ⟨ρ, st, imm, fun _ h => h, R, h0⟩)
  rintro n s' ⟨ρ', st', imm', i', R', hJ⟩
  refine wpAny_mono ((h n ρ' st' hJ).go f imm' fr s' ok hsc R') (fun b s₁ p => ?_) fun _ _ t => t.elim
  obtain ⟨st₁, imm₁, i₁, R₁, h₁⟩ := p
  cases b with
  | false => exact wpAny_execs_nil ⟨.next, ρ', st₁, imm₁, fun q hq => i₁ q (i' q hq), .next, R₁, of_f h₁⟩
  | true =>
    refine wpAny_mono ((of_t h₁).go f imm₁ fr s₁ ok hsc own R₁) (fun fl s₂ p => ?_) fun _ _ t => t.elim
    obtain ⟨fl', ρ₂, st₂, imm₂, i₂, rf, R₂, h₂⟩ := p
    have i02 : ∀ p ∈ imm, p ∈ imm₂ := fun q hq => i₂ q (i₁ q (i' q hq))
    cases rf with
    | next => obtain ⟨m, ρ₃, hm, hsub, hj⟩ := (show ∃ m ρ₃, m < n ∧ Sub ρ₃ ρ₂ ∧ J m ρ₃ st₂ from h₂); exact ⟨m, hm, ρ₃, st₂, imm₂, i02, R₂.locs hsub, hj⟩
    | cont => obtain ⟨m, ρ₃, hm, hsub, hj⟩ := (show ∃ m ρ₃, m < n ∧ Sub ρ₃ ρ₂ ∧ J m ρ₃ st₂ from h₂); exact ⟨m, hm, ρ₃, st₂, imm₂, i02, R₂.locs hsub, hj⟩
    | brk => exact ⟨.next, ρ₂, st₂, imm₂, i02, .next, R₂, h₂⟩
    | ret r => exact ⟨.ret _, ρ₂, st₂, imm₂, i02, .ret r, R₂, h₂⟩
end
end Mine
namespace Mine
/-- the cells of a comprehension -/
def clF (cells : List (Str × Addr)) : List (Str × NameKind) → List (Str × Addr) → List (Str × Addr)
  | [], acc => acc
  | (n, k) :: r, acc => if k == .free then clF cells r ((n, (cells.lookup n).getD 0) :: acc) else clF cells r acc
theorem closure_go {env : Env} : ∀ (names : List (Str × NameKind)) (acc : List (Str × Addr)), (∀ p ∈ names, p.2 = .free → ∃ a, env.cells.lookup p.1 = some a) →
    (forIn names acc (fun (x : Str × NameKind) cs => (do if (x.2 == NameKind.free) = true then do let a ← cellOf env x.1; pure (ForInStep.yield ((x.1, a) :: cs)) else pure (ForInStep.yield cs) : Sem (ForInStep (List (Str × Addr)))))) = (pure (clF env.cells names acc) : Sem _)
  | [], acc, _ => rfl
  | (n, k) :: r, acc, h => by
    have ih := fun acc => closure_go (env := env) r acc fun p hp => h p (.tail _ hp)
    rw [List.forIn_cons]
    by_cases hk : (k == NameKind.free) = true
    · have hk' : k = .free := by simpa using hk
      obtain ⟨a, ha⟩ := h (n, k) (.head _) hk'
      have e : cellOf env n = pure a := by unfold cellOf; rw [ha]
      simp only [hk, if_true, e, pure_bind]
      rw [ih]
      conv => rhs; unfold clF
      simp only [hk, if_true]
      rw [ha]; rfl
    · simp only [hk, Bool.false_eq_true, if_false, pure_bind]
      rw [ih]
      conv => rhs; unfold clF
      simp only [hk, Bool.false_eq_true, if_false]
theorem closure_is {scope : Scope} {env : Env} (h : ∀ p ∈ scope.names, p.2 = .free → ∃ a, env.cells.lookup p.1 = some a) : closureFor scope env = pure (clF env.cells scope.names []) := by
  have := closure_go (env := env) scope.names [] h
  unfold closureFor
  simp only [pure_bind, bind_pure] at this ⊢
  refine Eq.trans ?_ this
  congr
theorem clF_mem {cells : List (Str × Addr)} {p : Str × Addr} : ∀ {names : List (Str × NameKind)} {acc : List (Str × Addr)}, (∀ q ∈ names, q.2 = .free → ∃ a, cells.lookup q.1 = some a) → p ∈ clF cells names acc → p ∈ acc ∨ cells.lookup p.1 = some p.2
  | [], acc, _, h => .inl h
  | (n, k) :: r, acc, hq, h => by
    unfold clF at h
    split at h
    · rename_i hk
      rcases clF_mem (fun q hq' => hq q (.tail _ hq')) h with h | h
      · rcases List.mem_cons.mp h with rfl | h
        · obtain ⟨a, ha⟩ := hq (n, k) (.head _) (by simpa using hk)
          right; simp [ha]
        · exact .inl h
      · exact .inr h
    · exact clF_mem (fun q hq' => hq q (.tail _ hq')) h
theorem clF_some {cells : List (Str × Addr)} {n : Str} : ∀ {names : List (Str × NameKind)} {acc : List (Str × Addr)}, (n, NameKind.free) ∈ names ∨ (acc.lookup n).isSome = true → ((clF cells names acc).lookup n).isSome = true
  | [], acc, h => by
    rcases h with h | h
    · cases h
    · exact h
  | (y, k) :: r, acc, h => by
    unfold clF
    split
    · rename_i hk
      refine clF_some ?_
      rcases h with h | h
      · rcases List.mem_cons.mp h with h | h
        · cases h; right; simp
        · exact .inl h
      · right
        rw [List.lookup_cons]
        split
        · rfl
        · exact h
    · rename_i hk
      refine clF_some ?_
      rcases h with h | h
      · rcases List.mem_cons.mp h with h | h
        · cases h; exact absurd rfl hk
        · exact .inl h
      · exact .inr h
theorem clF_at {cells : List (Str × Addr)} {names : List (Str × NameKind)} {n : Str} (hq : ∀ q ∈ names, q.2 = .free → ∃ a, cells.lookup q.1 = some a) (h : (n, NameKind.free) ∈ names) : ∃ a, (clF cells names []).lookup n = some a ∧ cells.lookup n = some a := by
  obtain ⟨a, ha⟩ := Option.isSome_iff_exists.mp (clF_some (cells := cells) (acc := []) (.inl h))
  refine ⟨a, ha, ?_⟩
  rcases clF_mem hq (mem_of_lookup ha) with h | h
  · cases h
  · exact h

/-- a comprehension's scope in its block -/
def relabelS (scope sc : Scope) : Scope :=
  { scope with names := scope.names.map fun (n, k) => if (k == .free && sc.kind == .function && sc.names.lookup n == some .cell) then (n, .cell) else (n, k) }
theorem relabel_eq (scope : Scope) (env : Env) : relabel scope env = relabelS scope env.scope := rfl
/-- what a comprehension reads of its block -/
def inner (scope : Scope) : Loc → Loc
  | [] => []
  | (x, v) :: r => match scope.names.lookup x with
    | some .free => (x, v) :: inner scope r
    | _ => inner scope r
theorem inner_get {scope : Scope} {x : Str} {v : V} : ∀ {ρ : Loc}, getL (inner scope ρ) x = some v → scope.names.lookup x = some .free ∧ getL ρ x = some v
  | [], h => by cases h
  | (y, u) :: r, h => by
    unfold inner at h
    split at h
    · rename_i hy
      rw [getL_cons] at h
      rw [getL_cons]
      by_cases e : y = x
      · subst e
        rw [if_pos rfl] at h ⊢
        exact ⟨hy, h⟩
      · rw [if_neg e] at h ⊢
        exact inner_get h
    · rename_i hy
      have z := inner_get h
      refine ⟨z.1, ?_⟩
      rw [getL_cons]
      by_cases e : y = x
      · subst e; exact absurd z.1 hy
      · rw [if_neg e]; exact z.2
/-- a comprehension's scope is plain: its free names are cells of the block -/
def compOk (scope sc : Scope) (x : Str) : Bool :=
  (scope.kind == .function) && scope.names.all (fun p => (p.2 != .cell) && (p.2 != .free || sc.names.lookup p.1 == some .cell) && (p.2 != .local || scope.names.lookup p.1 == some .local)) && (scope.names.lookup x == some .local) && (sc.kind == .function)
theorem relabel_free {scope sc : Scope} {y : Str} (hk : sc.kind = .function) (hc : sc.names.lookup y = some .cell) (h : scope.names.lookup y = some .free) : (relabelS scope sc).names.lookup y = some .cell := by
  show (scope.names.map fun (n, k) => if (k == NameKind.free && sc.kind == .function && sc.names.lookup n == some .cell) then (n, NameKind.cell) else (n, k)).lookup y = _
  generalize scope.names = names at h
  induction names with
  | nil => cases h
  | cons p r ih =>
    obtain ⟨n, k⟩ := p
    rw [List.lookup_cons] at h
    by_cases e : y = n
    · subst e
      simp at h
      subst h
      simp [hk, hc]
    · have e' : (y == n) = false := by simpa using e
      rw [e'] at h
      rw [List.map_cons, List.lookup_cons]
      have : ∀ k', (y == ((n, k') : Str × NameKind).1) = false := fun _ => e'
      by_cases q : (k == NameKind.free && sc.kind == .function && sc.names.lookup n == some .cell) = true
      · simp only [q, if_true, e']; exact ih h
      · simp only [q, Bool.false_eq_true, if_false, e']; exact ih h
theorem relabel_cell {scope sc : Scope} {y : Str} (hn : ∀ p ∈ scope.names, p.2 ≠ .cell) (h : (relabelS scope sc).names.lookup y = some .cell) : (y, NameKind.free) ∈ scope.names := by
  have hm := mem_of_lookup h
  obtain ⟨⟨n, k⟩, hp, e⟩ := List.mem_map.mp hm
  dsimp only at e
  split at e
  · rename_i q
    cases e
    simp only [Bool.and_eq_true, beq_iff_eq] at q
    rw [← q.1.1]; exact hp
  · cases e
    exact absurd rfl (hn _ hp)

section
variable {c : Cx} {k : Nat} {sc : Scope} {ρ : Loc} {st : St} {Q : V → St → Prop} {S : Fl → Loc → St → Prop} {X : Xp} {f : Fm} {imm fr : Led} {s : Shared} {tk : Nat}

theorem Rel.permFr {fr' : Led} (R : Rel c f ρ st imm fr s) (hp : fr.Perm fr') : Rel c f ρ st imm fr' s := by
  obtain ⟨hs, m, mt, cs, fo, r⟩ := R
  have hw : (whole mt cs imm fr' fo).Perm (whole mt cs imm fr fo) := List.Perm.append_left _ (List.Perm.append_left _ (List.Perm.append_left _ (hp.symm.append_right _)))
  refine ⟨hs, m, mt, cs, fo, r.frm, fun p q => r.news p (hw.mem_iff.mp q), (hw.map (·.1)).nodup_iff.mpr r.nodup, r.sto, r.fos, ⟨fun x v e => ?_, r.loc.cells, r.loc.inj⟩⟩
  obtain ⟨val, rv, q⟩ := r.loc.reads x v e
  refine ⟨val, rv, ?_⟩
  rcases q with q | ⟨q1, c, o, q2, q3, q4⟩
  · exact .inl q
  · refine .inr ⟨q1, c, o, q2, ?_, q4⟩
    rcases List.mem_append.mp q3 with q3 | q3
    · exact List.mem_append_left _ q3
    · exact List.mem_append_right _ (hp.mem_iff.mp q3)

abbrev Fm.comp (f : Fm) (m : Str → Option Value) (C : Addr) (env : Env) : Fm := { outer := f.outer, frs := (f.L, m) :: f.frs, L := C, fenv := f.fenv, env := env, A := f.A, cmp := true }

theorem Fm.Ok.cells {scope : Scope} {x : Str} (ok : f.Ok c k) (h : compOk scope f.env.scope x = true) : ∀ p ∈ scope.names, p.2 = .free → ∃ a, f.env.cells.lookup p.1 = some a := by
  intro p hp hf
  simp only [compOk, Bool.and_eq_true, List.all_eq_true, bne_iff_ne, Bool.or_eq_true, beq_iff_eq] at h
  rcases (h.1.1.2 p hp).1.2 with q | q
  · exact absurd hf q
  · exact ok.ecell _ q

theorem okComp {scope : Scope} {x : Str} {m : Str → Option Value} {C : Addr} (ok : f.Ok c k) (h : compOk scope f.env.scope x = true) : (f.comp m C (compEnvC scope (clF f.env.cells scope.names []) C f.env)).Ok c k := by
  have hc := ok.cells h
  simp only [compOk, Bool.and_eq_true, List.all_eq_true, bne_iff_ne, Bool.or_eq_true, beq_iff_eq] at h
  refine ⟨ok.kin, ok.top, fun e he => ?_, ok.frames, ok.eframe, h.1.1.1, ok.eglob, ok.ebi, fun y hy => ?_, ok.hnd, ok.depth, ok.units⟩
  · obtain ⟨h1, L, h2, h3⟩ := ok.envs e he
    refine ⟨h1, L, h2, .inr ?_⟩
    rcases h3 with rfl | ⟨m', h3⟩
    · exact ⟨m, .head _⟩
    · exact ⟨m', .tail _ h3⟩
  · obtain ⟨a, ha, _⟩ := clF_at hc (relabel_cell (fun p hp => (h.1.1.2 p hp).1.1) hy)
    exact ⟨a, ha⟩

/-- into a comprehension's block -/
theorem enterComp {scope : Scope} {x : Str} {o : Obj} {h₁ : Heap} {m₁ : Str → Option Value} {tk : Nat} (ok : f.Ok c k) (hk : compOk scope f.env.scope x = true) (R : Rel c f ρ st imm fr s) (hns : h₁.Ns s.heap.objs.size m₁) (hsb : Heap.SameBut s.heap.objs.size (s.heap.push o) h₁) :
    ∃ m cs, Fr c.base f.L s.heap m ∧ LocR c.base imm f ρ m cs fr ∧ (∀ p ∈ cs ++ fr, p.1 ≠ f.L) ∧
      Rel c (f.comp m s.heap.objs.size (compEnvC scope (clF f.env.cells scope.names []) s.heap.objs.size f.env)) (inner scope ρ) st imm (cs ++ fr) { s with heap := h₁, toks := tk } := by
  have hcl := ok.cells hk
  simp only [compOk, Bool.and_eq_true, List.all_eq_true, bne_iff_ne, Bool.or_eq_true, beq_iff_eq] at hk
  obtain ⟨⟨h0, tk0, rfl⟩, m, mt, cs, fo, r⟩ := R
  dsimp only at hns hsb r ⊢
  have old : ∀ b ob, h0.get? b = some ob → h₁.get? b = some ob := fun b ob e => (hsb.2 b (Nat.ne_of_lt (Heap.lt_size e))).trans (Heap.get?_push_of_some _ e)
  have hLs : ∀ p ∈ whole mt cs imm fr fo, p.1 ≠ f.L := fun p hp => (r.news p hp).2.1
  have hin : ∀ p ∈ cs ++ fr, p ∈ whole mt cs imm fr fo := fun p hp => by
    simp only [List.mem_append] at hp ⊢
    rcases hp with hp | hp
    · exact .inr (.inl hp)
    · exact .inr (.inr (.inr (.inl hp)))
  obtain ⟨oL, es, ep, hL, hLd, hLk, hLf⟩ := r.frm.ns
  have hb : c.base.objs.size ≤ h0.objs.size := Nat.le_trans r.frm.above (Nat.le_of_lt r.frm.ns.lt)
  refine ⟨m, cs, r.frm, r.loc, fun p hp => hLs p (hin p hp), ⟨h₁, tk, rfl⟩, m₁, mt, [], (f.L, oL) :: fo, ⟨hns, fun b ob e => old b ob (r.frm.keep b ob e), hb⟩, fun p hp => ?_, nodup_count fun b => ?_, r.sto, .cons ⟨es, ep, hLd, hLk, hLf⟩ r.fos, ⟨fun y v e => ?_, (fun q => by cases q), (fun q => by cases q)⟩⟩
  · have hp' : p = (f.L, oL) ∨ p ∈ whole mt cs imm fr fo := by
      simp only [List.mem_append, List.mem_cons, List.nil_append, List.not_mem_nil, false_or] at hp ⊢
      rcases hp with hp | hp | (hp | hp) | hp | hp
      · exact .inr (.inl hp)
      · exact .inr (.inr (.inr (.inl hp)))
      · exact .inr (.inr (.inl hp))
      · exact .inr (.inr (.inr (.inr (.inl hp))))
      · exact .inl hp
      · exact .inr (.inr (.inr (.inr (.inr hp))))
    rcases hp' with rfl | hp'
    · exact ⟨old _ _ hL, Nat.ne_of_lt (Heap.lt_size hL), Heap.get?_none_of_le r.frm.above⟩
    · have z := r.news p hp'
      exact ⟨old _ _ z.1, Nat.ne_of_lt (Heap.lt_size z.1), z.2.2⟩
  · have nd := List.nodup_iff_count.mp r.nodup b
    simp only [List.map_append, List.map_cons, List.count_append, List.count_cons, List.map_nil, List.count_nil] at nd ⊢
    by_cases e : f.L = b
    · subst e
      have : (List.map (fun x => x.fst) (whole mt cs imm fr fo)).count f.L = 0 := List.count_eq_zero.mpr fun hm => by
        obtain ⟨p, hp, e⟩ := List.mem_map.mp hm
        exact hLs p hp e
      simp only [List.map_append, List.count_append] at this
      simp only [beq_self_eq_true, if_true]
      omega
    · have : (f.L == b) = false := by simpa using e
      simp only [this, Bool.false_eq_true, if_false]
      omega
  · obtain ⟨e1, e2⟩ := inner_get e
    obtain ⟨val, rv, q⟩ := r.loc.reads y v e2
    have hfree := mem_of_lookup e1
    have hcell : f.env.scope.names.lookup y = some .cell := by
      rcases (hk.1.1.2 _ hfree).1.2 with q | q
      · exact absurd rfl q
      · exact q
    obtain ⟨a, ha, ha'⟩ := clF_at hcl hfree
    refine ⟨val, rv, ?_⟩
    rcases q with ⟨q1, _⟩ | ⟨q1, cc, ob, q2, q3, q4⟩
    · rw [show f.env.kindOf y = f.env.scope.names.lookup y from rfl, hcell] at q1; cases q1
    · rw [ha'] at q2
      cases q2
      exact .inr ⟨.inl (relabel_free hk.2 hcell e1), a, ob, ha, by simpa using q3, q4⟩

/-- and out of it -/
theorem backC {f' : Fm} {m : Str → Option Value} {ρ' : Loc} {st' : St} {imm' cs : Led} {s' : Shared} {h : Heap} (hf : f'.frs = (f.L, m) :: f.frs) (R : Rel c f' ρ' st' imm' (cs ++ fr) s') (F : Fr c.base f.L h m) (hl : LocR c.base imm f ρ m cs fr) (hi : ∀ p ∈ imm, p ∈ imm')
    (hL : ∀ p ∈ cs ++ fr, p.1 ≠ f.L) : ∃ oC m', s'.heap.Ns f'.L m' ∧ (∃ es ep, oC.data = .dict es ep) ∧ Rel c f ρ st' imm' ((f'.L, oC) :: fr) s' := by
  obtain ⟨hr, m', mt', cs', fo', r⟩ := R
  have fos := r.fos
  rw [hf] at fos
  cases fos with
  | @cons _ _ oL _ fo no fos =>
    have hw := r.news (f.L, oL) (by simp)
    obtain ⟨es, ep, n1, n2, n3⟩ := no
    obtain ⟨oC, esC, epC, hC, hCd, hCk, hCf⟩ := r.frm.ns
    have nd := List.nodup_iff_count.mp r.nodup
    simp only [List.map_append, List.map_cons, List.count_append, List.count_cons] at nd
    have hC0 : ∀ p ∈ whole mt' cs' imm' (cs ++ fr) ((f.L, oL) :: fo), p.1 ≠ f'.L := fun p hp => (r.news p hp).2.1
    have sub : ∀ p ∈ whole mt' cs imm' fr fo, p ∈ whole mt' cs' imm' (cs ++ fr) ((f.L, oL) :: fo) := fun p hp => by
      simp only [List.mem_append, List.mem_cons] at hp ⊢
      rcases hp with hp | hp | hp | hp | hp
      · exact .inl hp
      · exact .inr (.inr (.inr (.inl (.inl hp))))
      · exact .inr (.inr (.inl hp))
      · exact .inr (.inr (.inr (.inl (.inr hp))))
      · exact .inr (.inr (.inr (.inr (.inr hp))))
    refine ⟨oC, m', r.frm.ns, ⟨esC, epC, hCd⟩, hr, m, mt', cs, fo, ⟨⟨oL, es, ep, hw.1, n1, n2, n3⟩, r.frm.keep, F.above⟩, fun p hp => ?_, nodup_count fun a => ?_, r.sto, fos, (hl.mono hi).more⟩
    · have hp' : p = (f'.L, oC) ∨ p ∈ whole mt' cs imm' fr fo := by
        simp only [List.mem_append, List.mem_cons] at hp ⊢
        rcases hp with hp | hp | hp | (hp | hp) | hp
        · exact .inr (.inl hp)
        · exact .inr (.inr (.inl hp))
        · exact .inr (.inr (.inr (.inl hp)))
        · exact .inl hp
        · exact .inr (.inr (.inr (.inr (.inl hp))))
        · exact .inr (.inr (.inr (.inr (.inr hp))))
      rcases hp' with rfl | hp'
      · exact ⟨hC, fun e => hC0 (f.L, oL) (by simp) e.symm, Heap.get?_none_of_le r.frm.above⟩
      · refine ⟨(r.news p (sub p hp')).1, fun e => ?_, (r.news p (sub p hp')).2.2⟩
        have q := nd f.L
        simp only [beq_self_eq_true, if_true] at q
        have hin : p.1 ∈ (mt' ++ (cs ++ (imm' ++ (fr ++ fo)))).map (·.1) := List.mem_map_of_mem hp'
        rw [e] at hin
        have := List.count_pos_iff.mpr hin
        simp only [List.map_append, List.count_append] at this
        omega
    · have q := nd a
      simp only [List.map_append, List.map_cons, List.count_append, List.count_cons]
      by_cases e : f'.L = a
      · subst e
        have : (List.map (fun x => x.fst) (whole mt' cs imm' fr fo)).count f'.L = 0 := List.count_eq_zero.mpr fun hm => by
          obtain ⟨p, hp, e⟩ := List.mem_map.mp hm
          exact hC0 p (sub p hp) e
        simp only [List.map_append, List.count_append] at this
        simp only [beq_self_eq_true, if_true]
        omega
      · have : (f'.L == a) = false := by simpa using e
        simp only [this, Bool.false_eq_true, if_false]
        omega
end
end Mine
namespace Mine
section
variable {c : Cx} {k : Nat} {sc : Scope} {ρ : Loc} {st : St} {Q : V → St → Prop} {S : Fl → Loc → St → Prop} {X : Xp} {f : Fm} {imm fr : Led} {s : Shared} {tk : Nat}

/-- the tests of a comprehension: none or one -/
def TST (c : Cx) (k : Nat) (sc : Scope) (ρ : Loc) (st : St) (B : Bool → St → Prop) (X : Xp) : List Expr → Prop
  | [] => B true st
  | [t] => WPB c k sc ρ st t B X
  | _ => False
/-- the turns that are left -/
def COMP (c : Cx) (k : Nat) (sc : Scope) (x : Str) (ρ : Loc) (ifs : List Expr) (elt : Expr) (v : V) (vs : List V) (P : List V → St → Prop) (X : Xp) : List V → List V → St → Prop
  | [], acc, st => P acc st
  | u :: us, acc, st => TST c k sc ((x, u) :: ρ) st (fun b st₁ => cnd b
      (WPE c k sc ((x, u) :: ρ) st₁ elt (fun y st₂ => Src st₂ v vs ∧ COMP c k sc x ρ ifs elt v vs P X us (acc ++ [y]) st₂) X)
      (Src st₁ v vs ∧ COMP c k sc x ρ ifs elt v vs P X us acc st₁)) X ifs

theorem wpTests {ifs : List Expr} {B : Bool → St → Prop} {E : Value → Shared → Prop} (ok : f.Ok c k) (hsc : f.env.scope = sc) (R : Rel c f ρ st imm fr s) (h : TST c k sc ρ st B X ifs) (hE : ∀ e s, Thrown c f imm fr X e s → E e s) :
    wpAny c.M f.A (forIn ifs true fun c r => if r = true then do let ok ← isTrue c f.env (eval c f.env); pure (ForInStep.yield ok) else pure (ForInStep.yield r)) (PostB c f ρ imm fr B) E s := by
  match ifs, h with
  | [], h => exact wpAny_tests_nil ⟨st, imm, fun _ h => h, R, h⟩
  | [t], h => exact wpAny_tests_one (wpAny_mono ((show WPB c k sc ρ st t B X from h).go f imm fr s ok hsc R) (fun _ _ p => p) hE)

theorem RVs.snoc {base : Heap} {imm : Led} {us : List V} {vals : List Value} {y : V} {yv : Value} (h : RVs base imm us vals) (hy : RV base imm y yv) : RVs base imm (us ++ [y]) (vals ++ [yv]) := h.append (.one hy)

theorem comp_core {elt iter : Expr} {x : Str} {px : Pos} {ifs : List Expr} {scope : Scope} {pos : Pos} {v : V} {vs : List V} {y : Value} {I : Addr} {o : Obj} {P : List V → St → Prop} {E : Value → Shared → Prop} {RR : Value → Addr → Result → Shared → Prop}
    (hq : c.q = true) (ok : f.Ok c k) (hk : compOk scope f.env.scope x = true) (R : Rel c f ρ st imm ((I, o) :: fr) s) (rv : RV c.base imm v y) (hi : ItO y v 0 o) (hsrc : Src st v vs) (hlen : vs.length ≤ sizeLine)
    (h : COMP c k (relabelS scope f.env.scope) x (inner scope ρ) ifs elt v vs P X vs [] st)
    (hRR : ∀ D C oC m' n us vals st' imm' s', (∀ p ∈ imm, p ∈ imm') → P us st' → RVs c.base imm' us vals → s'.heap.Ns C m' → (∀ w, oC.data ≠ .cell w) → Rel c f ρ st' imm' ((C, oC) :: (D, listOf vals.toArray n) :: fr) s' → RR (.ref D) C (.ok .next) s') :
    wpAny c.M f.A (newList []) (fun acc s₃ => wpAny c.M f.A (newFunctionEnv scope f.env.globals (clF f.env.cells scope.names []) [] f.env.qual none .none (some f.env)) (fun cenv s₄ =>
      codeAny c.M f.A (.compStart (.ListComp elt [⟨.Name x px, iter, ifs, 0⟩] scope pos) 0 (.ref I) acc { cenv with scope := relabel scope f.env }) (RR acc cenv.locals) s₄) E s₃) E s := by
  have hk' := hk
  simp only [compOk, Bool.and_eq_true, List.all_eq_true, bne_iff_ne, Bool.or_eq_true, beq_iff_eq] at hk'
  refine wpAny_newObj_type ?_
  have R₁ := R.pushFr (o := listOf (#[] : Array Value) 0) (tk := s.toks)
  generalize hD : s.heap.objs.size = D at R₁ ⊢
  refine wpAny_newFunctionEnv (fun p hp => (hk'.1.1.2 p hp).1.1) (by intro y hy; cases hy) (fun h₁ hns hsb => ?_) hk'.1.1.1
  obtain ⟨m, cs, F, hl, hL, R₂⟩ := enterComp (tk := s.toks + ([] : List (Str × Value)).length) ok hk R₁ hns hsb
  generalize hC : ((s.heap.push (listOf (#[] : Array Value) 0)).objs.size) = C at R₂
  have ok' := okComp (m := m) (C := C) ok hk
  generalize hf' : f.comp m C (compEnvC scope (clF f.env.cells scope.names []) C f.env) = f' at R₂ ok'
  have hfrs : f'.frs = (f.L, m) :: f.frs := by rw [← hf']
  have hA : f'.A = f.A := by rw [← hf']
  have henv : f'.env = compEnvC scope (clF f.env.cells scope.names []) C f.env := by rw [← hf']
  have hfl : f'.env.locals = f'.L := by rw [← hf']; rfl
  have hfL : f'.L = C := by rw [← hf']
  have hsc : f'.env.scope = relabelS scope f.env.scope := by rw [← hf']; rfl
  have hl0 : LocR c.base imm f ρ m cs fr := by
    have := LocR.other (l₁ := []) hl (by intro w e; cases e) (l₃ := (I, o) :: fr) fun p hp => hp
    exact LocR.other (l₁ := []) this hi.fields fun p hp => hp
  have hx : f'.env.kindOf x = some .local := by rw [henv]; exact lookup_relabel_local hk'.1.2
  have hinn : ∀ (u : V) z w, getL (inner scope ρ) z = some w → getL ((x, u) :: inner scope ρ) z = some w := fun u z w e => by
    rw [getL_cons]
    by_cases q : x = z
    · subst q
      have := (inner_get e).1
      rw [hk'.1.2] at this; cases this
    · rw [if_neg q]; exact e
  have hset : ∀ (u : V) z w, getL ((x, u) :: inner scope ρ) z = some w → getL (setL (inner scope ρ) x u) z = some w := fun u z w e => by
    rw [getL_cons] at e
    rw [getL_setL]
    by_cases q : x = z
    · subst q; rw [if_pos rfl] at e ⊢; exact e
    · rw [if_neg q] at e; rw [if_neg (fun z => q z.symm)]; exact e
  have R₃ := R₂.permFr (fr' := (I, o) :: (D, listOf ([] : List Value).toArray 0) :: (cs ++ fr)) (by
    refine List.Perm.trans List.perm_middle ?_
    refine List.Perm.trans (List.Perm.cons _ List.perm_middle) ?_
    exact List.Perm.swap _ _ _)
  have loop : codeAny c.M f.A (.compLoop (.ListComp elt [⟨.Name x px, iter, ifs, 0⟩] scope pos) 0 (.ref I) (.ref D) (compEnvC scope (clF f.env.cells scope.names []) C f.env)) (RR (.ref D) C) { s with heap := h₁, toks := s.toks + ([] : List (Str × Value)).length } := by
    rw [← henv, ← hA]
    refine codeAny_compLoop_tests (fun n s' => ∃ us i acc vals nn st' imm' o, n = us.length ∧ vs.drop i = us ∧ (∀ p ∈ imm, p ∈ imm') ∧ ItO y v i o ∧ RVs c.base imm' acc vals ∧ acc.length ≤ i ∧
        Rel c f' (inner scope ρ) st' imm' ((I, o) :: (D, listOf vals.toArray nn) :: (cs ++ fr)) s' ∧ Src st' v vs ∧ COMP c k (relabelS scope f.env.scope) x (inner scope ρ) ifs elt v vs P X us acc st') ?_ vs.length
      ⟨vs, 0, [], [], 0, st, imm, o, rfl, rfl, fun _ h => h, hi, .nil, Nat.zero_le _, R₃, hsrc, h⟩
    rintro n s' ⟨us, i, acc, vals, nn, st', imm', o', rfl, hus, i', hi', hacc, hai, R', hsrc', hC'⟩
    cases us with
    | nil =>
      have hle : vs.length ≤ i := by simpa using hus
      refine wpAny_mono (it_end (ok'.hnd hq) R' (rv.mono i') hsrc' hi' hle) (fun r s₃ p => ?_) fun _ _ t => t
      obtain ⟨rfl, R₄⟩ := p
      have R₅ := R₄.permFr (fr' := cs ++ (D, listOf vals.toArray nn) :: fr) List.perm_middle.symm
      obtain ⟨oC, m', hnsC, ⟨es, ep, hoC⟩, R₆⟩ := backC hfrs R₅ F hl0.more i' (fun p hp => by
        rcases List.mem_append.mp hp with hp | hp
        · exact hL p (List.mem_append_left _ hp)
        · rcases List.mem_cons.mp hp with rfl | hp
          · exact hL (D, listOf (#[] : Array Value) 0) (List.mem_append_right _ (.head _))
          · exact hL p (List.mem_append_right _ (.tail _ (.tail _ hp))))
      rw [hfL] at hnsC R₆
      exact hRR D C oC m' nn acc vals st' imm' _ i' hC' hacc hnsC (by rw [hoC]; intro w e; cases e) R₆
    | cons u us =>
      have hu : vs[i]? = some u := by
        have := congrArg List.head? hus
        rw [List.head?_drop] at this
        simpa using this
      have hdr : vs.drop (i + 1) = us := by
        have := congrArg List.tail hus
        rwa [List.tail_drop] at this
      have hil : i < vs.length := by
        rcases Nat.lt_or_ge i vs.length with q | q
        · exact q
        · rw [List.getElem?_eq_none q] at hu; cases hu
      refine wpAny_mono (it_next R' (rv.mono i') hsrc' hi' hu) (fun r s₃ p => ?_) fun _ _ t => t
      obtain ⟨w, o₂, rfl, rw', hi₂, R₄⟩ := p
      refine wpAny_assign_Name (store_local ok' hfl R₄ hx rw' fun s₄ R₅ => ?_)
      have R₆ := R₅.locs (hset u)
      refine wpAny_mono (wpTests ok' hsc R₆ hC' fun e s t => t.elim) (fun b s₅ p => ?_) fun _ _ t => t
      obtain ⟨st₅, imm₅, i₅, R₇, h₇⟩ := p
      have i05 : ∀ p ∈ imm, p ∈ imm₅ := fun p hp => i₅ p (i' p hp)
      cases b with
      | false =>
        rw [if_neg (by decide)]
        exact ⟨us.length, by simp, us, i + 1, acc, vals, nn, st₅, imm₅, o₂, rfl, hdr, i05, hi₂, hacc.mono i₅, Nat.le_succ_of_le hai, R₇.locs (hinn u), (of_f h₇).1, (of_f h₇).2⟩
      | true =>
        rw [if_pos rfl]
        refine wpAny_mono ((of_t h₇).go f' imm₅ _ s₅ ok' hsc R₇) (fun z s₆ p => ?_) fun _ _ t => t.elim
        obtain ⟨zv, st₆, imm₆, i₆, rz, R₈, hsrc₆, h₈⟩ := p
        have ho := R₈.inFr (.tail _ (.head _))
        have hvl : vals.length ≤ sizeLine := by rw [hacc.length]; omega
        refine append_at (hsz := by simpa using hvl) ho fun h' hsb' hg' => ?_
        refine ⟨us.length, by simp, us, i + 1, acc ++ [zv], vals ++ [z], nn + 1, st₆, imm₆, o₂, rfl, hdr, fun p hp => i₆ p (i05 p hp), hi₂, ((hacc.mono i₅).mono i₆).snoc rz, by simp; omega, ?_, hsrc₆, h₈⟩
        have := (Rel.frSetAt [(I, o₂)] R₈ (tk := s₆.toks) hsb' hg' (by intro w e; cases e)).locs (hinn u)
        simpa using this
  subst hD
  refine codeAny_compStart_list ?_ ?_
  · exact loop
  · have hI := it_self (E := notedBy c.M f.A (compEnvC scope (clF f.env.cells scope.names []) C f.env) fun x s' => RR (.ref s.heap.objs.size) C (.error x) s') (P := fun it' s' => codeAny c.M f.A (.compLoop (.ListComp elt [⟨.Name x px, iter, ifs, 0⟩] scope pos) 0 it' (.ref s.heap.objs.size) (compEnvC scope (clF f.env.cells scope.names []) C f.env)) (RR (.ref s.heap.objs.size) C) s') R₃ hi loop
    rw [hA] at hI
    exact hI

theorem WPE.comp {elt iter : Expr} {x : Str} {px : Pos} {ifs : List Expr} {scope : Scope} {pos : Pos} (hq : c.q = true) (hk : compOk scope sc x = true)
    (h : WPE c k sc ρ st iter (fun v st₁ => ∃ vs, Src st₁ v vs ∧ vs.length ≤ sizeLine ∧ COMP c k (relabelS scope sc) x (inner scope ρ) ifs elt v vs (fun us st₂ => ∀ a, get st₂ a = none → Q (.ref a) ((a, .list us) :: st₂)) X vs [] st₁) X)
    (hs : ∀ env x, foldedSetIterable iter env x = pure x := by intro _ _; rfl) : WPE c k sc ρ st (.ListComp elt [⟨.Name x px, iter, ifs, 0⟩] scope pos) Q X := by
  refine ⟨fun f imm fr s ok hsc R => ?_⟩
  subst hsc
  have hk' := hk
  simp only [compOk, Bool.and_eq_true, List.all_eq_true, bne_iff_ne, Bool.or_eq_true, beq_iff_eq] at hk'
  rw [eval_ListComp]
  refine wpAny_comprehension_free (use := none) rfl (hs _) (closure_is (ok.cells hk)) hk'.1.1.1 (fun p hp e => ?_) (wpAny_mono (h.go f imm fr s ok rfl R) (fun y s₁ p => ?_) fun _ _ t => t)
  · rcases (hk'.1.1.2 p hp).2 with q | q
    · exact absurd e q
    · exact q
  · obtain ⟨v, st₁, imm₁, i₁, rv, R₁, vs, hsrc, hlen, hC⟩ := p
    refine wpAny_mono (it_start (E := Thrown c f imm fr X) R₁ rv hsrc) (fun it s₂ p => ?_) fun _ _ t => t
    obtain ⟨I, o, rfl, hi, R₂⟩ := p
    refine comp_core (RR := fun acc C => compPost c.M f.A (Thrown c f imm fr X) none (PostE c f ρ imm fr Q) acc C) hq ok hk R₂ rv hi hsrc hlen hC ?_
    intro D C oC m' n us vals st' imm' s' i' hP rus hns hoC R'
    refine ⟨m', hns, fun h' hsb => ?_⟩
    have R₃ := R'.frEnd (tk := s'.toks) hsb.extBut hoC
    obtain ⟨R₄, hnone⟩ := R₃.frSt (by intro w e; cases e) (.list rus)
    exact ⟨.ref D, _, imm', fun p hp => i' p (i₁ p hp), .ref D, R₄, hP D hnone⟩

theorem WPs.asgComp {elt iter : Expr} {x y : Str} {px py : Pos} {ifs : List Expr} {scope : Scope} {pos spos : Pos} (hq : c.q = true) (hk : compOk scope sc x = true) (hy : storesB sc y = true)
    (h : WPE c k sc ρ st iter (fun v st₁ => ∃ vs, Src st₁ v vs ∧ vs.length ≤ sizeLine ∧ COMP c k (relabelS scope sc) x (inner scope ρ) ifs elt v vs (fun us st₂ => ∀ a, get st₂ a = none → S .next (setL ρ y (.ref a)) ((a, .list us) :: st₂)) X vs [] st₁) X)
    (hsw : ∀ env : Env, env.scope = sc → swapsWith (.ListComp elt [⟨.Name x px, iter, ifs, 0⟩] scope pos) (some (.Name y py)) spos.line env = pure true)
    (hs : ∀ env x, foldedSetIterable iter env x = pure x := by intro _ _; rfl) : WPs c k sc ρ st (.Assign [.Name y py] (.ListComp elt [⟨.Name x px, iter, ifs, 0⟩] scope pos) spos) S X := by
  refine ⟨fun f imm fr s ok hsc own R => ?_⟩
  subst hsc
  have hk' := hk
  simp only [compOk, Bool.and_eq_true, List.all_eq_true, bne_iff_ne, Bool.or_eq_true, beq_iff_eq] at hk'
  rw [exec_Assign_Name_used _ _ _ _ (hsw f.env rfl)]
  refine wpAny_bind (wpAny_standAt (wpAny_bind ?_))
  show wpAny _ f.A (do let _ ← comprehension (.ListComp elt [⟨.Name x px, iter, ifs, 0⟩] scope pos) scope f.env _ (newList []) false (eval iter f.env) (some (assign (.Name y py) f.env))) _ _ s
  refine wpAny_bind (wpAny_mono (wpAny_comprehension_free (use := some (assign (.Name y py) f.env)) (Q := fun _ s' => PostS c f imm fr S .next s') rfl (hs _) (closure_is (ok.cells hk)) hk'.1.1.1 (fun p hp e => ?_)
    (wpAny_mono (h.go f imm fr s ok rfl R) (fun z s₁ p => ?_) fun _ _ t => t)) (fun _ s' hq => wpAny_pure (wpAny_pure hq)) fun _ _ e => e)
  · rcases (hk'.1.1.2 p hp).2 with q | q
    · exact absurd e q
    · exact q
  · obtain ⟨v, st₁, imm₁, i₁, rv, R₁, vs, hsrc, hlen, hC⟩ := p
    refine wpAny_mono (it_start (E := Thrown c f imm fr X) R₁ rv hsrc) (fun it s₂ p => ?_) fun _ _ t => t
    obtain ⟨I, o, rfl, hi, R₂⟩ := p
    refine comp_core (RR := fun acc C => compPost c.M f.A (Thrown c f imm fr X) (some (assign (.Name y py) f.env)) (fun _ s' => PostS c f imm fr S .next s') acc C) hq ok hk R₂ rv hi hsrc hlen hC ?_
    intro D C oC m' n us vals st' imm' s' i' hP rus hns hoC R'
    have R₃ := R'.permFr (fr' := (D, listOf vals.toArray n) :: (C, oC) :: fr) (List.Perm.swap _ _ _)
    obtain ⟨R₄, hnone⟩ := R₃.frSt (by intro w e; cases e) (.list rus)
    obtain ⟨oC', es, ep, hC1, hC2, hC3, hC4⟩ := hns
    refine wpAny_assign_Name (store ok own R₄ hy (.ref D) fun s₅ R₅ => ?_)
    have hg := R₅.inFr (.head _)
    have hg' := R'.inFr (.head _)
    rw [hC1] at hg'
    cases hg'
    refine ⟨m', ⟨oC, es, ep, hg, hC2, hC3, hC4⟩, fun h' hsb => ?_⟩
    exact ⟨.next, _, _, imm', fun p hp => i' p (i₁ p hp), .next, R₅.frEnd (tk := s₅.toks) hsb.extBut hoC, hP D hnone⟩
end
end Mine
namespace Mine
section
variable {c : Cx} {k : Nat} {sc : Scope} {ρ : Loc} {st : St} {Q : V → St → Prop} {S : Fl → Loc → St → Prop} {X : Xp} {f : Fm} {imm fr : Led} {s : Shared} {tk : Nat}

/-! range -/
theorem PostE.pushImm {v : V} {x : Value} {o : Obj} (R : Rel c f ρ st imm fr s) (hv : RV c.base ((s.heap.objs.size, o) :: imm) v x) (h : Q v st) (ho : o.isFreed = false := by rfl) : PostE c f ρ imm fr Q x { s with heap := s.heap.push o, toks := tk } :=
  ⟨v, st, _, fun _ h => .tail _ h, hv, R.pushImm (tk := tk) ho, h⟩
theorem WL.range1 {n : Int} (h : Q (.rng 0 n 1) st) : WL c k (fun xs => call (.type "range") xs) [.int n] ρ st Q X := by
  refine ⟨fun f imm fr s xs ok R rvs => ?_⟩
  match xs, rvs with
  | [_], .cons (.int _ t) .nil => exact call_range_1 (.pushImm R (.rng (.head _)) h)
theorem WL.range2 {a b : Int} (h : Q (.rng a b 1) st) : WL c k (fun xs => call (.type "range") xs) [.int a, .int b] ρ st Q X := by
  refine ⟨fun f imm fr s xs ok R rvs => ?_⟩
  match xs, rvs with
  | [_, _], .cons (.int _ t) (.cons (.int _ u) .nil) => exact call_range_2 (.pushImm R (.rng (.head _)) h)
theorem WL.range3 {a b d : Int} (hd : d ≠ 0) (hs : d.natAbs < 1073741824) (h : Q (.rng a b d) st) : WL c k (fun xs => call (.type "range") xs) [.int a, .int b, .int d] ρ st Q X := by
  refine ⟨fun f imm fr s xs ok R rvs => ?_⟩
  match xs, rvs with
  | [_, _, _], .cons (.int _ t) (.cons (.int _ u) (.cons (.int _ w) .nil)) => exact call_range_3 hd (.pushImm R (.rng (.head _)) h) (.inl (PyProof.noPylong_small hs))
theorem small_of {a b d : Int} (h : a.natAbs < 1000000 ∧ b.natAbs < 1000000 ∧ (d = 1 ∨ d = -1)) : Builtin.Range.small a b d = true := by
  obtain ⟨ha, hb, hd⟩ := h
  unfold Builtin.Range.small Builtin.Range.rangeFitsLong Builtin.Range.rangeSize
  rcases hd with rfl | rfl
  · simp only [Bool.and_eq_true, Bool.or_eq_true, decide_eq_true_eq]
    have e : (if (1 : Int) > 0 then (if a < b then (b - a - 1) / 1 + 1 else 0) else (if a > b then (a - b - 1) / (-1) + 1 else 0)) = (if a < b then b - a else 0) := by
      rw [if_pos (by decide), Int.ediv_one]; split <;> omega
    rw [e]
    refine ⟨⟨⟨⟨by omega, by omega⟩, by decide⟩, ?_⟩, .inr ?_⟩
    · split <;> omega
    · rw [if_pos (show (1 : Int) > 0 by decide)]; simp; omega
  · simp only [Bool.and_eq_true, Bool.or_eq_true, decide_eq_true_eq]
    have e : (if (-1 : Int) > 0 then (if a < b then (b - a - 1) / (-1) + 1 else 0) else (if a > b then (a - b - 1) / (- -1) + 1 else 0)) = (if a > b then a - b else 0) := by
      rw [if_neg (by decide), show (- -1 : Int) = 1 from rfl, Int.ediv_one]; split <;> omega
    rw [e]
    refine ⟨⟨⟨⟨by omega, by omega⟩, by decide⟩, ?_⟩, .inr ?_⟩
    · split <;> omega
    · rw [if_neg (show ¬ (-1 : Int) > 0 by decide)]; simp; omega

/-! numbers of a list -/
theorem RVs.ints {base : Heap} {imm : Led} : ∀ {ns : List Int} {xs : List Value}, RVs base imm (ns.map V.int) xs → IntsAre xs ns
  | [], _, .nil => .nil
  | n :: ns, _, .cons (.int _ t) r => .cons n t (RVs.ints r)
theorem RVs.bools {base : Heap} {imm : Led} : ∀ {bs : List Bool} {xs : List Value}, RVs base imm (bs.map V.bool) xs → LSm.BoolsAre xs bs
  | [], _, .nil => .nil
  | b :: bs, _, .cons (.bool _) r => .cons b (RVs.bools r)
theorem RVs.ofInts {base : Heap} {imm : Led} {ns : List Int} {xs : List Value} (h : IntsAre xs ns) : RVs base imm (ns.map V.int) xs := by
  induction h with
  | nil => exact .nil
  | cons n t _ ih => exact .cons (.int n t) ih
theorem Rel.same {h' : Heap} {m : Str → Option Value} {mt cs fo : Led} (hs : ∃ h tk, s = { c.s₀ with heap := h, toks := tk }) (r : RelAt c f ρ st imm fr s.heap m mt cs fo) (F : Fr c.base f.L h' m) (N : News c.base f.L h' (whole mt cs imm fr fo)) : Rel c f ρ st imm fr { s with heap := h', toks := tk } := by
  obtain ⟨h0, tk0, rfl⟩ := hs
  exact ⟨⟨h', tk, rfl⟩, m, mt, cs, fo, F, N, r.nodup, r.sto, r.fos, r.loc⟩
theorem Rel.isList {a : Addr} {vs : List V} (R : Rel c f ρ st imm fr s) (hg : Mine.get st a = some (.list vs)) : ∃ vals n, RVs c.base imm vs vals ∧ s.heap.get? a = some (listOf vals.toArray n) := by
  obtain ⟨co, hr, ho⟩ := R.get hg
  cases hr with
  | list r => exact ⟨_, _, r, ho⟩
theorem WL.minInts {a : Addr} {ns : List Int} (hq : c.q = true) (hg : get st a = some (.list (ns.map .int))) (hne : 0 < ns.length) (h : ∀ M, M ∈ ns → (∀ x ∈ ns, M ≤ x) → Q (.int M) st) : WL c k (fun xs => call (.builtin "min") xs) [.ref a] ρ st Q X := by
  refine ⟨fun f imm fr s xs ok R rvs => ?_⟩
  match xs, rvs with
  | [_], .cons (.ref _) .nil =>
    obtain ⟨vals, n, r, ho⟩ := R.isList hg
    obtain ⟨hs, m, mt, cs, fo, rr⟩ := id R
    exact kso_min rr.frm rr.news ⟨_, ho, rfl, _, rfl⟩ r.ints hne (ok.hnd hq) fun h' M t tk F N h1 h2 => .of (.int _ _) (Rel.same hs rr F N) (h M h1 h2)
theorem WL.sumInts {a : Addr} {ns : List Int} (hq : c.q = true) (hg : get st a = some (.list (ns.map .int))) (h : Q (.int ns.sum) st) : WL c k (fun xs => call (.builtin "sum") xs) [.ref a] ρ st Q X := by
  refine ⟨fun f imm fr s xs ok R rvs => ?_⟩
  match xs, rvs with
  | [_], .cons (.ref _) .nil =>
    obtain ⟨vals, n, r, ho⟩ := R.isList hg
    obtain ⟨hs, m, mt, cs, fo, rr⟩ := id R
    exact LSm.sum_ints rr.frm rr.news (ok.hnd hq) ⟨_, ho, rfl, _, rfl⟩ r.ints fun h' tk t' F N => .of (.int _ _) (Rel.same hs rr F N) h
theorem WL.allBools {a : Addr} {bs : List Bool} (hq : c.q = true) (hg : get st a = some (.list (bs.map .bool))) (h : Q (.bool (bs.all id)) st) : WL c k (fun xs => call (.builtin "all") xs) [.ref a] ρ st Q X := by
  refine ⟨fun f imm fr s xs ok R rvs => ?_⟩
  match xs, rvs with
  | [_], .cons (.ref _) .nil =>
    obtain ⟨vals, n, r, ho⟩ := R.isList hg
    obtain ⟨hs, m, mt, cs, fo, rr⟩ := id R
    exact LSm.all_bools rr.frm rr.news (ok.hnd hq) ⟨_, ho, rfl, _, rfl⟩ r.bools fun h' tk F N => .of (.bool _) (Rel.same hs rr F N) h
theorem WL.sortedInts {a : Addr} {ns : List Int} (hg : get st a = some (.list (ns.map .int))) (hl : ns.length < 64) (h : ∀ ns' : List Int, ns'.Perm ns → ns'.Pairwise (· ≤ ·) → ∀ d, get st d = none → Q (.ref d) ((d, .list (ns'.map .int)) :: st)) : WL c k (fun xs => call (.builtin "sorted") xs) [.ref a] ρ st Q X := by
  refine ⟨fun f imm fr s xs ok R rvs => ?_⟩
  match xs, rvs with
  | [_], .cons (.ref _) .nil =>
    obtain ⟨vals, n, r, ho⟩ := R.isList hg
    obtain ⟨⟨h0, tk0, rfl⟩, m, mt, cs, fo, rr⟩ := id R
    refine kso_sorted rr.frm rr.news ⟨_, ho, rfl, _, rfl⟩ r.ints hl fun D vs' ns' e h' F N hlt hi _ hp ho _ => ?_
    have hn : get st D = none := by
      cases q : get st D with
      | none => rfl
      | some y =>
        obtain ⟨co, hm, _⟩ := rr.sto.get q
        exact absurd (hlt (D, co) (List.mem_append_left _ hm)) (Nat.lt_irrefl _)
    refine ⟨.ref D, _, imm, fun _ h => h, .ref D, ⟨⟨h', tk0, rfl⟩, m, (D, listOf vs'.toArray e) :: mt, cs, fo, F, N, ?_, .cons (.list (RVs.ofInts hi)) rr.sto, rr.fos, rr.loc⟩, h ns' hp ho D hn⟩
    rw [show whole ((D, listOf vs'.toArray e) :: mt) cs imm fr fo = (D, listOf vs'.toArray e) :: whole mt cs imm fr fo from rfl, List.map_cons, List.nodup_cons]
    refine ⟨fun hm => ?_, rr.nodup⟩
    obtain ⟨p, hp, e⟩ := List.mem_map.mp hm
    have := hlt p hp
    rw [e] at this
    exact Nat.lt_irrefl _ this
theorem WL.min2 {a b : Int} (hq : c.q = true) (h : Q (.int (min a b)) st) : WL c k (fun xs => call (.builtin "min") xs) [.int a, .int b] ρ st Q X := by
  refine ⟨fun f imm fr s xs ok R rvs => ?_⟩
  match xs, rvs with
  | [_, _], .cons (.int _ t) (.cons (.int _ u) .nil) =>
    refine min_two_ints (ok.hnd hq) fun h' tk hk => ?_
    have e : min a b = if b < a then b else a := by rw [Int.min_def]; split <;> split <;> omega
    rw [e] at h
    split <;> rename_i q <;> simp only [q, if_true, if_false] at h <;> exact .of (.int _ _) (R.keeps hk) h
theorem WL.max2 {a b : Int} (hq : c.q = true) (h : Q (.int (max a b)) st) : WL c k (fun xs => call (.builtin "max") xs) [.int a, .int b] ρ st Q X := by
  refine ⟨fun f imm fr s xs ok R rvs => ?_⟩
  match xs, rvs with
  | [_, _], .cons (.int _ t) (.cons (.int _ u) .nil) =>
    refine max_two_ints (ok.hnd hq) fun h' tk hk => ?_
    have e : max a b = if b > a then b else a := by rw [Int.max_def]; split <;> split <;> omega
    rw [e] at h
    split <;> rename_i q <;> simp only [q, if_true, if_false] at h <;> exact .of (.int _ _) (R.keeps hk) h
theorem WL.intBool {b : Bool} (h : Q (.int (if b then 1 else 0)) st) : WL c k (fun xs => call (.type "int") xs) [.bool b] ρ st Q X := by
  refine ⟨fun f imm fr s xs ok R rvs => ?_⟩
  match xs, rvs with
  | [_], .cons (.bool _) .nil => exact call_int_bool (.int R h)

/-! methods of lists -/
theorem Rel.noneAt {D : Addr} {m : Str → Option Value} {mt cs fo : Led} {h : Heap} (rr : RelAt c f ρ st imm fr h m mt cs fo) (hlt : ∀ p ∈ whole mt cs imm fr fo, p.1 < D) : Mine.get st D = Option.none := by
  cases q : Mine.get st D with
  | none => rfl
  | some y =>
    obtain ⟨co, hm, _⟩ := rr.sto.get q
    exact absurd (hlt (D, co) (List.mem_append_left _ hm)) (Nat.lt_irrefl _)
theorem RelAt.newSt {D : Addr} {o : Obj} {x : O} {m : Str → Option Value} {mt cs fo : Led} {h h' : Heap} (rr : RelAt c f ρ st imm fr h m mt cs fo) (F : Fr c.base f.L h' m) (N : News c.base f.L h' ((D, o) :: whole mt cs imm fr fo)) (hlt : ∀ p ∈ whole mt cs imm fr fo, p.1 < D) (hr : RO c imm x o) :
    RelAt c f ρ ((D, x) :: st) imm fr h' m ((D, o) :: mt) cs fo := by
  refine ⟨F, N, ?_, .cons hr rr.sto, rr.fos, rr.loc⟩
  rw [show whole ((D, o) :: mt) cs imm fr fo = (D, o) :: whole mt cs imm fr fo from rfl, List.map_cons, List.nodup_cons]
  refine ⟨fun hm => ?_, rr.nodup⟩
  obtain ⟨p, hp, e⟩ := List.mem_map.mp hm
  have := hlt p hp
  rw [e] at this
  exact Nat.lt_irrefl _ this
theorem Rel.mapSeq {a : Addr} {vs vs' : List V} {vals vals' : List Value} {n : Nat} (g : Array Value → Array Value) (R : Rel c f ρ st imm fr s) (hg : Mine.get st a = some (.list vs)) (ho : s.heap.get? a = some (listOf vals.toArray n)) (e : g vals.toArray = vals'.toArray) (r' : RVs c.base imm vs' vals') :
    Rel c f ρ (Mine.upd st a (.list vs')) imm fr { s with heap := s.heap.update a (Obj.mapSeq g), toks := tk } := by
  have hm : Obj.mapSeq g (listOf vals.toArray n) = listOf vals'.toArray (if vals'.toArray.size == vals.toArray.size then n else n + 1) := by
    show Obj.mk _ _ _ _ = _
    rw [e]
  refine R.upd (o := listOf vals'.toArray (if vals'.toArray.size == vals.toArray.size then n else n + 1)) hg (Heap.SameBut.update ..) ?_ (.list r')
  rw [Heap.get?_update_self _ ho (by rw [hm]; rfl), hm]
theorem WL.append {a : Addr} {vs : List V} {v : V} (hg : get st a = some (.list vs)) (hl : vs.length ≤ 1000000) (h : Q .none (upd st a (.list (vs ++ [v])))) : WL c k (fun xs => call (.builtin "list.append") xs) [.ref a, v] ρ st Q X := by
  refine ⟨fun f imm fr s xs ok R rvs => ?_⟩
  match xs, rvs with
  | [_, _], .cons (.ref _) (.cons rv .nil) =>
    obtain ⟨vals, n, r, ho⟩ := R.isList hg
    have hl' : vals.length ≤ 1000000 := by rw [r.length]; exact hl
    refine append_at (hsz := by rw [PySem.sizeLine_eq]; simp; omega) ho fun h' hsb hg' => ?_
    exact .none (R.upd (tk := s.toks) hg hsb hg' (by simpa using RO.list (r.snoc rv))) h
theorem WPE.meth {e : Expr} {name : Str} {ap pos : Pos} {args : List Expr} {id : String} (slot : Slot "list" name id) (hty : typeOf (.builtin id) = pure (.type "method_descriptor"))
    (h : WPE c k sc ρ st e (fun v st₁ => ∃ a vs, v = .ref a ∧ get st₁ a = some (.list vs) ∧ WPEs c k sc ρ st₁ args (fun us st₂ => WL c k (fun xs => PySem.call (.builtin id) xs) (.ref a :: us) ρ st₂ Q X) X) X)
    (hp : args.any isStar = false := by rfl)
    (he : ∀ env, ∃ pl, eval (.Call (.Attribute e name ap) args [] pos) env = (do
      let ov ← eval e env
      standAt ap.atName
      let (f, first) ← holding [ov] (getMethod ov name pl)
      callWith pos f first (backTo pos (starEach args env)) []) := by intro _; exact ⟨_, rfl⟩) : WPE c k sc ρ st (.Call (.Attribute e name ap) args [] pos) Q X := by
  refine ⟨fun f imm fr s ok hsc R => ?_⟩
  obtain ⟨pl, he⟩ := he f.env
  refine MethodCall_ (pl := pl) (wpAny_mono (h.go f imm fr s ok hsc R) (fun x s₁ p => ?_) fun _ _ t => t) he
  obtain ⟨v, st₁, imm₁, i₁, rv, R₁, a, vs, rfl, hg, h₁⟩ := p
  cases rv with
  | ref =>
    obtain ⟨vals, n, r, ho⟩ := R₁.isList hg
    refine getMethod_list_of slot hty ⟨_, ho, rfl, _, rfl⟩ ⟨_, ho, rfl⟩ ?_
    refine wpAny_mono (callWithW (f := f) (val := .builtin id) (first := [.ref a]) (vs₀ := [.ref a]) rfl hp ok hsc R₁ (.one (.ref a)) (.inr fun T e => by cases e) (by simpa using h₁)) (fun _ _ p => p.mono i₁) fun _ _ t => t.mono i₁

theorem WPE.mAppend {e : Expr} {ap pos : Pos} {args : List Expr}
    (h : WPE c k sc ρ st e (fun v st₁ => ∃ a vs, v = .ref a ∧ get st₁ a = some (.list vs) ∧ WPEs c k sc ρ st₁ args (fun us st₂ => WL c k (fun xs => PySem.call (.builtin "list.append") xs) (.ref a :: us) ρ st₂ Q X) X) X)
    (hp : args.any isStar = false := by rfl)
    (he : ∀ env, ∃ pl, eval (.Call (.Attribute e "append" ap) args [] pos) env = (do
      let ov ← eval e env
      standAt ap.atName
      let (f, first) ← holding [ov] (getMethod ov "append" pl)
      callWith pos f first (backTo pos (starEach args env)) []) := by intro _; exact ⟨_, rfl⟩) : WPE c k sc ρ st (.Call (.Attribute e "append" ap) args [] pos) Q X := WPE.meth slot_list_append PySem.F.type_list_append h hp he

theorem W2.mulList {a : Addr} {vs : List V} {n : Int} (hg : get st a = some (.list vs)) (hn : n.natAbs < 1000000) (hsz : vs.length * n.toNat ≤ 256) (h : ∀ d, get st d = none → Q (.ref d) ((d, .list (List.replicate n.toNat vs).flatten) :: st)) : W2 c k (binaryOp .Mult) (.ref a) (.int n) ρ st Q X := by
  refine ⟨fun f imm fr s x y ok R ra rb => ?_⟩
  cases ra with
  | ref =>
  cases rb with
  | int =>
    obtain ⟨vals, m, r, ho⟩ := R.isList hg
    obtain ⟨⟨h0, tk0, rfl⟩, m, mt, cs, fo, rr⟩ := id R
    refine KMa.mul rr.frm rr.news ⟨_, ho, rfl, _, rfl⟩ (by omega) (by omega) (by rw [r.length]; exact hsz) rfl fun D h' F N hlt => ?_
    have hr : RVs c.base imm (List.replicate n.toNat vs).flatten (List.replicate n.toNat vals).flatten := by
      generalize n.toNat = j
      induction j with
      | zero => exact .nil
      | succ j ih => simpa [List.replicate_succ] using r.append ih
    exact ⟨.ref D, _, imm, fun _ h => h, .ref D, ⟨⟨h', tk0, rfl⟩, m, _, cs, fo, rr.newSt F N hlt (.list hr)⟩, h D (Rel.noneAt rr hlt)⟩
theorem FOR.inv {x : Str} {body : List Stmt} {v : V} {vs : List V} (J : Nat → Loc → St → Prop) (h0 : J 0 ρ st)
    (step : ∀ i u ρ₁ st₁, vs[i]? = some u → J i ρ₁ st₁ → WPS c k sc (setL ρ₁ x u) st₁ body (fun fl ρ' st' => lp fl (∃ ρ₂, Sub ρ₂ ρ' ∧ Src st' v vs ∧ J (i + 1) ρ₂ st') (fun fl => S fl ρ' st')) X)
    (fin : ∀ ρ₁ st₁, J vs.length ρ₁ st₁ → S .next ρ₁ st₁) : FOR c k sc x body v vs S X vs ρ st := by
  have go : ∀ us i ρ st, vs.drop i = us → i ≤ vs.length → J i ρ st → FOR c k sc x body v vs S X us ρ st := by
    intro us
    induction us with
    | nil =>
      intro i ρ st hd hi hJ
      have : i = vs.length := by have : vs.length ≤ i := by simpa using hd
                                 omega
      subst this
      exact fin ρ st hJ
    | cons u us ih =>
      intro i ρ st hd hi hJ
      have hu : vs[i]? = some u := by
        have := congrArg List.head? hd
        rw [List.head?_drop] at this
        simpa using this
      have hdr : vs.drop (i + 1) = us := by
        have := congrArg List.tail hd
        rwa [List.tail_drop] at this
      have hil : i < vs.length := by
        rcases Nat.lt_or_ge i vs.length with q | q
        · exact q
        · rw [List.getElem?_eq_none q] at hu; cases hu
      have H := step i u ρ st hu hJ
      refine ⟨fun f imm fr s ok hsc own R => wpAny_mono (H.go f imm fr s ok hsc own R) (fun fl s' p => ?_) fun _ _ t => t⟩
      obtain ⟨fl', ρ', st', imm', i', rf, R', h'⟩ := p
      refine ⟨fl', ρ', st', imm', i', rf, R', ?_⟩
      cases fl' with
      | next => obtain ⟨ρ₂, a, b, d⟩ := h'; exact ⟨ρ₂, a, b, ih (i + 1) ρ₂ st' hdr hil d⟩
      | cont => obtain ⟨ρ₂, a, b, d⟩ := h'; exact ⟨ρ₂, a, b, ih (i + 1) ρ₂ st' hdr hil d⟩
      | brk => exact h'
      | ret => exact h'
  exact go vs 0 ρ st rfl (Nat.zero_le _) h0
theorem WPE.mono {e : Expr} {Q' : V → St → Prop} (h : WPE c k sc ρ st e Q X) (hq : ∀ v st', Q v st' → Q' v st') : WPE c k sc ρ st e Q' X :=
  ⟨fun f imm fr s ok hsc R => wpAny_mono (h.go f imm fr s ok hsc R) (fun _ _ ⟨v, st, imm', a, b, r, q⟩ => ⟨v, st, imm', a, b, r, hq _ _ q⟩) fun _ _ t => t⟩
theorem WPB.mono {e : Expr} {B B' : Bool → St → Prop} (h : WPB c k sc ρ st e B X) (hq : ∀ v st', B v st' → B' v st') : WPB c k sc ρ st e B' X :=
  ⟨fun f imm fr s ok hsc R => wpAny_mono (h.go f imm fr s ok hsc R) (fun _ _ ⟨st, imm', a, r, q⟩ => ⟨st, imm', a, r, hq _ _ q⟩) fun _ _ t => t⟩
theorem COMP.inv {x : Str} {elt : Expr} {v : V} {vs : List V} {P : List V → St → Prop} (J : Nat → List V → St → Prop) (h0 : J 0 [] st)
    (step : ∀ i u acc st₁, vs[i]? = some u → J i acc st₁ → WPE c k sc ((x, u) :: ρ) st₁ elt (fun y st₂ => Src st₂ v vs ∧ J (i + 1) (acc ++ [y]) st₂) X)
    (fin : ∀ acc st₁, J vs.length acc st₁ → P acc st₁) : COMP c k sc x ρ [] elt v vs P X vs [] st := by
  have go : ∀ us i acc st, vs.drop i = us → i ≤ vs.length → J i acc st → COMP c k sc x ρ [] elt v vs P X us acc st := by
    intro us
    induction us with
    | nil =>
      intro i acc st hd hi hJ
      have : i = vs.length := by have : vs.length ≤ i := by simpa using hd
                                 omega
      subst this
      exact fin acc st hJ
    | cons u us ih =>
      intro i acc st hd hi hJ
      have hu : vs[i]? = some u := by
        have := congrArg List.head? hd
        rw [List.head?_drop] at this
        simpa using this
      have hdr : vs.drop (i + 1) = us := by
        have := congrArg List.tail hd
        rwa [List.tail_drop] at this
      have hil : i < vs.length := by
        rcases Nat.lt_or_ge i vs.length with q | q
        · exact q
        · rw [List.getElem?_eq_none q] at hu; cases hu
      exact WPE.mono (step i u acc st hu hJ) fun y st₂ h => ⟨h.1, ih (i + 1) _ st₂ hdr hil h.2⟩
  exact go vs 0 [] st rfl (Nat.zero_le _) h0
/-- each thing by itself, the store as it is -/
theorem COMP.pure {x : Str} {elt : Expr} {v : V} {vs : List V} {P : List V → St → Prop} (g : Nat → V) (hs : Src st v vs)
    (step : ∀ i u, vs[i]? = some u → WPE c k sc ((x, u) :: ρ) st elt (fun y st₂ => y = g i ∧ st₂ = st) X) (fin : P ((List.range vs.length).map g) st) : COMP c k sc x ρ [] elt v vs P X vs [] st := by
  refine COMP.inv (fun i acc st₁ => st₁ = st ∧ acc = (List.range i).map g) ⟨rfl, rfl⟩ (fun i u acc st₁ hu hJ => ?_) (fun acc st₁ hJ => ?_)
  · obtain ⟨rfl, rfl⟩ := hJ
    refine WPE.mono (step i u hu) fun y st₂ h => ?_
    obtain ⟨rfl, rfl⟩ := h
    exact ⟨hs, rfl, by rw [List.range_succ, List.map_append]; rfl⟩
  · obtain ⟨rfl, rfl⟩ := hJ; exact fin
/-- with a test: those that pass -/
theorem COMP.filt {x : Str} {elt tst : Expr} {v : V} {vs : List V} {P : List V → St → Prop} (p : V → Bool) (g : V → V) (hs : Src st v vs)
    (step : ∀ u ∈ vs, WPB c k sc ((x, u) :: ρ) st tst (fun b st₂ => b = p u ∧ st₂ = st) X ∧ (p u = true → WPE c k sc ((x, u) :: ρ) st elt (fun y st₂ => y = g u ∧ st₂ = st) X)) (fin : P ((vs.filter p).map g) st) : COMP c k sc x ρ [tst] elt v vs P X vs [] st := by
  have go : ∀ us pre acc, pre ++ us = vs → acc = (pre.filter p).map g → COMP c k sc x ρ [tst] elt v vs P X us acc st := by
    intro us
    induction us with
    | nil =>
      intro pre acc h1 h2
      subst h2
      rw [List.append_nil] at h1
      subst h1
      exact fin
    | cons u us ih =>
      intro pre acc h1 h2
      have hu : u ∈ vs := by rw [← h1]; simp
      obtain ⟨s1, s2⟩ := step u hu
      refine WPB.mono s1 fun b st₂ h => ?_
      obtain ⟨rfl, rfl⟩ := h
      refine cnd_cases (fun hb => ?_) (fun hb => ?_)
      · refine WPE.mono (s2 hb) fun y st₃ h => ?_
        obtain ⟨rfl, rfl⟩ := h
        refine ⟨hs, ih (pre ++ [u]) _ (by rw [← h1]; simp) ?_⟩
        rw [List.filter_append, List.map_append, h2]
        simp [hb]
      · refine ⟨hs, ih (pre ++ [u]) _ (by rw [← h1]; simp) ?_⟩
        rw [List.filter_append, List.map_append, h2]
        simp [hb]
  exact go vs [] [] rfl rfl

/-! ranges that rise by one -/
theorem rng_up {A B : Int} {a n : Nat} (hA : A = a) (hB : B = a + n) : rngItems A B 1 = (List.range' a n).map (fun (i : Nat) => V.int i) := by
  subst hA hB
  unfold rngItems
  have e : (Builtin.Range.rangeSize (a : Int) (a + n) 1).toNat = n := by
    unfold Builtin.Range.rangeSize
    rw [if_pos (by decide), Int.ediv_one]
    split <;> omega
  rw [e, List.range'_eq_map_range, List.map_map]
  refine List.map_congr_left fun i _ => ?_
  simp
theorem Sub.nil : Sub [] ρ := fun _ _ h => by cases h
theorem Sub.cons {x : Str} {v : V} {ρ₂ : Loc} (h : getL ρ x = some v) (t : Sub ρ₂ ρ) : Sub ((x, v) :: ρ₂) ρ := fun y w e => by
  rw [getL_cons] at e
  by_cases q : x = y
  · subst q; rw [if_pos rfl] at e; cases e; exact h
  · rw [if_neg q] at e; exact t y w e
def upTo (a n : Nat) : List V := (List.range' a n).map fun (i : Nat) => V.int i
theorem Src.up {A B : Int} (a n : Nat) (hA : A = a) (hB : B = a + n) (hb : a + n < 1000000) : Src st (.rng A B 1) (upTo a n) := by
  unfold upTo
  rw [← rng_up hA hB]
  exact .rng (small_of ⟨by omega, by omega, .inl rfl⟩)
theorem upTo_len {a n : Nat} : (upTo a n).length = n := by simp [upTo]
theorem upTo_get {a n i : Nat} {u : V} (h : (upTo a n)[i]? = some u) : i < n ∧ u = .int ((a + i : Nat) : Int) := by
  unfold upTo at h
  rw [List.getElem?_map] at h
  obtain ⟨j, hj, rfl⟩ := Option.map_eq_some_iff.mp h
  have hi : i < n := by
    rcases Nat.lt_or_ge i n with q | q
    · exact q
    · rw [List.getElem?_eq_none (by simpa using q)] at hj; cases hj
  rw [List.getElem?_range' hi] at hj
  simp at hj
  subst hj
  exact ⟨hi, rfl⟩
theorem Le.upd {st' : St} {a : Addr} {o : O} (h : Le st st') (hn : get st a = none) : Le st (upd st' a o) := fun b x e => by
  have : b ≠ a := fun q => by rw [q, hn] at e; cases e
  rw [get_upd_ne this]; exact h b x e
theorem Le.cons {st' : St} {a : Addr} {o : O} (h : Le st st') (hn : get st' a = none) : Le st ((a, o) :: st') := h.trans (Le.alloc hn)
theorem Le.none {st' : St} {a : Addr} (h : Le st st') (hn : get st' a = Option.none) : get st a = Option.none := by
  cases e : get st a with
  | none => rfl
  | some o => rw [h a o e] at hn; cases hn
end
end Mine
namespace Mine
section
variable {c : Cx} {k : Nat} {sc : Scope} {ρ : Loc} {st : St} {Q : V → St → Prop} {S : Fl → Loc → St → Prop} {X : Xp} {f : Fm} {imm fr : Led} {s : Shared} {tk : Nat}

theorem Dats.ints {ns : List Int} : Dats st (ns.map V.int) (ns.map PyData.int) := by
  induction ns with
  | nil => exact .nil
  | cons n ns ih => exact .cons (.int n) ih
theorem lay_ints {ns : List Int} : PyData.canLayAll0 (ns.map PyData.int) = true := by
  induction ns with
  | nil => rfl
  | cons n ns ih => simp [PyData.canLayAll0, PyData.canLay0, ih]
theorem depth_ints {ns : List Int} : PyData.depthAll (ns.map PyData.int) ≤ 1 := by
  induction ns with
  | nil => simp [PyData.depthAll]
  | cons n ns ih => simp [PyData.depthAll, PyData.depth]; omega
theorem shaped_ints {ns : List Int} : SeqAt.shaped (.list (ns.map PyData.int)) = true := by
  unfold SeqAt.shaped
  have := depth_ints (ns := ns)
  simp [PyData.canLay0, lay_ints, PyData.depth]
  omega
theorem W2.eqInts {a b : Addr} {ns ms : List Int} (ha : get st a = some (.list (ns.map V.int))) (hb : get st b = some (.list (ms.map V.int))) (h : Q (.bool (decide (ns = ms))) st) : W2 c k (compareOp .Eq) (.ref a) (.ref b) ρ st Q X := by
  refine W2.eq (.list ha Dats.ints) (.list hb Dats.ints) shaped_ints shaped_ints ?_
  rw [show PyData.eqv (.list (ns.map PyData.int)) (.list (ms.map PyData.int)) = decide (ns = ms) by rw [PyData.eqv]; exact ked_eqvAll ns ms]
  exact h
theorem W2.neInts {a b : Addr} {ns ms : List Int} (ha : get st a = some (.list (ns.map V.int))) (hb : get st b = some (.list (ms.map V.int))) (h : Q (.bool (!decide (ns = ms))) st) : W2 c k (compareOp .NotEq) (.ref a) (.ref b) ρ st Q X := by
  refine W2.ne (.list ha Dats.ints) (.list hb Dats.ints) shaped_ints shaped_ints ?_
  rw [show PyData.eqv (.list (ns.map PyData.int)) (.list (ms.map PyData.int)) = decide (ns = ms) by rw [PyData.eqv]; exact ked_eqvAll ns ms]
  exact h
theorem any_ints {ns : List Int} {x : Int} : ((ns.map PyData.int).any fun y => PyData.eqv y (.int x)) = decide (x ∈ ns) := by
  induction ns with
  | nil => rfl
  | cons n ns ih =>
    rw [List.map_cons, List.any_cons, ih, PyData.eqv]
    by_cases h : n = x
    · subst h; simp
    · have : (n == x) = false := by simpa using h
      rw [this, Bool.false_or]
      simp [Ne.symm h]
theorem W2.inInts {a : Addr} {ns : List Int} {x : Int} (ha : get st a = some (.list (ns.map V.int))) (h : Q (.bool (decide (x ∈ ns))) st) : W2 c k (compareOp .In) (.int x) (.ref a) ρ st Q X := by
  refine W2.inList ha (.int x) Dats.ints rfl lay_ints (by simp [PyData.depth]) ?_
  rw [any_ints]; exact h
theorem W2.notInInts {a : Addr} {ns : List Int} {x : Int} (ha : get st a = some (.list (ns.map V.int))) (h : Q (.bool (!decide (x ∈ ns))) st) : W2 c k (compareOp .NotIn) (.int x) (.ref a) ρ st Q X := by
  refine W2.notInList ha (.int x) Dats.ints rfl lay_ints (by simp [PyData.depth]) ?_
  rw [any_ints]; exact h
end
end Mine
namespace Mine
set_option maxHeartbeats 8000000 in
open_top hd for PySem.Challenge.rw_uf040029_11
noncomputable abbrev KK (w : World) : Frag := Mine.hd.heap_39 w.params
def Kc (c : Cx) : Prop := c.K = KK c.w
theorem gl {c : Cx} (h : Kc c) {x : Str} {v : Option Value} (e : nsIn (KK c.w) mainGlobals x = some v) : nsIn c.K mainGlobals x = some v := by rw [h]; exact e
theorem kp {c : Cx} (h : Kc c) {a : Addr} (e : keepIn (KK c.w) (.ref a) = true) : keepIn c.K (.ref a) = true := by rw [h]; exact e
theorem fnK {c : Cx} (h : Kc c) {a : Addr} {names : List Str} {sc : Scope} {body : List Stmt} (e : FnAt (KK c.w) a names sc body) : FnAt c.K a names sc body := by rw [h]; exact e
local macro_rules | `(tactic| kp_flats) => `(tactic| exact ⟨⟨_, _, rfl, rfl, rfl, rfl, rfl, rfl, rfl, rfl, by
     intro xs h
     first
     | (match xs, h with | [], _ => rfl)
     | (match xs, h with | [x], _ => rfl)
     | (match xs, h with | [x, y], _ => rfl)
     | (match xs, h with | [x, y, z], _ => rfl)
     | (match xs, h with | [x, y, z, u], _ => rfl)⟩, by rfl, rfl, rfl, rfl, by decide⟩)
section
variable {c : Cx} {k : Nat} {sc : Scope} {ρ : Loc} {st : St} {Q : V → St → Prop} {X : Xp} {p pos : Pos} {args : List Expr}
theorem fn_between (w : World) : FnAt (KK w) 46 ["thing", "low", "high"] (scOf (KK w) 46) (bodyOf (KK w) 46) := by kp_flats
theorem c_between (hK : Kc c) (hx : sc.names.lookup ("between" : Str) = some .globalImplicit) (h : WPEs c k sc ρ st args (fun vs st₂ => WL c k (fun xs => PySem.call (.ref 46) xs) vs ρ st₂ Q X) X) (hp : args.any isStar = false := by rfl) : WPE c k sc ρ st (.Call (.Name "between" p) args [] pos) Q X :=
  WPE.callF hx (gl hK rfl) (kp hK rfl) h hp
theorem fn_need_counts (w : World) : FnAt (KK w) 53 ["steps", "room"] (scOf (KK w) 53) (bodyOf (KK w) 53) := by kp_flats
theorem c_need_counts (hK : Kc c) (hx : sc.names.lookup ("need_counts" : Str) = some .globalImplicit) (h : WPEs c k sc ρ st args (fun vs st₂ => WL c k (fun xs => PySem.call (.ref 53) xs) vs ρ st₂ Q X) X) (hp : args.any isStar = false := by rfl) : WPE c k sc ρ st (.Call (.Name "need_counts" p) args [] pos) Q X :=
  WPE.callF hx (gl hK rfl) (kp hK rfl) h hp
theorem fn_row_above (w : World) : FnAt (KK w) 58 ["below", "steps"] (scOf (KK w) 58) (bodyOf (KK w) 58) := by kp_flats
theorem c_row_above (hK : Kc c) (hx : sc.names.lookup ("row_above" : Str) = some .globalImplicit) (h : WPEs c k sc ρ st args (fun vs st₂ => WL c k (fun xs => PySem.call (.ref 58) xs) vs ρ st₂ Q X) X) (hp : args.any isStar = false := by rfl) : WPE c k sc ρ st (.Call (.Name "row_above" p) args [] pos) Q X :=
  WPE.callF hx (gl hK rfl) (kp hK rfl) h hp
theorem fn_table (w : World) : FnAt (KK w) 63 ["steps", "room"] (scOf (KK w) 63) (bodyOf (KK w) 63) := by kp_flats
theorem c_table (hK : Kc c) (hx : sc.names.lookup ("table" : Str) = some .globalImplicit) (h : WPEs c k sc ρ st args (fun vs st₂ => WL c k (fun xs => PySem.call (.ref 63) xs) vs ρ st₂ Q X) X) (hp : args.any isStar = false := by rfl) : WPE c k sc ρ st (.Call (.Name "table" p) args [] pos) Q X :=
  WPE.callF hx (gl hK rfl) (kp hK rfl) h hp
theorem fn_least (w : World) : FnAt (KK w) 70 ["steps", "room"] (scOf (KK w) 70) (bodyOf (KK w) 70) := by kp_flats
theorem c_least (hK : Kc c) (hx : sc.names.lookup ("least" : Str) = some .globalImplicit) (h : WPEs c k sc ρ st args (fun vs st₂ => WL c k (fun xs => PySem.call (.ref 70) xs) vs ρ st₂ Q X) X) (hp : args.any isStar = false := by rfl) : WPE c k sc ρ st (.Call (.Name "least" p) args [] pos) Q X :=
  WPE.callF hx (gl hK rfl) (kp hK rfl) h hp
theorem fn_law_cell_at (w : World) : FnAt (KK w) 77 ["_law_script", "_law_k"] (scOf (KK w) 77) (bodyOf (KK w) 77) := by kp_flats
theorem c_law_cell_at (hK : Kc c) (hx : sc.names.lookup ("_law_cell_at" : Str) = some .globalImplicit) (h : WPEs c k sc ρ st args (fun vs st₂ => WL c k (fun xs => PySem.call (.ref 77) xs) vs ρ st₂ Q X) X) (hp : args.any isStar = false := by rfl) : WPE c k sc ρ st (.Call (.Name "_law_cell_at" p) args [] pos) Q X :=
  WPE.callF hx (gl hK rfl) (kp hK rfl) h hp
theorem fn_law_whole (w : World) : FnAt (KK w) 84 ["_law_found"] (scOf (KK w) 84) (bodyOf (KK w) 84) := by kp_flats
theorem c_law_whole (hK : Kc c) (hx : sc.names.lookup ("_law_whole" : Str) = some .globalImplicit) (h : WPEs c k sc ρ st args (fun vs st₂ => WL c k (fun xs => PySem.call (.ref 84) xs) vs ρ st₂ Q X) X) (hp : args.any isStar = false := by rfl) : WPE c k sc ρ st (.Call (.Name "_law_whole" p) args [] pos) Q X :=
  WPE.callF hx (gl hK rfl) (kp hK rfl) h hp
theorem fn_law_counts (w : World) : FnAt (KK w) 91 ["_law_room", "_law_many"] (scOf (KK w) 91) (bodyOf (KK w) 91) := by kp_flats
theorem c_law_counts (hK : Kc c) (hx : sc.names.lookup ("_law_counts" : Str) = some .globalImplicit) (h : WPEs c k sc ρ st args (fun vs st₂ => WL c k (fun xs => PySem.call (.ref 91) xs) vs ρ st₂ Q X) X) (hp : args.any isStar = false := by rfl) : WPE c k sc ρ st (.Call (.Name "_law_counts" p) args [] pos) Q X :=
  WPE.callF hx (gl hK rfl) (kp hK rfl) h hp
theorem fn_law (w : World) : FnAt (KK w) 96 ["_law_script"] (scOf (KK w) 96) (bodyOf (KK w) 96) := by kp_flats
theorem c_law (hK : Kc c) (hx : sc.names.lookup ("law" : Str) = some .globalImplicit) (h : WPEs c k sc ρ st args (fun vs st₂ => WL c k (fun xs => PySem.call (.ref 96) xs) vs ρ st₂ Q X) X) (hp : args.any isStar = false := by rfl) : WPE c k sc ρ st (.Call (.Name "law" p) args [] pos) Q X :=
  WPE.callF hx (gl hK rfl) (kp hK rfl) h hp
theorem n_MOST_STEPS (hK : Kc c) (hx : sc.names.lookup ("MOST_STEPS" : Str) = some .globalImplicit) (h : Q (.int 100) st) : WPE c k sc ρ st (.Name "MOST_STEPS" p) Q X := WPE.globI hx (gl hK rfl) h
theorem n_MOST_ROOM (hK : Kc c) (hx : sc.names.lookup ("MOST_ROOM" : Str) = some .globalImplicit) (h : Q (.int 12) st) : WPE c k sc ρ st (.Name "MOST_ROOM" p) Q X := WPE.globI hx (gl hK rfl) h
theorem c_isinstance (hK : Kc c) (hx : sc.names.lookup ("isinstance" : Str) = some .globalImplicit) (h : WPEs c k sc ρ st args (fun vs st₂ => WL c k (fun xs => PySem.call (.builtin "isinstance") xs) vs ρ st₂ Q X) X) (hp : args.any isStar = false := by rfl) : WPE c k sc ρ st (.Call (.Name "isinstance" p) args [] pos) Q X :=
  WPE.callB hx (gl hK rfl) (by boot_by_name) h hp
theorem c_len (hK : Kc c) (hx : sc.names.lookup ("len" : Str) = some .globalImplicit) (h : WPEs c k sc ρ st args (fun vs st₂ => WL c k (fun xs => PySem.call (.builtin "len") xs) vs ρ st₂ Q X) X) (hp : args.any isStar = false := by rfl) : WPE c k sc ρ st (.Call (.Name "len" p) args [] pos) Q X :=
  WPE.callB hx (gl hK rfl) (by boot_by_name) h hp
theorem c_min (hK : Kc c) (hx : sc.names.lookup ("min" : Str) = some .globalImplicit) (h : WPEs c k sc ρ st args (fun vs st₂ => WL c k (fun xs => PySem.call (.builtin "min") xs) vs ρ st₂ Q X) X) (hp : args.any isStar = false := by rfl) : WPE c k sc ρ st (.Call (.Name "min" p) args [] pos) Q X :=
  WPE.callB hx (gl hK rfl) (by boot_by_name) h hp
theorem c_int (hK : Kc c) (hx : sc.names.lookup ("int" : Str) = some .globalImplicit) (h : WPEs c k sc ρ st args (fun vs st₂ => WL c k (fun xs => PySem.call (.type "int") xs) vs ρ st₂ Q X) X) (hp : args.any isStar = false := by rfl) : WPE c k sc ρ st (.Call (.Name "int" p) args [] pos) Q X :=
  WPE.callT hx (gl hK rfl) (by boot_by_name) h hp
theorem n_int (hK : Kc c) (hx : sc.names.lookup ("int" : Str) = some .globalImplicit) (h : Q (.stat (.type "int")) st) : WPE c k sc ρ st (.Name "int" p) Q X := WPE.bltT hx (gl hK rfl) (by boot_by_name) h
theorem c_range (hK : Kc c) (hx : sc.names.lookup ("range" : Str) = some .globalImplicit) (h : WPEs c k sc ρ st args (fun vs st₂ => WL c k (fun xs => PySem.call (.type "range") xs) vs ρ st₂ Q X) X) (hp : args.any isStar = false := by rfl) : WPE c k sc ρ st (.Call (.Name "range" p) args [] pos) Q X :=
  WPE.callT hx (gl hK rfl) (by boot_by_name) h hp
theorem n_range (hK : Kc c) (hx : sc.names.lookup ("range" : Str) = some .globalImplicit) (h : Q (.stat (.type "range")) st) : WPE c k sc ρ st (.Name "range" p) Q X := WPE.bltT hx (gl hK rfl) (by boot_by_name) h
theorem c_bool (hK : Kc c) (hx : sc.names.lookup ("bool" : Str) = some .globalImplicit) (h : WPEs c k sc ρ st args (fun vs st₂ => WL c k (fun xs => PySem.call (.type "bool") xs) vs ρ st₂ Q X) X) (hp : args.any isStar = false := by rfl) : WPE c k sc ρ st (.Call (.Name "bool" p) args [] pos) Q X :=
  WPE.callT hx (gl hK rfl) (by boot_by_name) h hp
theorem n_bool (hK : Kc c) (hx : sc.names.lookup ("bool" : Str) = some .globalImplicit) (h : Q (.stat (.type "bool")) st) : WPE c k sc ρ st (.Name "bool" p) Q X := WPE.bltT hx (gl hK rfl) (by boot_by_name) h
end
local macro_rules | `(tactic| kct_strs) => `(tactic| first | ((with_reducible refine c_between ‹Kc _› ?hx ?_ ?hp); (case hx => rfl); (case hp => rfl)) | ((with_reducible refine c_need_counts ‹Kc _› ?hx ?_ ?hp); (case hx => rfl); (case hp => rfl)) | ((with_reducible refine c_row_above ‹Kc _› ?hx ?_ ?hp); (case hx => rfl); (case hp => rfl)) | ((with_reducible refine c_table ‹Kc _› ?hx ?_ ?hp); (case hx => rfl); (case hp => rfl)) | ((with_reducible refine c_least ‹Kc _› ?hx ?_ ?hp); (case hx => rfl); (case hp => rfl)) | ((with_reducible refine c_law_cell_at ‹Kc _› ?hx ?_ ?hp); (case hx => rfl); (case hp => rfl)) | ((with_reducible refine c_law_whole ‹Kc _› ?hx ?_ ?hp); (case hx => rfl); (case hp => rfl)) | ((with_reducible refine c_law_counts ‹Kc _› ?hx ?_ ?hp); (case hx => rfl); (case hp => rfl)) | ((with_reducible refine c_law ‹Kc _› ?hx ?_ ?hp); (case hx => rfl); (case hp => rfl)) | ((with_reducible refine c_isinstance ‹Kc _› ?hx ?_ ?hp); (case hx => rfl); (case hp => rfl)) | ((with_reducible refine c_len ‹Kc _› ?hx ?_ ?hp); (case hx => rfl); (case hp => rfl)) | ((with_reducible refine c_min ‹Kc _› ?hx ?_ ?hp); (case hx => rfl); (case hp => rfl)) | ((with_reducible refine c_int ‹Kc _› ?hx ?_ ?hp); (case hx => rfl); (case hp => rfl)) | ((with_reducible refine c_range ‹Kc _› ?hx ?_ ?hp); (case hx => rfl); (case hp => rfl)) | ((with_reducible refine c_bool ‹Kc _› ?hx ?_ ?hp); (case hx => rfl); (case hp => rfl)))
local macro_rules | `(tactic| kbo_bools) => `(tactic| first | ((with_reducible refine n_MOST_STEPS ‹Kc _› ?hx ?_); (case hx => rfl)) | ((with_reducible refine n_MOST_ROOM ‹Kc _› ?hx ?_); (case hx => rfl)) | ((with_reducible refine n_int ‹Kc _› ?hx ?_); (case hx => rfl)) | ((with_reducible refine n_range ‹Kc _› ?hx ?_); (case hx => rfl)) | ((with_reducible refine n_bool ‹Kc _› ?hx ?_); (case hx => rfl)) | fail "no name")
-- one step of the abstract walk
local macro_rules | `(tactic| k_clsL) => `(tactic| first
  | ((with_reducible show WPE _ _ _ _ _ _ _ _); first
    | ((with_reducible show WPE _ _ _ _ _ (.Name _ _) _ _); first
      | ((with_reducible refine' WPE.nm ?e ?_ ?d1 ?d2); (case e => rfl); (case d1 => decide); (case d2 => decide))
      | kbo_bools)
    | (with_reducible refine WPE.cint ?_) | (with_reducible refine WPE.cstr ?_)
    | (with_reducible refine WPE.bin ?_) | (with_reducible refine WPE.sub ?_)
    | ((with_reducible show WPE _ _ _ _ _ (.Call _ _ _ _) _ _); kct_strs)
    | ((with_reducible refine WPE.cmp ?_ ?hm); (case hm => rfl))
    | ((with_reducible refine WPE.tup ?_ ?hl); (case hl => decide)) | ((with_reducible refine WPE.lst ?_ ?hl); (case hl => decide))
    | (with_reducible refine WPE.cbool ?_) | (with_reducible refine WPE.cnone ?_)
    | (with_reducible refine WPE.opOne ?_) | (with_reducible refine WPE.and ?_) | (with_reducible refine WPE.or ?_)
    | (with_reducible refine WPE.not ?_) | (with_reducible refine WPE.un ?_) | ((with_reducible refine WPE.cmp2 ?_ ?hm); (case hm => rfl))
    | (with_reducible refine WPE.ife ?_)
    | ((with_reducible refine WPE.mAppend ?_ ?hp ?he); (case hp => rfl); (case he => intro _; exact ⟨_, rfl⟩))
    | ((with_reducible refine WPE.comp (by assumption) ?hk ?_ ?hs); (case hk => rfl); (case hs => intro _ _; rfl))
    | fail "no step")
  | ((with_reducible show WPEs _ _ _ _ _ _ _ _); first | ((with_reducible refine WPEs.cons ?_ ?he); (case he => intro _; rfl)) | (with_reducible refine WPEs.nil ?_))
  | ((with_reducible show W2 _ _ _ _ _ _ _ _ _); first
    | (with_reducible refine W2.eqI ?_) | (with_reducible refine W2.addI ?_) | (with_reducible refine W2.subI ?_) | (with_reducible refine W2.ltI ?_) | (with_reducible refine W2.leI ?_) | (with_reducible refine W2.geI ?_) | (with_reducible refine W2.gtI ?_) | (with_reducible refine W2.neI ?_)
    | (with_reducible refine W2.eqS ?_) | (with_reducible refine W2.neS ?_)
    | ((with_reducible refine' W2.tupAt ?s ?l ?v ?_); (case s => rfl); (case l => rfl); (case v => rfl))
    | fail "no step")
  | (with_reducible refine W1.negI ?_)
  | ((with_reducible show cnd _ _ _); first | (with_reducible refine cnd_t ?_) | (with_reducible refine cnd_f ?_) | ((with_reducible refine cnd_is true ?e ?_); (case e => rfl)) | ((with_reducible refine cnd_is false ?e ?_); (case e => rfl)) | fail "no step")
  | ((with_reducible show nxt _ _ _); first | (with_reducible refine nxt_next ?_) | (with_reducible refine nxt_ret ?_) | (with_reducible refine nxt_cont ?_))
  | ((with_reducible show WPS _ _ _ _ _ _ _ _); first | (with_reducible refine WPS.cons ?_) | (with_reducible refine WPS.nil ?_))
  | ((with_reducible show WPs _ _ _ _ _ _ _ _); first
    | ((with_reducible refine WPs.asg ?_ ?hx ?hs); (case hx => rfl); (case hs => intro _; rfl))
    | (with_reducible refine WPs.ret ?_) | (with_reducible refine WPs.ifs ?_) | ((with_reducible refine WPs.expr ?_ ?hs); (case hs => intro _; rfl)) | (with_reducible refine WPs.pass ?_) | (with_reducible refine WPs.cont ?_)
    | ((with_reducible refine WPs.for (by assumption) ?_ ?hx ?hs); (case hx => rfl); (case hs => intro _ _; rfl))
    | fail "no step")
  | ((with_reducible show WPB _ _ _ _ _ _ _ _); first
    | ((with_reducible refine WPB.cmp ?_ ?hm); (case hm => rfl)) | (with_reducible refine WPB.op ?_) | (with_reducible refine WPB.not ?_) | ((with_reducible refine WPB.cmp2 ?_ ?hm); (case hm => rfl))
    | ((with_reducible refine WPB.val ?_ ?he); (case he => intro _ _; rfl)))
  | ((with_reducible show WPAll _ _ _ _ _ _ _ _ _); first | (with_reducible refine WPAll.or ?_) | (with_reducible refine WPAll.and ?_) | (with_reducible refine WPAll.orNil ?_) | (with_reducible refine WPAll.andNil ?_))
  | (with_reducible refine ⟨_, rfl, ?_⟩)
  | ((with_reducible refine' WL.isinstance ?a ?b ?_); (case a => rfl); (case b => rfl))
  | fail "no step")
-- into a def
local macro_rules | `(tactic| k_places) => `(tactic| ((refine WPS.cons ?_); (repeat' k_clsL)))
local macro_rules | `(tactic| fold_depth) => `(tactic| (repeat' k_clsL))
-- the same, but no further than the next statement
local macro_rules | `(tactic| k_memK) => `(tactic| first | (with_reducible refine WPS.nil ?_) | ((fail_if_success (with_reducible show WPS _ _ _ _ _ _ _ _)); k_clsL))
local macro_rules | `(tactic| k_ownIn) => `(tactic| (repeat' k_memK))
-- an object of the store
local macro_rules | `(tactic| k_offL) => `(tactic| first | exact get_head | ((refine Le.alloc ?_ _ _ ?_); (first | assumption | skip); k_offL) | assumption)
def good (v : Nat) : Nat → List Nat → List Nat → Bool
  | a, b :: bs, w :: ws => Nat.ble v (a + b + w) && good v (a + 1) bs ws
  | _, _, _ => true
def hit (v : Nat) : Nat → List Nat → List Nat → Bool
  | a, b :: bs, w :: ws => Nat.beq v (a + b + w) || hit v (a + 1) bs ws
  | _, _, _ => false
def chkGo (row : List Nat) : List Nat → List Nat → List Nat → Bool
  | revb, b :: bs, v :: vs => good v 1 revb row && hit v 1 revb row && chkGo row (b :: revb) bs vs
  | revb, [], v :: vs => good v 1 revb row && hit v 1 revb row && vs.isEmpty
  | _, _, [] => true
def chk (below row : List Nat) : Bool := chkGo row [below.getD 0 0] below.tail row.tail
def psums : Nat → List Nat → List Nat
  | _, [] => []
  | acc, x :: xs => (acc + x) :: psums (acc + x) xs
def cntLe (s : Nat) : List Nat → Nat
  | [] => 0
  | x :: xs => if Nat.ble x s then cntLe s xs + 1 else cntLe s xs
def fin (t t' c c' : List Nat) (r s : Nat) : Bool :=
  let l := c.take (s + 2)
  let n := cntLe s l
  let f := t.getD s 0
  let g := if s < 100 then t.getD (s + 1) 0 else 0
  (if 0 < n then Nat.beq (f + c'.getD (n - 1) 0) (n * (s + 1)) else Nat.beq f 0) &&
  Nat.ble (t'.getD s 0) f &&
  (if s < 100 then Nat.beq g (f + n + (if l.any (Nat.beq (s + 1)) then 1 else 0)) else true) &&
  (Nat.blt r s || Nat.beq f s) && Nat.ble n 103
def T1 : List Nat := [0, 1, 3, 6, 10, 15, 21, 28, 36, 45, 55, 66, 78, 91, 105, 120, 136, 153, 171, 190, 210, 231, 253, 276, 300, 325, 351, 378, 406, 435, 465, 496, 528, 561, 595, 630, 666, 703, 741, 780, 820, 861, 903, 946, 990, 1035, 1081, 1128, 1176, 1225, 1275, 1326, 1378, 1431, 1485, 1540, 1596, 1653, 1711, 1770, 1830, 1891, 1953, 2016, 2080, 2145, 2211, 2278, 2346, 2415, 2485, 2556, 2628, 2701, 2775, 2850, 2926, 3003, 3081, 3160, 3240, 3321, 3403, 3486, 3570, 3655, 3741, 3828, 3916, 4005, 4095, 4186, 4278, 4371, 4465, 4560, 4656, 4753, 4851, 4950, 5050]
def T2 : List Nat := [0, 1, 2, 4, 6, 8, 11, 14, 17, 20, 24, 28, 32, 36, 40, 45, 50, 55, 60, 65, 70, 76, 82, 88, 94, 100, 106, 112, 119, 126, 133, 140, 147, 154, 161, 168, 176, 184, 192, 200, 208, 216, 224, 232, 240, 249, 258, 267, 276, 285, 294, 303, 312, 321, 330, 340, 350, 360, 370, 380, 390, 400, 410, 420, 430, 440, 451, 462, 473, 484, 495, 506, 517, 528, 539, 550, 561, 572, 584, 596, 608, 620, 632, 644, 656, 668, 680, 692, 704, 716, 728, 741, 754, 767, 780, 793, 806, 819, 832, 845, 858]
def T3 : List Nat := [0, 1, 2, 3, 5, 7, 9, 11, 13, 15, 18, 21, 24, 27, 30, 33, 36, 39, 42, 45, 49, 53, 57, 61, 65, 69, 73, 77, 81, 85, 89, 93, 97, 101, 105, 110, 115, 120, 125, 130, 135, 140, 145, 150, 155, 160, 165, 170, 175, 180, 185, 190, 195, 200, 205, 210, 216, 222, 228, 234, 240, 246, 252, 258, 264, 270, 276, 282, 288, 294, 300, 306, 312, 318, 324, 330, 336, 342, 348, 354, 360, 366, 372, 378, 385, 392, 399, 406, 413, 420, 427, 434, 441, 448, 455, 462, 469, 476, 483, 490, 497]
def T4 : List Nat := [0, 1, 2, 3, 4, 6, 8, 10, 12, 14, 16, 18, 20, 22, 24, 27, 30, 33, 36, 39, 42, 45, 48, 51, 54, 57, 60, 63, 66, 69, 72, 75, 78, 81, 84, 88, 92, 96, 100, 104, 108, 112, 116, 120, 124, 128, 132, 136, 140, 144, 148, 152, 156, 160, 164, 168, 172, 176, 180, 184, 188, 192, 196, 200, 204, 208, 212, 216, 220, 224, 229, 234, 239, 244, 249, 254, 259, 264, 269, 274, 279, 284, 289, 294, 299, 304, 309, 314, 319, 324, 329, 334, 339, 344, 349, 354, 359, 364, 369, 374, 379]
def T5 : List Nat := [0, 1, 2, 3, 4, 5, 7, 9, 11, 13, 15, 17, 19, 21, 23, 25, 27, 29, 31, 33, 35, 38, 41, 44, 47, 50, 53, 56, 59, 62, 65, 68, 71, 74, 77, 80, 83, 86, 89, 92, 95, 98, 101, 104, 107, 110, 113, 116, 119, 122, 125, 128, 131, 134, 137, 140, 144, 148, 152, 156, 160, 164, 168, 172, 176, 180, 184, 188, 192, 196, 200, 204, 208, 212, 216, 220, 224, 228, 232, 236, 240, 244, 248, 252, 256, 260, 264, 268, 272, 276, 280, 284, 288, 292, 296, 300, 304, 308, 312, 316, 320]
def T6 : List Nat := [0, 1, 2, 3, 4, 5, 6, 8, 10, 12, 14, 16, 18, 20, 22, 24, 26, 28, 30, 32, 34, 36, 38, 40, 42, 44, 46, 48, 51, 54, 57, 60, 63, 66, 69, 72, 75, 78, 81, 84, 87, 90, 93, 96, 99, 102, 105, 108, 111, 114, 117, 120, 123, 126, 129, 132, 135, 138, 141, 144, 147, 150, 153, 156, 159, 162, 165, 168, 171, 174, 177, 180, 183, 186, 189, 192, 195, 198, 201, 204, 207, 210, 213, 216, 220, 224, 228, 232, 236, 240, 244, 248, 252, 256, 260, 264, 268, 272, 276, 280, 284]
def T7 : List Nat := [0, 1, 2, 3, 4, 5, 6, 7, 9, 11, 13, 15, 17, 19, 21, 23, 25, 27, 29, 31, 33, 35, 37, 39, 41, 43, 45, 47, 49, 51, 53, 55, 57, 59, 61, 63, 66, 69, 72, 75, 78, 81, 84, 87, 90, 93, 96, 99, 102, 105, 108, 111, 114, 117, 120, 123, 126, 129, 132, 135, 138, 141, 144, 147, 150, 153, 156, 159, 162, 165, 168, 171, 174, 177, 180, 183, 186, 189, 192, 195, 198, 201, 204, 207, 210, 213, 216, 219, 222, 225, 228, 231, 234, 237, 240, 243, 246, 249, 252, 255, 258]
def T8 : List Nat := [0, 1, 2, 3, 4, 5, 6, 7, 8, 10, 12, 14, 16, 18, 20, 22, 24, 26, 28, 30, 32, 34, 36, 38, 40, 42, 44, 46, 48, 50, 52, 54, 56, 58, 60, 62, 64, 66, 68, 70, 72, 74, 76, 78, 80, 83, 86, 89, 92, 95, 98, 101, 104, 107, 110, 113, 116, 119, 122, 125, 128, 131, 134, 137, 140, 143, 146, 149, 152, 155, 158, 161, 164, 167, 170, 173, 176, 179, 182, 185, 188, 191, 194, 197, 200, 203, 206, 209, 212, 215, 218, 221, 224, 227, 230, 233, 236, 239, 242, 245, 248]
def T9 : List Nat := [0, 1, 2, 3, 4, 5, 6, 7, 8, 9, 11, 13, 15, 17, 19, 21, 23, 25, 27, 29, 31, 33, 35, 37, 39, 41, 43, 45, 47, 49, 51, 53, 55, 57, 59, 61, 63, 65, 67, 69, 71, 73, 75, 77, 79, 81, 83, 85, 87, 89, 91, 93, 95, 97, 99, 102, 105, 108, 111, 114, 117, 120, 123, 126, 129, 132, 135, 138, 141, 144, 147, 150, 153, 156, 159, 162, 165, 168, 171, 174, 177, 180, 183, 186, 189, 192, 195, 198, 201, 204, 207, 210, 213, 216, 219, 222, 225, 228, 231, 234, 237]
def T10 : List Nat := [0, 1, 2, 3, 4, 5, 6, 7, 8, 9, 10, 12, 14, 16, 18, 20, 22, 24, 26, 28, 30, 32, 34, 36, 38, 40, 42, 44, 46, 48, 50, 52, 54, 56, 58, 60, 62, 64, 66, 68, 70, 72, 74, 76, 78, 80, 82, 84, 86, 88, 90, 92, 94, 96, 98, 100, 102, 104, 106, 108, 110, 112, 114, 116, 118, 120, 123, 126, 129, 132, 135, 138, 141, 144, 147, 150, 153, 156, 159, 162, 165, 168, 171, 174, 177, 180, 183, 186, 189, 192, 195, 198, 201, 204, 207, 210, 213, 216, 219, 222, 225]
def T11 : List Nat := [0, 1, 2, 3, 4, 5, 6, 7, 8, 9, 10, 11, 13, 15, 17, 19, 21, 23, 25, 27, 29, 31, 33, 35, 37, 39, 41, 43, 45, 47, 49, 51, 53, 55, 57, 59, 61, 63, 65, 67, 69, 71, 73, 75, 77, 79, 81, 83, 85, 87, 89, 91, 93, 95, 97, 99, 101, 103, 105, 107, 109, 111, 113, 115, 117, 119, 121, 123, 125, 127, 129, 131, 133, 135, 137, 139, 141, 143, 146, 149, 152, 155, 158, 161, 164, 167, 170, 173, 176, 179, 182, 185, 188, 191, 194, 197, 200, 203, 206, 209, 212]
def T12 : List Nat := [0, 1, 2, 3, 4, 5, 6, 7, 8, 9, 10, 11, 12, 14, 16, 18, 20, 22, 24, 26, 28, 30, 32, 34, 36, 38, 40, 42, 44, 46, 48, 50, 52, 54, 56, 58, 60, 62, 64, 66, 68, 70, 72, 74, 76, 78, 80, 82, 84, 86, 88, 90, 92, 94, 96, 98, 100, 102, 104, 106, 108, 110, 112, 114, 116, 118, 120, 122, 124, 126, 128, 130, 132, 134, 136, 138, 140, 142, 144, 146, 148, 150, 152, 154, 156, 158, 160, 162, 164, 166, 168, 171, 174, 177, 180, 183, 186, 189, 192, 195, 198]
def C0 : List Nat := [1, 1, 1, 1, 1, 1, 1, 1, 1, 1, 1, 1, 1, 1, 1, 1, 1, 1, 1, 1, 1, 1, 1, 1, 1, 1, 1, 1, 1, 1, 1, 1, 1, 1, 1, 1, 1, 1, 1, 1, 1, 1, 1, 1, 1, 1, 1, 1, 1, 1, 1, 1, 1, 1, 1, 1, 1, 1, 1, 1, 1, 1, 1, 1, 1, 1, 1, 1, 1, 1, 1, 1, 1, 1, 1, 1, 1, 1, 1, 1, 1, 1, 1, 1, 1, 1, 1, 1, 1, 1, 1, 1, 1, 1, 1, 1, 1, 1, 1, 1, 1, 1, 1]
def C1 : List Nat := [1, 2, 3, 4, 5, 6, 7, 8, 9, 10, 11, 12, 13, 14, 15, 16, 17, 18, 19, 20, 21, 22, 23, 24, 25, 26, 27, 28, 29, 30, 31, 32, 33, 34, 35, 36, 37, 38, 39, 40, 41, 42, 43, 44, 45, 46, 47, 48, 49, 50, 51, 52, 53, 54, 55, 56, 57, 58, 59, 60, 61, 62, 63, 64, 65, 66, 67, 68, 69, 70, 71, 72, 73, 74, 75, 76, 77, 78, 79, 80, 81, 82, 83, 84, 85, 86, 87, 88, 89, 90, 91, 92, 93, 94, 95, 96, 97, 98, 99, 100, 101, 102, 103]
def C2 : List Nat := [1, 3, 6, 10, 15, 21, 28, 36, 45, 55, 66, 78, 91, 105, 120, 136, 153, 171, 190, 210, 231, 253, 276, 300, 325, 351, 378, 406, 435, 465, 496, 528, 561, 595, 630, 666, 703, 741, 780, 820, 861, 903, 946, 990, 1035, 1081, 1128, 1176, 1225, 1275, 1326, 1378, 1431, 1485, 1540, 1596, 1653, 1711, 1770, 1830, 1891, 1953, 2016, 2080, 2145, 2211, 2278, 2346, 2415, 2485, 2556, 2628, 2701, 2775, 2850, 2926, 3003, 3081, 3160, 3240, 3321, 3403, 3486, 3570, 3655, 3741, 3828, 3916, 4005, 4095, 4186, 4278, 4371, 4465, 4560, 4656, 4753, 4851, 4950, 5050, 5151, 5253, 5356]
def C3 : List Nat := [1, 4, 10, 20, 35, 56, 84, 120, 165, 220, 286, 364, 455, 560, 680, 816, 969, 1140, 1330, 1540, 1771, 2024, 2300, 2600, 2925, 3276, 3654, 4060, 4495, 4960, 5456, 5984, 6545, 7140, 7770, 8436, 9139, 9880, 10660, 11480, 12341, 13244, 14190, 15180, 16215, 17296, 18424, 19600, 20825, 22100, 23426, 24804, 26235, 27720, 29260, 30856, 32509, 34220, 35990, 37820, 39711, 41664, 43680, 45760, 47905, 50116, 52394, 54740, 57155, 59640, 62196, 64824, 67525, 70300, 73150, 76076, 79079, 82160, 85320, 88560, 91881, 95284, 98770, 102340, 105995, 109736, 113564, 117480, 121485, 125580, 129766, 134044, 138415, 142880, 147440, 152096, 156849, 161700, 166650, 171700, 176851, 182104, 187460]
def C4 : List Nat := [1, 5, 15, 35, 70, 126, 210, 330, 495, 715, 1001, 1365, 1820, 2380, 3060, 3876, 4845, 5985, 7315, 8855, 10626, 12650, 14950, 17550, 20475, 23751, 27405, 31465, 35960, 40920, 46376, 52360, 58905, 66045, 73815, 82251, 91390, 101270, 111930, 123410, 135751, 148995, 163185, 178365, 194580, 211876, 230300, 249900, 270725, 292825, 316251, 341055, 367290, 395010, 424270, 455126, 487635, 521855, 557845, 595665, 635376, 677040, 720720, 766480, 814385, 864501, 916895, 971635, 1028790, 1088430, 1150626, 1215450, 1282975, 1353275, 1426425, 1502501, 1581580, 1663740, 1749060, 1837620, 1929501, 2024785, 2123555, 2225895, 2331890, 2441626, 2555190, 2672670, 2794155, 2919735, 3049501, 3183545, 3321960, 3464840, 3612280, 3764376, 3921225, 4082925, 4249575, 4421275, 4598126, 4780230, 4967690]
def C5 : List Nat := [1, 6, 21, 56, 126, 252, 462, 792, 1287, 2002, 3003, 4368, 6188, 8568, 11628, 15504, 20349, 26334, 33649, 42504, 53130, 65780, 80730, 98280, 118755, 142506, 169911, 201376, 237336, 278256, 324632, 376992, 435897, 501942, 575757, 658008, 749398, 850668, 962598, 1086008, 1221759, 1370754, 1533939, 1712304, 1906884, 2118760, 2349060, 2598960, 2869685, 3162510, 3478761, 3819816, 4187106, 4582116, 5006386, 5461512, 5949147, 6471002, 7028847, 7624512, 8259888, 8936928, 9657648, 10424128, 11238513, 12103014, 13019909, 13991544, 15020334, 16108764, 17259390, 18474840, 19757815, 21111090, 22537515, 24040016, 25621596, 27285336, 29034396, 30872016, 32801517, 34826302, 36949857, 39175752, 41507642, 43949268, 46504458, 49177128, 51971283, 54891018, 57940519, 61124064, 64446024, 67910864, 71523144, 75287520, 79208745, 83291670, 87541245, 91962520, 96560646, 101340876, 106308566]
def C6 : List Nat := [1, 7, 28, 84, 210, 462, 924, 1716, 3003, 5005, 8008, 12376, 18564, 27132, 38760, 54264, 74613, 100947, 134596, 177100, 230230, 296010, 376740, 475020, 593775, 736281, 906192, 1107568, 1344904, 1623160, 1947792, 2324784, 2760681, 3262623, 3838380, 4496388, 5245786, 6096454, 7059052, 8145060, 9366819, 10737573, 12271512, 13983816, 15890700, 18009460, 20358520, 22957480, 25827165, 28989675, 32468436, 36288252, 40475358, 45057474, 50063860, 55525372, 61474519, 67945521, 74974368, 82598880, 90858768, 99795696, 109453344, 119877472, 131115985, 143218999, 156238908, 170230452, 185250786, 201359550, 218618940, 237093780, 256851595, 277962685, 300500200, 324540216, 350161812, 377447148, 406481544, 437353560, 470155077, 504981379, 541931236, 581106988, 622614630, 666563898, 713068356, 762245484, 814216767, 869107785, 927048304, 988172368, 1052618392, 1120529256, 1192052400, 1267339920, 1346548665, 1429840335, 1517381580, 1609344100, 1705904746, 1807245622, 1913554188]
def C7 : List Nat := [1, 8, 36, 120, 330, 792, 1716, 3432, 6435, 11440, 19448, 31824, 50388, 77520, 116280, 170544, 245157, 346104, 480700, 657800, 888030, 1184040, 1560780, 2035800, 2629575, 3365856, 4272048, 5379616, 6724520, 8347680, 10295472, 12620256, 15380937, 18643560, 22481940, 26978328, 32224114, 38320568, 45379620, 53524680, 62891499, 73629072, 85900584, 99884400, 115775100, 133784560, 154143080, 177100560, 202927725, 231917400, 264385836, 300674088, 341149446, 386206920, 436270780, 491796152, 553270671, 621216192, 696190560, 778789440, 869648208, 969443904, 1078897248, 1198774720, 1329890705, 1473109704, 1629348612, 1799579064, 1984829850, 2186189400, 2404808340, 2641902120, 2898753715, 3176716400, 3477216600, 3801756816, 4151918628, 4529365776, 4935847320, 5373200880, 5843355957, 6348337336, 6890268572, 7471375560, 8093990190, 8760554088, 9473622444, 10235867928, 11050084695, 11919192480, 12846240784, 13834413152, 14887031544, 16007560800, 17199613200, 18466953120, 19813501785, 21243342120, 22760723700, 24370067800, 26075972546, 27883218168, 29796772356]
def C8 : List Nat := [1, 9, 45, 165, 495, 1287, 3003, 6435, 12870, 24310, 43758, 75582, 125970, 203490, 319770, 490314, 735471, 1081575, 1562275, 2220075, 3108105, 4292145, 5852925, 7888725, 10518300, 13884156, 18156204, 23535820, 30260340, 38608020, 48903492, 61523748, 76904685, 95548245, 118030185, 145008513, 177232627, 215553195, 260932815, 314457495, 377348994, 450978066, 536878650, 636763050, 752538150, 886322710, 1040465790, 1217566350, 1420494075, 1652411475, 1916797311, 2217471399, 2558620845, 2944827765, 3381098545, 3872894697, 4426165368, 5047381560, 5743572120, 6522361560, 7392009768, 8361453672, 9440350920, 10639125640, 11969016345, 13442126049, 15071474661, 16871053725, 18855883575, 21042072975, 23446881315, 26088783435, 28987537150, 32164253550, 35641470150, 39443226966, 43595145594, 48124511370, 53060358690, 58433559570, 64276915527, 70625252863, 77515521435, 84986896995, 93080887185, 101841441273, 111315063717, 121550931645, 132601016340, 144520208820, 157366449604, 171200862756, 186087894300, 202095455100, 219295068300, 237762021420, 257575523205, 278818865325, 301579589025, 325949656825, 352025629371, 379908847539, 409705619895]
def C9 : List Nat := [1, 10, 55, 220, 715, 2002, 5005, 11440, 24310, 48620, 92378, 167960, 293930, 497420, 817190, 1307504, 2042975, 3124550, 4686825, 6906900, 10015005, 14307150, 20160075, 28048800, 38567100, 52451256, 70607460, 94143280, 124403620, 163011640, 211915132, 273438880, 350343565, 445891810, 563921995, 708930508, 886163135, 1101716330, 1362649145, 1677106640, 2054455634, 2505433700, 3042312350, 3679075400, 4431613550, 5317936260, 6358402050, 7575968400, 8996462475, 10648873950, 12565671261, 14783142660, 17341763505, 20286591270, 23667689815, 27540584512, 31966749880, 37014131440, 42757703560, 49280065120, 56672074888, 65033528560, 74473879480, 85113005120, 97082021465, 110524147514, 125595622175, 142466675900, 161322559475, 182364632450, 205811513765, 231900297200, 260887834350, 293052087900, 328693558050, 368136785016, 411731930610, 459856441980, 512916800670, 571350360240, 635627275767, 706252528630, 783768050065, 868754947060, 961835834245, 1063677275518, 1174992339235, 1296543270880, 1429144287220, 1573664496040, 1731030945644, 1902231808400, 2088319702700, 2290415157800, 2509710226100, 2747472247520, 3005047770725, 3283866636050, 3585446225075, 3911395881900, 4263421511271, 4643330358810, 5053035978705]
def C10 : List Nat := [1, 11, 66, 286, 1001, 3003, 8008, 19448, 43758, 92378, 184756, 352716, 646646, 1144066, 1961256, 3268760, 5311735, 8436285, 13123110, 20030010, 30045015, 44352165, 64512240, 92561040, 131128140, 183579396, 254186856, 348330136, 472733756, 635745396, 847660528, 1121099408, 1471442973, 1917334783, 2481256778, 3190187286, 4076350421, 5178066751, 6540715896, 8217822536, 10272278170, 12777711870, 15820024220, 19499099620, 23930713170, 29248649430, 35607051480, 43183019880, 52179482355, 62828356305, 75394027566, 90177170226, 107518933731, 127805525001, 151473214816, 179013799328, 210980549208, 247994680648, 290752384208, 340032449328, 396704524216, 461738052776, 536211932256, 621324937376, 718406958841, 828931106355, 954526728530, 1096993404430, 1258315963905, 1440680596355, 1646492110120, 1878392407320, 2139280241670, 2432332329570, 2761025887620, 3129162672636, 3540894603246, 4000751045226, 4513667845896, 5085018206136, 5720645481903, 6426898010533, 7210666060598, 8079421007658, 9041256841903, 10104934117421, 11279926456656, 12576469727536, 14005614014756, 15579278510796, 17310309456440, 19212541264840, 21300860967540, 23591276125340, 26100986351440, 28848458598960, 31853506369685, 35137373005735, 38722819230810, 42634215112710, 46897636623981, 51540966982791, 56594002961496]
def C11 : List Nat := [1, 12, 78, 364, 1365, 4368, 12376, 31824, 75582, 167960, 352716, 705432, 1352078, 2496144, 4457400, 7726160, 13037895, 21474180, 34597290, 54627300, 84672315, 129024480, 193536720, 286097760, 417225900, 600805296, 854992152, 1203322288, 1676056044, 2311801440, 3159461968, 4280561376, 5752004349, 7669339132, 10150595910, 13340783196, 17417133617, 22595200368, 29135916264, 37353738800, 47626016970, 60403728840, 76223753060, 95722852680, 119653565850, 148902215280, 184509266760, 227692286640, 279871768995, 342700125300, 418094152866, 508271323092, 615790256823, 743595781824, 895068996640, 1074082795968, 1285063345176, 1533058025824, 1823810410032, 2163842859360, 2560547383576, 3022285436352, 3558497368608, 4179822305984, 4898229264825, 5727160371180, 6681687099710, 7778680504140, 9036996468045, 10477677064400, 12124169174520, 14002561581840, 16141841823510, 18574174153080, 21335200040700, 24464362713336, 28005257316582, 32006008361808, 36519676207704, 41604694413840, 47325339895743, 53752237906276, 60962903966874, 69042324974532, 78083581816435, 88188515933856, 99468442390512, 112044912118048, 126050526132804, 141629804643600, 158940114100040, 178152655364880, 199453516332420, 223044792457760, 249145778809200, 277994237408160, 309847743777845, 344985116783580, 383707936014390, 426342151127100, 473239787751081, 524780754733872, 581374757695368]
def C12 : List Nat := [1, 13, 91, 455, 1820, 6188, 18564, 50388, 125970, 293930, 646646, 1352078, 2704156, 5200300, 9657700, 17383860, 30421755, 51895935, 86493225, 141120525, 225792840, 354817320, 548354040, 834451800, 1251677700, 1852482996, 2707475148, 3910797436, 5586853480, 7898654920, 11058116888, 15338678264, 21090682613, 28760021745, 38910617655, 52251400851, 69668534468, 92263734836, 121399651100, 158753389900, 206379406870, 266783135710, 343006888770, 438729741450, 558383307300, 707285522580, 891794789340, 1119487075980, 1399358844975, 1742058970275, 2160153123141, 2668424446233, 3284214703056, 4027810484880, 4922879481520, 5996962277488, 7282025622664, 8815083648488, 10638894058520, 12802736917880, 15363284301456, 18385569737808, 21944067106416, 26123889412400, 31022118677225, 36749279048405, 43430966148115, 51209646652255, 60246643120300, 70724320184700, 82848489359220, 96851050941060, 112992892764570, 131567066917650, 152902266958350, 177366629671686, 205371886988268, 237377895350076, 273897571557780, 315502265971620, 362827605867363, 416579843773639, 477542747740513, 546585072715045, 624668654531480, 712857170465336, 812325612855848, 924370524973896, 1050421051106700, 1192050855750300, 1350990969850340, 1529143625215220, 1728597141547640, 1951641934005400, 2200787712814600, 2478781950222760, 2788629694000605, 3133614810784185, 3517322746798575, 3943664897925675, 4416904685676756, 4941685440410628, 5523060198105996]
def C13 : List Nat := [1, 14, 105, 560, 2380, 8568, 27132, 77520, 203490, 497420, 1144066, 2496144, 5200300, 10400600, 20058300, 37442160, 67863915, 119759850, 206253075, 347373600, 573166440, 927983760, 1476337800, 2310789600, 3562467300, 5414950296, 8122425444, 12033222880, 17620076360, 25518731280, 36576848168, 51915526432, 73006209045, 101766230790, 140676848445, 192928249296, 262596783764, 354860518600, 476260169700, 635013559600, 841392966470, 1108176102180, 1451182990950, 1889912732400, 2448296039700, 3155581562280, 4047376351620, 5166863427600, 6566222272575, 8308281242850, 10468434365991, 13136858812224, 16421073515280, 20448884000160, 25371763481680, 31368725759168, 38650751381832, 47465835030320, 58104729088840, 70907466006720, 86270750308176, 104656320045984, 126600387152400, 152724276564800, 183746395242025, 220495674290430, 263926640438545, 315136287090800, 375382930211100, 446107250395800, 528955739755020, 625806790696080, 738799683460650, 870366750378300, 1023269017336650, 1200635647008336, 1406007533996604, 1643385429346680, 1917283000904460, 2232785266876080, 2595612872743443, 3012192716517082, 3489735464257595, 4036320536972640, 4660989191504120, 5373846361969456, 6186171974825304, 7110542499799200, 8160963550905900, 9353014406656200, 10704005376506540, 12233149001721760, 13961746143269400, 15913388077274800, 18114175790089400, 20592957740312160, 23381587434312765, 26515202245096950, 30032524991895525, 33976189889821200, 38393094575497956, 43334780015908584, 48857840214014580]
def TT : Nat → List Nat
  | 1 => T1
  | 2 => T2
  | 3 => T3
  | 4 => T4
  | 5 => T5
  | 6 => T6
  | 7 => T7
  | 8 => T8
  | 9 => T9
  | 10 => T10
  | 11 => T11
  | 12 => T12
  | _ => []
def CC : Nat → List Nat
  | 0 => C0
  | 1 => C1
  | 2 => C2
  | 3 => C3
  | 4 => C4
  | 5 => C5
  | 6 => C6
  | 7 => C7
  | 8 => C8
  | 9 => C9
  | 10 => C10
  | 11 => C11
  | 12 => C12
  | 13 => C13
  | _ => []
theorem chk1 : chk T1 T2 = true := by decide +kernel
theorem chk2 : chk T2 T3 = true := by decide +kernel
theorem chk3 : chk T3 T4 = true := by decide +kernel
theorem chk4 : chk T4 T5 = true := by decide +kernel
theorem chk5 : chk T5 T6 = true := by decide +kernel
theorem chk6 : chk T6 T7 = true := by decide +kernel
theorem chk7 : chk T7 T8 = true := by decide +kernel
theorem chk8 : chk T8 T9 = true := by decide +kernel
theorem chk9 : chk T9 T10 = true := by decide +kernel
theorem chk10 : chk T10 T11 = true := by decide +kernel
theorem chk11 : chk T11 T12 = true := by decide +kernel
theorem base1 : ((List.range 101).all fun c => Nat.beq (T1.getD c 0) (c * (c + 1) / 2)) = true := by decide +kernel
theorem ps0 : psums 0 C0 = C1 := by decide +kernel
theorem ps1 : psums 0 C1 = C2 := by decide +kernel
theorem ps2 : psums 0 C2 = C3 := by decide +kernel
theorem ps3 : psums 0 C3 = C4 := by decide +kernel
theorem ps4 : psums 0 C4 = C5 := by decide +kernel
theorem ps5 : psums 0 C5 = C6 := by decide +kernel
theorem ps6 : psums 0 C6 = C7 := by decide +kernel
theorem ps7 : psums 0 C7 = C8 := by decide +kernel
theorem ps8 : psums 0 C8 = C9 := by decide +kernel
theorem ps9 : psums 0 C9 = C10 := by decide +kernel
theorem ps10 : psums 0 C10 = C11 := by decide +kernel
theorem ps11 : psums 0 C11 = C12 := by decide +kernel
theorem ps12 : psums 0 C12 = C13 := by decide +kernel
theorem fin1 : ((List.range 101).all fun s => fin T1 T2 C1 C2 1 s) = true := by decide +kernel
theorem fin2 : ((List.range 101).all fun s => fin T2 T3 C2 C3 2 s) = true := by decide +kernel
theorem fin3 : ((List.range 101).all fun s => fin T3 T4 C3 C4 3 s) = true := by decide +kernel
theorem fin4 : ((List.range 101).all fun s => fin T4 T5 C4 C5 4 s) = true := by decide +kernel
theorem fin5 : ((List.range 101).all fun s => fin T5 T6 C5 C6 5 s) = true := by decide +kernel
theorem fin6 : ((List.range 101).all fun s => fin T6 T7 C6 C7 6 s) = true := by decide +kernel
theorem fin7 : ((List.range 101).all fun s => fin T7 T8 C7 C8 7 s) = true := by decide +kernel
theorem fin8 : ((List.range 101).all fun s => fin T8 T9 C8 C9 8 s) = true := by decide +kernel
theorem fin9 : ((List.range 101).all fun s => fin T9 T10 C9 C10 9 s) = true := by decide +kernel
theorem fin10 : ((List.range 101).all fun s => fin T10 T11 C10 C11 10 s) = true := by decide +kernel
theorem fin11 : ((List.range 101).all fun s => fin T11 T12 C11 C12 11 s) = true := by decide +kernel
theorem fin12 : ((List.range 101).all fun s => fin T12 T12 C12 C13 12 s) = true := by decide +kernel
theorem len1 : T1.length = 101 := by decide +kernel
theorem hd1 : T1.getD 0 0 = 0 := by decide +kernel
theorem len2 : T2.length = 101 := by decide +kernel
theorem hd2 : T2.getD 0 0 = 0 := by decide +kernel
theorem len3 : T3.length = 101 := by decide +kernel
theorem hd3 : T3.getD 0 0 = 0 := by decide +kernel
theorem len4 : T4.length = 101 := by decide +kernel
theorem hd4 : T4.getD 0 0 = 0 := by decide +kernel
theorem len5 : T5.length = 101 := by decide +kernel
theorem hd5 : T5.getD 0 0 = 0 := by decide +kernel
theorem len6 : T6.length = 101 := by decide +kernel
theorem hd6 : T6.getD 0 0 = 0 := by decide +kernel
theorem len7 : T7.length = 101 := by decide +kernel
theorem hd7 : T7.getD 0 0 = 0 := by decide +kernel
theorem len8 : T8.length = 101 := by decide +kernel
theorem hd8 : T8.getD 0 0 = 0 := by decide +kernel
theorem len9 : T9.length = 101 := by decide +kernel
theorem hd9 : T9.getD 0 0 = 0 := by decide +kernel
theorem len10 : T10.length = 101 := by decide +kernel
theorem hd10 : T10.getD 0 0 = 0 := by decide +kernel
theorem len11 : T11.length = 101 := by decide +kernel
theorem hd11 : T11.getD 0 0 = 0 := by decide +kernel
theorem len12 : T12.length = 101 := by decide +kernel
theorem hd12 : T12.getD 0 0 = 0 := by decide +kernel

theorem good_spec {v : Nat} : ∀ {bs ws : List Nat} {a : Nat}, good v a bs ws = true → ∀ i b w, bs[i]? = some b → ws[i]? = some w → v ≤ a + i + b + w
  | [], _, _, _ => by intro i b w h; simp at h
  | _ :: _, [], _, _ => by intro i b w _ h; simp at h
  | b :: bs, w :: ws, a, h => by
    intro i b' w' hb hw
    unfold good at h
    simp only [Bool.and_eq_true] at h
    cases i with
    | zero => simp at hb hw; subst hb hw; have := Nat.le_of_ble_eq_true h.1; omega
    | succ i =>
      have := good_spec h.2 i b' w' (by simpa using hb) (by simpa using hw)
      omega
theorem hit_spec {v : Nat} : ∀ {bs ws : List Nat} {a : Nat}, hit v a bs ws = true → ∃ i b w, bs[i]? = some b ∧ ws[i]? = some w ∧ v = a + i + b + w
  | [], _, _, h => by simp [hit] at h
  | _ :: _, [], _, h => by simp [hit] at h
  | b :: bs, w :: ws, a, h => by
    unfold hit at h
    rcases Bool.or_eq_true _ _ ▸ h with h | h
    · exact ⟨0, b, w, rfl, rfl, by have := Nat.eq_of_beq_eq_true h; omega⟩
    · obtain ⟨i, b', w', h1, h2, h3⟩ := hit_spec h
      exact ⟨i + 1, b', w', by simpa using h1, by simpa using h2, by omega⟩
theorem chkGo_spec {row : List Nat} : ∀ {vs bs revb : List Nat}, chkGo row revb bs vs = true → bs.length + 1 = vs.length + (bs.length + 1 - vs.length) → vs.length ≤ bs.length + 1 → ∀ j v, vs[j]? = some v → good v 1 ((bs.take j).reverse ++ revb) row = true ∧ hit v 1 ((bs.take j).reverse ++ revb) row = true
  | [], _, _, _, _, _ => by intro j v h; simp at h
  | v :: vs, [], revb, h, _, hl => by
    unfold chkGo at h
    simp only [Bool.and_eq_true] at h
    intro j v' hv
    cases j with
    | zero => simp at hv; subst hv; simpa using h.1
    | succ j => simp at hl; subst hl; simp at hv
  | v :: vs, b :: bs, revb, h, _, hl => by
    unfold chkGo at h
    simp only [Bool.and_eq_true] at h
    intro j v' hv
    cases j with
    | zero => simp at hv; subst hv; simpa using h.1
    | succ j =>
      have := chkGo_spec h.2 (by simp at hl; omega) (by simpa using hl) j v' (by simpa using hv)
      simpa using this
/-- what a row's next one is -/
def Up (t t' : List Nat) : Prop := ∀ s, 1 ≤ s → s ≤ 100 → (∀ a, 1 ≤ a → a ≤ s → t'.getD s 0 ≤ a + t.getD (s - a) 0 + t'.getD (a - 1) 0) ∧ ∃ a, 1 ≤ a ∧ a ≤ s ∧ t'.getD s 0 = a + t.getD (s - a) 0 + t'.getD (a - 1) 0
theorem getD_at {l : List Nat} {i x : Nat} (h : l[i]? = some x) : l.getD i 0 = x := by rw [List.getD_eq_getElem?_getD, h]; rfl
theorem up_of {t t' : List Nat} (h : chk t t' = true) (h1 : t.length = 101) (h2 : t'.length = 101) : Up t t' := by
  intro s hs hs'
  unfold chk at h
  have hlt : t.tail.length = 100 := by simp [h1]
  have hlt' : t'.tail.length = 100 := by simp [h2]
  have hv : t'.tail[s - 1]? = some (t'.getD s 0) := by
    rw [List.getElem?_tail, show s - 1 + 1 = s by omega, List.getD_eq_getElem?_getD, List.getElem?_eq_getElem (by omega)]; rfl
  obtain ⟨g, ht⟩ := chkGo_spec h (by omega) (by omega) (s - 1) _ hv
  have hrev : (t.tail.take (s - 1)).reverse ++ [t.getD 0 0] = (t.take s).reverse := by
    cases t with
    | nil => simp at h1
    | cons x t =>
      obtain ⟨s, rfl⟩ : ∃ s', s = s' + 1 := ⟨s - 1, by omega⟩
      simp
  rw [hrev] at g ht
  have hidx : ∀ i, i < s → (t.take s).reverse[i]? = some (t.getD (s - 1 - i) 0) := fun i hi => by
    rw [List.getElem?_reverse (by simp; omega)]
    simp only [List.length_take, h1]
    rw [show min s 101 - 1 - i = s - 1 - i by omega, List.getElem?_take_of_lt (by omega), List.getD_eq_getElem?_getD, List.getElem?_eq_getElem (by omega)]; rfl
  refine ⟨fun a ha ha' => ?_, ?_⟩
  · have := good_spec g (a - 1) _ (t'.getD (a - 1) 0) (hidx (a - 1) (by omega)) (by rw [List.getD_eq_getElem?_getD, List.getElem?_eq_getElem (by omega)]; rfl)
    rw [show s - 1 - (a - 1) = s - a by omega] at this
    omega
  · obtain ⟨i, b, w, e1, e2, e3⟩ := hit_spec ht
    have hi : i < s := by
      rcases Nat.lt_or_ge i s with q | q
      · exact q
      · rw [List.getElem?_eq_none (by simp; omega)] at e1; cases e1
    rw [hidx i hi] at e1
    cases e1
    refine ⟨i + 1, by omega, by omega, ?_⟩
    rw [show i + 1 - 1 = i by omega, getD_at e2, show s - (i + 1) = s - 1 - i by omega]
    omega
theorem up_all : ∀ r, 1 ≤ r → r < 12 → Up (TT r) (TT (r + 1)) := by
  intro r h1 h2
  have : r = 1 ∨ r = 2 ∨ r = 3 ∨ r = 4 ∨ r = 5 ∨ r = 6 ∨ r = 7 ∨ r = 8 ∨ r = 9 ∨ r = 10 ∨ r = 11 := by omega
  rcases this with rfl | rfl | rfl | rfl | rfl | rfl | rfl | rfl | rfl | rfl | rfl
  · exact up_of chk1 len1 len2
  · exact up_of chk2 len2 len3
  · exact up_of chk3 len3 len4
  · exact up_of chk4 len4 len5
  · exact up_of chk5 len5 len6
  · exact up_of chk6 len6 len7
  · exact up_of chk7 len7 len8
  · exact up_of chk8 len8 len9
  · exact up_of chk9 len9 len10
  · exact up_of chk10 len10 len11
  · exact up_of chk11 len11 len12
theorem psums_take : ∀ {l : List Nat} {m acc : Nat}, psums acc (l.take m) = (psums acc l).take m
  | [], m, acc => by simp [psums]
  | x :: l, 0, acc => by simp [psums]
  | x :: l, m + 1, acc => by simp [psums, psums_take]
def cntL : Nat → Nat → List Nat
  | 0, m => List.replicate m 1
  | r + 1, m => psums 0 (cntL r m)
theorem cntL_CC {m : Nat} (hm : m ≤ 103) : ∀ r, r ≤ 13 → cntL r m = (CC r).take m
  | 0, _ => by
    show List.replicate m 1 = C0.take m
    have : C0 = List.replicate 103 1 := by decide +kernel
    rw [this, List.take_replicate, Nat.min_eq_left hm]
  | r + 1, h => by
    show psums 0 (cntL r m) = _
    rw [cntL_CC hm r (by omega), psums_take]
    have : psums 0 (CC r) = CC (r + 1) := by
      have : r = 0 ∨ r = 1 ∨ r = 2 ∨ r = 3 ∨ r = 4 ∨ r = 5 ∨ r = 6 ∨ r = 7 ∨ r = 8 ∨ r = 9 ∨ r = 10 ∨ r = 11 ∨ r = 12 := by omega
      rcases this with rfl | rfl | rfl | rfl | rfl | rfl | rfl | rfl | rfl | rfl | rfl | rfl | rfl
      · exact ps0
      · exact ps1
      · exact ps2
      · exact ps3
      · exact ps4
      · exact ps5
      · exact ps6
      · exact ps7
      · exact ps8
      · exact ps9
      · exact ps10
      · exact ps11
      · exact ps12
    rw [this]
theorem fin_all {r s : Nat} (h1 : 1 ≤ r) (h2 : r ≤ 12) (hs : s ≤ 100) : fin (TT r) (TT (min (r + 1) 12)) (CC r) (CC (r + 1)) r s = true := by
  have hm : s ∈ List.range 101 := List.mem_range.mpr (by omega)
  have : r = 1 ∨ r = 2 ∨ r = 3 ∨ r = 4 ∨ r = 5 ∨ r = 6 ∨ r = 7 ∨ r = 8 ∨ r = 9 ∨ r = 10 ∨ r = 11 ∨ r = 12 := by omega
  rcases this with rfl | rfl | rfl | rfl | rfl | rfl | rfl | rfl | rfl | rfl | rfl | rfl
  · exact List.all_eq_true.mp fin1 s hm
  · exact List.all_eq_true.mp fin2 s hm
  · exact List.all_eq_true.mp fin3 s hm
  · exact List.all_eq_true.mp fin4 s hm
  · exact List.all_eq_true.mp fin5 s hm
  · exact List.all_eq_true.mp fin6 s hm
  · exact List.all_eq_true.mp fin7 s hm
  · exact List.all_eq_true.mp fin8 s hm
  · exact List.all_eq_true.mp fin9 s hm
  · exact List.all_eq_true.mp fin10 s hm
  · exact List.all_eq_true.mp fin11 s hm
  · exact List.all_eq_true.mp fin12 s hm

section
variable {c : Cx} {k : Nat} {ρ : Loc} {st : St} {Q : V → St → Prop} {X : Xp}
def cellV (ns : List Int) (i : Int) : Int := ns.getD i.toNat 0
theorem fmod_lt {a b : Int} (h : 0 < b) : 0 ≤ a.fmod b ∧ a.fmod b < b := by
  rw [Int.fmod_eq_emod_of_nonneg _ (Int.le_of_lt h)]
  exact ⟨Int.emod_nonneg _ (by omega), Int.emod_lt_of_pos _ h⟩
theorem mulOk_right {a b : Int} (h : b.natAbs < 2 ^ 63) : IntMulOk a b := by
  refine IntMulOk.of_right ?_
  unfold Builtin.Int.intBits
  split
  · omega
  · rename_i hb
    have h0 : b.natAbs ≠ 0 := by simpa using hb
    have : b.natAbs.log2 < 63 := (Nat.log2_lt h0).mpr h
    omega
theorem s_cell_at (hK : Kc c) {ns : List Int} {i : Int} (h0 : 0 ≤ i) (hl : ns.length < 1000) (h : Q (.int (cellV ns i)) st) : CF c (k + 1) 77 [.scr ns, .int i] ρ st Q X := by
  refine CallW.fn (fnK hK (fn_law_cell_at _)) rfl ?_
  k_places
  fold_depth
  refine WL.lenScr (by omega) ?_
  fold_depth
  refine cnd_cases (fun hb => ?_) (fun hb => ?_)
  · have hb' : i < (ns.length : Int) := by simpa using hb
    fold_depth
    refine W2.subScr rfl (by omega) (seqIndex_pos h0 hb') (List.getElem?_eq_getElem (by omega)) ?_
    have : cellV ns i = ns[i.toNat] := by unfold cellV; rw [List.getD_eq_getElem?_getD, List.getElem?_eq_getElem (by omega)]; rfl
    rw [this] at h; exact h
  · have hb' : ¬ i < (ns.length : Int) := by simpa using hb
    fold_depth
    have : cellV ns i = 0 := by unfold cellV; rw [List.getD_eq_getElem?_getD, List.getElem?_eq_none (by omega)]; rfl
    rw [this] at h; exact h
theorem s_whole (hK : Kc c) {i : Int} (h : Q (.bool true) st) : CF c (k + 1) 84 [.int i] ρ st Q X := by
  refine CallW.fn (fnK hK (fn_law_whole _)) rfl ?_
  k_places
  fold_depth
  exact h
theorem s_between (hK : Kc c) {i lo hi : Int} (h : Q (.bool (decide (lo ≤ i) && decide (i ≤ hi))) st) : CF c (k + 1) 46 [.int i, .int lo, .int hi] ρ st Q X := by
  refine CallW.fn (fnK hK (fn_between _)) rfl ?_
  k_places
  fold_depth
  refine cnd_cases (fun hb => ?_) (fun hb => ?_)
  · fold_depth
    rw [hb, Bool.true_and] at h; exact h
  · rw [hb, Bool.false_and] at h; exact h
theorem s_need_counts (hK : Kc c) {s r : Int} (h0 : 0 ≤ s) (h1 : s ≤ 100) (h2 : 1 ≤ r) (h3 : r ≤ 12) (h : Q .none st) : CF c (k + 2) 53 [.int s, .int r] ρ st Q X := by
  refine CallW.fn (fnK hK (fn_need_counts _)) rfl ?_
  k_places
  refine s_between hK ?_
  refine ⟨_, rfl, ?_⟩
  refine cnd_is true (by simp; omega) ?_
  fold_depth
  refine s_between hK ?_
  refine ⟨_, rfl, ?_⟩
  refine cnd_is true (by simp; omega) ?_
  fold_depth
  exact h
theorem small_ok' {a : Nat} (h : a ≤ 1000) : a ≤ sizeLine := Nat.le_trans h (by decide)
/-- a row as it lies -/
def rowV (t : List Nat) (n : Nat) : List V := (List.range n).map fun i => V.int ((t.getD i 0 : Nat) : Int)
theorem rowV_len {t : List Nat} {n : Nat} : (rowV t n).length = n := by simp [rowV]
theorem rowV_get {t : List Nat} {n i : Nat} (h : i < n) : (rowV t n)[i]? = some (V.int ((t.getD i 0 : Nat) : Int)) := by
  unfold rowV; rw [List.getElem?_map, List.getElem?_range h]; rfl
theorem rowV_succ {t : List Nat} {n : Nat} : rowV t (n + 1) = rowV t n ++ [V.int ((t.getD n 0 : Nat) : Int)] := by
  unfold rowV; rw [List.range_succ, List.map_append]; rfl
def candV (t t' : List Nat) (s : Nat) (a : Nat) : Int := (a : Int) + ((t.getD (s - a) 0 : Nat) : Int) + ((t'.getD (a - 1) 0 : Nat) : Int)
theorem s_row_above (hK : Kc c) (hq : c.q = true) {t t' : List Nat} (hup : Up t t') (h0 : t'.getD 0 0 = 0) {b : Addr} {S : Nat} (hS : S ≤ 100) (hg : get st b = some (.list (rowV t (S + 1))))
    (h : ∀ a st', Le st st' → get st' a = some (.list (rowV t' (S + 1))) → get st a = none → Q (.ref a) st') : CF c (k + 1) 58 [.ref b, .int S] ρ st Q X := by
  refine CallW.fn (fnK hK (fn_row_above _)) rfl ?_
  k_places
  intro row hrow
  fold_depth
  refine WL.range2 ⟨_, Src.up 1 S rfl (by omega) (by omega), ?_⟩
  refine FOR.inv (fun i ρ₁ st₁ => ρ₁ = ([("below", .ref b), ("steps", .int S), ("row", .ref row)] : Loc) ∧ Le st st₁ ∧ get st₁ row = some (.list (rowV t' (i + 1)))) ⟨rfl, Le.alloc hrow, ?_⟩ ?_ ?_
  · rw [get_head]; show some (O.list [V.int 0]) = some (O.list [V.int ((t'.getD 0 0 : Nat) : Int)]); rw [h0]; rfl
  · rintro i u ρ₁ st₁ hu ⟨rfl, hle, hr⟩
    obtain ⟨hi, rfl⟩ := upTo_get hu
    k_places
    refine ⟨_, _, rfl, hr, ?_⟩
    fold_depth
    have hsrc : ∀ st', Src st' (.rng 1 (((1 + i : Nat) : Int) + 1) 1) (upTo 1 (1 + i)) := fun st' => Src.up 1 (1 + i) rfl (by omega) (by omega)
    refine WL.range2 ⟨_, hsrc _, by rw [upTo_len]; exact small_ok' (by omega), ?_⟩
    have hbl : get st₁ b = some (.list (rowV t (S + 1))) := hle _ _ hg
    refine COMP.pure (fun a' => V.int (candV t t' (1 + i) (1 + a'))) ?_ ?_ ?_
    · exact hsrc _
    · intro a' u hu
      obtain ⟨ha, rfl⟩ := upTo_get hu
      fold_depth
      refine W2.subList hbl rfl (by rw [rowV_len]; omega) (seqIndex_pos (by omega) (by rw [rowV_len]; omega)) (rowV_get (by omega)) ?_
      fold_depth
      refine W2.subList hr rfl (by rw [rowV_len]; omega) (seqIndex_pos (by omega) (by rw [rowV_len]; omega)) (rowV_get (by omega)) ?_
      fold_depth
      refine ⟨?_, rfl⟩
      unfold candV
      rw [show ((((1 + i : Nat) : Int) - ((1 + a' : Nat) : Int)).toNat) = 1 + i - (1 + a') by omega, show ((((1 + a' : Nat) : Int) - 1).toNat) = 1 + a' - 1 by omega]
    · intro d hd
      fold_depth
      rw [upTo_len, show (List.range (1 + i)).map (fun a' => V.int (candV t t' (1 + i) (1 + a'))) = ((List.range (1 + i)).map fun a' => candV t t' (1 + i) (1 + a')).map V.int by simp [List.map_map, Function.comp_def]]
      refine WL.minInts hq get_head (by simp; omega) fun M hM hle' => ?_
      have hM' : M = ((t'.getD (i + 1) 0 : Nat) : Int) := by
        obtain ⟨hlow, a₀, ha1, ha2, ha3⟩ := hup (1 + i) (by omega) (by omega)
        have e1 : M ≤ candV t t' (1 + i) a₀ := by
          refine hle' _ (List.mem_map.mpr ⟨a₀ - 1, List.mem_range.mpr (by omega), ?_⟩)
          rw [show 1 + (a₀ - 1) = a₀ by omega]
        obtain ⟨a₁, hm1, hm2⟩ := List.mem_map.mp hM
        have hr1 := List.mem_range.mp hm1
        have e2 := hlow (1 + a₁) (by omega) (by omega)
        unfold candV at e1 hm2
        rw [show i + 1 = 1 + i by omega]
        omega
      subst hM'
      have hdr : d ≠ row := fun e => by rw [e, hr] at hd; cases hd
      fold_depth
      refine WL.append ((get_tail (Ne.symm hdr)).trans hr) (by rw [rowV_len]; omega) ?_
      fold_depth
      refine lp_next ⟨_, .cons rfl (.cons rfl (.cons rfl .nil)), Src.up 1 S rfl (by omega) (by omega), rfl, (hle.cons hd).upd hrow, ?_⟩
      rw [get_upd_self ((get_tail (Ne.symm hdr)).trans hr), rowV_succ (n := i + 1)]
  · rintro ρ₁ st₁ ⟨rfl, hle, hr⟩
    fold_depth
    exact h row st₁ hle (by rw [upTo_len] at hr; exact hr) hrow
end
section
variable {c : Cx} {k : Nat} {ρ : Loc} {st : St} {Q : V → St → Prop} {X : Xp}
/-- rows, as they lie -/
structure Rows (st : St) (a : Addr) (S n : Nat) : Prop where
  ex : ∃ bs : List Addr, get st a = some (.list (bs.map .ref)) ∧ bs.length = n ∧ (∀ i b, bs[i]? = some b → get st b = some (.list (rowV (TT (i + 1)) (S + 1)))) ∧ ∀ b ∈ bs, b ≠ a
theorem TT_hd : ∀ r, 1 ≤ r → r ≤ 12 → (TT r).getD 0 0 = 0 := by
  intro r h1 h2
  have : r = 1 ∨ r = 2 ∨ r = 3 ∨ r = 4 ∨ r = 5 ∨ r = 6 ∨ r = 7 ∨ r = 8 ∨ r = 9 ∨ r = 10 ∨ r = 11 ∨ r = 12 := by omega
  rcases this with rfl | rfl | rfl | rfl | rfl | rfl | rfl | rfl | rfl | rfl | rfl | rfl
  · exact hd1
  · exact hd2
  · exact hd3
  · exact hd4
  · exact hd5
  · exact hd6
  · exact hd7
  · exact hd8
  · exact hd9
  · exact hd10
  · exact hd11
  · exact hd12
theorem T1_at {i : Nat} (h : i ≤ 100) : T1.getD i 0 = i * (i + 1) / 2 := Nat.eq_of_beq_eq_true (List.all_eq_true.mp base1 i (List.mem_range.mpr (by omega)))
theorem s_table (hK : Kc c) (hq : c.q = true) {S r : Nat} (hS : S ≤ 100) (h1 : 1 ≤ r) (h2 : r ≤ 12) (h : ∀ a st', Le st st' → Rows st' a S r → get st a = none → Q (.ref a) st') : CF c (k + 3) 63 [.int S, .int r] ρ st Q X := by
  refine CallW.fn (fnK hK (fn_table _)) rfl ?_
  k_places
  refine s_need_counts hK (by omega) (by omega) (by omega) (by omega) ?_
  fold_depth
  refine WL.range1 ⟨_, Src.up 0 (S + 1) rfl (by omega) (by omega), by rw [upTo_len]; exact small_ok' (by omega), ?_⟩
  refine COMP.pure (fun i => V.int ((T1.getD i 0 : Nat) : Int)) (Src.up 0 (S + 1) rfl (by omega) (by omega)) ?_ ?_
  · intro i u hu
    obtain ⟨hi, rfl⟩ := upTo_get hu
    fold_depth
    refine W2.mulI (mulOk_right (by omega)) ?_
    fold_depth
    refine W2.divI (by decide) (by decide) ?_
    refine ⟨?_, rfl⟩
    rw [T1_at (by omega)]
    congr 1
    rw [Int.fdiv_eq_ediv_of_nonneg _ (by decide)]
    simp
  · intro d hd
    fold_depth
    intro a ha
    fold_depth
    rw [upTo_len] at ha ⊢
    refine WPs.while (fun n ρ₁ st₁ => ∃ m, n = r - m ∧ 1 ≤ m ∧ m ≤ r ∧ ρ₁ = ([("steps", .int S), ("room", .int r), ("rows", .ref a)] : Loc) ∧ Le st st₁ ∧ Rows st₁ a S m) (r - 1) ⟨1, rfl, by omega, h1, rfl, (Le.alloc hd).cons ha, ?_⟩ ?_
    · refine ⟨[d], get_head, rfl, ?_, ?_⟩
      · intro i b hb
        cases i with
        | zero => simp at hb; subst hb; rw [get_tail (fun e => by rw [e] at ha; rw [get_head] at ha; cases ha), get_head]; rfl
        | succ i => simp at hb
      · intro b hb
        simp at hb
        subst hb
        exact fun e => by rw [← e, get_head] at ha; cases ha
    · rintro n ρ₁ st₁ ⟨m, rfl, hm1, hm2, rfl, hle, hR⟩
      obtain ⟨bs, hb1, hb2, hb3, hb4⟩ := hR.ex
      fold_depth
      refine WL.lenList hb1 (by simp; omega) ?_
      fold_depth
      refine cnd_cases (fun hb => ?_) (fun hb => ?_)
      · have hlt : m < r := by simpa [hb2] using hb
        fold_depth
        refine ⟨_, _, rfl, hb1, ?_⟩
        fold_depth
        obtain ⟨bl, hbl⟩ : ∃ bl, bs[m - 1]? = some bl := ⟨_, List.getElem?_eq_getElem (by omega)⟩
        refine W2.subList hb1 rfl (by simp; omega) (seqIndex_neg (by decide) (by simp; omega)) (v := .ref bl) (by simp [hb2]; rw [show (-1 + (m : Int)).toNat = m - 1 by omega]; exact hbl) ?_
        fold_depth
        refine s_row_above hK hq (up_all m hm1 (by omega)) (TT_hd (m + 1) (by omega) (by omega)) hS ?_ ?_
        · have := hb3 (m - 1) bl hbl
          rwa [show m - 1 + 1 = m by omega] at this
        · intro a' st₂ hle₂ hg₂ hn₂
          fold_depth
          refine WL.append (hle₂ _ _ hb1) (by simp; omega) ?_
          fold_depth
          have haa : a' ≠ a := fun e => by rw [e, hb1] at hn₂; cases hn₂
          refine lp_next ⟨_, _, ?_, .cons rfl (.cons rfl (.cons rfl .nil)), m + 1, rfl, by omega, by omega, rfl, (hle.trans hle₂).upd ((Le.alloc hd).none ha), bs ++ [a'], ?_, by simp [hb2], ?_, ?_⟩
          · omega
          · rw [get_upd_self (hle₂ _ _ hb1)]; simp
          · intro i b hb'
            by_cases hi : i < bs.length
            · rw [List.getElem?_append_left hi] at hb'
              have hbm := List.mem_of_getElem? hb'
              rw [get_upd_ne (hb4 b hbm)]
              exact hle₂ _ _ (hb3 i b hb')
            · rw [List.getElem?_append_right (by omega)] at hb'
              have : i = m := by
                rcases Nat.lt_or_ge (i - bs.length) 1 with q | q
                · omega
                · rw [List.getElem?_eq_none (by simpa using q)] at hb'; cases hb'
              subst this
              simp [hb2] at hb'
              subst hb'
              rw [get_upd_ne haa]; exact hg₂
          · intro b hb'
            rcases List.mem_append.mp hb' with hb' | hb'
            · exact hb4 b hb'
            · simp at hb'; subst hb'; exact haa
      · have hge : m = r := by
          have : ¬ m < r := by simpa [hb2] using hb
          omega
        subst hge
        fold_depth
        exact h a st₁ hle hR ((Le.alloc hd).none ha)
theorem s_least (hK : Kc c) (hq : c.q = true) {S r : Nat} (hS : S ≤ 100) (h1 : 1 ≤ r) (h2 : r ≤ 12) (h : ∀ st', Le st st' → Q (.int (((TT r).getD S 0 : Nat) : Int)) st') : CF c (k + 4) 70 [.int S, .int r] ρ st Q X := by
  refine CallW.fn (fnK hK (fn_least _)) rfl ?_
  k_places
  refine s_table hK hq hS h1 h2 fun a st' hle hR _ => ?_
  obtain ⟨bs, hb1, hb2, hb3, hb4⟩ := hR.ex
  fold_depth
  obtain ⟨bl, hbl⟩ : ∃ bl, bs[r - 1]? = some bl := ⟨_, List.getElem?_eq_getElem (by omega)⟩
  refine W2.subList hb1 rfl (by simp; omega) (seqIndex_neg (by decide) (by simp; omega)) (v := .ref bl) (by simp [hb2]; rw [show (-1 + (r : Int)).toNat = r - 1 by omega]; exact hbl) ?_
  fold_depth
  have hg := hb3 (r - 1) bl hbl
  rw [show r - 1 + 1 = r by omega] at hg
  refine W2.subList hg rfl (by rw [rowV_len]; omega) (seqIndex_pos (by omega) (by rw [rowV_len]; omega)) (rowV_get (by omega)) ?_
  exact h st' hle
def natV (n : Nat) : V := .int n
theorem psums_snoc : ∀ {l : List Nat} {acc x : Nat}, psums acc (l ++ [x]) = psums acc l ++ [acc + l.sum + x]
  | [], acc, x => by simp [psums]
  | y :: l, acc, x => by simp [psums, psums_snoc, Nat.add_assoc]
theorem take_snoc {l : List Nat} {i x : Nat} (h : l[i]? = some x) : l.take (i + 1) = l.take i ++ [x] := by rw [List.take_add_one, h]; rfl
theorem cntL_len : ∀ r m, (cntL r m).length = m
  | 0, m => by simp [cntL]
  | r + 1, m => by
    have : ∀ (l : List Nat) acc, (psums acc l).length = l.length := by
      intro l
      induction l with
      | nil => intro acc; rfl
      | cons x l ih => intro acc; simp [psums, ih]
    show (psums 0 (cntL r m)).length = m
    rw [this, cntL_len r m]
theorem s_counts (hK : Kc c) (hq : c.q = true) {r m : Nat} (hr : r ≤ 100) (hm : m ≤ 200) (h : ∀ a st', Le st st' → get st' a = some (.list ((cntL r m).map natV)) → get st a = none → Q (.ref a) st') : CF c (k + 1) 91 [.int r, .int m] ρ st Q X := by
  refine CallW.fn (fnK hK (fn_law_counts _)) rfl ?_
  k_places
  intro a₀ ha₀
  fold_depth
  refine W2.mulList get_head (by omega) (by simp; omega) ?_
  intro a₁ ha₁
  fold_depth
  refine WL.range1 ⟨_, Src.up 0 r rfl (by omega) (by omega), ?_⟩
  refine FOR.inv (fun i ρ₁ st₁ => ∃ l, ρ₁ = ([("_law_room", .int r), ("_law_many", .int m), ("_law_line", .ref l)] : Loc) ∧ Le st st₁ ∧ get st₁ l = some (.list ((cntL i m).map natV)) ∧ get st l = none) ⟨a₁, rfl, (Le.alloc ha₀).cons ha₁, ?_, (Le.alloc ha₀).none ha₁⟩ ?_ ?_
  · rw [get_head]
    simp [cntL, natV, List.map_replicate]
  · rintro i u ρ₁ st₁ hu ⟨l, rfl, hle, hg, hnl⟩
    obtain ⟨hi, rfl⟩ := upTo_get hu
    k_places
    intro sm hsm
    fold_depth
    have hls : l ≠ sm := fun e => by rw [← e, hg] at hsm; cases hsm
    have hsrc : ∀ {st' : St}, get st' l = some (.list ((cntL i m).map natV)) → Src st' (.ref l) ((cntL i m).map natV) := fun e => .list e
    refine ⟨_, .list (by rw [get_tail hls]; exact hg), ?_⟩
    refine FOR.inv (fun j ρ₂ st₂ => ρ₂ = ([("_law_room", .int r), ("_law_many", .int m), ("_law_line", .ref l), ("_law_turn", .int ((0 + i : Nat) : Int)), ("_law_sums", .ref sm), ("_law_total", .int ((((cntL i m).take j).sum : Nat) : Int))] : Loc) ∧ Le st st₂ ∧ get st₂ l = some (.list ((cntL i m).map natV)) ∧ get st₂ sm = some (.list ((psums 0 ((cntL i m).take j)).map natV))) ⟨rfl, hle.cons hsm, by rw [get_tail hls]; exact hg, by rw [get_head]; rfl⟩ ?_ ?_
    · rintro j u ρ₂ st₂ hu ⟨rfl, hle₂, hg₂, hs₂⟩
      rw [List.getElem?_map] at hu
      obtain ⟨x, hx, rfl⟩ := Option.map_eq_some_iff.mp hu
      have hsum : (((cntL i m).take j).sum : Int) + (x : Int) = ((((cntL i m).take (j + 1)).sum : Nat) : Int) := by rw [take_snoc hx]; simp
      k_places
      refine W2.addI ?_
      rw [hsum]
      fold_depth
      refine ⟨_, _, rfl, hs₂, ?_⟩
      fold_depth
      have hjl : j < (cntL i m).length := by
        rcases Nat.lt_or_ge j (cntL i m).length with q | q
        · exact q
        · rw [List.getElem?_eq_none q] at hx; cases hx
      refine WL.append hs₂ ?_ ?_
      · rw [List.length_map]
        have : (psums 0 ((cntL i m).take j)) = (psums 0 (cntL i m)).take j := psums_take
        rw [this, List.length_take]
        have := cntL_len i m
        omega
      fold_depth
      refine lp_next ⟨_, .cons rfl (.cons rfl (.cons rfl (.cons rfl (.cons rfl (.cons rfl .nil))))), .list (by rw [get_upd_ne hls]; exact hg₂), rfl, hle₂.upd (hle.none hsm), by rw [get_upd_ne hls]; exact hg₂, ?_⟩
      rw [get_upd_self hs₂, take_snoc hx, psums_snoc]
      simp [natV]
    · rintro ρ₂ st₂ ⟨rfl, hle₂, hg₂, hs₂⟩
      fold_depth
      refine lp_next ⟨_, .cons rfl (.cons rfl (.cons rfl .nil)), Src.up 0 r rfl (by omega) (by omega), sm, rfl, hle₂, ?_, hle.none hsm⟩
      rw [hs₂, List.length_map, List.take_length]; rfl
  · rintro ρ₁ st₁ ⟨l, rfl, hle, hg, hnl⟩
    rw [upTo_len] at hg
    fold_depth
    exact h l st₁ hle hg hnl
end
section
variable {c : Cx} {k : Nat} {ρ : Loc} {st : St} {Q : V → St → Prop} {X : Xp}
def leP (S : Int) : V → Bool
  | .int i => decide (i ≤ S)
  | _ => false
theorem filt_len {S : Nat} : ∀ l : List Nat, (((l.map natV).filter (leP S)).map id).length = cntLe S l
  | [] => rfl
  | x :: l => by
    have ih := filt_len (S := S) l
    rw [List.map_cons, List.filter_cons]
    unfold cntLe
    by_cases h : x ≤ S
    · have h1 : leP S (natV x) = true := by simp [leP, natV]; exact h
      have h2 : Nat.ble x S = true := Nat.ble_eq.mpr h
      rw [if_pos h1, if_pos h2]; simpa using ih
    · have h1 : ¬ leP S (natV x) = true := by simp [leP, natV]; omega
      have h2 : ¬ Nat.ble x S = true := by rw [Nat.ble_eq]; exact h
      rw [if_neg h1, if_neg h2]; exact ih
theorem cntLe_le {S : Nat} : ∀ l : List Nat, cntLe S l ≤ l.length
  | [] => Nat.le_refl _
  | x :: l => by
    have ih := cntLe_le (S := S) l
    unfold cntLe
    split <;> simp <;> omega
theorem natV_ints (l : List Nat) : l.map natV = (l.map fun (n : Nat) => (n : Int)).map V.int := by rw [List.map_map]; rfl
theorem rowV_ints (t : List Nat) (n : Nat) : rowV t n = ((List.range n).map fun i => ((t.getD i 0 : Nat) : Int)).map V.int := by rw [List.map_map]; rfl
/-- what the plain law gives -/
structure Plain (S r n : Nat) (line : List Nat) : Prop where
  due : (0 < n → ∃ x, (cntL (r + 1) n)[n - 1]? = some x ∧ (TT r).getD S 0 + x = n * (S + 1)) ∧ (n = 0 → (TT r).getD S 0 = 0)
  more : r < 12 → (TT (r + 1)).getD S 0 ≤ (TT r).getD S 0
  next : S < 100 → (TT r).getD (S + 1) 0 = (TT r).getD S 0 + n + (if ((S : Int) + 1) ∈ line.map (fun (n : Nat) => (n : Int)) then 1 else 0)
  last : r < S ∨ (TT r).getD S 0 = S
theorem plain {S r : Nat} (hS : S ≤ 100) (h1 : 1 ≤ r) (h2 : r ≤ 12) : Plain S r (cntLe S (cntL r (S + 2))) (cntL r (S + 2)) := by
  have F := fin_all h1 h2 hS
  have hl := cntL_CC (m := S + 2) (by omega) r (by omega)
  have hn := cntLe_le (S := S) (cntL r (S + 2))
  rw [cntL_len] at hn
  generalize hline : cntL r (S + 2) = line at *
  unfold fin at F
  simp only [← hl, Bool.and_eq_true, Nat.ble_eq] at F
  generalize hnn : cntLe S line = n at *
  obtain ⟨⟨⟨⟨f1, f2⟩, f3⟩, f4⟩, f5⟩ := F
  refine ⟨⟨fun hp => ?_, fun hz => ?_⟩, fun hr => ?_, fun hs => ?_, ?_⟩
  · rw [if_pos hp] at f1
    have e := cntL_CC (m := n) (by omega) (r + 1) (by omega)
    have hlen := cntL_len (r + 1) n
    obtain ⟨x, hx⟩ : ∃ x, (cntL (r + 1) n)[n - 1]? = some x := ⟨_, List.getElem?_eq_getElem (by omega)⟩
    refine ⟨x, hx, ?_⟩
    have hx' : (CC (r + 1))[n - 1]? = some x := by
      rw [e, List.getElem?_take_of_lt (by omega)] at hx
      exact hx
    rw [← getD_at hx']
    exact Nat.eq_of_beq_eq_true f1
  · rw [if_neg (by omega)] at f1
    exact Nat.eq_of_beq_eq_true f1
  · rw [show min (r + 1) 12 = r + 1 by omega] at f2
    exact f2
  · rw [if_pos hs, if_pos hs] at f3
    have := Nat.eq_of_beq_eq_true f3
    rw [this]
    congr 1
    have e : (line.any (Nat.beq (S + 1)) = true) ↔ ((S : Int) + 1) ∈ line.map (fun (n : Nat) => (n : Int)) := by
      rw [List.any_eq_true, List.mem_map]
      constructor
      · rintro ⟨x, hx, hb⟩
        exact ⟨x, hx, by have := Nat.eq_of_beq_eq_true hb; omega⟩
      · rintro ⟨x, hx, hb⟩
        exact ⟨x, hx, by rw [show S + 1 = x by omega]; exact Nat.beq_refl x⟩
    by_cases q : line.any (Nat.beq (S + 1)) = true
    · rw [if_pos q, if_pos (e.mp q)]
    · rw [if_neg q, if_neg fun z => q (e.mpr z)]
  · rcases Bool.or_eq_true _ _ ▸ f4 with q | q
    · left; simpa [Nat.blt_eq] using q
    · exact .inr (Nat.eq_of_beq_eq_true q)
theorem nat_of {i n : Int} (h0 : 0 ≤ i) (h1 : i < n) : ∃ m : Nat, i = m ∧ (m : Int) < n := ⟨i.toNat, by omega, by omega⟩
theorem law_rest2 (hK : Kc c) (hq : c.q = true) {ns : List Int} (hl : ns.length < 1000) {S r n : Nat} (hS : S ≤ 100) (h1 : 1 ≤ r) (h2 : r ≤ 12) {al : Addr} (P : Plain S r n (cntL r (S + 2))) (hg : get st al = some (.list ((cntL r (S + 2)).map natV))) :
    WPS c 20 (scOf (KK c.w) 96) [("_law_script", .scr ns), ("_law_steps", .int S), ("_law_room", .int r), ("_law_line", .ref al), ("_law_times", .int n), ("_law_due", .int (((TT r).getD S 0 : Nat) : Int))] st ((bodyOf (KK c.w) 96).drop 7) (fun fl _ _ => retV fl = .bool true) X := by
  k_places
  refine s_least hK hq hS h1 h2 fun st₁ hle₁ => ?_
  fold_depth
  refine s_whole hK ?_
  fold_depth
  refine cnd_is false (by simp) ?_
  have rest : ∀ st₁, Le st st₁ → WPS c 20 (scOf (KK c.w) 96) [("_law_script", .scr ns), ("_law_steps", .int S), ("_law_room", .int r), ("_law_line", .ref al), ("_law_times", .int n), ("_law_due", .int (((TT r).getD S 0 : Nat) : Int)), ("_law_found", .int (((TT r).getD S 0 : Nat) : Int))] st₁ ((bodyOf (KK c.w) 96).drop 10) (fun fl _ _ => retV fl = .bool true) X := by
    intro st₁ hle₁
    have tail : ∀ st₂, Le st st₂ → WPS c 20 (scOf (KK c.w) 96) [("_law_script", .scr ns), ("_law_steps", .int S), ("_law_room", .int r), ("_law_line", .ref al), ("_law_times", .int n), ("_law_due", .int (((TT r).getD S 0 : Nat) : Int)), ("_law_found", .int (((TT r).getD S 0 : Nat) : Int))] st₂ ((bodyOf (KK c.w) 96).drop 11) (fun fl _ _ => retV fl = .bool true) X := by
      intro st₂ hle₂
      have last : ∀ st₂, WPS c 20 (scOf (KK c.w) 96) [("_law_script", .scr ns), ("_law_steps", .int S), ("_law_room", .int r), ("_law_line", .ref al), ("_law_times", .int n), ("_law_due", .int (((TT r).getD S 0 : Nat) : Int)), ("_law_found", .int (((TT r).getD S 0 : Nat) : Int))] st₂ ((bodyOf (KK c.w) 96).drop 12) (fun fl _ _ => retV fl = .bool true) X := by
        intro st₂
        k_places
        refine cnd_cases (fun hb => ?_) (fun hb => ?_)
        · rfl
        · fold_depth
          have : ¬ r < S := by simpa using hb
          have := P.last
          show V.bool _ = V.bool true
          congr 1
          rw [beq_iff_eq]
          omega
      k_places
      refine cnd_cases (fun hb => ?_) (fun hb => ?_)
      · have hs : S < 100 := by have : (S : Int) < 100 := by simpa using hb
                                omega
        fold_depth
        refine s_least (S := S + 1) hK hq (by omega) h1 h2 fun st₃ hle₃ => ?_
        fold_depth
        refine W2.inInts (by rw [hle₃ _ _ (hle₂ _ _ hg), natV_ints]) ?_
        fold_depth
        refine WL.intBool ?_
        fold_depth
        have e := P.next hs
        refine cnd_is false ?_ ?_
        · rw [e]
          by_cases q : ((S : Int) + 1) ∈ (cntL r (S + 2)).map (fun (n : Nat) => (n : Int))
          · simp [q]
          · simp [q]
        · k_ownIn
          exact last _
      · k_ownIn
        exact last _
    k_places
    refine cnd_cases (fun hb => ?_) (fun hb => ?_)
    · have hr : r < 12 := by have : (r : Int) < 12 := by simpa using hb
                             omega
      fold_depth
      refine s_least (r := r + 1) hK hq hS (by omega) (by omega) fun st₃ hle₃ => ?_
      fold_depth
      have := P.more hr
      refine cnd_is false (decide_eq_false (by omega)) ?_
      k_ownIn
      exact tail _ (hle₁.trans hle₃)
    · k_ownIn
      exact tail _ hle₁
  fold_depth
  refine s_cell_at hK (by decide) hl ?_
  fold_depth
  refine W2.modI (by decide) ?_
  fold_depth
  refine cnd_cases (fun hb => ?_) (fun hb => ?_)
  · fold_depth
    refine W2.modI (by decide) ?_
    obtain ⟨fw, hf, hf'⟩ := nat_of (fmod_lt (a := (S : Int)) (b := 31) (by decide)).1 (fmod_lt (a := (S : Int)) (b := 31) (by decide)).2
    rw [hf]
    fold_depth
    refine s_table hK hq (by omega) h1 h2 fun a st₂ hle₂ hR _ => ?_
    obtain ⟨bs, hb1, hb2, hb3, hb4⟩ := hR.ex
    fold_depth
    refine WL.lenList hb1 (by simp; omega) ?_
    fold_depth
    refine cnd_is false (by simp [hb2]) ?_
    fold_depth
    obtain ⟨bl, hbl⟩ : ∃ bl, bs[r - 1]? = some bl := ⟨_, List.getElem?_eq_getElem (by omega)⟩
    refine W2.subList hb1 rfl (by simp; omega) (seqIndex_neg (by decide) (by simp; omega)) (v := .ref bl) (by simp [hb2]; rw [show (-1 + (r : Int)).toNat = r - 1 by omega]; exact hbl) ?_
    have hgb := hb3 (r - 1) bl hbl
    rw [show r - 1 + 1 = r by omega] at hgb
    fold_depth
    have hsrc : ∀ st', Src st' (.rng 0 ((fw : Int) + 1) 1) (upTo 0 (fw + 1)) := fun st' => Src.up 0 (fw + 1) rfl (by omega) (by omega)
    refine WL.range1 ⟨_, hsrc _, by rw [upTo_len]; exact small_ok' (by omega), ?_⟩
    refine COMP.inv (fun i acc st₃ => Le st₂ st₃ ∧ acc = rowV (TT r) i) ⟨Le.refl, rfl⟩ ?_ ?_
    · rintro i u acc st₃ hu ⟨hle₃, rfl⟩
      obtain ⟨hi, rfl⟩ := upTo_get hu
      fold_depth
      refine s_least (S := 0 + i) hK hq (by omega) h1 h2 fun st₄ hle₄ => ⟨hsrc _, hle₃.trans hle₄, ?_⟩
      rw [rowV_succ, Nat.zero_add]
    · rintro acc st₃ ⟨hle₃, rfl⟩
      intro d hd
      fold_depth
      rw [upTo_len]
      refine W2.neInts (ns := (List.range (fw + 1)).map fun i => (((TT r).getD i 0 : Nat) : Int)) (ms := (List.range (fw + 1)).map fun i => (((TT r).getD i 0 : Nat) : Int)) ?_ ?_ ?_
      · rw [← rowV_ints]; exact (Le.alloc hd) _ _ (hle₃ _ _ hgb)
      · rw [← rowV_ints]; exact get_head
      fold_depth
      refine cnd_is false (by simp) ?_
      k_ownIn
      exact WPS.locs (rest _ (((hle₁.trans hle₂).trans hle₃).cons hd)) (.cons rfl (.cons rfl (.cons rfl (.cons rfl (.cons rfl (.cons rfl (.cons rfl .nil)))))))
  · k_ownIn
    exact rest _ hle₁
theorem law_rest (hK : Kc c) (hq : c.q = true) {ns : List Int} (hl : ns.length < 1000) {S r : Nat} (hS : S ≤ 100) (h1 : 1 ≤ r) (h2 : r ≤ 12) :
    WPS c 20 (scOf (KK c.w) 96) [("_law_script", .scr ns), ("_law_steps", .int S), ("_law_room", .int r)] st ((bodyOf (KK c.w) 96).drop 3) (fun fl _ _ => retV fl = .bool true) X := by
  have P := plain hS h1 h2
  k_places
  refine s_counts (m := S + 2) hK hq (by omega) (by omega) ?_
  intro al st₁ hle₁ hg₁ hn₁
  generalize hn : cntLe S (cntL r (S + 2)) = n at P
  have hnl : n ≤ 102 := by have := cntLe_le (S := S) (cntL r (S + 2)); rw [cntL_len] at this; omega
  fold_depth
  refine ⟨_, .list hg₁, by rw [List.length_map, cntL_len]; exact small_ok' (by omega), ?_⟩
  refine COMP.filt (leP S) id (.list hg₁) ?_ ?_
  · intro u hu
    obtain ⟨x, _, rfl⟩ := List.mem_map.mp hu
    refine ⟨?_, fun hp => ?_⟩
    · refine WPB.cmp ?_ rfl
      fold_depth
      exact W2.leI ⟨_, rfl, rfl, rfl⟩
    · fold_depth
      exact ⟨rfl, rfl⟩
  · intro d hd
    fold_depth
    refine WL.lenList get_head (by rw [filt_len]; omega) ?_
    rw [filt_len, hn]
    fold_depth
    refine cnd_cases (fun hb => ?_) (fun hb => ?_)
    · have hp : 0 < n := by have : (0 : Int) < n := by simpa using hb
                            omega
      obtain ⟨x, hx, he⟩ := P.due.1 hp
      fold_depth
      refine W2.mulI (mulOk_right (by omega)) ?_
      fold_depth
      refine s_counts (r := r + 1) hK hq (by omega) (by omega) ?_
      intro a₂ st₂ hle₂ hg₂ _
      fold_depth
      refine W2.subList hg₂ rfl (by simp [cntL_len]; omega) (seqIndex_pos (by omega) (by simp [cntL_len]; omega)) (v := natV x) (by rw [List.getElem?_map, show (((n : Int) - 1).toNat) = n - 1 by omega, hx]; rfl) ?_
      have hdue : (n : Int) * ((S : Int) + 1) - (x : Int) = (((TT r).getD S 0 : Nat) : Int) := by
        have : ((((TT r).getD S 0 + x : Nat)) : Int) = ((n * (S + 1) : Nat) : Int) := by rw [he]
        rw [Int.natCast_mul] at this
        have e2 : (((S + 1 : Nat)) : Int) = (S : Int) + 1 := by omega
        rw [e2] at this
        omega
      refine W2.subI ?_
      rw [hdue]
      k_ownIn
      exact law_rest2 hK hq hl hS h1 h2 P (hle₂ _ _ ((Le.alloc hd) _ _ hg₁))
    · have hz : n = 0 := by have : ¬ (0 : Int) < n := by simpa using hb
                            omega
      have e := P.due.2 hz
      have := law_rest2 (X := X) hK hq hl hS h1 h2 P ((Le.alloc hd (o := .list (((cntL r (S + 2)).map natV).filter (leP S) |>.map id))) _ _ hg₁)
      rw [e] at this
      k_ownIn
      exact this
theorem law_ok (hK : Kc c) (hq : c.q = true) {ns : List Int} (hl : ns.length < 1000) : WPS c 20 (scOf (KK c.w) 96) [("_law_script", .scr ns)] [] (bodyOf (KK c.w) 96) (fun fl _ _ => retV fl = .bool true) X := by
  k_places
  refine s_cell_at hK (by decide) hl ?_
  fold_depth
  refine W2.modI (by decide) ?_
  obtain ⟨S, hS, hS'⟩ := nat_of (fmod_lt (a := cellV ns 0) (b := 101) (by decide)).1 (fmod_lt (a := cellV ns 0) (b := 101) (by decide)).2
  rw [hS]
  fold_depth
  refine s_cell_at hK (by decide) hl ?_
  fold_depth
  refine W2.modI (by decide) ?_
  obtain ⟨r, hr, hr'⟩ := nat_of (fmod_lt (a := cellV ns 1) (b := 12) (by decide)).1 (fmod_lt (a := cellV ns 1) (b := 12) (by decide)).2
  rw [hr]
  fold_depth
  refine s_cell_at hK (by decide) hl ?_
  fold_depth
  refine W2.modI (by decide) ?_
  fold_depth
  refine cnd_cases (fun hb => ?_) (fun hb => ?_)
  · fold_depth
    refine s_cell_at hK (by decide) hl ?_
    fold_depth
    refine W2.modI (by decide) ?_
    obtain ⟨q, hq', hq''⟩ := nat_of (fmod_lt (a := cellV ns 1) (b := 3) (by decide)).1 (fmod_lt (a := cellV ns 1) (b := 3) (by decide)).2
    rw [hq']
    refine W2.addI ?_
    rw [show (1 : Int) + (q : Int) = ((1 + q : Nat) : Int) by omega]
    k_ownIn
    exact law_rest hK hq hl (by omega) (by omega) (by omega)
  · rw [show (1 : Int) + (r : Int) = ((1 + r : Nat) : Int) by omega]
    k_ownIn
    exact law_rest hK hq hl (by omega) (by omega) (by omega)
end
end Mine
set_option maxHeartbeats 8000000 in
theorem PySem.Challenge.cw_uf040029_11_holds : PySem.Challenge.rw_uf040029_11.Holds := by
  refine Mine.hd ?_
  intro w s₀ s₁ mg mb G Y fa o pm cd doc dV kV ho hd' hcd hD hmg hg args vals as hpre hlay hrd hwl hlo
  have KX := kIn_of Y
  have T := G.T
  have e1 : mg "law" = some (.ref 96) := mg_of KX T.g rfl
  have e2 : fa = 96 := by
    have := hmg
    rw [show mg _ = some (Value.ref 96) from e1] at this
    cases this; rfl
  subst e2
  clear ho hd' hcd hD hmg
  wrow_args hpre hlay hrd hwl hlo
  rename_i ns _ _ _ _ _ _ _ l vals _ hL _ _ _ hI _ hn _
  refine enter_call (codeAny_mono ?_ (fun _ _ g => GoodW.toG g))
  refine Mine.enterLaw (c := { prog := _, w := w, K := Mine.KK w, p := _, loose := _, mean := _, mg := mg, mb := mb, base := s₁.heap, s₀ := s₁, q := true }) (k := 20) (Mine.fn_law w) rfl rfl KX T (by decide) hL hI (Mine.law_ok (by rfl) rfl (by omega)) ?_
  intro L m h' tk F
  refine goodW_bool F hg (raisesW_false ?_) ?_
  · wrow_none_raised
  · wrow_post
