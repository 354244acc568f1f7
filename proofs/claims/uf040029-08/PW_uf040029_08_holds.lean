import PyProof.Rows.All
import Wide.All
import OpenK.AllK
import Wide.FinOn
import PySem.Challenge.RW_uf040029_08
open PySem PySem.W PySem.Calls PySem.Spec PyProof.Rows
set_option Elab.async false
set_option maxRecDepth 100000
set_option linter.unusedVariables false
set_option linter.unusedSimpArgs false
set_option maxHeartbeats 1000000
namespace Mine
set_option genInjectivity false
set_option genSizeOfSpec false

noncomputable abbrev Led := List (Addr × Obj)
noncomputable abbrev tupObj (vals : List Value) (n : Nat) : Obj := { cls := .type "tuple", data := .seq vals.toArray n }
noncomputable abbrev rngObj (a b c : Int) (t u v : Tok) : Obj := { cls := .type "range", dict := none, data := .fields #[.int a t, .int b u, .int c v], slots := #[] }

theorem len0 {α : Type} {xs : List α} (h : xs.length = 0) : xs = [] := List.length_eq_zero_iff.mp h
theorem len1 {α : Type} {xs : List α} {n : Nat} (h : xs.length = n + 1) : ∃ x ys, xs = x :: ys ∧ ys.length = n := by
  cases xs with
  | nil => cases h
  | cons x ys => exact ⟨x, ys, rfl, Nat.succ.inj h⟩
/-- abstract values -/
inductive V where
  | none
  | bool (b : Bool)
  | int (i : Int)
  | str (x : Str)
  | tup (vs : List V)
  | rng (a b c : Int)
  | ref (a : Addr)
  | stat (v : Value)
  | scr (ns : List Int)

/-- abstract objects -/
inductive O where
  | list (vs : List V)
  | dictI (kvs : List (Int × V))
  | dictS (kvs : List (Str × V))
  | inst (C d : Addr)
  | exc (C : Addr)
  | attr (fs : List (Str × V))
  | any (P : Led → Obj → Prop)

noncomputable abbrev St := List (Addr × O)
noncomputable abbrev Loc := List (Str × V)
noncomputable def setL : Loc → Str → V → Loc
  | [], x, v => [(x, v)]
  | (y, u) :: r, x, v => if y = x then (x, v) :: r else (y, u) :: setL r x v
noncomputable def getL : Loc → Str → Option V
  | [], _ => none
  | (y, u) :: r, x => if y = x then some u else getL r x
theorem getL_nil (x : Str) : getL [] x = none := rfl
theorem getL_cons (y : Str) (u : V) (r : Loc) (x : Str) : getL ((y, u) :: r) x = if y = x then some u else getL r x := rfl
theorem getL_setL (ρ : Loc) (x : Str) (v : V) (y : Str) : getL (setL ρ x v) y = if y = x then some v else getL ρ y := by
  induction ρ with
  | nil => rw [setL, getL_cons, getL_nil]; by_cases h : y = x
           · subst h; simp
           · have : ¬ x = y := fun e => h e.symm
             simp [h, this]
  | cons p r ih =>
    obtain ⟨z, u⟩ := p
    rw [setL]
    by_cases hz : z = x
    · subst hz
      rw [if_pos rfl, getL_cons, getL_cons]
      by_cases h : z = y
      · subst h; simp
      · have : ¬ y = z := fun e => h e.symm
        simp [h, this]
    · rw [if_neg hz, getL_cons, ih, getL_cons]
      by_cases h : z = y
      · subst h; simp [hz]
      · simp [h]

/-- the whole, unchanging -/
structure Cx where
  prog : Program
  w : World
  K : Frag
  p : Program
  loose : List Str
  mean : ExcName → Option Value
  mg : Str → Option Value
  mb : Str → Option Value
  base : Heap
  s₀ : Shared
  q : Bool

noncomputable abbrev Cx.M (c : Cx) : Model := model c.prog c.w

mutual
inductive RV (base : Heap) (imm : Led) : V → Value → Prop
  | none : RV base imm .none .none
  | bool (b : Bool) : RV base imm (.bool b) (.bool b)
  | int (i : Int) (t : Tok) : RV base imm (.int i) (.int i t)
  | str (x : Str) (t : Tok) : RV base imm (.str x) (.str x t)
  | tup {a : Addr} {vals : List Value} {n : Nat} {vs : List V} : (a, tupObj vals n) ∈ imm → RVs base imm vs vals → RV base imm (.tup vs) (.ref a)
  | rng {r : Addr} {a b c : Int} {t u v : Tok} : (r, rngObj a b c t u v) ∈ imm → RV base imm (.rng a b c) (.ref r)
  | ref (a : Addr) : RV base imm (.ref a) (.ref a)
  | stat (v : Value) : RV base imm (.stat v) v
  | scr {a : Addr} {vals : List Value} {ns : List Int} : base.IsList a vals.toArray → IntsAre vals ns → RV base imm (.scr ns) (.ref a)
inductive RVs (base : Heap) (imm : Led) : List V → List Value → Prop
  | nil : RVs base imm [] []
  | cons {v : V} {vs : List V} {x : Value} {xs : List Value} : RV base imm v x → RVs base imm vs xs → RVs base imm (v :: vs) (x :: xs)
end

theorem RV.mono {base : Heap} {imm imm' : Led} (hs : ∀ p ∈ imm, p ∈ imm') {v : V} {x : Value} (h : RV base imm v x) : RV base imm' v x :=
  RV.rec (motive_1 := fun v x _ => RV base imm' v x) (motive_2 := fun vs xs _ => RVs base imm' vs xs) .none .bool .int .str (fun hm _ ih => .tup (hs _ hm) ih) (fun hm => .rng (hs _ hm)) .ref .stat (fun h i => .scr h i) .nil (fun _ _ a b => .cons a b) h
theorem RVs.mono {base : Heap} {imm imm' : Led} (hs : ∀ p ∈ imm, p ∈ imm') {v : List V} {x : List Value} (h : RVs base imm v x) : RVs base imm' v x := by
  induction v generalizing x with
  | nil => cases h; exact .nil
  | cons a v ih => cases h with | cons p q => exact .cons (p.mono hs) (ih q)

section
variable {base : Heap} {imm : Led} {vs ws : List V} {xs ys : List Value} {v : V} {x : Value}
theorem RVs.length (h : RVs base imm vs xs) : xs.length = vs.length := by
  induction vs generalizing xs with
  | nil => cases h; rfl
  | cons v vs ih => cases h with | cons _ r => simp [ih r]
theorem RVs.append (h : RVs base imm vs xs) (k : RVs base imm ws ys) : RVs base imm (vs ++ ws) (xs ++ ys) := by
  induction vs generalizing xs with
  | nil => cases h; exact k
  | cons v vs ih => cases h with | cons a r => exact .cons a (ih r)
theorem RVs.get (h : RVs base imm vs xs) {i : Nat} {v : V} (hi : vs[i]? = some v) : ∃ x, xs[i]? = some x ∧ RV base imm v x := by
  induction vs generalizing xs i with
  | nil => simp at hi
  | cons w vs ih => cases h with
    | cons a r => cases i with
      | zero => simp at hi; subst hi; exact ⟨_, by simp, a⟩
      | succ i => simpa using ih r (by simpa using hi)
theorem RVs.get' (h : RVs base imm vs xs) {i : Nat} {x : Value} (hi : xs[i]? = some x) : ∃ v, vs[i]? = some v ∧ RV base imm v x := by
  induction vs generalizing xs i with
  | nil => cases h; simp at hi
  | cons w vs ih => cases h with
    | cons a r => cases i with
      | zero => simp at hi; subst hi; exact ⟨_, by simp, a⟩
      | succ i => simpa using ih r (by simpa using hi)
theorem RVs.one (h : RV base imm v x) : RVs base imm [v] [x] := .cons h .nil
end

theorem RVs.inv1 {base : Heap} {imm : Led} {v : V} {xs : List Value} (h : RVs base imm [v] xs) : ∃ x, xs = [x] ∧ RV base imm v x := by
  cases h with | cons a r => cases r; exact ⟨_, rfl, a⟩
theorem RVs.inv2 {base : Heap} {imm : Led} {v w : V} {xs : List Value} (h : RVs base imm [v, w] xs) : ∃ x y, xs = [x, y] ∧ RV base imm v x ∧ RV base imm w y := by
  cases h with | cons a r => obtain ⟨y, rfl, b⟩ := r.inv1; exact ⟨_, y, rfl, a, b⟩
theorem RVs.inv3 {base : Heap} {imm : Led} {v w u : V} {xs : List Value} (h : RVs base imm [v, w, u] xs) : ∃ x y z, xs = [x, y, z] ∧ RV base imm v x ∧ RV base imm w y ∧ RV base imm u z := by
  cases h with | cons a r => obtain ⟨y, z, rfl, b⟩ := r.inv2; exact ⟨_, y, z, rfl, a, b⟩
theorem RV.refI {base : Heap} {imm : Led} {a : Addr} {x : Value} (h : RV base imm (.ref a) x) : x = .ref a := by cases h; rfl
theorem RV.intI {base : Heap} {imm : Led} {i : Int} {x : Value} (h : RV base imm (.int i) x) : ∃ t, x = .int i t := by cases h; exact ⟨_, rfl⟩
theorem RV.strI {base : Heap} {imm : Led} {i : Str} {x : Value} (h : RV base imm (.str i) x) : ∃ t, x = .str i t := by cases h; exact ⟨_, rfl⟩
theorem RV.boolI {base : Heap} {imm : Led} {i : Bool} {x : Value} (h : RV base imm (.bool i) x) : x = .bool i := by cases h; rfl
theorem RV.noneI {base : Heap} {imm : Led} {x : Value} (h : RV base imm .none x) : x = .none := by cases h; rfl
theorem RV.tupI {base : Heap} {imm : Led} {vs : List V} {x : Value} (h : RV base imm (.tup vs) x) : ∃ a vals n, x = .ref a ∧ (a, tupObj vals n) ∈ imm ∧ RVs base imm vs vals := by cases h with | tup hm r => exact ⟨_, _, _, rfl, hm, r⟩
theorem RV.scrI {base : Heap} {imm : Led} {ns : List Int} {x : Value} (h : RV base imm (.scr ns) x) : ∃ a vals, x = .ref a ∧ base.IsList a vals.toArray ∧ IntsAre vals ns := by cases h with | scr hm r => exact ⟨_, _, rfl, hm, r⟩
/-- values under keys -/
inductive RKs (base : Heap) (imm : Led) {α : Type} : List (α × V) → List (α × Value) → Prop
  | nil : RKs base imm [] []
  | cons {k : α} {v : V} {x : Value} {l : List (α × V)} {r : List (α × Value)} : RV base imm v x → RKs base imm l r → RKs base imm ((k, v) :: l) ((k, x) :: r)
theorem RKs.mono {base : Heap} {imm imm' : Led} (hs : ∀ p ∈ imm, p ∈ imm') {α : Type} {l : List (α × V)} {r : List (α × Value)} (h : RKs base imm l r) : RKs base imm' l r := by
  induction h with
  | nil => exact .nil
  | cons a _ ih => exact .cons (a.mono hs) ih

/-- a dict whose keys are of one kind -/
noncomputable def IsDict {α : Type} [DecidableEq α] {prog : Program} {w : World} (knd : KeyKind prog w α) (o : Obj) (kvs : List (α × Value)) : Prop :=
  o.ExactDict ∧ ∃ es ep, o.data = .dict es ep ∧ KeysOf knd es ∧ Pairs knd es.toList kvs ∧ (kvs.map (·.1)).Nodup

/-- the names of a made thing, and what they mean -/
inductive AtR (base : Heap) (imm : Led) : List (Str × V) → List DictEntry → Prop
  | nil : AtR base imm [] []
  | cons {x : Str} {v : V} {t : Tok} {hsh : Int} {val : Value} {fs : List (Str × V)} {es : List DictEntry} : RV base imm v val → AtR base imm fs es → AtR base imm ((x, v) :: fs) (⟨hsh, .str x t, val⟩ :: es)
theorem AtR.mono {base : Heap} {imm imm' : Led} (hs : ∀ p ∈ imm, p ∈ imm') {l : List (Str × V)} {r : List DictEntry} (h : AtR base imm l r) : AtR base imm' l r := by
  induction h with
  | nil => exact .nil
  | cons a _ ih => exact .cons (a.mono hs) ih
/-- an abstract object and the concrete one -/
inductive RO (c : Cx) (imm : Led) : O → Obj → Prop
  | list {vs : List V} {vals : List Value} {n : Nat} : RVs c.base imm vs vals → RO c imm (.list vs) (listOf vals.toArray n)
  | dictI {kvs : List (Int × V)} {kvals : List (Int × Value)} {o : Obj} : RKs c.base imm kvs kvals → IsDict (intKind c.prog c.w) o kvals → RO c imm (.dictI kvs) o
  | dictS {kvs : List (Str × V)} {kvals : List (Str × Value)} {o : Obj} : RKs c.base imm kvs kvals → IsDict (strKind c.prog c.w) o kvals → RO c imm (.dictS kvs) o
  | inst (C d : Addr) : RO c imm (.inst C d) (instObj C d)
  | exc {C : Addr} {o : Obj} : o.cls = .ref C → (∃ vs, o.data = .fields vs) → RO c imm (.exc C) o
  | attr {fs : List (Str × V)} {es : List DictEntry} {n : Nat} : AtR c.base imm fs es → RO c imm (.attr fs) (dictOf es n)
  | any {P : Led → Obj → Prop} {o : Obj} : (∀ imm', (∀ p ∈ imm, p ∈ imm') → P imm' o) → RO c imm (.any P) o
theorem RO.mono {c : Cx} {imm imm' : Led} (hs : ∀ p ∈ imm, p ∈ imm') {o : O} {co : Obj} (h : RO c imm o co) : RO c imm' o co := by
  cases h with
  | list r => exact .list (r.mono hs)
  | dictI r d => exact .dictI (r.mono hs) d
  | dictS r d => exact .dictS (r.mono hs) d
  | inst C d => exact .inst C d
  | exc a b => exact .exc a b
  | attr a => exact .attr (a.mono hs)
  | any a => exact .any fun imm'' h => a imm'' fun p hp => h p (hs p hp)

theorem RO.listI {c : Cx} {imm : Led} {vs : List V} {o : Obj} (h : RO c imm (.list vs) o) : ∃ vals n, RVs c.base imm vs vals ∧ o = listOf vals.toArray n := by
  cases h with | list r => exact ⟨_, _, r, rfl⟩
inductive StR (c : Cx) (imm : Led) : St → Led → Prop
  | nil : StR c imm [] []
  | cons {a : Addr} {o : O} {co : Obj} {st : St} {mt : Led} : RO c imm o co → StR c imm st mt → StR c imm ((a, o) :: st) ((a, co) :: mt)
theorem StR.mono {c : Cx} {imm imm' : Led} (hs : ∀ p ∈ imm, p ∈ imm') {st : St} {mt : Led} (h : StR c imm st mt) : StR c imm' st mt := by
  induction h with
  | nil => exact .nil
  | cons a _ ih => exact .cons (a.mono hs) ih
noncomputable def get (st : St) (a : Addr) : Option O := st.lookup a
noncomputable def upd (st : St) (a : Addr) (o : O) : St := st.map fun p => if p.1 = a then (a, o) else p

theorem StR.get {c : Cx} {imm : Led} {st : St} {mt : Led} (h : StR c imm st mt) {a : Addr} {o : O} (e : get st a = some o) : ∃ co, (a, co) ∈ mt ∧ RO c imm o co := by
  induction h with
  | nil => cases e
  | @cons b o' co st mt r _ ih =>
    unfold Mine.get at e ih
    rw [List.lookup_cons] at e
    split at e
    · rename_i q
      have q' : a = b := by simpa using q
      subst q'; cases e
      exact ⟨co, .head _, r⟩
    · obtain ⟨co', m, r'⟩ := ih e
      exact ⟨co', .tail _ m, r'⟩

/-- a frame -/
structure Fm where
  outer : List Env
  frs : List (Addr × (Str → Option Value))
  L : Addr
  fenv : Env
  env : Env
  A : Around
  cmp : Bool

/-- a dict that is a namespace -/
noncomputable def NsObj (o : Obj) (m : Str → Option Value) : Prop := ∃ es ep, o.data = .dict es ep ∧ StrKeys es ∧ ∀ name, nsFind es name = m name

/-- the callers' frames -/
inductive FoR : List (Addr × (Str → Option Value)) → Led → Prop
  | nil : FoR [] []
  | cons {L : Addr} {m : Str → Option Value} {o : Obj} {fs : List (Addr × (Str → Option Value))} {fo : Led} : NsObj o m → FoR fs fo → FoR ((L, m) :: fs) ((L, o) :: fo)

/-- the frames' envs -/
noncomputable def EnvOk (f : Fm) (e : Env) : Prop := e.scope.kind = .function ∧ ∃ L, e.frame = some L ∧ (L = f.L ∨ ∃ m, (L, m) ∈ f.frs)

structure Fm.Ok (c : Cx) (k : Nat) (f : Fm) : Prop where
  kin : c.K.In c.base
  top : Top c.p c.loose c.mean c.mg c.mb c.base
  envs : ∀ e ∈ f.fenv :: f.outer, EnvOk f e
  frames : f.A.frames = some (f.fenv :: f.outer)
  eframe : f.env.frame = f.fenv.frame
  ekind : f.env.scope.kind = .function
  eglob : f.env.globals = mainGlobals
  ebi : f.env.builtins = builtinsNs
  ecell : ∀ x, f.env.kindOf x = some .cell → ∃ cc, f.env.cells.lookup x = some cc
  hnd : c.q = true → f.A.handled = none
  depth : f.A.depth + k + 200 < recursionLimit
  units : f.A.units + 8 * k + 200 < cLine

/-- what a name reads -/
noncomputable def ReadsName (f : Fm) (m : Str → Option Value) (cs fr : Led) (x : Str) (val : Value) : Prop :=
  (f.env.kindOf x = some .local ∧ f.env.locals = f.L ∧ m x = some val) ∨
  ((f.env.kindOf x = some .cell ∨ f.env.kindOf x = some .free) ∧ ∃ c o, f.env.cells.lookup x = some c ∧ (c, o) ∈ cs ++ fr ∧ o.data = .cell (some val))

structure LocR (base : Heap) (imm : Led) (f : Fm) (ρ : Loc) (m : Str → Option Value) (cs fr : Led) : Prop where
  reads : ∀ x v, getL ρ x = some v → ∃ val, RV base imm v val ∧ ReadsName f m cs fr x val
  cells : f.cmp = false → ∀ x c, f.env.cells.lookup x = some c → ∃ o v, (c, o) ∈ cs ∧ o.data = .cell v
  inj : f.cmp = false → ∀ x y c, f.env.cells.lookup x = some c → f.env.cells.lookup y = some c → x = y

theorem LocR.mono {base : Heap} {imm imm' : Led} {f : Fm} {ρ : Loc} {m : Str → Option Value} {cs fr : Led} (hs : ∀ p ∈ imm, p ∈ imm') (h : LocR base imm f ρ m cs fr) : LocR base imm' f ρ m cs fr :=
  ⟨fun x v e => let ⟨val, r, q⟩ := h.reads x v e; ⟨val, r.mono hs, q⟩, h.cells, h.inj⟩

noncomputable abbrev whole (mt cs imm fr fo : Led) : Led := mt ++ (cs ++ (imm ++ (fr ++ fo)))

structure RelAt (c : Cx) (f : Fm) (ρ : Loc) (st : St) (imm fr : Led) (h : Heap) (m : Str → Option Value) (mt cs fo : Led) : Prop where
  frm : Fr c.base f.L h m
  news : News c.base f.L h (whole mt cs imm fr fo)
  nodup : ((whole mt cs imm fr fo).map (·.1)).Nodup
  sto : StR c imm st mt
  fos : FoR f.frs fo
  loc : LocR c.base imm f ρ m cs fr

noncomputable def Rel (c : Cx) (f : Fm) (ρ : Loc) (st : St) (imm fr : Led) (s : Shared) : Prop :=
  (∃ h tk, s = { c.s₀ with heap := h, toks := tk }) ∧ ∃ m mt cs fo, RelAt c f ρ st imm fr s.heap m mt cs fo

section
variable {c : Cx} {f : Fm} {k : Nat} {ρ : Loc} {st : St} {imm fr : Led} {s : Shared} {h h' : Heap} {m : Str → Option Value} {mt cs fo : Led} {a : Addr} {o o' : Obj} {tk : Nat}

theorem RelAt.keeps (R : RelAt c f ρ st imm fr h m mt cs fo) (hk : ∀ b o, h.get? b = some o → h'.get? b = some o) : RelAt c f ρ st imm fr h' m mt cs fo :=
  ⟨R.frm.keeps hk, R.news.grown hk, R.nodup, R.sto, R.fos, R.loc⟩
theorem Rel.keeps (R : Rel c f ρ st imm fr s) (hk : ∀ b o, s.heap.get? b = some o → h'.get? b = some o) : Rel c f ρ st imm fr { s with heap := h', toks := tk } := by
  obtain ⟨⟨h0, tk0, rfl⟩, m, mt, cs, fo, r⟩ := R
  exact ⟨⟨h', tk, rfl⟩, m, mt, cs, fo, r.keeps hk⟩
theorem Rel.toks (R : Rel c f ρ st imm fr s) : Rel c f ρ st imm fr { s with toks := tk } := R.keeps (h' := s.heap) fun _ _ e => e
theorem RelAt.size (R : RelAt c f ρ st imm fr h m mt cs fo) : ∀ p ∈ whole mt cs imm fr fo, p.1 < h.objs.size := fun p hp => Heap.lt_size (R.news p hp).1
theorem RelAt.none (R : RelAt c f ρ st imm fr h m mt cs fo) : get st h.objs.size = none := by
  cases e : get st h.objs.size with
  | none => rfl
  | some o =>
    obtain ⟨co, hm, _⟩ := R.sto.get e
    exact absurd (R.size _ (List.mem_append_left _ hm)) (Nat.lt_irrefl _)

theorem newAt (F : Fr c.base f.L h m) (ho : o.isFreed = false) : (h.push o).get? h.objs.size = some o ∧ h.objs.size ≠ f.L ∧ c.base.get? h.objs.size = none := by
  refine ⟨Heap.get?_push_size _ ho, Nat.ne_of_gt F.ns.lt, ?_⟩
  cases hq : c.base.get? h.objs.size with
  | none => rfl
  | some o' => exact absurd (Heap.lt_size (F.keep _ _ hq)) (Nat.lt_irrefl _)

theorem nodup_ins {α β : Type} {l₁ l₂ : List (α × β)} {p : α × β} (h : ((l₁ ++ l₂).map (·.1)).Nodup) (hn : ∀ q ∈ l₁ ++ l₂, q.1 ≠ p.1) : ((l₁ ++ p :: l₂).map (·.1)).Nodup := by
  have e : ((l₁ ++ p :: l₂).map (·.1)).Perm ((p :: (l₁ ++ l₂)).map (·.1)) := List.Perm.map _ List.perm_middle
  refine e.nodup_iff.mpr ?_
  rw [List.map_cons, List.nodup_cons]
  refine ⟨fun hm => ?_, h⟩
  obtain ⟨q, hq, e⟩ := List.mem_map.mp hm
  exact hn q hq e

/-- one more object, anywhere in the ledger -/
theorem news_ins {l₁ l₂ : Led} (F : Fr c.base f.L h m) (N : News c.base f.L h (l₁ ++ l₂)) (nd : ((l₁ ++ l₂).map (·.1)).Nodup) (ho : o.isFreed = false) :
    News c.base f.L (h.push o) (l₁ ++ (h.objs.size, o) :: l₂) ∧ ((l₁ ++ (h.objs.size, o) :: l₂).map (·.1)).Nodup := by
  refine ⟨fun p hp => ?_, nodup_ins nd fun q hq => Nat.ne_of_lt (Heap.lt_size (N q hq).1)⟩
  have hp' : p = (h.objs.size, o) ∨ p ∈ l₁ ++ l₂ := by
    simp only [List.mem_append, List.mem_cons] at hp ⊢
    rcases hp with hp | hp | hp
    · exact .inr (.inl hp)
    · exact .inl hp
    · exact .inr (.inr hp)
  rcases hp' with rfl | hp'
  · exact newAt F ho
  · exact ⟨Heap.get?_push_of_some _ (N p hp').1, (N p hp').2⟩

theorem LocR.more {base : Heap} {p : Addr × Obj} (h : LocR base imm f ρ m cs fr) : LocR base imm f ρ m cs (p :: fr) := by
  refine ⟨fun x v e => ?_, h.cells, h.inj⟩
  obtain ⟨val, r, q⟩ := h.reads x v e
  refine ⟨val, r, ?_⟩
  rcases q with q | ⟨q1, c, o, q2, q3, q4⟩
  · exact .inl q
  · refine .inr ⟨q1, c, o, q2, ?_, q4⟩
    rcases List.mem_append.mp q3 with q3 | q3
    · exact List.mem_append_left _ q3
    · exact List.mem_append_right _ (.tail _ q3)
theorem LocR.other {base : Heap} {l₁ l₂ l₃ : Led} (h : LocR base imm f ρ m cs (l₁ ++ (a, o) :: l₂)) (hd : ∀ v, o.data ≠ .cell v) (hl : ∀ p, p ∈ l₁ ++ l₂ → p ∈ l₃) : LocR base imm f ρ m cs l₃ := by
  refine ⟨fun x v e => ?_, h.cells, h.inj⟩
  obtain ⟨val, r, q⟩ := h.reads x v e
  refine ⟨val, r, ?_⟩
  rcases q with q | ⟨q1, c, ob, q2, q3, q4⟩
  · exact .inl q
  · refine .inr ⟨q1, c, ob, q2, ?_, q4⟩
    rcases List.mem_append.mp q3 with q3 | q3
    · exact List.mem_append_left _ q3
    · refine List.mem_append_right _ (hl _ ?_)
      simp only [List.mem_append, List.mem_cons, Prod.mk.injEq] at q3 ⊢
      rcases q3 with q3 | ⟨_, q3⟩ | q3
      · exact .inl q3
      · exact absurd (q3 ▸ q4) (hd _)
      · exact .inr q3

theorem RelAt.pushImm (R : RelAt c f ρ st imm fr h m mt cs fo) (ho : o.isFreed = false) : RelAt c f ρ st ((h.objs.size, o) :: imm) fr (h.push o) m mt cs fo := by
  have hs : ∀ p ∈ imm, p ∈ (h.objs.size, o) :: imm := fun p hp => .tail _ hp
  have e : whole mt cs ((h.objs.size, o) :: imm) fr fo = (mt ++ cs) ++ (h.objs.size, o) :: (imm ++ (fr ++ fo)) := by simp
  have e' : whole mt cs imm fr fo = (mt ++ cs) ++ (imm ++ (fr ++ fo)) := by simp
  have z := news_ins R.frm (e' ▸ R.news) (e' ▸ R.nodup) ho
  exact ⟨R.frm.push _, e ▸ z.1, e ▸ z.2, R.sto.mono hs, R.fos, R.loc.mono hs⟩
theorem RelAt.pushSt (R : RelAt c f ρ st imm fr h m mt cs fo) {x : O} (ho : o.isFreed = false) (hr : RO c imm x o) : RelAt c f ρ ((h.objs.size, x) :: st) imm fr (h.push o) m ((h.objs.size, o) :: mt) cs fo := by
  have z := news_ins (l₁ := []) R.frm R.news R.nodup ho
  exact ⟨R.frm.push _, z.1, z.2, .cons hr R.sto, R.fos, R.loc⟩
theorem RelAt.pushFr (R : RelAt c f ρ st imm fr h m mt cs fo) (ho : o.isFreed = false) : RelAt c f ρ st imm ((h.objs.size, o) :: fr) (h.push o) m mt cs fo := by
  have e : whole mt cs imm ((h.objs.size, o) :: fr) fo = (mt ++ cs ++ imm) ++ (h.objs.size, o) :: (fr ++ fo) := by simp
  have e' : whole mt cs imm fr fo = (mt ++ cs ++ imm) ++ (fr ++ fo) := by simp
  have z := news_ins R.frm (e' ▸ R.news) (e' ▸ R.nodup) ho
  exact ⟨R.frm.push _, e ▸ z.1, e ▸ z.2, R.sto, R.fos, R.loc.more⟩

theorem Rel.pushImm (R : Rel c f ρ st imm fr s) (ho : o.isFreed = false := by rfl) : Rel c f ρ st ((s.heap.objs.size, o) :: imm) fr { s with heap := s.heap.push o, toks := tk } := by
  obtain ⟨⟨h0, tk0, rfl⟩, m, mt, cs, fo, r⟩ := R
  exact ⟨⟨_, tk, rfl⟩, m, mt, cs, fo, r.pushImm ho⟩
theorem Rel.pushSt (R : Rel c f ρ st imm fr s) {x : O} (hr : RO c imm x o) (ho : o.isFreed = false := by rfl) : Rel c f ρ ((s.heap.objs.size, x) :: st) imm fr { s with heap := s.heap.push o, toks := tk } := by
  obtain ⟨⟨h0, tk0, rfl⟩, m, mt, cs, fo, r⟩ := R
  exact ⟨⟨_, tk, rfl⟩, m, _, cs, fo, r.pushSt ho hr⟩
theorem Rel.pushFr (R : Rel c f ρ st imm fr s) (ho : o.isFreed = false := by rfl) : Rel c f ρ st imm ((s.heap.objs.size, o) :: fr) { s with heap := s.heap.push o, toks := tk } := by
  obtain ⟨⟨h0, tk0, rfl⟩, m, mt, cs, fo, r⟩ := R
  exact ⟨⟨_, tk, rfl⟩, m, mt, cs, fo, r.pushFr ho⟩
theorem Rel.none (R : Rel c f ρ st imm fr s) : get st s.heap.objs.size = none := by
  obtain ⟨_, m, mt, cs, fo, r⟩ := R
  exact r.none

theorem RelAt.get (R : RelAt c f ρ st imm fr h m mt cs fo) {x : O} (e : get st a = some x) : ∃ co, (a, co) ∈ mt ∧ RO c imm x co ∧ h.get? a = some co := by
  obtain ⟨co, hm, r⟩ := R.sto.get e
  exact ⟨co, hm, r, (R.news _ (List.mem_append_left _ hm)).1⟩
theorem StR.upd {imm : Led} {st : St} {mt : Led} (h : StR c imm st mt) {x : O} (hr : RO c imm x o) : StR c imm (upd st a x) (mt.map fun p => if p.1 = a then (a, o) else p) := by
  induction h with
  | nil => exact .nil
  | @cons b o' co st mt r _ ih =>
    simp only [Mine.upd, List.map_cons] at ih ⊢
    by_cases e : b = a
    · subst e; simp only [if_true]; exact .cons hr ih
    · simp only [if_neg e]; exact .cons r ih
theorem Fr.other (F : Fr c.base f.L h m) (hs : Heap.SameBut a h h') (hL : a ≠ f.L) (hn : c.base.get? a = none) : Fr c.base f.L h' m :=
  ⟨F.ns.sameBut hs (Ne.symm hL), fun b ob e => (hs.2 b (fun q => by rw [q, hn] at e; cases e)).trans (F.keep b ob e), F.above⟩
theorem RelAt.upd (R : RelAt c f ρ st imm fr h m mt cs fo) {x y : O} (e : Mine.get st a = some y) (hs : Heap.SameBut a h h') (ho : h'.get? a = some o) (hr : RO c imm x o) :
    RelAt c f ρ (upd st a x) imm fr h' m (mt.map fun p => if p.1 = a then (a, o) else p) cs fo := by
  obtain ⟨co, hm, _, hg⟩ := R.get e
  have hw := R.news _ (List.mem_append_left _ hm)
  have ne : ∀ p ∈ cs ++ (imm ++ (fr ++ fo)), p.1 ≠ a := fun p hp q => by
    have := R.nodup
    rw [List.map_append, List.nodup_append] at this
    exact this.2.2 a (List.mem_map_of_mem hm) p.1 (List.mem_map_of_mem hp) q.symm
  refine ⟨Fr.other R.frm hs hw.2.1 hw.2.2, ?_, ?_, R.sto.upd hr, R.fos, R.loc⟩
  · intro p hp
    rcases List.mem_append.mp hp with hp | hp
    · obtain ⟨q, hq, rfl⟩ := List.mem_map.mp hp
      by_cases e1 : q.1 = a
      · simp only [if_pos e1]; exact ⟨ho, hw.2⟩
      · simp only [if_neg e1]
        have z := R.news q (List.mem_append_left _ hq)
        exact ⟨(hs.2 _ e1).trans z.1, z.2⟩
    · have z := R.news p (List.mem_append_right _ hp)
      exact ⟨(hs.2 _ (ne p hp)).trans z.1, z.2⟩
  · have e1 : (mt.map fun p => if p.1 = a then (a, o) else p).map (·.1) = mt.map (·.1) := by
      rw [List.map_map]
      refine List.map_congr_left fun p _ => ?_
      simp only [Function.comp]
      split
      · rename_i q; exact q.symm
      · rfl
    have := R.nodup
    simp only [whole, List.map_append] at this ⊢
    rw [e1]; exact this
theorem Rel.upd (R : Rel c f ρ st imm fr s) {x y : O} (e : Mine.get st a = some y) (hs : Heap.SameBut a s.heap h') (ho : h'.get? a = some o) (hr : RO c imm x o) :
    Rel c f ρ (upd st a x) imm fr { s with heap := h', toks := tk } := by
  obtain ⟨⟨h0, tk0, rfl⟩, m, mt, cs, fo, r⟩ := R
  exact ⟨⟨_, tk, rfl⟩, m, _, cs, fo, r.upd e hs ho hr⟩
theorem Rel.get (R : Rel c f ρ st imm fr s) {x : O} (e : Mine.get st a = some x) : ∃ co, RO c imm x co ∧ s.heap.get? a = some co := by
  obtain ⟨_, m, mt, cs, fo, r⟩ := R
  obtain ⟨co, _, h1, h2⟩ := r.get e
  exact ⟨co, h1, h2⟩
theorem Rel.isList {vs : List V} (R : Rel c f ρ st imm fr s) (hg : Mine.get st a = some (.list vs)) : ∃ vals n, RVs c.base imm vs vals ∧ s.heap.get? a = some (listOf vals.toArray n) := by
  obtain ⟨co, hr, ho⟩ := R.get hg
  obtain ⟨vals, n, r, rfl⟩ := hr.listI
  exact ⟨vals, n, r, ho⟩
theorem Rel.inImm (R : Rel c f ρ st imm fr s) (hm : (a, o) ∈ imm) : s.heap.get? a = some o := by
  obtain ⟨_, m, mt, cs, fo, r⟩ := R
  exact (r.news (a, o) (by simp [hm])).1
theorem Rel.inFr (R : Rel c f ρ st imm fr s) (hm : (a, o) ∈ fr) : s.heap.get? a = some o := by
  obtain ⟨_, m, mt, cs, fo, r⟩ := R
  exact (r.news (a, o) (by simp [hm])).1
theorem Rel.keep (R : Rel c f ρ st imm fr s) : ∀ b o, c.base.get? b = some o → s.heap.get? b = some o := by
  obtain ⟨_, m, mt, cs, fo, r⟩ := R
  exact r.frm.keep
theorem Rel.kin (R : Rel c f ρ st imm fr s) (ok : f.Ok c k) : c.K.In s.heap := ok.kin.keeps R.keep
/-- one of the frame's own changes -/
theorem Rel.frSetAt (l₁ : Led) {l₂ : Led} (R : Rel c f ρ st imm (l₁ ++ (a, o) :: l₂) s) (hs : Heap.SameBut a s.heap h') (ho : h'.get? a = some o') (hd : ∀ v, o.data ≠ .cell v) : Rel c f ρ st imm (l₁ ++ (a, o') :: l₂) { s with heap := h', toks := tk } := by
  obtain ⟨⟨h0, tk0, rfl⟩, m, mt, cs, fo, r⟩ := R
  refine ⟨⟨_, tk, rfl⟩, m, mt, cs, fo, ?_⟩
  have hw := r.news (a, o) (by simp)
  have nd := r.nodup
  have e : whole mt cs imm (l₁ ++ (a, o) :: l₂) fo = (mt ++ cs ++ imm ++ l₁) ++ (a, o) :: (l₂ ++ fo) := by simp
  have e' : whole mt cs imm (l₁ ++ (a, o') :: l₂) fo = (mt ++ cs ++ imm ++ l₁) ++ (a, o') :: (l₂ ++ fo) := by simp
  rw [e] at nd
  have h1 : ∀ p ∈ mt ++ cs ++ imm ++ l₁, p.1 ≠ a := fun p hp q => by
    rw [List.map_append, List.nodup_append] at nd
    exact nd.2.2 p.1 (List.mem_map_of_mem hp) a (by simp) q
  have h2 : ∀ p ∈ l₂ ++ fo, p.1 ≠ a := fun p hp q => by
    rw [List.map_append, List.nodup_append, List.map_cons, List.nodup_cons] at nd
    exact nd.2.1.1 (List.mem_map.mpr ⟨p, hp, q⟩)
  refine ⟨Fr.other r.frm hs hw.2.1 hw.2.2, ?_, ?_, r.sto, r.fos, r.loc.other hd ?_⟩
  · rw [e']
    have := r.news
    rw [e] at this
    exact News.setAt this h1 h2 hs ho
  · rw [e']; simp only [List.map_append, List.map_cons] at nd ⊢; exact nd
  · intro p hp
    simp only [List.mem_append, List.mem_cons] at hp ⊢
    rcases hp with hp | hp
    · exact .inl hp
    · exact .inr (.inr hp)
theorem Rel.frSet (R : Rel c f ρ st imm ((a, o) :: fr) s) (hs : Heap.SameBut a s.heap h') (ho : h'.get? a = some o') (hd : ∀ v, o.data ≠ .cell v) : Rel c f ρ st imm ((a, o') :: fr) { s with heap := h', toks := tk } := Rel.frSetAt [] R hs ho hd
/-- one of the frame's own is forgotten; it may change at that -/
theorem Rel.frEndAt (l₁ : Led) {l₂ : Led} (R : Rel c f ρ st imm (l₁ ++ (a, o) :: l₂) s) (hs : Heap.ExtBut a s.heap h') (hd : ∀ v, o.data ≠ .cell v) : Rel c f ρ st imm (l₁ ++ l₂) { s with heap := h', toks := tk } := by
  obtain ⟨⟨h0, tk0, rfl⟩, m, mt, cs, fo, r⟩ := R
  have hw := r.news (a, o) (by simp)
  have nd := r.nodup
  have e : whole mt cs imm (l₁ ++ (a, o) :: l₂) fo = (mt ++ cs ++ imm ++ l₁) ++ (a, o) :: (l₂ ++ fo) := by simp
  have e' : whole mt cs imm (l₁ ++ l₂) fo = (mt ++ cs ++ imm ++ l₁) ++ (l₂ ++ fo) := by simp
  rw [e, List.map_append, List.nodup_append, List.map_cons, List.nodup_cons] at nd
  have ne : ∀ p ∈ whole mt cs imm (l₁ ++ l₂) fo, p.1 ≠ a := fun p hp q => by
    rw [e'] at hp
    rcases List.mem_append.mp hp with hp | hp
    · exact nd.2.2 p.1 (List.mem_map_of_mem hp) a (by simp) q
    · exact nd.2.1.1 (List.mem_map.mpr ⟨p, hp, q⟩)
  have sub : ∀ p ∈ whole mt cs imm (l₁ ++ l₂) fo, p ∈ whole mt cs imm (l₁ ++ (a, o) :: l₂) fo := fun p hp => by
    rw [e'] at hp
    rw [e]
    rcases List.mem_append.mp hp with hp | hp
    · exact List.mem_append_left _ hp
    · exact List.mem_append_right _ (.tail _ hp)
  refine ⟨⟨_, tk, rfl⟩, m, mt, cs, fo, ⟨r.frm.ns.at' fun ob q => hs _ _ (fun q' => hw.2.1 q'.symm) q, fun b ob q => hs b ob (fun q' => by rw [q', hw.2.2] at q; cases q) (r.frm.keep b ob q), r.frm.above⟩, fun p hp => ?_, ?_, r.sto, r.fos, r.loc.other hd fun p hp => hp⟩
  · have z := r.news p (sub p hp)
    exact ⟨hs _ _ (ne p hp) z.1, z.2⟩
  · rw [e', List.map_append, List.nodup_append]
    exact ⟨nd.1, nd.2.1.2, fun x hx y hy => nd.2.2 x hx y (.tail _ hy)⟩
theorem Rel.frEnd (R : Rel c f ρ st imm ((a, o) :: fr) s) (hs : Heap.ExtBut a s.heap h') (hd : ∀ v, o.data ≠ .cell v) : Rel c f ρ st imm fr { s with heap := h', toks := tk } := Rel.frEndAt [] R hs hd
/-- one of the frame's own becomes an object of the store -/
theorem Rel.frSt {x : O} (R : Rel c f ρ st imm ((a, o) :: fr) s) (hd : ∀ v, o.data ≠ .cell v) (hr : RO c imm x o) : Rel c f ρ ((a, x) :: st) imm fr s ∧ Mine.get st a = Option.none := by
  obtain ⟨hs, m, mt, cs, fo, r⟩ := R
  have e : whole mt cs imm ((a, o) :: fr) fo = (mt ++ cs ++ imm) ++ (a, o) :: (fr ++ fo) := by simp
  have perm : (whole ((a, o) :: mt) cs imm fr fo).Perm (whole mt cs imm ((a, o) :: fr) fo) := by
    rw [e, show whole ((a, o) :: mt) cs imm fr fo = (a, o) :: ((mt ++ cs ++ imm) ++ (fr ++ fo)) by simp]
    exact List.perm_middle.symm
  have nd := (perm.map (·.1)).nodup_iff.mpr r.nodup
  refine ⟨⟨hs, m, (a, o) :: mt, cs, fo, r.frm, fun p hp => r.news p (perm.mem_iff.mp hp), nd, .cons hr r.sto, r.fos, LocR.other (l₁ := []) r.loc hd fun p hp => hp⟩, ?_⟩
  cases q : Mine.get st a with
  | none => rfl
  | some y =>
    obtain ⟨co, hm, _⟩ := r.sto.get q
    rw [show whole ((a, o) :: mt) cs imm fr fo = (a, o) :: whole mt cs imm fr fo from rfl, List.map_cons, List.nodup_cons] at nd
    exact absurd (List.mem_map.mpr ⟨(a, co), List.mem_append_left _ hm, rfl⟩) nd.1
end

/-- an exception's own objects; its entry's flight mark -/
inductive ExcL (e C : Addr) : Option Value → Led → Prop
  | made {oe : Obj} {vs : Array Value} {a0 : Value} (h1 : oe.cls = .ref C) (h2 : oe.data = .fields vs) (h3 : vs[1]? = some .none) (h4 : vs[0]? = some a0) : ExcL e C none [(e, oe)]
  | traced {oe oT : Obj} {vs ts : Array Value} {a0 fl : Value} {T : Addr} (h1 : oe.cls = .ref C) (h2 : oe.data = .fields vs) (h3 : vs[1]? = some (.ref T)) (h4 : vs[0]? = some a0) (h5 : oT.data = .fields ts) (h6 : ts[3]? = some fl) : ExcL e C (some fl) [(e, oe), (T, oT)]
/-- how far it is -/
noncomputable def MarkOk (f : Fm) (mk : Option Value) : Prop := mk = none ∨ mk = some .none ∨ ∃ L, f.fenv.frame = some L ∧ mk = some (rawInt L)
/-- what was thrown -/
noncomputable def Thrown (c : Cx) (f : Fm) (imm fr : Led) (X : Addr → Loc → St → Prop) (ev : Value) (s : Shared) : Prop :=
  ∃ e C mk E ρ st imm', ev = .ref e ∧ ExcL e C mk E ∧ MarkOk f mk ∧ (∀ p ∈ imm, p ∈ imm') ∧ Rel c f ρ st imm' (E ++ fr) s ∧ X C ρ st
theorem Thrown.mono {c : Cx} {f : Fm} {imm imm' fr : Led} {X : Addr → Loc → St → Prop} {ev : Value} {s : Shared} (hs : ∀ p ∈ imm, p ∈ imm') (h : Thrown c f imm' fr X ev s) : Thrown c f imm fr X ev s :=
  by obtain ⟨e, C, mk, E, ρ, st, imm'', a, b, d, i, r⟩ := h; exact ⟨e, C, mk, E, ρ, st, imm'', a, b, d, fun p hp => i p (hs p hp), r⟩
theorem Thrown.never {c : Cx} {f : Fm} {imm fr : Led} {ev : Value} {s : Shared} (h : Thrown c f imm fr (fun _ _ _ => False) ev s) : False :=
  by obtain ⟨_, _, _, _, _, _, _, _, _, _, _, _, h⟩ := h; exact h

noncomputable def PostE (c : Cx) (f : Fm) (ρ : Loc) (imm fr : Led) (Q : V → St → Prop) (val : Value) (s : Shared) : Prop :=
  ∃ v st imm', (∀ p ∈ imm, p ∈ imm') ∧ RV c.base imm' v val ∧ Rel c f ρ st imm' fr s ∧ Q v st
theorem PostE.mono {c : Cx} {f : Fm} {ρ : Loc} {imm imm' fr : Led} {Q : V → St → Prop} {val : Value} {s : Shared} (hs : ∀ p ∈ imm, p ∈ imm') (h : PostE c f ρ imm' fr Q val s) : PostE c f ρ imm fr Q val s :=
  let ⟨v, st, imm'', a, r⟩ := h; ⟨v, st, imm'', fun p hp => a p (hs p hp), r⟩

noncomputable abbrev Xp := Addr → Loc → St → Prop

/-- an expression -/
structure WPE (c : Cx) (k : Nat) (sc : Scope) (ρ : Loc) (st : St) (e : Expr) (Q : V → St → Prop) (X : Xp) : Prop where
  go : ∀ f imm fr s, f.Ok c k → f.env.scope = sc → Rel c f ρ st imm fr s →
    wpAny c.M f.A (eval e f.env) (PostE c f ρ imm fr Q) (Thrown c f imm fr X) s

/-- one value in, one out -/
structure W1 (c : Cx) (k : Nat) (t : Value → Sem Value) (a : V) (ρ : Loc) (st : St) (Q : V → St → Prop) (X : Xp) : Prop where
  go : ∀ f imm fr s x, f.Ok c k → Rel c f ρ st imm fr s → RV c.base imm a x → wpAny c.M f.A (t x) (PostE c f ρ imm fr Q) (Thrown c f imm fr X) s
/-- two values in, one out -/
structure W2 (c : Cx) (k : Nat) (t : Value → Value → Sem Value) (a b : V) (ρ : Loc) (st : St) (Q : V → St → Prop) (X : Xp) : Prop where
  go : ∀ f imm fr s x y, f.Ok c k → Rel c f ρ st imm fr s → RV c.base imm a x → RV c.base imm b y → wpAny c.M f.A (t x y) (PostE c f ρ imm fr Q) (Thrown c f imm fr X) s
/-- some values in, one out -/
structure WL (c : Cx) (k : Nat) (t : List Value → Sem Value) (as : List V) (ρ : Loc) (st : St) (Q : V → St → Prop) (X : Xp) : Prop where
  go : ∀ f imm fr s xs, f.Ok c k → Rel c f ρ st imm fr s → RVs c.base imm as xs → wpAny c.M f.A (t xs) (PostE c f ρ imm fr Q) (Thrown c f imm fr X) s
end Mine
namespace Mine
/-- two ways, by a bool -/
noncomputable def cnd (b : Bool) (p q : Prop) : Prop := match b with
  | true => p
  | false => q
theorem cnd_t {p q : Prop} (h : p) : cnd true p q := h
theorem cnd_f {p q : Prop} (h : q) : cnd false p q := h
theorem of_t {p q : Prop} (h : cnd true p q) : p := h
theorem of_f {p q : Prop} (h : cnd false p q) : q := h
theorem cnd_is {b : Bool} {p q : Prop} (b' : Bool) (e : b = b') (h : cnd b' p q) : cnd b p q := e ▸ h
theorem cnd_cases {b : Bool} {p q : Prop} (h1 : b = true → p) (h2 : b = false → q) : cnd b p q := by
  cases b with
  | true => exact h1 rfl
  | false => exact h2 rfl

section
variable {c : Cx} {k : Nat} {sc : Scope} {ρ : Loc} {st : St} {Q : V → St → Prop} {X : Xp} {f : Fm} {imm fr : Led} {s : Shared} {tk : Nat}

theorem PostE.of {v : V} {x : Value} (hr : RV c.base imm v x) (R : Rel c f ρ st imm fr s) (h : Q v st) : PostE c f ρ imm fr Q x s := ⟨v, st, imm, fun _ h => h, hr, R, h⟩
theorem PostE.int {i : Int} {t : Tok} (R : Rel c f ρ st imm fr s) (h : Q (.int i) st) : PostE c f ρ imm fr Q (.int i t) { s with toks := tk } := .of (.int i t) R.toks h
theorem PostE.bool {b : Bool} (R : Rel c f ρ st imm fr s) (h : Q (.bool b) st) : PostE c f ρ imm fr Q (.bool b) s := .of (.bool b) R h
theorem PostE.none (R : Rel c f ρ st imm fr s) (h : Q .none st) : PostE c f ρ imm fr Q .none s := .of .none R h
theorem PostE.str {x : Str} {t : Tok} (R : Rel c f ρ st imm fr s) (h : Q (.str x) st) : PostE c f ρ imm fr Q (.str x t) { s with toks := tk } := .of (.str x t) R.toks h

theorem Rel.ns (R : Rel c f ρ st imm fr s) : ∃ m, Fr c.base f.L s.heap m := by
  obtain ⟨_, m, mt, cs, fo, r⟩ := R; exact ⟨m, r.frm⟩

/-- a name of the frame's -/
theorem WPE.nm {x : Str} {pos : Pos} {v : V} (e : getL ρ x = some v) (h : Q v st) (hd : (x == ("__debug__" : Str)) = false := by decide) (hn : (x == ("__classdict__" : Str)) = false := by decide) : WPE c k sc ρ st (.Name x pos) Q X := by
  refine ⟨fun f imm fr s ok hsc R => ?_⟩
  obtain ⟨hr, m, mt, cs, fo, r⟩ := id R
  obtain ⟨val, rv, q⟩ := r.loc.reads x v e
  refine wpAny_Name ?_ hd
  have P : PostE c f ρ imm fr Q val s := .of rv R h
  rcases q with ⟨q1, q2, q3⟩ | ⟨q1, cc, o, q2, q3, q4⟩
  · exact wpAny_loadName_local ok.ekind q1 (q2 ▸ r.frm.ns) q3 P
  · have hc : s.heap.get? cc = some o := (r.news (cc, o) (by
      simp only [List.mem_append] at q3 ⊢
      rcases q3 with q3 | q3
      · exact .inr (.inl q3)
      · exact .inr (.inr (.inr (.inl q3))))).1
    rcases q1 with q1 | q1
    · exact wpAny_loadName_cell ok.ekind q1 q2 ⟨o, hc, q4⟩ P
    · exact wpAny_loadName_free ok.ekind q1 q2 ⟨o, hc, q4⟩ P hn

theorem WPE.glob {x : Str} {pos : Pos} {v : V} {val : Value} (hx : sc.names.lookup x = some .globalImplicit) (e : nsIn c.K mainGlobals x = some (some val)) (hv : ∀ base imm, RV base imm v val) (h : Q v st)
    (hd : (x == ("__debug__" : Str)) = false := by decide) : WPE c k sc ρ st (.Name x pos) Q X := by
  refine ⟨fun f imm fr s ok hsc R => ?_⟩
  obtain ⟨m, F⟩ := R.ns
  have T := topRead_of ok.top
  exact Name_function_global ok.ekind (by unfold Env.kindOf; rw [hsc]; exact hx) (loadGlobal_global (env := f.env) (ok.eglob ▸ T.g.keeps F.keep) (mg_of ok.kin T.g e) (.of (hv _ _) R h)) hd
theorem WPE.blt {x : Str} {pos : Pos} {val : Value} (hx : sc.names.lookup x = some .globalImplicit) (e : nsIn c.K mainGlobals x = some none) (hv : bootBuiltins x = some val) (h : Q (.stat val) st)
    (hn : x ≠ "__name__" := by decide) (hd : (x == ("__debug__" : Str)) = false := by decide) : WPE c k sc ρ st (.Name x pos) Q X := by
  refine ⟨fun f imm fr s ok hsc R => ?_⟩
  obtain ⟨m, F⟩ := R.ns
  have T := topRead_of ok.top
  exact Name_function_global ok.ekind (by unfold Env.kindOf; rw [hsc]; exact hx) (loadGlobal_builtin (env := f.env) (ok.eglob ▸ T.g.keeps F.keep) (mg_none_of ok.kin T.g e) (ok.ebi ▸ T.b.keeps F.keep) ((T.builtins x hn).trans hv) (.of (.stat val) R h)) hd

theorem WPE.cint {i : Int} {n : Nat} {pos : Pos} (h : Q (.int i) st) : WPE c k sc ρ st (.Constant (.int i) n pos) Q X := ⟨fun _ _ _ _ _ _ R => wpAny_Constant_int (.int R h)⟩
theorem WPE.cbool {b : Bool} {n : Nat} {pos : Pos} (h : Q (.bool b) st) : WPE c k sc ρ st (.Constant (.bool b) n pos) Q X := ⟨fun _ _ _ _ _ _ R => wpAny_Constant_bool (.bool R h)⟩
theorem WPE.cnone {n : Nat} {pos : Pos} (h : Q .none st) : WPE c k sc ρ st (.Constant .none n pos) Q X := ⟨fun _ _ _ _ _ _ R => wpAny_Constant_none (.none R h)⟩

theorem WPE.bin {l r : Expr} {op : Operator} {pos : Pos} (h : WPE c k sc ρ st l (fun a st₁ => WPE c k sc ρ st₁ r (fun b st₂ => W2 c k (binaryOp op) a b ρ st₂ Q X) X) X) : WPE c k sc ρ st (.BinOp l op r pos) Q X := by
  refine ⟨fun f imm fr s ok hsc R => ?_⟩
  refine wpAny_BinOp (wpAny_mono (h.go f imm fr s ok hsc R) (fun x s₁ p => ?_) fun _ _ t => t)
  obtain ⟨a, st₁, imm₁, i₁, ra, R₁, h₁⟩ := p
  refine wpAny_mono (h₁.go f imm₁ fr s₁ ok hsc R₁) (fun y s₂ p => ?_) fun _ _ t => t.mono i₁
  obtain ⟨b, st₂, imm₂, i₂, rb, R₂, h₂⟩ := p
  exact wpAny_mono (h₂.go f imm₂ fr s₂ x y ok R₂ (ra.mono i₂) rb) (fun _ _ p => p.mono fun q hq => i₂ q (i₁ q hq)) fun _ _ t => t.mono fun q hq => i₂ q (i₁ q hq)
theorem WPE.un {e : Expr} {op : UnaryOp} {pos : Pos} (h : WPE c k sc ρ st e (fun a st₁ => W1 c k (unaryOp op) a ρ st₁ Q X) X) : WPE c k sc ρ st (.UnaryOp op e pos) Q X := by
  refine ⟨fun f imm fr s ok hsc R => ?_⟩
  refine wpAny_UnaryOp (wpAny_mono (h.go f imm fr s ok hsc R) (fun x s₁ p => ?_) fun _ _ t => t)
  obtain ⟨a, st₁, imm₁, i₁, ra, R₁, h₁⟩ := p
  exact wpAny_mono (h₁.go f imm₁ fr s₁ x ok R₁ ra) (fun _ _ p => p.mono i₁) fun _ _ t => t.mono i₁
theorem WPE.cmp {l r : Expr} {op : CmpOp} {pos : Pos} (h : WPE c k sc ρ st l (fun a st₁ => WPE c k sc ρ st₁ r (fun b st₂ => W2 c k (compareOp op) a b ρ st₂ Q X) X) X) (hm : behindInMarks op r = false := by rfl) : WPE c k sc ρ st (.Compare l [op] [r] pos) Q X := by
  refine ⟨fun f imm fr s ok hsc R => ?_⟩
  refine wpAny_Compare1 (wpAny_mono (h.go f imm fr s ok hsc R) (fun x s₁ p => ?_) fun _ _ t => t) hm
  obtain ⟨a, st₁, imm₁, i₁, ra, R₁, h₁⟩ := p
  refine wpAny_mono (h₁.go f imm₁ fr s₁ ok hsc R₁) (fun y s₂ p => ?_) fun _ _ t => t.mono i₁
  obtain ⟨b, st₂, imm₂, i₂, rb, R₂, h₂⟩ := p
  exact wpAny_mono (h₂.go f imm₂ fr s₂ x y ok R₂ (ra.mono i₂) rb) (fun _ _ p => p.mono fun q hq => i₂ q (i₁ q hq)) fun _ _ t => t.mono fun q hq => i₂ q (i₁ q hq)

theorem WPE.cstr {x : Str} {n : Nat} {pos : Pos} (h : Q (.str x) st) : WPE c k sc ρ st (.Constant (.str x) n pos) Q X := ⟨fun _ _ _ _ _ _ R => wpAny_Constant_str (.str R h)⟩

/-- ints -/
theorem W2.addI {a b : Int} (h : Q (.int (a + b)) st) : W2 c k (binaryOp .Add) (.int a) (.int b) ρ st Q X := by
  refine ⟨fun f imm fr s x y ok R ra rb => ?_⟩
  obtain ⟨_, rfl⟩ := ra.intI
  obtain ⟨_, rfl⟩ := rb.intI
  exact add_int (.int R h)
theorem W2.subI {a b : Int} (h : Q (.int (a - b)) st) : W2 c k (binaryOp .Sub) (.int a) (.int b) ρ st Q X := by
  refine ⟨fun f imm fr s x y ok R ra rb => ?_⟩
  obtain ⟨_, rfl⟩ := ra.intI
  obtain ⟨_, rfl⟩ := rb.intI
  exact sub_int (.int R h)
theorem W2.mulI {a b : Int} (hm : IntMulOk a b) (h : Q (.int (a * b)) st) : W2 c k (binaryOp .Mult) (.int a) (.int b) ρ st Q X := by
  refine ⟨fun f imm fr s x y ok R ra rb => ?_⟩
  obtain ⟨_, rfl⟩ := ra.intI
  obtain ⟨_, rfl⟩ := rb.intI
  exact mul_int (.int R h) hm
theorem W2.modI {a b : Int} (hb : b ≠ 0) (h : Q (.int (a.fmod b)) st) : W2 c k (binaryOp .Mod) (.int a) (.int b) ρ st Q X := by
  refine ⟨fun f imm fr s x y ok R ra rb => ?_⟩
  obtain ⟨_, rfl⟩ := ra.intI
  obtain ⟨_, rfl⟩ := rb.intI
  exact mod_int' hb (.int R h)
theorem W2.divI {a b : Int} (hb : b ≠ 0) (hs : b.natAbs < 1073741824) (h : Q (.int (a.fdiv b)) st) : W2 c k (binaryOp .FloorDiv) (.int a) (.int b) ρ st Q X := by
  refine ⟨fun f imm fr s x y ok R ra rb => ?_⟩
  obtain ⟨_, rfl⟩ := ra.intI
  obtain ⟨_, rfl⟩ := rb.intI
  exact floordiv_int hb (.int R h) (.inl (PyProof.noPylong_small hs))
theorem W1.negI {a : Int} (h : Q (.int (-a)) st) : W1 c k (unaryOp .USub) (.int a) ρ st Q X := by
  refine ⟨fun f imm fr s x ok R ra => ?_⟩
  obtain ⟨_, rfl⟩ := ra.intI
  exact neg_int (.int R h)
theorem W2.eqI {a b : Int} (h : Q (.bool (a == b)) st) : W2 c k (compareOp .Eq) (.int a) (.int b) ρ st Q X := by
  refine ⟨fun f imm fr s x y ok R ra rb => ?_⟩
  obtain ⟨_, rfl⟩ := ra.intI
  obtain ⟨_, rfl⟩ := rb.intI
  exact eq_int (.bool R h)
theorem W2.neI {a b : Int} (h : Q (.bool (a != b)) st) : W2 c k (compareOp .NotEq) (.int a) (.int b) ρ st Q X := by
  refine ⟨fun f imm fr s x y ok R ra rb => ?_⟩
  obtain ⟨_, rfl⟩ := ra.intI
  obtain ⟨_, rfl⟩ := rb.intI
  exact ne_int (.bool R h)
theorem W2.ltI {a b : Int} (h : Q (.bool (decide (a < b))) st) : W2 c k (compareOp .Lt) (.int a) (.int b) ρ st Q X := by
  refine ⟨fun f imm fr s x y ok R ra rb => ?_⟩
  obtain ⟨_, rfl⟩ := ra.intI
  obtain ⟨_, rfl⟩ := rb.intI
  exact lt_int (.bool R h)
theorem W2.leI {a b : Int} (h : Q (.bool (decide (a ≤ b))) st) : W2 c k (compareOp .LtE) (.int a) (.int b) ρ st Q X := by
  refine ⟨fun f imm fr s x y ok R ra rb => ?_⟩
  obtain ⟨_, rfl⟩ := ra.intI
  obtain ⟨_, rfl⟩ := rb.intI
  exact le_int (.bool R h)
theorem W2.gtI {a b : Int} (h : Q (.bool (decide (b < a))) st) : W2 c k (compareOp .Gt) (.int a) (.int b) ρ st Q X := by
  refine ⟨fun f imm fr s x y ok R ra rb => ?_⟩
  obtain ⟨_, rfl⟩ := ra.intI
  obtain ⟨_, rfl⟩ := rb.intI
  exact gt_int (.bool R h)
theorem W2.eqS {a b : Str} (h : Q (.bool (a == b)) st) : W2 c k (compareOp .Eq) (.str a) (.str b) ρ st Q X := by
  refine ⟨fun f imm fr s x y ok R ra rb => ?_⟩
  obtain ⟨_, rfl⟩ := ra.strI
  obtain ⟨_, rfl⟩ := rb.strI
  exact PyProof.Rows.eq_str (.bool R h)


/-- is: a value that is no int, no text, no object of two -/
noncomputable def isOk : V → V → Bool
  | .none, .none => true
  | .none, .bool _ => true
  | .none, .int _ => true
  | .none, .str _ => true
  | .none, .tup _ => true
  | .none, .ref _ => true
  | .bool _, .none => true
  | .bool _, .bool _ => true
  | .int _, .none => true
  | .int _, .bool _ => true
  | .str _, .none => true
  | .str _, .bool _ => true
  | .tup _, .none => true
  | .tup _, .bool _ => true
  | .ref _, .none => true
  | .ref _, .bool _ => true
  | _, _ => false
noncomputable def isSameV : V → V → Bool
  | .none, .none => true
  | .bool a, .bool b => a == b
  | _, _ => false
noncomputable def isNoneV : V → Bool
  | .none => true
  | _ => false
theorem isN_plain {base : Heap} {imm : Led} {a : V} {x : Value} (ra : RV base imm a x) (ho : isOk a .none = true) : plainIs x .none = true ∧ (x == .none) = isNoneV a := by
  cases ra <;> first | exact ⟨rfl, rfl⟩ | cases ho
theorem W2.isN {a : V} (ho : isOk a .none = true) (h : Q (.bool (isNoneV a)) st) : W2 c k (compareOp .Is) a .none ρ st Q X := by
  refine ⟨fun f imm fr s x y ok R ra rb => ?_⟩
  obtain rfl := rb.noneI
  have q := isN_plain ra ho
  exact wpAny_is_plain q.1 (.bool R (q.2 ▸ h))
theorem W2.isNotN {a : V} (ho : isOk a .none = true) (h : Q (.bool (!isNoneV a)) st) : W2 c k (compareOp .IsNot) a .none ρ st Q X := by
  refine ⟨fun f imm fr s x y ok R ra rb => ?_⟩
  obtain rfl := rb.noneI
  have q := isN_plain ra ho
  exact wpAny_isNot_plain q.1 (.bool R (q.2 ▸ h))

/-! truth -/
noncomputable def PostB (c : Cx) (f : Fm) (ρ : Loc) (imm fr : Led) (Q : Bool → St → Prop) (b : Bool) (s : Shared) : Prop :=
  ∃ st imm', (∀ p ∈ imm, p ∈ imm') ∧ Rel c f ρ st imm' fr s ∧ Q b st
theorem PostB.mono {imm' : Led} {Q : Bool → St → Prop} {b : Bool} (hs : ∀ p ∈ imm, p ∈ imm') (h : PostB c f ρ imm' fr Q b s) : PostB c f ρ imm fr Q b s :=
  let ⟨st, imm'', a, r⟩ := h; ⟨st, imm'', fun p hp => a p (hs p hp), r⟩
structure WPB (c : Cx) (k : Nat) (sc : Scope) (ρ : Loc) (st : St) (e : Expr) (Q : Bool → St → Prop) (X : Xp) : Prop where
  go : ∀ f imm fr s, f.Ok c k → f.env.scope = sc → Rel c f ρ st imm fr s →
    wpAny c.M f.A (isTrue e f.env (eval e f.env)) (PostB c f ρ imm fr Q) (Thrown c f imm fr X) s
/-- and, or: the rest of them -/
structure WPAll (c : Cx) (k : Nat) (sc : Scope) (op : BoolOp) (ρ : Loc) (st : St) (es : List Expr) (Q : Bool → St → Prop) (X : Xp) : Prop where
  go : ∀ f imm fr s, f.Ok c k → f.env.scope = sc → Rel c f ρ st imm fr s →
    wpAny c.M f.A (allTrue op es f.env) (PostB c f ρ imm fr Q) (Thrown c f imm fr X) s
variable {B : Bool → St → Prop}

theorem WPB.val {e : Expr} (h : WPE c k sc ρ st e (fun v st₁ => ∃ b, v = .bool b ∧ B b st₁) X)
    (he : ∀ env whole, isTrue e env whole = (do let v ← whole; standAt e.pos; holding [v] (truthy v)) := by intro _ _; rfl) : WPB c k sc ρ st e B X := by
  refine ⟨fun f imm fr s ok hsc R => ?_⟩
  refine wpAny_isTrue_value (wpAny_mono (h.go f imm fr s ok hsc R) (fun x s₁ p => ?_) fun _ _ t => t) (he _ _)
  obtain ⟨v, st₁, imm₁, i₁, rv, R₁, b, rfl, h₁⟩ := p
  obtain rfl := rv.boolI
  exact wpAny_truthy_bool ⟨st₁, imm₁, i₁, R₁, h₁⟩
theorem WPB.not {e : Expr} {pos : Pos} (h : WPB c k sc ρ st e (fun b st₁ => cnd b (B false st₁) (B true st₁)) X) : WPB c k sc ρ st (.UnaryOp .Not e pos) B X := by
  refine ⟨fun f imm fr s ok hsc R => ?_⟩
  refine wpAny_isTrue_Not (wpAny_mono (h.go f imm fr s ok hsc R) (fun b s₁ p => ?_) fun _ _ t => t)
  obtain ⟨st₁, imm₁, i₁, R₁, h₁⟩ := p
  cases b with
  | true => exact ⟨st₁, imm₁, i₁, R₁, of_t h₁⟩
  | false => exact ⟨st₁, imm₁, i₁, R₁, of_f h₁⟩
theorem WPB.cmp {l r : Expr} {op : CmpOp} {pos : Pos} (h : WPE c k sc ρ st l (fun a st₁ => WPE c k sc ρ st₁ r (fun b st₂ => W2 c k (compareOp op) a b ρ st₂ (fun v st₃ => ∃ b, v = .bool b ∧ B b st₃) X) X) X) (hm : behindInMarks op r = false := by rfl) : WPB c k sc ρ st (.Compare l [op] [r] pos) B X := by
  refine ⟨fun f imm fr s ok hsc R => ?_⟩
  refine wpAny_isTrue_Compare1 (wpAny_mono (h.go f imm fr s ok hsc R) (fun x s₁ p => ?_) fun _ _ t => t) hm
  obtain ⟨a, st₁, imm₁, i₁, ra, R₁, h₁⟩ := p
  refine wpAny_mono (h₁.go f imm₁ fr s₁ ok hsc R₁) (fun y s₂ p => ?_) fun _ _ t => t.mono i₁
  obtain ⟨b, st₂, imm₂, i₂, rb, R₂, h₂⟩ := p
  refine wpAny_mono (h₂.go f imm₂ fr s₂ x y ok R₂ (ra.mono i₂) rb) (fun z s₃ p => ?_) fun _ _ t => t.mono fun q hq => i₂ q (i₁ q hq)
  obtain ⟨v, st₃, imm₃, i₃, rv, R₃, b, rfl, h₃⟩ := p
  obtain rfl := rv.boolI
  exact wpAny_truthy_bool ⟨st₃, imm₃, fun q hq => i₃ q (i₂ q (i₁ q hq)), R₃, h₃⟩
theorem WPB.op {op : BoolOp} {es : List Expr} {pos : Pos} (h : WPAll c k sc op ρ st es B X) : WPB c k sc ρ st (.BoolOp op es pos) B X := ⟨fun f imm fr s ok hsc R => wpAny_isTrue_BoolOp (h.go f imm fr s ok hsc R)⟩
theorem WPAll.and {e : Expr} {es : List Expr} (h : WPB c k sc ρ st e (fun b st₁ => cnd b (WPAll c k sc .And ρ st₁ es B X) (B false st₁)) X) : WPAll c k sc .And ρ st (e :: es) B X := by
  refine ⟨fun f imm fr s ok hsc R => ?_⟩
  refine wpAny_allTrue_And_cons (wpAny_mono (h.go f imm fr s ok hsc R) (fun b s₁ p => ?_) fun _ _ t => t)
  obtain ⟨st₁, imm₁, i₁, R₁, h₁⟩ := p
  cases b with
  | true => exact wpAny_mono ((of_t h₁).go f imm₁ fr s₁ ok hsc R₁) (fun _ _ p => p.mono i₁) fun _ _ t => t.mono i₁
  | false => exact ⟨st₁, imm₁, i₁, R₁, h₁⟩
theorem WPAll.or {e : Expr} {es : List Expr} (h : WPB c k sc ρ st e (fun b st₁ => cnd b (B true st₁) (WPAll c k sc .Or ρ st₁ es B X)) X) : WPAll c k sc .Or ρ st (e :: es) B X := by
  refine ⟨fun f imm fr s ok hsc R => ?_⟩
  refine wpAny_allTrue_Or_cons (wpAny_mono (h.go f imm fr s ok hsc R) (fun b s₁ p => ?_) fun _ _ t => t)
  obtain ⟨st₁, imm₁, i₁, R₁, h₁⟩ := p
  cases b with
  | false => exact wpAny_mono ((of_f h₁).go f imm₁ fr s₁ ok hsc R₁) (fun _ _ p => p.mono i₁) fun _ _ t => t.mono i₁
  | true => exact ⟨st₁, imm₁, i₁, R₁, h₁⟩
theorem WPAll.andNil (h : B true st) : WPAll c k sc .And ρ st [] B X := ⟨fun f imm fr s ok hsc R => wpAny_allTrue_And_nil ⟨st, imm, fun _ h => h, R, h⟩⟩
theorem WPAll.orNil (h : B false st) : WPAll c k sc .Or ρ st [] B X := ⟨fun f imm fr s ok hsc R => wpAny_allTrue_Or_nil ⟨st, imm, fun _ h => h, R, h⟩⟩
/-! and, or, if as values -/
theorem WPE.ife {t b o : Expr} {pos : Pos} (h : WPB c k sc ρ st t (fun v st₁ => cnd v (WPE c k sc ρ st₁ b Q X) (WPE c k sc ρ st₁ o Q X)) X) : WPE c k sc ρ st (.IfExp t b o pos) Q X := by
  refine ⟨fun f imm fr s ok hsc R => ?_⟩
  refine wpAny_IfExp (wpAny_mono (h.go f imm fr s ok hsc R) (fun b s₁ p => ?_) fun _ _ t => t)
  obtain ⟨st₁, imm₁, i₁, R₁, h₁⟩ := p
  cases b with
  | false => exact wpAny_mono ((of_f h₁).go f imm₁ fr s₁ ok hsc R₁) (fun _ _ p => p.mono i₁) fun _ _ t => t.mono i₁
  | true => exact wpAny_mono ((of_t h₁).go f imm₁ fr s₁ ok hsc R₁) (fun _ _ p => p.mono i₁) fun _ _ t => t.mono i₁
theorem WPE.not {e : Expr} {pos : Pos} (h : WPE c k sc ρ st e (fun v st₁ => ∃ b, v = .bool b ∧ cnd b (Q (.bool false) st₁) (Q (.bool true) st₁)) X) : WPE c k sc ρ st (.UnaryOp .Not e pos) Q X := by
  refine ⟨fun f imm fr s ok hsc R => ?_⟩
  refine wpAny_UnaryOp (wpAny_mono (h.go f imm fr s ok hsc R) (fun x s₁ p => ?_) fun _ _ t => t)
  obtain ⟨v, st₁, imm₁, i₁, rv, R₁, b, rfl, h₁⟩ := p
  obtain rfl := rv.boolI
  cases b with
  | true => exact not_of (wpAny_truthy_bool (PostE.mono i₁ (.bool R₁ (of_t h₁))))
  | false => exact not_of (wpAny_truthy_bool (PostE.mono i₁ (.bool R₁ (of_f h₁))))
theorem boolOp_one {M : Model} {A : Around} {E : Value → Shared → Prop} {x : Sem Value} {pos : Pos} {op : BoolOp} {P : Value → Shared → Prop} (h : wpAny M A x P E s) : wpAny M A (boolOp pos op [x]) P E s := h
theorem boolOp_more {M : Model} {A : Around} {E : Value → Shared → Prop} {x y : Sem Value} {r : List (Sem Value)} {pos : Pos} {op : BoolOp} {P : Value → Shared → Prop}
    (h : wpAny M A x (fun v s₁ => wpAny M A (truthy v) (fun t s₂ => match op, t with | .And, false | .Or, true => P v s₂ | _, _ => wpAny M A (boolOp pos op (y :: r)) P E s₂) E s₁) E s) : wpAny M A (boolOp pos op (x :: y :: r)) P E s := by
  show wpAny M A (do
    let v ← x
    standAt pos
    let t ← holding [v] (truthy v)
    match op, t with
    | .And, false | .Or, true => pure v
    | _, _ => boolOp pos op (y :: r)) P E s
  refine wpAny_bind (wpAny_mono h (fun v s₁ h₁ => wpAny_bind (wpAny_standAt (wpAny_bind (wpAny_holding (wpAny_mono h₁ (fun t s₂ h₂ => ?_) fun _ _ x => x))))) fun _ _ x => x)
  cases op <;> cases t <;> first | exact wpAny_pure h₂ | exact h₂
theorem WPE.opOne {op : BoolOp} {e : Expr} {pos : Pos} (h : WPE c k sc ρ st e Q X) : WPE c k sc ρ st (.BoolOp op [e] pos) Q X := ⟨fun f imm fr s ok hsc R => boolOp_one (h.go f imm fr s ok hsc R)⟩
theorem WPE.and {e e' : Expr} {es : List Expr} {pos : Pos} (h : WPE c k sc ρ st e (fun v st₁ => ∃ b, v = .bool b ∧ cnd b (WPE c k sc ρ st₁ (.BoolOp .And (e' :: es) pos) Q X) (Q (.bool false) st₁)) X) : WPE c k sc ρ st (.BoolOp .And (e :: e' :: es) pos) Q X := by
  refine ⟨fun f imm fr s ok hsc R => ?_⟩
  refine boolOp_more (wpAny_mono (h.go f imm fr s ok hsc R) (fun x s₁ p => ?_) fun _ _ t => t)
  obtain ⟨v, st₁, imm₁, i₁, rv, R₁, b, rfl, h₁⟩ := p
  obtain rfl := rv.boolI
  refine wpAny_truthy_bool ?_
  cases b with
  | true => exact wpAny_mono ((of_t h₁).go f imm₁ fr s₁ ok hsc R₁) (fun _ _ p => p.mono i₁) fun _ _ t => t.mono i₁
  | false => exact PostE.mono i₁ (.bool R₁ h₁)
theorem WPE.cmp2 {l r₁ r₂ : Expr} {op₁ op₂ : CmpOp} {pos : Pos} (h : WPE c k sc ρ st l (fun a st₁ => WPE c k sc ρ st₁ r₁ (fun b st₂ => W2 c k (compareOp op₁) a b ρ st₂ (fun v st₃ => ∃ t, v = .bool t ∧ cnd t (WPE c k sc ρ st₃ r₂ (fun d st₄ => W2 c k (compareOp op₂) b d ρ st₄ Q X) X) (Q (.bool false) st₃)) X) X) X)
    (hm : lastMarks [op₁, op₂] [r₁, r₂] = false := by rfl) : WPE c k sc ρ st (.Compare l [op₁, op₂] [r₁, r₂] pos) Q X := by
  refine ⟨fun f imm fr s ok hsc R => ?_⟩
  refine Compare_chain (wpAny_mono (h.go f imm fr s ok hsc R) (fun x s₁ p => ?_) fun _ _ t => t) hm
  obtain ⟨a, st₁, imm₁, i₁, ra, R₁, h₁⟩ := p
  refine chain_link (wpAny_mono (h₁.go f imm₁ fr s₁ ok hsc R₁) (fun y s₂ p => ?_) fun _ _ t => t.mono i₁)
  obtain ⟨b, st₂, imm₂, i₂, rb, R₂, h₂⟩ := p
  refine wpAny_mono (h₂.go f imm₂ fr s₂ x y ok R₂ (ra.mono i₂) rb) (fun z s₃ p => ?_) fun _ _ t => t.mono fun q hq => i₂ q (i₁ q hq)
  obtain ⟨v, st₃, imm₃, i₃, rv, R₃, t, rfl, h₃⟩ := p
  obtain rfl := rv.boolI
  refine wpAny_truthy_bool ?_
  have i₁₃ : ∀ p ∈ imm, p ∈ imm₃ := fun q hq => i₃ q (i₂ q (i₁ q hq))
  cases t with
  | false => exact PostE.mono i₁₃ (.bool R₃ h₃)
  | true =>
    refine chain_last (wpAny_mono ((of_t h₃).go f imm₃ fr s₃ ok hsc R₃) (fun u s₄ p => ?_) fun _ _ t => t.mono i₁₃)
    obtain ⟨d, st₄, imm₄, i₄, rd, R₄, h₄⟩ := p
    exact wpAny_mono (h₄.go f imm₄ fr s₄ y u ok R₄ ((rb.mono i₃).mono i₄) rd) (fun _ _ p => p.mono fun q hq => i₄ q (i₁₃ q hq)) fun _ _ t => t.mono fun q hq => i₄ q (i₁₃ q hq)
end
end Mine
namespace Mine
inductive Fl where
  | next | brk | cont
  | ret (v : V)
/-- on, or out -/
noncomputable def nxt (fl : Fl) (p q : Prop) : Prop := match fl with
  | .next => p
  | _ => q
theorem nxt_next {p q : Prop} (h : p) : nxt .next p q := h
theorem nxt_ret {v : V} {p q : Prop} (h : q) : nxt (.ret v) p q := h
inductive RFl (base : Heap) (imm : Led) : Fl → Flow → Prop
  | next : RFl base imm .next .next
  | brk : RFl base imm .brk .brk
  | cont : RFl base imm .cont .cont
  | ret {v : V} {x : Value} : RV base imm v x → RFl base imm (.ret v) (.ret x)

noncomputable def PostS (c : Cx) (f : Fm) (imm fr : Led) (Q : Fl → Loc → St → Prop) (fl : Flow) (s : Shared) : Prop :=
  ∃ fl' ρ st imm', (∀ p ∈ imm, p ∈ imm') ∧ RFl c.base imm' fl' fl ∧ Rel c f ρ st imm' fr s ∧ Q fl' ρ st
theorem PostS.mono {c : Cx} {f : Fm} {imm imm' fr : Led} {Q : Fl → Loc → St → Prop} {fl : Flow} {s : Shared} (hs : ∀ p ∈ imm, p ∈ imm') (h : PostS c f imm' fr Q fl s) : PostS c f imm fr Q fl s :=
  let ⟨v, ρ, st, imm'', a, r⟩ := h; ⟨v, ρ, st, imm'', fun p hp => a p (hs p hp), r⟩

/-- a function's own block -/
structure Fm.Own (f : Fm) : Prop where
  same : f.env = f.fenv
  locals : f.env.locals = f.L
  cmp : f.cmp = false

/-- statements -/
structure WPS (c : Cx) (k : Nat) (sc : Scope) (ρ : Loc) (st : St) (ss : List Stmt) (Q : Fl → Loc → St → Prop) (X : Xp) : Prop where
  go : ∀ f imm fr s, f.Ok c k → f.env.scope = sc → f.Own → Rel c f ρ st imm fr s →
    wpAny c.M f.A (execs ss f.env) (PostS c f imm fr Q) (Thrown c f imm fr X) s
/-- one statement -/
structure WPs (c : Cx) (k : Nat) (sc : Scope) (ρ : Loc) (st : St) (ss : Stmt) (Q : Fl → Loc → St → Prop) (X : Xp) : Prop where
  go : ∀ f imm fr s, f.Ok c k → f.env.scope = sc → f.Own → Rel c f ρ st imm fr s →
    wpAny c.M f.A (exec ss f.env) (PostS c f imm fr Q) (Thrown c f imm fr X) s
/-- expressions, one behind the other -/
noncomputable def PostL (c : Cx) (f : Fm) (ρ : Loc) (imm fr : Led) (n : Nat) (Q : List V → St → Prop) (xs : List Value) (s : Shared) : Prop :=
  ∃ vs st imm', (∀ p ∈ imm, p ∈ imm') ∧ RVs c.base imm' vs xs ∧ Rel c f ρ st imm' fr s ∧ vs.length = n ∧ Q vs st
structure WPEs (c : Cx) (k : Nat) (sc : Scope) (ρ : Loc) (st : St) (es : List Expr) (Q : List V → St → Prop) (X : Xp) : Prop where
  go : ∀ f imm fr s pos, f.Ok c k → f.env.scope = sc → Rel c f ρ st imm fr s →
    wpAny c.M f.A (spliced (backTo pos (starEach es f.env))) (PostL c f ρ imm fr es.length Q) (Thrown c f imm fr X) s

section
variable {c : Cx} {k : Nat} {sc : Scope} {ρ : Loc} {st : St} {Q : V → St → Prop} {S : Fl → Loc → St → Prop} {X : Xp} {f : Fm} {imm fr : Led} {s : Shared} {tk : Nat}

theorem PostS.next (R : Rel c f ρ st imm fr s) (h : S .next ρ st) : PostS c f imm fr S .next s := ⟨.next, ρ, st, imm, fun _ h => h, .next, R, h⟩

theorem WPS.nil (h : S .next ρ st) : WPS c k sc ρ st [] S X := ⟨fun f imm fr s ok hsc own R => wpAny_execs_nil (.next R h)⟩
theorem WPS.cons {t : Stmt} {ts : List Stmt} (h : WPs c k sc ρ st t (fun fl ρ₁ st₁ => nxt fl (WPS c k sc ρ₁ st₁ ts S X) (S fl ρ₁ st₁)) X) : WPS c k sc ρ st (t :: ts) S X := by
  refine ⟨fun f imm fr s ok hsc own R => ?_⟩
  refine wpAny_execs_cons (wpAny_mono (h.go f imm fr s ok hsc own R) (fun fl s₁ p => ?_) fun _ _ t => t)
  obtain ⟨fl', ρ₁, st₁, imm₁, i₁, rf, R₁, h₁⟩ := p
  cases rf with
  | next => exact wpAny_mono ((show WPS c k sc ρ₁ st₁ ts S X from h₁).go f imm₁ fr s₁ ok hsc own R₁) (fun _ _ p => p.mono i₁) fun _ _ t => t.mono i₁
  | brk => exact ⟨.brk, ρ₁, st₁, imm₁, i₁, .brk, R₁, h₁⟩
  | cont => exact ⟨.cont, ρ₁, st₁, imm₁, i₁, .cont, R₁, h₁⟩
  | ret r => exact ⟨_, ρ₁, st₁, imm₁, i₁, .ret r, R₁, h₁⟩

theorem WPs.ret {e : Expr} {pos : Pos} (h : WPE c k sc ρ st e (fun v st₁ => S (.ret v) ρ st₁) X) : WPs c k sc ρ st (.Return (some e) pos) S X := by
  refine ⟨fun f imm fr s ok hsc own R => ?_⟩
  refine wpAny_Return_some (wpAny_mono (h.go f imm fr s ok hsc R) (fun x s₁ p => ?_) fun _ _ t => t)
  obtain ⟨v, st₁, imm₁, i₁, rv, R₁, h₁⟩ := p
  exact ⟨.ret v, ρ, st₁, imm₁, i₁, .ret rv, R₁, h₁⟩
theorem WPs.ifs {e : Expr} {b o : List Stmt} {pos : Pos} (h : WPB c k sc ρ st e (fun v st₁ => cnd v (WPS c k sc ρ st₁ b S X) (WPS c k sc ρ st₁ o S X)) X) : WPs c k sc ρ st (.If e b o pos) S X := by
  refine ⟨fun f imm fr s ok hsc own R => ?_⟩
  refine wpAny_If (wpAny_mono (h.go f imm fr s ok hsc R) (fun b s₁ p => ?_) fun _ _ t => t)
  obtain ⟨st₁, imm₁, i₁, R₁, h₁⟩ := p
  cases b with
  | false => exact wpAny_mono ((of_f h₁).go f imm₁ fr s₁ ok hsc own R₁) (fun _ _ p => p.mono i₁) fun _ _ t => t.mono i₁
  | true => exact wpAny_mono ((of_t h₁).go f imm₁ fr s₁ ok hsc own R₁) (fun _ _ p => p.mono i₁) fun _ _ t => t.mono i₁
theorem WPs.expr {e : Expr} {pos : Pos} (h : WPE c k sc ρ st e (fun _ st₁ => S .next ρ st₁) X) (hs : ∀ env, swapsWith e none pos.line env = pure false := by intro _; rfl) : WPs c k sc ρ st (.Expr e pos) S X := by
  refine ⟨fun f imm fr s ok hsc own R => ?_⟩
  refine wpAny_Expr_any (wpAny_mono (h.go f imm fr s ok hsc R) (fun x s₁ p => ?_) fun _ _ t => t) ?_ (hs _)
  · obtain ⟨v, st₁, imm₁, i₁, rv, R₁, h₁⟩ := p
    exact ⟨.next, ρ, st₁, imm₁, i₁, .next, R₁, h₁⟩
  · unfold interactive; rw [ok.ekind]; rfl

/-! storing a name -/
theorem getL_set_reads {base : Heap} {f : Fm} {m : Str → Option Value} {cs : Led} {x : Str} {v : V} {val : Value} (L : LocR base imm f ρ m cs fr) (hl : f.env.kindOf x = some .local) (own : f.env.locals = f.L) (rv : RV base imm v val) :
    LocR base imm f (setL ρ x v) (fun y => if y = x then some val else m y) cs fr := by
  refine ⟨fun y u e => ?_, L.cells, L.inj⟩
  rw [getL_setL] at e
  by_cases h : y = x
  · subst h
    rw [if_pos rfl] at e
    cases e
    exact ⟨val, rv, .inl ⟨hl, own, by simp⟩⟩
  · rw [if_neg h] at e
    obtain ⟨w, rw', q⟩ := L.reads y u e
    refine ⟨w, rw', ?_⟩
    rcases q with ⟨q1, q2, q3⟩ | q
    · exact .inl ⟨q1, q2, by simpa [h] using q3⟩
    · exact .inr q
theorem store_local {x : Str} {v : V} {val : Value} {P : Unit → Shared → Prop} {E : Value → Shared → Prop} (ok : f.Ok c k) (own : f.env.locals = f.L) (R : Rel c f ρ st imm fr s) (hx : f.env.kindOf x = some .local) (rv : RV c.base imm v val)
    (h : ∀ s', Rel c f (setL ρ x v) st imm fr s' → P () s') : wpAny c.M f.A (storeName f.env x val) P E s := by
  obtain ⟨⟨h0, tk0, rfl⟩, m, mt, cs, fo, r⟩ := R
  refine wpAny_storeName_local hx (own ▸ r.frm.ns) (fun h' hn hs => h _ ⟨⟨h', _, rfl⟩, (fun y => if y = x then some val else m y), mt, cs, fo, ?_⟩) (by rw [ok.ekind]; rfl)
  rw [own] at hn hs
  exact ⟨r.frm.set hn hs, r.news.set hs, r.nodup, r.sto, r.fos, getL_set_reads r.loc hx own rv⟩
theorem store_cell {x : Str} {v : V} {val : Value} {P : Unit → Shared → Prop} {E : Value → Shared → Prop} {cc : Addr} (ok : f.Ok c k) (own : f.Own) (R : Rel c f ρ st imm fr s) (hx : f.env.kindOf x = some .cell) (hc : f.env.cells.lookup x = some cc) (rv : RV c.base imm v val)
    (h : ∀ s', Rel c f (setL ρ x v) st imm fr s' → P () s') : wpAny c.M f.A (storeName f.env x val) P E s := by
  obtain ⟨⟨h0, tk0, rfl⟩, m, mt, cs, fo, r⟩ := R
  obtain ⟨o, v₀, hm, hd⟩ := r.loc.cells own.cmp x cc hc
  have hw := r.news (cc, o) (by simp [hm])
  refine wpAny_storeName_cell ok.ekind hx hc ⟨o, hw.1, hd⟩ fun h' hv hs => ?_
  obtain ⟨o', ho', hd'⟩ := hv
  obtain ⟨c1, c2, rfl⟩ := List.append_of_mem hm
  have e : whole mt (c1 ++ (cc, o) :: c2) imm fr fo = (mt ++ c1) ++ (cc, o) :: (c2 ++ (imm ++ (fr ++ fo))) := by simp
  have e' : whole mt (c1 ++ (cc, o') :: c2) imm fr fo = (mt ++ c1) ++ (cc, o') :: (c2 ++ (imm ++ (fr ++ fo))) := by simp
  have nd := r.nodup
  rw [e] at nd
  have h1 : ∀ p ∈ mt ++ c1, p.1 ≠ cc := fun p hp q => by
    rw [List.map_append, List.nodup_append] at nd
    exact nd.2.2 p.1 (List.mem_map_of_mem hp) cc (by simp) q
  have h2 : ∀ p ∈ c2 ++ (imm ++ (fr ++ fo)), p.1 ≠ cc := fun p hp q => by
    rw [List.map_append, List.nodup_append, List.map_cons, List.nodup_cons] at nd
    exact nd.2.1.1 (List.mem_map.mpr ⟨p, hp, q⟩)
  have hne : ∀ b ob, (b, ob) ∈ c1 ++ (cc, o) :: c2 → b ≠ cc → (b, ob) ∈ c1 ++ (cc, o') :: c2 := fun b ob hb n => by
    simp only [List.mem_append, List.mem_cons, Prod.mk.injEq] at hb ⊢
    rcases hb with hb | ⟨hb, _⟩ | hb
    · exact .inl hb
    · exact absurd hb n
    · exact .inr (.inr hb)
  refine h _ ⟨⟨h', _, rfl⟩, m, mt, c1 ++ (cc, o') :: c2, fo, Fr.other r.frm hs hw.2.1 hw.2.2, ?_, ?_, r.sto, r.fos, ?_⟩
  · rw [e']
    have := r.news
    rw [e] at this
    exact News.setAt this h1 h2 hs ho'
  · rw [e']; simp only [List.map_append, List.map_cons] at nd ⊢; exact nd
  · refine ⟨fun y u q => ?_, fun _ y cy q => ?_, r.loc.inj⟩
    · rw [getL_setL] at q
      by_cases hy : y = x
      · subst hy
        rw [if_pos rfl] at q
        cases q
        exact ⟨val, rv, .inr ⟨.inl hx, cc, o', hc, by simp, hd'⟩⟩
      · rw [if_neg hy] at q
        obtain ⟨w, rw', z⟩ := r.loc.reads y u q
        refine ⟨w, rw', ?_⟩
        rcases z with z | ⟨z1, c', oc, z2, z3, z4⟩
        · exact .inl z
        · refine .inr ⟨z1, c', oc, z2, ?_, z4⟩
          rcases List.mem_append.mp z3 with z3 | z3
          · exact List.mem_append_left _ (hne _ _ z3 fun e => hy (r.loc.inj own.cmp y x cc (e ▸ z2) hc))
          · exact List.mem_append_right _ z3
    · obtain ⟨oy, vy, z1, z2⟩ := r.loc.cells own.cmp y cy q
      by_cases e : cy = cc
      · subst e; exact ⟨o', _, by simp, hd'⟩
      · exact ⟨oy, vy, hne _ _ z1 e, z2⟩
/-- any name that the frame stores -/
noncomputable def storesB (sc : Scope) (x : Str) : Bool := match sc.names.lookup x with | some .local | some .cell => true | _ => false
theorem store {x : Str} {v : V} {val : Value} {P : Unit → Shared → Prop} {E : Value → Shared → Prop} (ok : f.Ok c k) (own : f.Own) (R : Rel c f ρ st imm fr s) (hx : storesB f.env.scope x = true) (rv : RV c.base imm v val)
    (h : ∀ s', Rel c f (setL ρ x v) st imm fr s' → P () s') : wpAny c.M f.A (storeName f.env x val) P E s := by
  unfold storesB at hx
  cases hk : f.env.scope.names.lookup x with
  | none => rw [hk] at hx; cases hx
  | some kd =>
    rw [hk] at hx
    cases kd <;> first | (cases hx; done) | (exact store_local ok own.locals R hk rv h) | skip
    obtain ⟨cc, hcc⟩ := ok.ecell x hk
    exact store_cell ok own R hk hcc rv h

theorem WPs.asg {x : Str} {e : Expr} {np pos : Pos} (h : WPE c k sc ρ st e (fun v st₁ => S .next (setL ρ x v) st₁) X) (hx : storesB sc x = true := by rfl)
    (hs : ∀ env, swapsWith e (some (.Name x np)) pos.line env = pure false := by intro _; rfl) : WPs c k sc ρ st (.Assign [.Name x np] e pos) S X := by
  refine ⟨fun f imm fr s ok hsc own R => ?_⟩
  refine wpAny_Assign_Name (wpAny_mono (h.go f imm fr s ok hsc R) (fun val s₁ p => ?_) fun _ _ t => t) (hs _)
  obtain ⟨v, st₁, imm₁, i₁, rv, R₁, h₁⟩ := p
  exact store ok own R₁ (hsc ▸ hx) rv fun s' R' => ⟨.next, _, st₁, imm₁, i₁, .next, R', h₁⟩

/-! tuples and lists made -/
theorem WPEs.nil {P : List V → St → Prop} (h : P [] st) : WPEs c k sc ρ st [] P X := ⟨fun f imm fr s pos ok hsc R => spliced_none ⟨[], st, imm, fun _ h => h, .nil, R, rfl, h⟩⟩
theorem WPEs.cons {e : Expr} {es : List Expr} {P : List V → St → Prop} (h : WPE c k sc ρ st e (fun v st₁ => WPEs c k sc ρ st₁ es (fun vs st₂ => P (v :: vs) st₂) X) X)
    (he : ∀ env, starEach (e :: es) env = (false, eval e env) :: starEach es env := by intro _; rfl) : WPEs c k sc ρ st (e :: es) P X := by
  refine ⟨fun f imm fr s pos ok hsc R => ?_⟩
  refine spliced_more (wpAny_mono (h.go f imm fr s ok hsc R) (fun x s₁ p => ?_) fun _ _ t => t) (he _)
  obtain ⟨v, st₁, imm₁, i₁, rv, R₁, h₁⟩ := p
  refine wpAny_mono (h₁.go f imm₁ fr s₁ pos ok hsc R₁) (fun xs s₂ p => ?_) fun _ _ t => t.mono i₁
  obtain ⟨vs, st₂, imm₂, i₂, rvs, R₂, hn, h₂⟩ := p
  exact ⟨v :: vs, st₂, imm₂, fun q hq => i₂ q (i₁ q hq), .cons (rv.mono i₂) rvs, R₂, by simp [hn], h₂⟩
theorem WPE.tup {es : List Expr} {n : Nat} {pos : Pos} (h : WPEs c k sc ρ st es (fun vs st₁ => Q (.tup vs) st₁) X) (hl : es.length ≤ sizeLine := by decide) : WPE c k sc ρ st (.Tuple es n pos) Q X := by
  refine ⟨fun f imm fr s ok hsc R => ?_⟩
  refine wpAny_Tuple (wpAny_mono (h.go f imm fr s pos ok hsc R) (fun xs s₁ p => ?_) fun _ _ t => t)
  obtain ⟨vs, st₁, imm₁, i₁, rvs, R₁, hn, h₁⟩ := p
  have hs : ∀ p ∈ imm₁, p ∈ (s₁.heap.objs.size, tupObj xs 0) :: imm₁ := fun p hp => .tail _ hp
  exact ⟨by rw [rvs.length, hn]; exact hl, _, st₁, _, fun q hq => hs q (i₁ q hq), .tup (.head _) (rvs.mono hs), R₁.pushImm (tk := s₁.toks), h₁⟩
theorem WPE.lst {es : List Expr} {pos : Pos} (h : WPEs c k sc ρ st es (fun vs st₁ => ∀ a, get st₁ a = none → Q (.ref a) ((a, .list vs) :: st₁)) X) (hl : es.length ≤ sizeLine := by decide) : WPE c k sc ρ st (.List es pos) Q X := by
  refine ⟨fun f imm fr s ok hsc R => ?_⟩
  refine wpAny_List (wpAny_mono (h.go f imm fr s pos ok hsc R) (fun xs s₁ p => ?_) fun _ _ t => t)
  obtain ⟨vs, st₁, imm₁, i₁, rvs, R₁, hn, h₁⟩ := p
  exact ⟨by rw [rvs.length, hn]; exact hl, _, _, _, i₁, .ref _, R₁.pushSt (tk := s₁.toks) (.list rvs), h₁ _ R₁.none⟩
end
end Mine
namespace Mine
section
variable {c : Cx} {k : Nat} {f : Fm} {ρ : Loc} {st : St} {imm fr : Led} {s : Shared} {h h' : Heap} {m : Str → Option Value} {mt cs fo : Led} {e C : Addr} {E : Led} {mk : Option Value} {X : Xp} {tk : Nat}

theorem nodupc {l : List Nat} (h : ∀ a, l.count a ≤ 1) : l.Nodup := List.nodup_iff_count.mpr h
theorem ExcL.fields (x : ExcL e C mk E) : ∀ p ∈ E, ∃ vs, p.2.data = .fields vs := by
  intro p hp
  cases x with
  | made h1 h2 h3 h4 => simp at hp; subst hp; exact ⟨_, h2⟩
  | traced h1 h2 h3 h4 h5 h6 =>
    simp at hp
    rcases hp with rfl | rfl
    · exact ⟨_, h2⟩
    · exact ⟨_, h5⟩
theorem LocR.exc {base : Heap} {E E' : Led} (hE : ∀ p ∈ E, ∃ vs, p.2.data = .fields vs) (l : LocR base imm f ρ m cs (E ++ fr)) : LocR base imm f ρ m cs (E' ++ fr) := by
  refine ⟨fun x v q => ?_, l.cells, l.inj⟩
  obtain ⟨val, r, z⟩ := l.reads x v q
  refine ⟨val, r, ?_⟩
  rcases z with z | ⟨z1, cc, o, z2, z3, z4⟩
  · exact .inl z
  · refine .inr ⟨z1, cc, o, z2, ?_, z4⟩
    simp only [List.mem_append] at z3 ⊢
    rcases z3 with z3 | z3 | z3
    · exact .inl z3
    · obtain ⟨vs, q⟩ := hE _ z3
      rw [z4] at q; cases q
    · exact .inr (.inr z3)
theorem FoR.slots {frs : List (Addr × (Str → Option Value))} (hf : FoR frs fo) (hk : ∀ p ∈ fo, h.get? p.1 = some p.2) (u : h.UpToSlots h') : ∃ fo', FoR frs fo' ∧ fo'.map (·.1) = fo.map (·.1) ∧ ∀ p ∈ fo', h'.get? p.1 = some p.2 ∧ ∀ vs, p.2.data ≠ .fields vs := by
  induction hf with
  | nil => exact ⟨[], .nil, rfl, fun p hp => nomatch hp⟩
  | @cons L m o fs fo no _ ih =>
    obtain ⟨fo', h1, h2, h3⟩ := ih fun p hp => hk p (.tail _ hp)
    obtain ⟨es, ep, n1, n2, n3⟩ := no
    have nf : ∀ vs, o.data ≠ .fields vs := fun vs q => by rw [n1] at q; cases q
    obtain ⟨sl, hs⟩ := u L o (hk (L, o) (.head _)) nf
    refine ⟨(L, { o with slots := sl }) :: fo', .cons ⟨es, ep, n1, n2, n3⟩ h1, by simp [h2], fun p hp => ?_⟩
    rcases List.mem_cons.mp hp with rfl | hp
    · exact ⟨hs, nf⟩
    · exact h3 p hp
/-- the addresses of the frames -/
theorem env_in (ok : f.Ok c k) (R : RelAt c f ρ st imm fr h m mt cs fo) {b : Addr} (hb : b ∈ (f.fenv :: f.outer).filterMap (·.frame)) : b = f.L ∨ ∃ o, (b, o) ∈ fo := by
  obtain ⟨env, he, hf⟩ := List.mem_filterMap.mp hb
  obtain ⟨_, L, hL, hq⟩ := ok.envs env he
  rw [hL] at hf
  cases hf
  rcases hq with rfl | ⟨m', hm⟩
  · exact .inl rfl
  · right
    have : ∀ {frs : List (Addr × (Str → Option Value))} {fo : Led}, FoR frs fo → (b, m') ∈ frs → ∃ o, (b, o) ∈ fo := by
      intro frs fo hf
      induction hf with
      | nil => intro q; cases q
      | cons no _ ih =>
        intro q
        rcases List.mem_cons.mp q with q | q
        · cases q; exact ⟨_, .head _⟩
        · obtain ⟨o, ho⟩ := ih q; exact ⟨o, .tail _ ho⟩
    exact this R.fos hm
noncomputable abbrev hid (f : Fm) (E : Led) (h : Heap) : Heap := hideAll h ((f.fenv :: f.outer).filterMap (·.frame) ++ E.map (·.1))
theorem funs (ok : f.Ok c k) (R : RelAt c f ρ st imm (E ++ fr) h m mt cs fo) : h.FunFrames (hid f E h) (f.fenv :: f.outer) := by
  have go : ∀ l : List Env, (∀ env ∈ l, env ∈ f.fenv :: f.outer) → h.FunFrames (hid f E h) l := by
    intro l
    induction l with
    | nil => intro _; exact trivial
    | cons env l ih =>
      intro hin
      obtain ⟨hk, L, hL, hq⟩ := ok.envs env (hin env (.head _))
      have hb : L ∈ (f.fenv :: f.outer).filterMap (·.frame) := List.mem_filterMap.mpr ⟨env, hin env (.head _), hL⟩
      refine ⟨by rw [hk]; decide, ?_, ih fun x hx => hin x (.tail _ hx)⟩
      rcases env_in ok R hb with rfl | ⟨o, ho⟩
      · obtain ⟨o, es, ep, h1, h2, _⟩ := R.frm.ns
        exact ⟨f.L, o, hL, hideAll_none _ (List.mem_append_left _ hb), h1, fun vs q => by rw [h2] at q; cases q⟩
      · have nf : ∀ {frs : List (Addr × (Str → Option Value))} {fo : Led}, FoR frs fo → (L, o) ∈ fo → ∀ vs, o.data ≠ .fields vs := by
          intro frs fo hf
          induction hf with
          | nil => intro q; cases q
          | cons no _ ih =>
            intro q
            rcases List.mem_cons.mp q with q | q
            · cases q
              obtain ⟨es, ep, n1, _⟩ := no
              intro vs z; rw [n1] at z; cases z
            · exact ih q
        exact ⟨L, o, hL, hideAll_none _ (List.mem_append_left _ hb), (R.news (L, o) (by simp [ho])).1, nf R.fos ho⟩
  exact go _ fun _ h => h

/-- the heap behind a note -/
theorem relNoted (ok : f.Ok c k) {e T : Addr} {oe oT : Obj} {vs ts : Array Value} (hE : ∀ p ∈ E, ∃ vs, p.2.data = .fields vs) (he : ∃ o, (e, o) ∈ E) (R : Rel c f ρ st imm (E ++ fr) s) (hk : (hid f E s.heap).StaysIn h') (u : s.heap.UpToSlots h')
    (ge : h'.get? e = some oe) (de : oe.data = .fields vs) (gT : h'.get? T = some oT) (dT : oT.data = .fields ts) (nT : (hid f E s.heap).get? T = none) (hTe : T ≠ e) : Rel c f ρ st imm ([(e, oe), (T, oT)] ++ fr) { s with heap := h', toks := tk } := by
  obtain ⟨⟨h0, tk0, rfl⟩, m, mt, cs, fo, r⟩ := R
  dsimp only at r hk u nT
  obtain ⟨oe0, he0⟩ := he
  have nd := List.nodup_iff_count.mp r.nodup
  have hfo : ∀ p ∈ fo, h0.get? p.1 = some p.2 := fun p hp => (r.news p (by simp [hp])).1
  obtain ⟨fo', f1, f2, f3⟩ := r.fos.slots hfo u
  have nL : ∀ p ∈ whole mt cs imm (E ++ fr) fo, p.1 ≠ f.L := fun p hp => (r.news p hp).2.1
  -- what is not hidden
  have other : ∀ p ∈ mt ++ (cs ++ (imm ++ fr)), p.1 ∉ (f.fenv :: f.outer).filterMap (·.frame) ++ E.map (·.1) := fun p hp hq => by
    have hpw : p ∈ whole mt cs imm (E ++ fr) fo := by
      simp only [List.mem_append] at hp ⊢
      rcases hp with hp | hp | hp | hp
      · exact .inl hp
      · exact .inr (.inl hp)
      · exact .inr (.inr (.inl hp))
      · exact .inr (.inr (.inr (.inl (.inr hp))))
    have c1 : 0 < ((mt ++ (cs ++ (imm ++ fr))).map (·.1)).count p.1 := List.count_pos_iff.mpr (List.mem_map_of_mem hp)
    have c0 := nd p.1
    simp only [List.map_append, List.count_append] at c0 c1
    rcases List.mem_append.mp hq with hq | hq
    · rcases env_in ok r hq with hq | ⟨o, hq⟩
      · exact nL p hpw hq
      · have : 0 < (fo.map (·.1)).count p.1 := List.count_pos_iff.mpr (List.mem_map.mpr ⟨_, hq, rfl⟩)
        omega
    · have : 0 < (E.map (·.1)).count p.1 := List.count_pos_iff.mpr hq
      omega
  have kept : ∀ p ∈ mt ++ (cs ++ (imm ++ fr)), h'.get? p.1 = some p.2 ∧ (hid f E h0).get? p.1 = some p.2 := fun p hp => by
    have hpw : p ∈ whole mt cs imm (E ++ fr) fo := by
      simp only [List.mem_append] at hp ⊢
      rcases hp with hp | hp | hp | hp
      · exact .inl hp
      · exact .inr (.inl hp)
      · exact .inr (.inr (.inl hp))
      · exact .inr (.inr (.inr (.inl (.inr hp))))
    have := hideAll_get _ (r.news p hpw).1 (other p hp)
    exact ⟨hk _ _ this, this⟩
  have hbase : ∀ b o, c.base.get? b = some o → (hid f E h0).get? b = some o := fun b o q => by
    refine hideAll_get _ (r.frm.keep b o q) fun hq => ?_
    rcases List.mem_append.mp hq with hq | hq
    · rcases env_in ok r hq with rfl | ⟨o', hq⟩
      · rw [Heap.get?_none_of_le r.frm.above] at q; cases q
      · rw [(r.news (b, o') (by simp [hq])).2.2] at q; cases q
    · obtain ⟨p, hp, rfl⟩ := List.mem_map.mp hq
      rw [(r.news p (by simp [hp])).2.2] at q; cases q
  have hT0 : c.base.get? T = none := by
    cases q : c.base.get? T with
    | none => rfl
    | some o => rw [hbase T o q] at nT; cases nT
  have ns' := u.ns r.frm.ns
  have hLf : ∀ a o vs, h'.get? a = some o → o.data = .fields vs → a ≠ f.L := fun a o vs g d q => by
    obtain ⟨o', es, ep, g', d', _⟩ := ns'
    rw [q, g'] at g
    cases g
    rw [d'] at d; cases d
  refine ⟨⟨h', tk, rfl⟩, m, mt, cs, fo', ⟨ns', fun b o q => hk _ _ (hbase b o q), r.frm.above⟩, fun p hp => ?_, nodupc fun a => ?_, r.sto, f1, LocR.exc hE r.loc⟩
  · have hp' : p ∈ mt ++ (cs ++ (imm ++ fr)) ∨ p = (e, oe) ∨ p = (T, oT) ∨ p ∈ fo' := by
      simp only [List.mem_append, List.mem_cons, List.not_mem_nil, or_false] at hp ⊢
      rcases hp with hp | hp | hp | ((hp | hp) | hp) | hp
      · exact .inl (.inl hp)
      · exact .inl (.inr (.inl hp))
      · exact .inl (.inr (.inr (.inl hp)))
      · exact .inr (.inl hp)
      · exact .inr (.inr (.inl hp))
      · exact .inl (.inr (.inr (.inr hp)))
      · exact .inr (.inr (.inr hp))
    rcases hp' with hp' | rfl | rfl | hp'
    · have hpw : p ∈ whole mt cs imm (E ++ fr) fo := by
        simp only [List.mem_append] at hp' ⊢
        rcases hp' with hp | hp | hp | hp
        · exact .inl hp
        · exact .inr (.inl hp)
        · exact .inr (.inr (.inl hp))
        · exact .inr (.inr (.inr (.inl (.inr hp))))
      exact ⟨(kept p hp').1, (r.news p hpw).2⟩
    · exact ⟨ge, hLf _ _ _ ge de, (r.news (e, oe0) (by simp [he0])).2.2⟩
    · exact ⟨gT, hLf _ _ _ gT dT, hT0⟩
    · have : p.1 ∈ fo.map (·.1) := by rw [← f2]; exact List.mem_map_of_mem hp'
      obtain ⟨q, hq, e1⟩ := List.mem_map.mp this
      have z := r.news q (by simp [hq])
      rw [show q.1 = p.1 from e1] at z
      exact ⟨(f3 p hp').1, z.2⟩
  · have c0 := nd a
    simp only [List.map_append, List.map_cons, List.map_nil, List.count_append, List.count_cons, List.count_nil, f2] at c0 ⊢
    have cT : a = T → (mt.map (·.1)).count a = 0 ∧ (cs.map (·.1)).count a = 0 ∧ (imm.map (·.1)).count a = 0 ∧ (fr.map (·.1)).count a = 0 ∧ (fo.map (·.1)).count a = 0 := fun q => by
      have n0 : ∀ p ∈ mt ++ (cs ++ (imm ++ fr)), p.1 ≠ a := fun p hp z => by
        have := (kept p hp).2
        rw [z, q, nT] at this; cases this
      have n1 : ∀ p ∈ fo', p.1 ≠ a := fun p hp z => by
        obtain ⟨g, d⟩ := f3 p hp
        rw [z, q, gT] at g
        cases g
        exact d _ dT
      refine ⟨List.count_eq_zero.mpr fun hm => ?_, List.count_eq_zero.mpr fun hm => ?_, List.count_eq_zero.mpr fun hm => ?_, List.count_eq_zero.mpr fun hm => ?_, List.count_eq_zero.mpr fun hm => ?_⟩
      · obtain ⟨p, hp, z⟩ := List.mem_map.mp hm; exact n0 p (by simp [hp]) z
      · obtain ⟨p, hp, z⟩ := List.mem_map.mp hm; exact n0 p (by simp [hp]) z
      · obtain ⟨p, hp, z⟩ := List.mem_map.mp hm; exact n0 p (by simp [hp]) z
      · obtain ⟨p, hp, z⟩ := List.mem_map.mp hm; exact n0 p (by simp [hp]) z
      · rw [← f2] at hm; obtain ⟨p, hp, z⟩ := List.mem_map.mp hm; exact n1 p hp z
    have cE : a = e → 0 < (E.map (·.1)).count a := fun q => by rw [q]; exact List.count_pos_iff.mpr (List.mem_map.mpr ⟨_, he0, rfl⟩)
    by_cases qe : e = a
    · have := cE qe.symm
      have hne : (T == a) = false := by rw [← qe]; simpa using hTe
      simp only [qe, hne, beq_self_eq_true, if_true, Bool.false_eq_true, if_false]
      omega
    · have hne : (e == a) = false := by simpa using qe
      by_cases qT : T = a
      · obtain ⟨z1, z2, z3, z4, z5⟩ := cT qT.symm
        simp only [hne, qT, beq_self_eq_true, if_true, Bool.false_eq_true, if_false, z1, z2, z3, z4, z5]
        omega
      · have hne' : (T == a) = false := by simpa using qT
        simp only [hne, hne', Bool.false_eq_true, if_false]
        omega
theorem Rel.permFr {fr' : Led} (R : Rel c f ρ st imm fr s) (hp : fr.Perm fr') : Rel c f ρ st imm fr' s := by
  obtain ⟨hs, m, mt, cs, fo, r⟩ := R
  have hw : (whole mt cs imm fr' fo).Perm (whole mt cs imm fr fo) := List.Perm.append_left _ (List.Perm.append_left _ (List.Perm.append_left _ (hp.symm.append_right _)))
  refine ⟨hs, m, mt, cs, fo, r.frm, fun p q => r.news p (hw.mem_iff.mp q), (hw.map (·.1)).nodup_iff.mpr r.nodup, r.sto, r.fos, ⟨fun x v e => ?_, r.loc.cells, r.loc.inj⟩⟩
  obtain ⟨val, rv, q⟩ := r.loc.reads x v e
  refine ⟨val, rv, ?_⟩
  rcases q with q | ⟨q1, c, o, q2, q3, q4⟩
  · exact .inl q
  · refine .inr ⟨q1, c, o, q2, ?_, q4⟩
    rcases List.mem_append.mp q3 with q3 | q3
    · exact List.mem_append_left _ q3
    · exact List.mem_append_right _ (hp.mem_iff.mp q3)
theorem LocR.app {base : Heap} {E : Led} (l : LocR base imm f ρ m cs fr) : LocR base imm f ρ m cs (E ++ fr) := by
  induction E with
  | nil => exact l
  | cons p E ih => exact ih.more
theorem Rel.two {e T : Addr} {oe oT : Obj} (R : Rel c f ρ st imm ([(e, oe), (T, oT)] ++ fr) s) : T ≠ e := by
  obtain ⟨_, m, mt, cs, fo, r⟩ := R
  intro q
  have nd := List.nodup_iff_count.mp r.nodup e
  subst q
  simp only [List.map_append, List.map_cons, List.map_nil, List.count_append, List.count_cons, List.count_nil, beq_self_eq_true, if_true] at nd
  omega

/-- noted in the frame -/
theorem noted {Q : Unit → Shared → Prop} {E' : Value → Shared → Prop} {L : Addr} (ok : f.Ok c k) (hL : f.fenv.frame = some L) (x : ExcL e C mk E) (hm : MarkOk f mk) (R : Rel c f ρ st imm (E ++ fr) s)
    (hQ : ∀ E₂ s', ExcL e C (some (rawInt L)) E₂ → Rel c f ρ st imm (E₂ ++ fr) s' → Q () s') : wpAny c.M f.A (noteFrame (.ref e) f.fenv) Q E' s := by
  have hkb : (hid f E s.heap).StaysIn s.heap := fun b o q => of_hideAll _ q
  have hef : ∀ oe b, (b, oe) ∈ E → (hid f E s.heap).get? b = none := fun oe b h => hideAll_none _ (List.mem_append_right _ (List.mem_map.mpr ⟨_, h, rfl⟩))
  have hl : s.heap.FunFrames (hid f E s.heap) (f.fenv :: f.outer) := by
    obtain ⟨_, m, mt, cs, fo, r⟩ := R
    exact funs ok r
  have hF := x.fields
  have fin : ∀ {a0 : Value} {h' : Heap}, (∃ o, (e, o) ∈ E) → Heap.NotedW (hid f E s.heap) (f.fenv :: f.outer) e (.ref C) a0 (rawInt L) s.heap h' → Q () { s with heap := h' } := by
    intro a0 h' hin hN
    obtain ⟨k1, k2, ⟨oe', vs', T', oT', ts', ge, ⟨hc, h0⟩, de, g1, nT, hTe, gT, dT, g3⟩, k4⟩ := hN
    exact hQ _ _ (.traced hc de g1 h0 dT g3) (relNoted (tk := s.toks) ok hF hin R k1 k4 ge de gT dT nT hTe)
  cases x with
  | @made oe vs a0 h1 h2 h3 h4 =>
    have he := R.inFr (a := e) (o := oe) (by simp)
    unfold noteFrame
    simp only [hL]
    refine wpAny_bind (wpAny_field he h2 h3 ?_)
    rw [if_neg (by decide)]
    refine wpAny_entryW ok.frames hl hL he hkb (hef oe _ (by simp)) h2 (Array.getElem?_eq_some_iff.mp h3).1 h4 fun h' hN => ?_
    rw [h1] at hN
    exact fin ⟨oe, by simp⟩ hN
  | @traced oe oT vs ts a0 fl T h1 h2 h3 h4 h5 h6 =>
    have he := R.inFr (a := e) (o := oe) (by simp)
    have hT := R.inFr (a := T) (o := oT) (by simp)
    have hTe := R.two
    rcases hm with hm | hm | ⟨L', hL', hm⟩
    · cases hm
    · cases hm
      exact wpAny_noteFrame_onW ok.frames hl hL ⟨oe, vs, T, oT, ts, he, ⟨h1, h4⟩, h2, h3, hef oT _ (by simp), hTe, hT, h5, h6⟩ hkb (hef oe _ (by simp)) fun h' hN => fin ⟨oe, by simp⟩ hN
    · rw [hL] at hL'; cases hL'; cases hm
      exact wpAny_noteFrame_againW (base := hid f [(e, oe), (T, oT)] s.heap) hL ⟨oe, vs, T, oT, ts, he, ⟨h1, h4⟩, h2, h3, hef oT _ (by simp), hTe, hT, h5, h6⟩ (hQ _ _ (.traced h1 h2 h3 h4 h5 h6) R)
/-- the mark is set anew -/
theorem flight {Q : Unit → Shared → Prop} {E' : Value → Shared → Prop} {fl : Value} (v : Option Addr) (x : ExcL e C (some fl) E) (R : Rel c f ρ st imm (E ++ fr) s)
    (hQ : ∀ E₂ s', ExcL e C (some (v.elim .none fun a => rawInt a)) E₂ → Rel c f ρ st imm (E₂ ++ fr) s' → Q () s') : wpAny c.M f.A (setFlight (.ref e) v) Q E' s := by
  cases x with
  | @traced oe oT vs ts a0 fl T h1 h2 h3 h4 h5 h6 =>
    have he := R.inFr (a := e) (o := oe) (by simp)
    have hT := R.inFr (a := T) (o := oT) (by simp)
    have hsz := (Array.getElem?_eq_some_iff.mp h6).1
    unfold setFlight
    refine wpAny_bind (wpAny_field he h2 h3 ?_)
    rw [if_pos (show (Value.ref T != Value.none) = true from by simp)]
    refine wpAny_setField hT h5 hsz (hQ [(e, oe), (T, oT.mapFields (·.setIfInBounds 3 (v.elim Value.none fun a => rawInt a)))] _ (.traced h1 h2 h3 h4 (Obj.data_mapFields h5 (·.setIfInBounds 3 (v.elim Value.none fun a => rawInt a))) (by simp [hsz])) ?_)
    exact Rel.frSetAt [(e, oe)] R (tk := s.toks) (.update ..) (Heap.get?_update_self _ hT (Obj.isFreed_of_fields (Obj.data_mapFields h5 _))) (by rw [h5]; intro w q; cases q)
theorem leaves {Q : Unit → Shared → Prop} {E' : Value → Shared → Prop} {L : Addr} (ok : f.Ok c k) (hL : f.fenv.frame = some L) (x : ExcL e C mk E) (hm : MarkOk f mk) (R : Rel c f ρ st imm (E ++ fr) s)
    (hQ : ∀ E₂ s', ExcL e C (some .none) E₂ → Rel c f ρ st imm (E₂ ++ fr) s' → Q () s') : wpAny c.M f.A (leaving f.fenv (.ref e)) Q E' s := by
  unfold leaving
  exact wpAny_bind (noted ok hL x hm R fun E₂ s' x₂ R₂ => flight none x₂ R₂ fun E₃ s₃ x₃ R₃ => hQ E₃ s₃ x₃ R₃)
theorem Fm.Ok.frm (ok : f.Ok c k) : ∃ L, f.fenv.frame = some L := let ⟨_, L, h, _⟩ := ok.envs f.fenv (.head _); ⟨L, h⟩
theorem outOfLoop {ev : Value} (ok : f.Ok c k) (own : f.env = f.fenv) (t : Thrown c f imm fr X ev s) : notedBy c.M f.A f.env (cameBackBy c.M f.A f.env (Thrown c f imm fr X)) ev s := by
  obtain ⟨e, C, mk, E, ρ, st, imm', rfl, x, hm, i, R, hX⟩ := t
  obtain ⟨L, hL⟩ := ok.frm
  rw [own]
  refine noted ok hL x hm R fun E₂ s' x₂ R₂ => ?_
  have x₃ := x₂
  unfold cameBackBy
  cases x₂ with
  | @traced oe oT vs ts a0 fl T h1 h2 h3 h4 h5 h6 =>
    refine wpAny_bind (wpAny_field (R₂.inFr (a := e) (o := oe) (by simp)) h2 h3 ?_)
    rw [if_neg (show ¬ (Value.ref T == Value.none) = true from by simp)]
    rw [hL]
    exact flight (some L) x₃ R₂ fun E₃ s₃ x₃ R₃ => ⟨e, C, _, E₃, ρ, st, imm', rfl, x₃, .inr (.inr ⟨L, hL, rfl⟩), i, R₃, hX⟩
theorem Thrown.drop {imm' : Led} {I : Addr} {o : Obj} {ev : Value} (hd : ∀ w, o.data ≠ .cell w) (hi : ∀ p ∈ imm, p ∈ imm') (t : Thrown c f imm' ((I, o) :: fr) X ev s) : Thrown c f imm fr X ev s := by
  obtain ⟨e, C, mk, E, ρ, st, imm'', rfl, x, hm, i, R, hX⟩ := t
  refine ⟨e, C, mk, E, ρ, st, imm'', rfl, x, hm, fun p hp => i p (hi p hp), ?_, hX⟩
  have hR := R
  obtain ⟨⟨h0, tk0, rfl⟩, _⟩ := hR
  have zz := Rel.frEndAt E R (h' := h0) (tk := tk0) (fun _ _ _ e => e) hd
  exact zz
noncomputable abbrev never : Xp := fun _ _ _ => False
end
end Mine
namespace Mine
/-- a def of the text -/
structure FnAt (K : Frag) (a : Addr) (names : List Str) (sc : Scope) (body : List Stmt) : Prop where
  ex : ∃ fo fd, K.lookup a = some fo ∧ fo.data = .func fd ∧ fd.body = .stmts body ∧ fd.scope = sc ∧ fd.globals = mainGlobals ∧ fd.closure = [] ∧ fd.builtins = builtinsNs ∧
    codeIn K fd.code fd.qualname = true ∧ ∀ xs : List Value, xs.length = names.length → bindArgs fd ⟨xs, []⟩ = pure (names.zip xs)
  locB : names.all (storesB sc) = true
  co : sc.isCoroutine = false
  gen : sc.isGenerator = false
  kind : sc.kind = .function
  nodup : names.Nodup

theorem FnAt.loc {K : Frag} {a : Addr} {names : List Str} {sc : Scope} {body : List Stmt} (H : FnAt K a names sc body) : ∀ x ∈ names, storesB sc x = true := List.all_eq_true.mp H.locB
theorem zip_mem {base : Heap} {imm : Led} : ∀ {names : List Str} {vs : List V} {xs : List Value}, RVs base imm vs xs → ∀ {x : Str} {v : V}, getL (names.zip vs) x = some v → ∃ val, (x, val) ∈ names.zip xs ∧ RV base imm v val := by
  intro names
  induction names with
  | nil => intro vs xs _ x v e; simp [getL] at e
  | cons n names ih =>
    intro vs xs r x v e
    cases r with
    | nil => simp [getL] at e
    | cons rv rvs =>
      rw [List.zip_cons_cons, getL_cons] at e
      by_cases h : n = x
      · subst h
        rw [if_pos rfl] at e; cases e
        exact ⟨_, by simp, rv⟩
      · rw [if_neg h] at e
        obtain ⟨val, hm, hv⟩ := ih rvs e
        exact ⟨val, by rw [List.zip_cons_cons]; exact .tail _ hm, hv⟩
theorem zip_keys (ns : List Str) (ys : List Value) : ((ns.zip ys).map (·.1)).Sublist ns := by
  induction ns generalizing ys with
  | nil => simp
  | cons n ns ih => cases ys with
    | nil => simp
    | cons y ys => simpa using ih ys
theorem bindL_other {kd : Str → Option NameKind} {x : Str} : ∀ {b : List (Str × Value)} {m : Str → Option Value}, x ∉ b.map (·.1) → bindL kd b m x = m x
  | [], _, _ => rfl
  | (n, v) :: r, m, h => by
    simp only [List.map_cons, List.mem_cons, not_or] at h
    unfold bindL
    rw [bindL_other h.2]
    split
    · simp [h.1]
    · rfl
theorem bindC_other {kd : Str → Option NameKind} {x : Str} : ∀ {b : List (Str × Value)} {m : Str → Option Value}, x ∉ b.map (·.1) → bindC kd b m x = m x
  | [], _, _ => rfl
  | (n, v) :: r, m, h => by
    simp only [List.map_cons, List.mem_cons, not_or] at h
    unfold bindC
    rw [bindC_other h.2]
    split
    · rfl
    · simp [h.1]
theorem bindL_at {kd : Str → Option NameKind} {x : Str} {val : Value} (hk : kd x = some .local) : ∀ {b : List (Str × Value)} {m : Str → Option Value}, (b.map (·.1)).Nodup → (x, val) ∈ b → bindL kd b m x = some val
  | (n, v) :: r, m, nd, h => by
    simp only [List.map_cons, List.nodup_cons] at nd
    unfold bindL
    rcases List.mem_cons.mp h with h | h
    · cases h
      rw [bindL_other nd.1, if_pos hk]; simp
    · exact bindL_at hk nd.2 h
theorem bindC_at {kd : Str → Option NameKind} {x : Str} {val : Value} (hk : ¬ kd x = some .local) : ∀ {b : List (Str × Value)} {m : Str → Option Value}, (b.map (·.1)).Nodup → (x, val) ∈ b → bindC kd b m x = some val
  | (n, v) :: r, m, nd, h => by
    simp only [List.map_cons, List.nodup_cons] at nd
    unfold bindC
    rcases List.mem_cons.mp h with h | h
    · cases h
      rw [bindC_other nd.1, if_neg hk]; simp
    · exact bindC_at hk nd.2 h
theorem cells_look {x : Str} : ∀ (names : List (Str × NameKind)) (n : Nat) (acc : List (Str × Addr)), ((x, NameKind.cell) ∈ names ∨ (acc.lookup x).isSome = true) → ((cellsFrom n names acc).lookup x).isSome = true
  | [], n, acc, h => by
    rcases h with h | h
    · cases h
    · exact h
  | (y, kd) :: r, n, acc, h => by
    unfold cellsFrom
    split
    · rename_i hk
      refine cells_look r _ _ ?_
      rcases h with h | h
      · rcases List.mem_cons.mp h with h | h
        · cases h; right; simp
        · exact .inl h
      · right
        rw [List.lookup_cons]
        split
        · rfl
        · exact h
    · rename_i hk
      refine cells_look r _ _ ?_
      rcases h with h | h
      · rcases List.mem_cons.mp h with h | h
        · cases h; exact absurd rfl hk
        · exact .inl h
      · exact .inr h

section
variable {c : Cx} {k : Nat} {ρ : Loc} {st : St} {Q : V → St → Prop} {X : Xp} {f : Fm} {imm fr : Led} {s : Shared}

noncomputable def retV : Fl → V
  | .ret v => v
  | _ => .none

/-- the callee's frame -/
noncomputable abbrev Fm.call (f : Fm) (m : Str → Option Value) (L : Addr) (env : Env) : Fm := { outer := f.fenv :: f.outer, frs := (f.L, m) :: f.frs, L := L, fenv := env, env := env, A := f.A.deeper env, cmp := false }

theorem nodup_count {l : List Nat} (h : ∀ a, l.count a ≤ 1) : l.Nodup := List.nodup_iff_count.mpr h

/-- back in the caller's frame -/
theorem back {f' : Fm} {m : Str → Option Value} {ρ' : Loc} {st' : St} {imm' cs : Led} {s' : Shared} {h : Heap} (hf : f'.frs = (f.L, m) :: f.frs) (R : Rel c f' ρ' st' imm' (cs ++ fr) s') (F : Fr c.base f.L h m) (hl : LocR c.base imm f ρ m cs fr) (hi : ∀ p ∈ imm, p ∈ imm') : Rel c f ρ st' imm' fr s' := by
  obtain ⟨hr, m', mt', cs', fo', r⟩ := R
  have fos := r.fos
  rw [hf] at fos
  cases fos with
  | @cons _ _ oL _ fo no fos =>
    have hw := r.news (f.L, oL) (by simp)
    obtain ⟨es, ep, n1, n2, n3⟩ := no
    have nd := List.nodup_iff_count.mp r.nodup
    simp only [List.map_append, List.map_cons, List.count_append, List.count_cons] at nd
    refine ⟨hr, m, mt', cs, fo, ⟨⟨oL, es, ep, hw.1, n1, n2, n3⟩, r.frm.keep, F.above⟩, fun p hp => ?_, nodup_count fun a => ?_, r.sto, fos, hl.mono hi⟩
    · have hp' : p ∈ whole mt' cs' imm' (cs ++ fr) ((f.L, oL) :: fo) := by
        simp only [List.mem_append, List.mem_cons] at hp ⊢
        rcases hp with hp | hp | hp | hp | hp
        · exact .inl hp
        · exact .inr (.inr (.inr (.inl (.inl hp))))
        · exact .inr (.inr (.inl hp))
        · exact .inr (.inr (.inr (.inl (.inr hp))))
        · exact .inr (.inr (.inr (.inr (.inr hp))))
      refine ⟨(r.news p hp').1, fun e => ?_, (r.news p hp').2.2⟩
      have q := nd f.L
      simp only [beq_self_eq_true, if_true] at q
      have hin : p.1 ∈ (mt' ++ (cs ++ (imm' ++ (fr ++ fo)))).map (·.1) := List.mem_map_of_mem hp
      rw [e] at hin
      have := List.count_pos_iff.mpr hin
      simp only [List.map_append, List.count_append] at this
      omega
    · have q := nd a
      simp only [List.map_append, List.count_append]
      omega

/-- a frame begins -/
theorem enterAt {a : Addr} {names : List Str} {sc : Scope} {body : List Stmt} {vs : List V} {xs : List Value} {fd : FuncData} {s s₁ : Shared} {f : Fm} {mt fo : Led} (H : FnAt c.K a names sc body) (hsc : fd.scope = sc) (hcl : fd.closure = []) (rvs : RVs c.base imm vs xs)
    (hs : ∃ h tk, s = { c.s₀ with heap := h, toks := tk }) (hkeep : ∀ b o, c.base.get? b = some o → s.heap.get? b = some o) (hbase : c.base.objs.size ≤ s.heap.objs.size) (N : ∀ p ∈ whole mt [] imm fr fo, s.heap.get? p.1 = some p.2 ∧ c.base.get? p.1 = none) (nd : ((whole mt [] imm fr fo).map (·.1)).Nodup)
    (hst : StR c imm st mt) (hfo : FoR f.frs fo) (hL : f.L = s.heap.objs.size) (he : f.env = callEnvC fd s.heap.objs.size a)
    (x : InCallC s (callEnvC fd s.heap.objs.size a).locals (bindL (callEnvC fd s.heap.objs.size a).kindOf (names.zip xs) fun _ => none) (callEnvC fd s.heap.objs.size a).cells (bindC (callEnvC fd s.heap.objs.size a).kindOf (names.zip xs) fun _ => none) s₁) :
    Rel c f (names.zip vs) st imm fr s₁ := by
  obtain ⟨h0, tk0, rfl⟩ := hs
  obtain ⟨h₁, tk₁, rfl, hk₁⟩ := x.done
  have hloc : (callEnvC fd h0.objs.size a).locals = h0.objs.size := rfl
  have ns := x.toInCall.ns
  have above := x.above
  have apart := x.apart
  have cell := x.cell
  generalize hcells : (callEnvC fd h0.objs.size a).cells = cells at above apart cell
  have hfc : f.env.cells = cells := by rw [he]; exact hcells
  dsimp only at cell hk₁ ns N hkeep hL hbase
  have hobj : ∀ n cc, cells.lookup n = some cc → h₁.get? cc = some ((h₁.get? cc).getD default) ∧ ((h₁.get? cc).getD default).data = .cell (bindC (callEnvC fd h0.objs.size a).kindOf (names.zip xs) (fun _ => none) n) := fun n cc hn => by
    obtain ⟨o, ho, hd⟩ := cell n cc hn
    rw [ho]; exact ⟨rfl, hd⟩
  let cs : Led := (cells.filter fun p => decide (cells.lookup p.1 = some p.2)).map fun p => (p.2, (h₁.get? p.2).getD default)
  have hcs : ∀ p ∈ cs, ∃ n, cells.lookup n = some p.1 ∧ p.2 = (h₁.get? p.1).getD default := fun p hp => by
    obtain ⟨q, hq, rfl⟩ := List.mem_map.mp hp
    have := (List.mem_filter.mp hq).2
    exact ⟨q.1, by simpa using this, rfl⟩
  have hin : ∀ n cc, cells.lookup n = some cc → (cc, (h₁.get? cc).getD default) ∈ cs := fun n cc hn =>
    List.mem_map.mpr ⟨(n, cc), List.mem_filter.mpr ⟨mem_of_lookup hn, by simpa using hn⟩, rfl⟩
  have hcnd : (cs.map (·.1)).Nodup := by
    show ((((cells.filter fun p => decide (cells.lookup p.1 = some p.2)).map fun p => (p.2, (h₁.get? p.2).getD default))).map (·.1)).Nodup
    rw [List.map_map]
    exact List.pairwise_map.mpr (apart.filter _)
  have hab : ∀ p ∈ cs, h0.objs.size < p.1 := fun p hp => by
    obtain ⟨n, hn, _⟩ := hcs p hp
    have := above n p.1 (mem_of_lookup hn)
    rw [hloc] at this; exact this
  have hlt : ∀ p ∈ whole mt [] imm fr fo, p.1 < h0.objs.size := fun p hp => Heap.lt_size (N p hp).1
  have hzn : ((names.zip xs).map (·.1)).Nodup := H.nodup.sublist (zip_keys names xs)
  refine ⟨⟨h₁, tk₁, rfl⟩, _, mt, cs, fo, ⟨hL ▸ hloc ▸ ns, fun b o e => hk₁ b o (hkeep b o e), hL ▸ hbase⟩, fun p hp => ?_, nodup_count fun b => ?_, hst, hfo, ⟨fun y v e => ?_, fun _ y cc e => ?_, fun _ y z cc e e' => ?_⟩⟩
  · have hp' : p ∈ cs ∨ p ∈ whole mt [] imm fr fo := by
      simp only [List.mem_append, List.nil_append, List.not_mem_nil, false_or] at hp ⊢
      rcases hp with hp | hp | hp | hp | hp
      · exact .inr (.inl hp)
      · exact .inl hp
      · exact .inr (.inr (.inl hp))
      · exact .inr (.inr (.inr (.inl hp)))
      · exact .inr (.inr (.inr (.inr hp)))
    rcases hp' with hp' | hp'
    · obtain ⟨n, hn, e⟩ := hcs p hp'
      have z := hab p hp'
      exact ⟨e ▸ (hobj n p.1 hn).1, by rw [hL]; exact Nat.ne_of_gt z, Heap.get?_none_of_le (Nat.le_trans hbase (Nat.le_of_lt z))⟩
    · exact ⟨hk₁ _ _ (N p hp').1, by rw [hL]; exact Nat.ne_of_lt (hlt p hp'), (N p hp').2⟩
  · have z := List.nodup_iff_count.mp nd b
    have z' := List.nodup_iff_count.mp hcnd b
    have z2 : (cs.map (·.1)).count b = 0 ∨ ((whole mt [] imm fr fo).map (·.1)).count b = 0 := by
      by_cases q : h0.objs.size < b
      · right
        refine List.count_eq_zero.mpr fun hm => ?_
        obtain ⟨p, hp, e⟩ := List.mem_map.mp hm
        have := hlt p hp
        have e2 : p.1 = b := e
        rw [e2] at this
        exact Nat.lt_asymm q this
      · left
        refine List.count_eq_zero.mpr fun hm => ?_
        obtain ⟨p, hp, e⟩ := List.mem_map.mp hm
        have := hab p hp
        have e2 : p.1 = b := e
        rw [e2] at this
        exact q this
    simp only [List.map_append, List.count_append, List.map_nil, List.count_nil] at z z2 ⊢
    omega
  · obtain ⟨val, h1, h2⟩ := zip_mem rvs e
    have hy : y ∈ names := (List.of_mem_zip h1).1
    have hk := H.loc y hy
    unfold storesB at hk
    refine ⟨val, h2, ?_⟩
    cases hkd : sc.names.lookup y with
    | none => rw [hkd] at hk; cases hk
    | some kd =>
      have hkind : f.env.kindOf y = some kd := by rw [he]; show fd.scope.names.lookup y = _; rw [hsc]; exact hkd
      have hkind' : (callEnvC fd h0.objs.size a).kindOf y = some kd := he ▸ hkind
      rw [hkd] at hk
      by_cases hl : kd = .local
      · subst hl
        refine .inl ⟨hkind, ?_, bindL_at hkind' hzn h1⟩
        rw [he, hL]; rfl
      · have hce : kd = .cell := by cases kd <;> first | rfl | (cases hk; done) | exact absurd rfl hl
        subst hce
        have hlk := cells_look (x := y) fd.scope.names (h0.objs.size + 1) [] (.inl (mem_of_lookup (by rw [hsc]; exact hkd)))
        obtain ⟨cc, hcc⟩ := Option.isSome_iff_exists.mp hlk
        have hcc' : cells.lookup y = some cc := hcells ▸ hcc
        refine .inr ⟨.inl hkind, cc, _, hfc ▸ hcc', List.mem_append_left _ (hin y cc hcc'), ?_⟩
        rw [(hobj y cc hcc').2, bindC_at (by rw [hkind']; decide) hzn h1]
  · rw [hfc] at e
    exact ⟨_, _, hin y cc e, (hobj y cc e).2⟩
  · rw [hfc] at e e'
    exact name_of_addr apart (mem_of_lookup e) (mem_of_lookup e')

theorem envs_call {m : Str → Option Value} {L : Addr} {env : Env} (hk : env.scope.kind = .function) (hf : env.frame = some L) (h : ∀ e ∈ f.fenv :: f.outer, EnvOk f e) : ∀ e ∈ (f.call m L env).fenv :: (f.call m L env).outer, EnvOk (f.call m L env) e := by
  intro e he
  rcases List.mem_cons.mp he with rfl | he
  · exact ⟨hk, L, hf, .inl rfl⟩
  · obtain ⟨h1, L', h2, h3⟩ := h e he
    refine ⟨h1, L', h2, .inr ?_⟩
    rcases h3 with rfl | ⟨m', h3⟩
    · exact ⟨m, .head _⟩
    · exact ⟨m', .tail _ h3⟩
theorem CodeW.fn {a : Addr} {names : List Str} {sc : Scope} {body : List Stmt} {vs : List V} (H : FnAt c.K a names sc body) (hn : vs.length = names.length)
    (h : WPS c k sc (names.zip vs) st body (fun fl ρ' st' => Q (retV fl) st') (fun C _ st' => X C ρ st')) (ok : f.Ok c (k + 1)) (R : Rel c f ρ st imm fr s) {xs : List Value} (rvs : RVs c.base imm vs xs) :
    codeAny c.M f.A (.call (.ref a) ⟨xs, []⟩) (fun r s' => match r with | .ok (.ret v) => PostE c f ρ imm fr Q v s' | .ok _ => False | .error e => Thrown c f imm fr X e s') s := by
  obtain ⟨fo, fd, hK, hd, hb, hsc, hg, hcl, hbi, hcd, hbind⟩ := H.ex
  have hx : xs.length = names.length := rvs.length.trans hn
  have kin := R.kin ok
  obtain ⟨hs, m, mt, cs, fo, r⟩ := R
  have hzip : ∀ y ∈ names.zip xs, fd.scope.names.lookup y.1 = some .local ∨ (fd.scope.names.lookup y.1 = some .cell ∧ ((cellsFrom (s.heap.objs.size + 1) fd.scope.names []).lookup y.1).isSome = true) := fun y hy => by
    have := H.loc _ (List.of_mem_zip hy).1
    unfold storesB at this
    rw [hsc]
    cases hkd : sc.names.lookup y.1 with
    | none => rw [hkd] at this; cases this
    | some kd =>
      rw [hkd] at this
      cases kd <;> first | (cases this; done) | exact .inl rfl | exact .inr ⟨rfl, cells_look _ _ _ (.inl (mem_of_lookup hkd))⟩
  refine (codeAny_call_cells (binds := names.zip xs) (by have := ok.depth; omega) (kin _ _ hK) hd (ok.top.nolimit.keeps r.frm.keep) (codeRec_of kin hcd) hb (hbind xs hx) hcl hzip (fun s₁ x => ?_) (hsc ▸ H.co) (hsc ▸ H.gen) (hsc ▸ H.kind))
  obtain ⟨oL, es, ep, hL, hLd, hLk, hLf⟩ := r.frm.ns
  have hkd : fd.scope.kind = .function := hsc ▸ H.kind
  have ok' : (f.call m s.heap.objs.size (callEnvC fd s.heap.objs.size a)).Ok c k := by
    refine ⟨ok.kin, ok.top, envs_call hkd rfl ok.envs, Around.frames_deeper ok.frames, rfl, hkd, hg, hbi, fun x hx => ?_, ok.hnd, ?_, ?_⟩
    · exact Option.isSome_iff_exists.mp (cells_look _ _ _ (.inl (mem_of_lookup hx)))
    · show f.A.depth + 1 + k + 200 < _; have := ok.depth; omega
    · show f.A.units + 3 + 8 * k + 200 < _; have := ok.units; omega
  have R' : Rel c (f.call m s.heap.objs.size (callEnvC fd s.heap.objs.size a)) (names.zip vs) st imm (cs ++ fr) s₁ := by
    refine enterAt (fo := (f.L, oL) :: fo) H hsc hcl rvs hs r.frm.keep (Nat.le_trans r.frm.above (Nat.le_of_lt r.frm.ns.lt)) (fun p hp => ?_) (nodup_count fun b => ?_) r.sto (.cons ⟨es, ep, hLd, hLk, hLf⟩ r.fos) rfl rfl x
    · have hp' : p = (f.L, oL) ∨ p ∈ whole mt cs imm fr fo := by
        simp only [List.mem_append, List.mem_cons, List.nil_append, List.not_mem_nil, false_or] at hp ⊢
        rcases hp with hp | hp | (hp | hp) | hp | hp
        · exact .inr (.inl hp)
        · exact .inr (.inr (.inr (.inl hp)))
        · exact .inr (.inr (.inl hp))
        · exact .inr (.inr (.inr (.inr (.inl hp))))
        · exact .inl hp
        · exact .inr (.inr (.inr (.inr (.inr hp))))
      rcases hp' with rfl | hp'
      · exact ⟨hL, Heap.get?_none_of_le r.frm.above⟩
      · exact ⟨(r.news p hp').1, (r.news p hp').2.2⟩
    · have nd := List.nodup_iff_count.mp r.nodup b
      simp only [List.map_append, List.map_cons, List.count_append, List.count_cons, List.map_nil, List.count_nil] at nd ⊢
      by_cases e : f.L = b
      · subst e
        have : (List.map (fun x => x.fst) (whole mt cs imm fr fo)).count f.L = 0 := List.count_eq_zero.mpr fun hm => by
          obtain ⟨p, hp, e⟩ := List.mem_map.mp hm
          exact (r.news p hp).2.1 e
        simp only [List.map_append, List.count_append] at this
        simp only [beq_self_eq_true, if_true]
        omega
      · have : (f.L == b) = false := by simpa using e
        simp only [this]
        simp only [Bool.false_eq_true, if_false]
        omega
  refine wpAny_mono (h.go _ imm (cs ++ fr) _ ok' hsc ⟨rfl, rfl, rfl⟩ R') (fun fl s' p => ?_) fun ev s' t => ?_
  rotate_left
  · obtain ⟨e, C, mk, E, ρ', st', imm', rfl, x, hm, i', R'', hX⟩ := t
    refine leaves ok' rfl x hm R'' fun E₂ s₂ x₂ R₂ => ?_
    have pm : (E₂ ++ (cs ++ fr)).Perm (cs ++ (E₂ ++ fr)) := by
      rw [← List.append_assoc, ← List.append_assoc]
      exact List.Perm.append_right _ List.perm_append_comm
    exact ⟨e, C, some .none, E₂, ρ, st', imm', rfl, x₂, .inr (.inl rfl), i', back rfl (R₂.permFr pm) r.frm r.loc.app i', hX⟩
  obtain ⟨fl', ρ', st', imm', i', rf, R'', h'⟩ := p
  have B := back rfl R'' r.frm r.loc i'
  cases rf with
  | ret rv => exact ⟨_, st', imm', i', rv, B, h'⟩
  | next => exact ⟨.none, st', imm', i', .none, B, h'⟩
  | brk => exact ⟨.none, st', imm', i', .none, B, h'⟩
  | cont => exact ⟨.none, st', imm', i', .none, B, h'⟩

theorem CallW.fn {a : Addr} {names : List Str} {sc : Scope} {body : List Stmt} {vs : List V} (H : FnAt c.K a names sc body) (hn : vs.length = names.length)
    (h : WPS c k sc (names.zip vs) st body (fun fl ρ' st' => Q (retV fl) st') (fun C _ st' => X C ρ st')) : WL c (k + 1) (fun xs => call (.ref a) xs) vs ρ st Q X :=
  ⟨fun f imm fr s xs ok R rvs => wpAny_call (CodeW.fn H hn h ok R rvs)⟩

/-- the law itself is called -/
theorem enterLaw {a l : Addr} {name : Str} {sc : Scope} {body : List Stmt} {vals : List Value} {ns : List Int} {s : Shared} {Rr : Result → Shared → Prop} (H : FnAt c.K a [name] sc body) (hs : c.s₀ = s) (hb : c.base = s.heap) (kin : c.K.In c.base) (top : Top c.p c.loose c.mean c.mg c.mb c.base)
    (hk : 301 + k + 201 < 1000) (hl : c.base.IsList l vals.toArray) (hn : IntsAre vals ns)
    (h : WPS c k sc [(name, .scr ns)] [] body (fun fl _ _ => retV fl = .bool true) (fun _ _ _ => False))
    (hR : ∀ L m h' tk, Fr s.heap L h' m → Rr (.ok (.ret (.bool true))) { s with heap := h', toks := tk }) : codeAny c.M callerA (.call (.ref a) ⟨[.ref l], []⟩) Rr s := by
  subst hs
  obtain ⟨fo, fd, hK, hd, hbd, hsc, hg, hcl, hbi, hcd, hbind⟩ := H.ex
  rw [hb] at kin
  have hbase := hb
  have hzip : ∀ y ∈ [name].zip [Value.ref l], fd.scope.names.lookup y.1 = some .local ∨ (fd.scope.names.lookup y.1 = some .cell ∧ ((cellsFrom (c.s₀.heap.objs.size + 1) fd.scope.names []).lookup y.1).isSome = true) := fun y hy => by
    have := H.loc _ (List.of_mem_zip hy).1
    unfold storesB at this
    rw [hsc]
    cases hkd : sc.names.lookup y.1 with
    | none => rw [hkd] at this; cases this
    | some kd =>
      rw [hkd] at this
      cases kd <;> first | (cases this; done) | exact .inl rfl | exact .inr ⟨rfl, cells_look _ _ _ (.inl (mem_of_lookup hkd))⟩
  refine codeAny_call_cells (binds := [name].zip [Value.ref l]) (by decide) (kin _ _ hK) hd (hb ▸ top.nolimit) (codeRec_of kin hcd) hbd (hbind [.ref l] rfl) hcl hzip (fun s₁ x => ?_) (hsc ▸ H.co) (hsc ▸ H.gen) (hsc ▸ H.kind)
  let f : Fm := { outer := [], frs := [], L := c.s₀.heap.objs.size, fenv := callEnvC fd c.s₀.heap.objs.size a, env := callEnvC fd c.s₀.heap.objs.size a, A := callerA.deeper (callEnvC fd c.s₀.heap.objs.size a), cmp := false }
  have hkd : fd.scope.kind = .function := hsc ▸ H.kind
  have ok' : f.Ok c k := by
    refine ⟨hb ▸ kin, top, (fun e he => by rw [List.mem_singleton.mp he]; exact ⟨hkd, _, rfl, .inl rfl⟩), rfl, rfl, hkd, hg, hbi, fun x hx => ?_, fun _ => rfl, ?_, ?_⟩
    · exact Option.isSome_iff_exists.mp (cells_look _ _ _ (.inl (mem_of_lookup hx)))
    · show 1 + claimMargin + 1 + k + 200 < recursionLimit
      unfold claimMargin recursionLimit; omega
    · show 4 + 3 + 8 * k + 200 < cLine
      unfold cLine; omega
  have R' : Rel c f ([name].zip [V.scr ns]) [] [] [] s₁ :=
    enterAt (mt := []) (fo := []) H hsc hcl (.one (.scr hl hn)) ⟨_, _, rfl⟩ (fun b o e => hb ▸ e) (by rw [hb]; exact Nat.le_refl _) (fun p hp => nomatch hp) .nil .nil .nil rfl rfl x
  refine wpAny_mono (h.go f [] [] s₁ ok' hsc ⟨rfl, rfl, rfl⟩ R') (fun fl s' p => ?_) fun _ _ t => t.never.elim
  obtain ⟨fl', ρ', st', imm', i', rf, R'', h'⟩ := p
  obtain ⟨⟨h1, tk1, rfl⟩, m, mt, cs, fo, r⟩ := R''
  have F : Fr c.s₀.heap c.s₀.heap.objs.size h1 m := by
    have := r.frm
    rw [hb] at this
    exact this
  cases rf with
  | ret rv =>
    cases h'
    cases rv
    exact hR _ _ _ _ F
  | next => cases h'
  | brk => cases h'
  | cont => cases h'
end
end Mine
namespace Mine
section
variable {c : Cx} {k : Nat} {sc : Scope} {ρ : Loc} {st : St} {Q : V → St → Prop} {S : Fl → Loc → St → Prop} {X : Xp} {f : Fm} {imm fr : Led} {s : Shared} {tk : Nat}

/-! calls -/
noncomputable def isStar : Expr → Bool
  | .Starred _ _ => true
  | _ => false
theorem star_cons {e : Expr} {es : List Expr} {env : Env} (h : isStar e = false) : starEach (e :: es) env = (false, eval e env) :: starEach es env := by
  cases e <;> first | rfl | (cases h)
theorem star_plain {es : List Expr} {env : Env} {pos : Pos} (h : es.any isStar = false) : (backTo pos (starEach es env)).any (·.1) = false := by
  induction es with
  | nil => rfl
  | cons e es ih =>
    simp only [List.any_cons, Bool.or_eq_false_iff] at h
    rw [star_cons h.1]
    have := ih h.2
    simp only [backTo, List.map_cons, List.any_cons, Bool.false_or] at this ⊢
    exact this

noncomputable def callable (K : Frag) : Value → Bool
  | .builtin _ => true
  | .type _ => true
  | .ref a => keepIn K (.ref a)
  | _ => false

theorem callWithW {val : Value} {args : List Expr} {first : List Value} {vs₀ : List V} {pos : Pos} (hc : callable c.K val = true) (hp : args.any isStar = false) (ok : f.Ok c k) (hsc : f.env.scope = sc) (R : Rel c f ρ st imm fr s) (rf : RVs c.base imm vs₀ first)
    (hf0 : first = [] ∨ (∀ T, val ≠ .type T))
    (h : WPEs c k sc ρ st args (fun vs st₂ => WL c k (fun xs => call val xs) (vs₀ ++ vs) ρ st₂ Q X) X) :
    wpAny c.M f.A (callWith pos val first (backTo pos (starEach args f.env)) []) (PostE c f ρ imm fr Q) (Thrown c f imm fr X) s := by
  have K : ∀ xs s₁, PostL c f ρ imm fr args.length (fun vs st₂ => WL c k (fun xs => call val xs) (vs₀ ++ vs) ρ st₂ Q X) xs s₁ → wpAny c.M f.A (call val (first ++ xs)) (PostE c f ρ imm fr Q) (Thrown c f imm fr X) s₁ := by
    rintro xs s₁ ⟨vs, st₁, imm₁, i₁, rvs, R₁, hn, h₁⟩
    exact wpAny_mono (h₁.go f imm₁ fr s₁ (first ++ xs) ok R₁ ((rf.mono i₁).append rvs)) (fun _ _ p => p.mono i₁) fun _ _ t => t.mono i₁
  have H := h.go f imm fr s pos ok hsc R
  cases args with
  | nil =>
    have KK : wpAny c.M f.A (call val (first ++ [])) (PostE c f ρ imm fr Q) (Thrown c f imm fr X) s := by
      have e : wpAny c.M f.A (spliced (backTo pos (starEach [] f.env))) (fun xs s₁ => wpAny c.M f.A (call val (first ++ xs)) (PostE c f ρ imm fr Q) (Thrown c f imm fr X) s₁) (Thrown c f imm fr X) s :=
        wpAny_mono H (fun xs s₁ p => K xs s₁ p) fun _ _ t => t
      exact fun Γ p hΓ => e Γ p hΓ Γ p hΓ
    cases val <;> first | (cases hc; done) | skip
    · rename_i T
      rcases hf0 with rfl | hf0
      · exact callWith_type0 KK
      · exact absurd rfl (hf0 T)
    · exact callWith_method0 (by simpa using KK)
    · exact callWith_K0 (R.kin ok) hc KK
  | cons e es =>
    simp only [List.any_cons, Bool.or_eq_false_iff] at hp
    cases val <;> first | (cases hc; done) | skip
    · rename_i T
      rcases hf0 with rfl | hf0
      · exact callWith_type1 (wpAny_mono H (fun xs s₁ p => by simpa using K xs s₁ p) fun _ _ t => t) (star_cons hp.1) (star_plain hp.2)
      · exact absurd rfl (hf0 T)
    · exact callWith_method1 (wpAny_mono H (fun xs s₁ p => K xs s₁ p) fun _ _ t => t) (star_cons hp.1) (star_plain hp.2)
    · refine callWith_K ok.kin hc (wpAny_mono H (fun xs s₁ p => ⟨?_, K xs s₁ p⟩) fun _ _ t => t) (star_cons hp.1) (star_plain hp.2)
      obtain ⟨vs, st₁, imm₁, i₁, rvs, R₁, hn, h₁⟩ := p
      exact R₁.kin ok

theorem WPE.call {id : Str} {p pos : Pos} {args : List Expr}
    (h : WPE c k sc ρ st (.Name id p) (fun fv st₁ => ∃ val, fv = .stat val ∧ callable c.K val = true ∧ WPEs c k sc ρ st₁ args (fun vs st₂ => WL c k (fun xs => call val xs) vs ρ st₂ Q X) X) X)
    (hp : args.any isStar = false := by rfl) : WPE c k sc ρ st (.Call (.Name id p) args [] pos) Q X := by
  refine ⟨fun f imm fr s ok hsc R => ?_⟩
  refine wpAny_Call_NameR (wpAny_mono (h.go f imm fr s ok hsc R) (fun x s₁ q => ?_) fun _ _ t => t)
  obtain ⟨v, st₁, imm₁, i₁, rv, R₁, val, rfl, hc, h₁⟩ := q
  cases rv
  exact wpAny_mono (callWithW (vs₀ := []) hc hp ok hsc R₁ .nil (.inl rfl) h₁) (fun _ _ p => p.mono i₁) fun _ _ t => t.mono i₁

/-! isinstance of the plain types -/
noncomputable def typV (st : St) : V → Option String
  | .none => some "NoneType"
  | .bool _ => some "bool"
  | .int _ => some "int"
  | .str _ => some "str"
  | .tup _ => some "tuple"
  | .scr _ => some "list"
  | .ref a => match get st a with
    | some (.list _) => some "list"
    | some (.dictI _) => some "dict"
    | some (.dictS _) => some "dict"
    | _ => none
  | _ => none
noncomputable def isi (T U : String) : Bool := T == U || (T == "bool" && U == "int")

theorem typV_ref {a : Addr} {T : String} (R : Rel c f ρ st imm fr s) (ht : typV st (.ref a) = some T) : (T = "list" ∨ T = "dict") ∧ ∃ o, s.heap.get? a = some o ∧ o.cls = .type T := by
  simp only [typV] at ht
  cases hg : get st a with
  | none => rw [hg] at ht; cases ht
  | some o =>
    rw [hg] at ht
    obtain ⟨co, hr, ho⟩ := R.get hg
    cases hr with
    | list r => cases ht; exact ⟨.inl rfl, _, ho, rfl⟩
    | dictI r d => cases ht; exact ⟨.inr rfl, _, ho, d.1.1⟩
    | dictS r d => cases ht; exact ⟨.inr rfl, _, ho, d.1.1⟩
    | inst C d => cases ht
    | exc _ _ => cases ht
    | attr _ => cases ht
    | any _ => cases ht

noncomputable def isiTypes : List String := ["int", "bool", "str", "tuple", "list"]
open IsiPair in
theorem WL.isinstance {v : V} {T U : String} (ht : typV st v = some T) (hu : isiTypes.contains U = true) (h : Q (.bool (isi T U)) st) : WL c k (fun xs => call (.builtin "isinstance") xs) [v, .stat (.type U)] ρ st Q X := by
  refine ⟨fun f imm fr s xs ok R rvs => ?_⟩
  cases rvs with
  | cons rv rvs =>
  cases rvs with
  | cons ru rvs =>
  cases rvs
  cases ru
  have P : ∀ b, isi T U = b → PostE c f ρ imm fr Q (.bool b) s := fun b e => .bool R (e ▸ h)
  have P' : ∀ b tk, isi T U = b → PostE c f ρ imm fr Q (.bool b) { s with toks := tk } := fun b tk e => .bool R.toks (e ▸ h)
  have hu' : U = "int" ∨ U = "bool" ∨ U = "str" ∨ U = "tuple" ∨ U = "list" := by
    simpa [isiTypes] using hu
  cases rv with
  | none => cases ht; rcases hu' with rfl | rfl | rfl | rfl | rfl <;> first | exact NoneType_int (P' _ _ rfl) | exact NoneType_bool (P' _ _ rfl) | exact NoneType_str (P' _ _ rfl) | exact NoneType_tuple (P' _ _ rfl) | exact NoneType_list (P' _ _ rfl)
  | bool b => cases ht; rcases hu' with rfl | rfl | rfl | rfl | rfl <;> first | exact bool_int (P _ rfl) | exact bool_bool (P _ rfl) | exact bool_str (P' _ _ rfl) | exact bool_tuple (P' _ _ rfl) | exact bool_list (P' _ _ rfl)
  | int i t => cases ht; rcases hu' with rfl | rfl | rfl | rfl | rfl <;> first | exact int_int (P _ rfl) | exact int_bool (P' _ _ rfl) | exact int_str (P' _ _ rfl) | exact int_tuple (P' _ _ rfl) | exact int_list (P' _ _ rfl)
  | str x t => cases ht; rcases hu' with rfl | rfl | rfl | rfl | rfl <;> first | exact str_int (P' _ _ rfl) | exact str_bool (P' _ _ rfl) | exact str_str (P _ rfl) | exact str_tuple (P' _ _ rfl) | exact str_list (P' _ _ rfl)
  | tup hm r =>
    cases ht
    have hg := R.inImm hm
    rcases hu' with rfl | rfl | rfl | rfl | rfl <;> first | exact tuple_int hg rfl (P' _ _ rfl) | exact tuple_bool hg rfl (P' _ _ rfl) | exact tuple_str hg rfl (P' _ _ rfl) | exact tuple_tuple hg rfl (P _ rfl) | exact tuple_list hg rfl (P' _ _ rfl)
  | scr hl hi =>
    cases ht
    obtain ⟨o, ho, hc, n, hd⟩ := hl
    have hg := R.keep _ _ ho
    rcases hu' with rfl | rfl | rfl | rfl | rfl <;> first | exact list_int hg hc (P' _ _ rfl) | exact list_bool hg hc (P' _ _ rfl) | exact list_str hg hc (P' _ _ rfl) | exact list_tuple hg hc (P' _ _ rfl) | exact list_list hg hc (P _ rfl)
  | ref a =>
    obtain ⟨hT, o, hg, hc⟩ := typV_ref R ht
    rcases hT with rfl | rfl
    · rcases hu' with rfl | rfl | rfl | rfl | rfl <;> first | exact list_int hg hc (P' _ _ rfl) | exact list_bool hg hc (P' _ _ rfl) | exact list_str hg hc (P' _ _ rfl) | exact list_tuple hg hc (P' _ _ rfl) | exact list_list hg hc (P _ rfl)
    · rcases hu' with rfl | rfl | rfl | rfl | rfl <;> first | exact dict_int hg hc (P' _ _ rfl) | exact dict_bool hg hc (P' _ _ rfl) | exact dict_str hg hc (P' _ _ rfl) | exact dict_tuple hg hc (P' _ _ rfl) | exact dict_list hg hc (P' _ _ rfl)
  | rng _ => cases ht
  | stat _ => cases ht

/-! len -/
theorem WL.lenTup {vs : List V} (hl : (vs.length : Int) < 2 ^ 63) (h : Q (.int vs.length) st) : WL c k (fun xs => call (.builtin "len") xs) [.tup vs] ρ st Q X := by
  refine ⟨fun f imm fr s xs ok R rvs => ?_⟩
  obtain ⟨_, rfl, rv⟩ := rvs.inv1
  obtain ⟨_, _, _, rfl, hm, r⟩ := rv.tupI
  · have e := r.length
    refine PyProof.Rows.len_tuple (items := _) ⟨_, R.inImm hm, rfl, _, rfl⟩ (by simpa [e] using hl) ?_
    simp only [List.size_toArray, e]
    exact .int R h
theorem WL.lenList {a : Addr} {vs : List V} (hg : get st a = some (.list vs)) (hl : (vs.length : Int) < 2 ^ 63) (h : Q (.int vs.length) st) : WL c k (fun xs => call (.builtin "len") xs) [.ref a] ρ st Q X := by
  refine ⟨fun f imm fr s xs ok R rvs => ?_⟩
  obtain ⟨_, rfl, rv⟩ := rvs.inv1
  obtain rfl := rv.refI
  obtain ⟨_, _, r, ho⟩ := R.isList hg
  · · have e := r.length
      refine PyProof.Rows.len_list (items := _) ⟨_, ho, rfl, _, rfl⟩ (by simpa [e] using hl) ?_
      simp only [List.size_toArray, e]
      exact .int R h
theorem WL.lenScr {ns : List Int} (hl : (ns.length : Int) < 2 ^ 63) (h : Q (.int ns.length) st) : WL c k (fun xs => call (.builtin "len") xs) [.scr ns] ρ st Q X := by
  refine ⟨fun f imm fr s xs ok R rvs => ?_⟩
  obtain ⟨_, rfl, rv⟩ := rvs.inv1
  obtain ⟨_, _, rfl, hi, hn⟩ := rv.scrI
  · have e := hn.length
    refine PyProof.Rows.len_list (items := _) (hi.at fun o e => R.keep _ _ e) (by simpa [e] using hl) ?_
    simp only [List.size_toArray, e]
    exact .int R h
end
end Mine
namespace Mine
section
variable {c : Cx} {k : Nat} {sc : Scope} {ρ : Loc} {st : St} {Q : V → St → Prop} {S : Fl → Loc → St → Prop} {X : Xp} {f : Fm} {imm fr : Led} {s : Shared} {tk : Nat}

/-! subscripts -/
noncomputable def isSl : Expr → Bool
  | .Slice .. => true
  | _ => false
theorem sub_plain {e : Expr} (h : isSl e = false) (o i : Value) : subscripted e false o i = operate [o, i] (getItem o i) := by
  cases e <;> first | rfl | (cases h)
theorem WPE.sub {e i : Expr} {pos : Pos} (h : WPE c k sc ρ st e (fun a st₁ => WPE c k sc ρ st₁ i (fun b st₂ => W2 c k (subscriptTail e i) a b ρ st₂ Q X) X) X) : WPE c k sc ρ st (.Subscript e i pos) Q X := by
  refine ⟨fun f imm fr s ok hsc R => ?_⟩
  refine Subscript_ (wpAny_mono (h.go f imm fr s ok hsc R) (fun x s₁ p => ?_) fun _ _ t => t)
  obtain ⟨a, st₁, imm₁, i₁, ra, R₁, h₁⟩ := p
  refine wpAny_mono (h₁.go f imm₁ fr s₁ ok hsc R₁) (fun y s₂ p => ?_) fun _ _ t => t.mono i₁
  obtain ⟨b, st₂, imm₂, i₂, rb, R₂, h₂⟩ := p
  exact wpAny_mono (h₂.go f imm₂ fr s₂ x y ok R₂ (ra.mono i₂) rb) (fun _ _ p => p.mono fun q hq => i₂ q (i₁ q hq)) fun _ _ t => t.mono fun q hq => i₂ q (i₁ q hq)

theorem seqIndex_lt {i : Int} {n j : Nat} (h : seqIndex? i n = some j) : -(n : Int) ≤ i ∧ i < n ∧ j < n ∧ (0 ≤ i → j = i.toNat) ∧ (i < 0 → j = (i + n).toNat) := by
  unfold seqIndex? at h
  simp at h
  split at h <;> omega

theorem W2.subTup {e ie : Expr} {vs : List V} {i : Int} {j : Nat} {v : V} (hs : isSl ie = false) (hl : (vs.length : Int) < 2 ^ 63) (hj : seqIndex? i vs.length = some j) (hv : vs[j]? = some v) (h : Q v st) : W2 c k (subscriptTail e ie) (.tup vs) (.int i) ρ st Q X := by
  refine ⟨fun f imm fr s x y ok R ra rb => ?_⟩
  obtain ⟨_, rfl⟩ := rb.intI
  obtain ⟨_, _, _, rfl, hm, r⟩ := ra.tupI
  · obtain ⟨x, hx, rx⟩ := r.get hv
    have q := seqIndex_lt hj
    exact item_tupleT ⟨_, R.inImm hm, rfl, _, rfl⟩ (by omega) (by omega) (by rw [r.length]; exact hj) hx (.of rx R h) (sub_plain hs _ _)
theorem getItem_listJ {prog : Program} {w : World} {A : Around} {E : Value → Shared → Prop} {P : Value → Shared → Prop} {a : Addr} {items : Array Value} {i : Int} {t : Tok} {j : Nat} {x : Value} (hl : s.heap.IsList a items) (hb : (items.size : Int) < 2 ^ 63) (hj : seqIndex? i items.size = some j) (hx : items[j]? = some x) (h : P x s) :
    wpAny (model prog w) A (getItem (.ref a) (.int i t)) P E s := by
  have q := seqIndex_lt hj
  by_cases h0 : 0 ≤ i
  · exact wpAny_getItem_list hl h0 (by omega) (by rw [← q.2.2.2.1 h0]; exact hx) h
  · exact wpAny_getItem_list_neg hl (by omega) (by omega) (by omega) (by rw [← q.2.2.2.2 (by omega)]; exact hx) h
theorem W2.subList {e ie : Expr} {a : Addr} {vs : List V} {i : Int} {j : Nat} {v : V} (hg : get st a = some (.list vs)) (hs : isSl ie = false) (hl : (vs.length : Int) < 2 ^ 63) (hj : seqIndex? i vs.length = some j) (hv : vs[j]? = some v) (h : Q v st) : W2 c k (subscriptTail e ie) (.ref a) (.int i) ρ st Q X := by
  refine ⟨fun f imm fr s x y ok R ra rb => ?_⟩
  obtain ⟨_, rfl⟩ := rb.intI
  obtain rfl := ra.refI
  obtain ⟨vals, n, r, ho⟩ := R.isList hg
  · · obtain ⟨x, hx, rx⟩ := r.get hv
      have hL : s.heap.IsList a _ := ⟨_, ho, rfl, _, rfl⟩
      exact tail_any hL.typeIs slot_list_getitem.lookup (getItem_listJ hL (by simpa [r.length] using hl) (by simpa [r.length] using hj) (by simpa using hx) (.of rx R h)) (sub_plain hs _ _)
theorem W2.subScr {e ie : Expr} {ns : List Int} {i : Int} {j : Nat} {n : Int} (hs : isSl ie = false) (hl : (ns.length : Int) < 2 ^ 63) (hj : seqIndex? i ns.length = some j) (hv : ns[j]? = some n) (h : Q (.int n) st) : W2 c k (subscriptTail e ie) (.scr ns) (.int i) ρ st Q X := by
  refine ⟨fun f imm fr s x y ok R ra rb => ?_⟩
  obtain ⟨_, rfl⟩ := rb.intI
  obtain ⟨_, _, rfl, hi, hn⟩ := ra.scrI
  · obtain ⟨t, hx⟩ := hn.get j n hv
    have hL := hi.at fun o e => R.keep _ _ e
    exact tail_any hL.typeIs slot_list_getitem.lookup (getItem_listJ hL (by simpa [hn.length] using hl) (by simpa [hn.length] using hj) (by simpa using hx) (.of (.int _ _) R h)) (sub_plain hs _ _)

/-! data: what a value reads as -/
mutual
inductive Dat (st : St) : V → PyData → Prop
  | none : Dat st .none .none
  | bool (b : Bool) : Dat st (.bool b) (.bool b)
  | int (i : Int) : Dat st (.int i) (.int i)
  | str (x : Str) : Dat st (.str x) (.str x)
  | tup {vs : List V} {ds : List PyData} : Dats st vs ds → Dat st (.tup vs) (.tuple ds)
  | list {a : Addr} {vs : List V} {ds : List PyData} : get st a = some (.list vs) → Dats st vs ds → Dat st (.ref a) (.list ds)
inductive Dats (st : St) : List V → List PyData → Prop
  | nil : Dats st [] []
  | cons {v : V} {vs : List V} {d : PyData} {ds : List PyData} : Dat st v d → Dats st vs ds → Dats st (v :: vs) (d :: ds)
end
mutual
theorem Dat.reads (R : Rel c f ρ st imm fr s) : ∀ {v : V} {d : PyData} {x : Value}, Dat st v d → RV c.base imm v x → ∃ as, Reads s.heap x d as
  | _, _, x, .none, h => by obtain rfl := h.noneI; exact ⟨_, .none⟩
  | _, _, x, .bool b, h => by obtain rfl := h.boolI; exact ⟨_, .bool b⟩
  | _, _, x, .int i, h => by obtain ⟨t, rfl⟩ := h.intI; exact ⟨_, .int i t⟩
  | _, _, x, .str y, h => by obtain ⟨t, rfl⟩ := h.strI; exact ⟨_, .str y t⟩
  | _, _, x, .tup h, q => by
    obtain ⟨_, _, _, rfl, hm, r⟩ := q.tupI
    obtain ⟨as, q⟩ := Dats.reads R h r
    exact ⟨as, .tuple (R.inImm hm) rfl rfl (by simpa using q)⟩
  | _, _, x, .list hg h, q => by
    obtain rfl := q.refI
    obtain ⟨_, _, r, ho⟩ := R.isList hg
    obtain ⟨as, q⟩ := Dats.reads R h r
    exact ⟨_, .list ho rfl rfl (by simpa using q)⟩
theorem Dats.reads (R : Rel c f ρ st imm fr s) : ∀ {vs : List V} {ds : List PyData} {xs : List Value}, Dats st vs ds → RVs c.base imm vs xs → ∃ as, ReadsAll s.heap xs ds as
  | _, _, xs, .nil, q => by cases q; exact ⟨_, .nil⟩
  | _, _, xs, .cons h hs, q => by
    cases q with | cons r rs =>
    obtain ⟨as, q⟩ := Dat.reads R h r
    obtain ⟨bs, p⟩ := Dats.reads R hs rs
    exact ⟨_, .cons q p⟩
end
theorem W2.eq {a b : V} {da db : PyData} (ha : Dat st a da) (hb : Dat st b db) (sa : SeqAt.shaped da = true) (sb : SeqAt.shaped db = true) (h : Q (.bool (PyData.eqv da db)) st) : W2 c k (compareOp .Eq) a b ρ st Q X := by
  refine ⟨fun f imm fr s x y ok R ra rb => ?_⟩
  obtain ⟨as, r1⟩ := ha.reads R ra
  obtain ⟨bs, r2⟩ := hb.reads R rb
  exact eq_dataH r1 r2 sa sb (by have := ok.units; omega) (.bool R h)
theorem W2.ne {a b : V} {da db : PyData} (ha : Dat st a da) (hb : Dat st b db) (sa : SeqAt.shaped da = true) (sb : SeqAt.shaped db = true) (h : Q (.bool (!PyData.eqv da db)) st) : W2 c k (compareOp .NotEq) a b ρ st Q X := by
  refine ⟨fun f imm fr s x y ok R ra rb => ?_⟩
  obtain ⟨as, r1⟩ := ha.reads R ra
  obtain ⟨bs, r2⟩ := hb.reads R rb
  exact ne_dataH r1 r2 sa sb (by have := ok.units; omega) (.bool R h)
/-! lists glued -/
theorem W2.addList {a b : Addr} {vs ws : List V} (ha : get st a = some (.list vs)) (hb : get st b = some (.list ws)) (hl : vs.length + ws.length ≤ sizeLine) (h : ∀ l, get st l = none → Q (.ref l) ((l, .list (vs ++ ws)) :: st)) : W2 c k (binaryOp .Add) (.ref a) (.ref b) ρ st Q X := by
  refine ⟨fun f imm fr s x y ok R ra rb => ?_⟩
  obtain rfl := ra.refI
  obtain rfl := rb.refI
  obtain ⟨_, _, r, ho⟩ := R.isList ha
  obtain ⟨_, _, r', ho'⟩ := R.isList hb
  · · have fr0 := R.none
      obtain ⟨⟨h0, tk0, rfl⟩, m, mt, cs, fo, rr⟩ := id R
      refine add_arrays rr.frm rr.news ⟨_, ho, rfl, _, rfl⟩ ⟨_, ho', rfl, _, rfl⟩ (fun h' F' N' => ?_) (by simpa [r.length, r'.length] using hl)
      refine ⟨_, _, imm, fun _ h => h, .ref _, ⟨⟨h', tk0, rfl⟩, m, _ :: mt, cs, fo, F', N', ?_, .cons (.list (vals := _ ++ _) (n := 0) (by simpa using r.append r')) rr.sto, rr.fos, rr.loc⟩, h _ fr0⟩
      rw [show (whole ((h0.objs.size, _) :: mt) cs imm fr fo) = (h0.objs.size, _) :: whole mt cs imm fr fo from rfl, List.map_cons, List.nodup_cons]
      refine ⟨fun hm => ?_, rr.nodup⟩
      obtain ⟨p, hp, e⟩ := List.mem_map.mp hm
      exact absurd (rr.size p hp) (by rw [e]; exact Nat.lt_irrefl _)
end
end Mine
namespace Mine
section
variable {c : Cx} {k : Nat} {sc : Scope} {ρ : Loc} {st : St} {Q : V → St → Prop} {S : Fl → Loc → St → Prop} {X : Xp}

theorem WPE.globR {x : Str} {pos : Pos} {a : Addr} (hx : sc.names.lookup x = some .globalImplicit) (e : nsIn c.K mainGlobals x = some (some (.ref a))) (h : Q (.stat (.ref a)) st)
    (hd : (x == ("__debug__" : Str)) = false := by decide) : WPE c k sc ρ st (.Name x pos) Q X := WPE.glob hx e (fun _ _ => .stat _) h hd
theorem WPE.globI {x : Str} {pos : Pos} {i : Int} {t : Tok} (hx : sc.names.lookup x = some .globalImplicit) (e : nsIn c.K mainGlobals x = some (some (.int i t))) (h : Q (.int i) st)
    (hd : (x == ("__debug__" : Str)) = false := by decide) : WPE c k sc ρ st (.Name x pos) Q X := WPE.glob hx e (fun _ _ => .int _ _) h hd
theorem WPE.callF {id : Str} {p pos : Pos} {args : List Expr} {a : Addr} (hx : sc.names.lookup id = some .globalImplicit) (e : nsIn c.K mainGlobals id = some (some (.ref a))) (hk : keepIn c.K (.ref a) = true)
    (h : WPEs c k sc ρ st args (fun vs st₂ => WL c k (fun xs => PySem.call (.ref a) xs) vs ρ st₂ Q X) X)
    (hp : args.any isStar = false := by rfl) (hd : (id == ("__debug__" : Str)) = false := by decide) : WPE c k sc ρ st (.Call (.Name id p) args [] pos) Q X :=
  WPE.call (WPE.globR hx e ⟨_, rfl, hk, h⟩ hd) hp
theorem WPE.callB {id : Str} {p pos : Pos} {args : List Expr} {b : String} (hx : sc.names.lookup id = some .globalImplicit) (e : nsIn c.K mainGlobals id = some none) (hv : bootBuiltins id = some (.builtin b))
    (h : WPEs c k sc ρ st args (fun vs st₂ => WL c k (fun xs => PySem.call (.builtin b) xs) vs ρ st₂ Q X) X)
    (hp : args.any isStar = false := by rfl) (hn : id ≠ "__name__" := by decide) (hd : (id == ("__debug__" : Str)) = false := by decide) : WPE c k sc ρ st (.Call (.Name id p) args [] pos) Q X :=
  WPE.call (WPE.blt hx e hv ⟨_, rfl, rfl, h⟩ hn hd) hp
theorem WPE.callT {id : Str} {p pos : Pos} {args : List Expr} {b : String} (hx : sc.names.lookup id = some .globalImplicit) (e : nsIn c.K mainGlobals id = some none) (hv : bootBuiltins id = some (.type b))
    (h : WPEs c k sc ρ st args (fun vs st₂ => WL c k (fun xs => PySem.call (.type b) xs) vs ρ st₂ Q X) X)
    (hp : args.any isStar = false := by rfl) (hn : id ≠ "__name__" := by decide) (hd : (id == ("__debug__" : Str)) = false := by decide) : WPE c k sc ρ st (.Call (.Name id p) args [] pos) Q X :=
  WPE.call (WPE.blt hx e hv ⟨_, rfl, rfl, h⟩ hn hd) hp
theorem WPE.bltT {x : Str} {pos : Pos} {b : String} (hx : sc.names.lookup x = some .globalImplicit) (e : nsIn c.K mainGlobals x = some none) (hv : bootBuiltins x = some (.type b)) (h : Q (.stat (.type b)) st)
    (hn : x ≠ "__name__" := by decide) (hd : (x == ("__debug__" : Str)) = false := by decide) : WPE c k sc ρ st (.Name x pos) Q X := WPE.blt hx e hv h hn hd
end
end Mine
namespace Mine
noncomputable def namesIn : List Expr → Option (List Str)
  | [] => some []
  | .Name n _ :: r => (namesIn r).map (n :: ·)
  | _ :: _ => none
noncomputable def setAll : Loc → List Str → List V → Loc
  | ρ, n :: ns, v :: vs => setAll (setL ρ n v) ns vs
  | ρ, _, _ => ρ

section
variable {c : Cx} {k : Nat} {sc : Scope} {ρ : Loc} {st : St} {Q : V → St → Prop} {S : Fl → Loc → St → Prop} {X : Xp} {f : Fm} {imm fr : Led} {s : Shared} {tk : Nat}

theorem assignEach_names {env : Env} : ∀ {es : List Expr} {ns : List Str}, namesIn es = some ns → (assignEach es env).length = ns.length ∧ (assignEach es env).findIdx? (·.1) = none
  | [], ns, h => by cases h; exact ⟨rfl, rfl⟩
  | .Name n p :: r, ns, h => by
    simp only [namesIn, Option.map_eq_some_iff] at h
    obtain ⟨ns', h', rfl⟩ := h
    obtain ⟨h1, h2⟩ := assignEach_names (env := env) h'
    have e : assignEach (.Name n p :: r) env = (false, assign (.Name n p) env) :: assignEach r env := rfl
    rw [e]
    refine ⟨by simp [h1], ?_⟩
    rw [List.findIdx?_cons, h2]; rfl
  | .BoolOp .. :: _, _, h => by cases h
  | .NamedExpr .. :: _, _, h => by cases h
  | .BinOp .. :: _, _, h => by cases h
  | .UnaryOp .. :: _, _, h => by cases h
  | .Lambda .. :: _, _, h => by cases h
  | .IfExp .. :: _, _, h => by cases h
  | .Dict .. :: _, _, h => by cases h
  | .Set .. :: _, _, h => by cases h
  | .ListComp .. :: _, _, h => by cases h
  | .SetComp .. :: _, _, h => by cases h
  | .DictComp .. :: _, _, h => by cases h
  | .GeneratorExp .. :: _, _, h => by cases h
  | .Await .. :: _, _, h => by cases h
  | .Yield .. :: _, _, h => by cases h
  | .YieldFrom .. :: _, _, h => by cases h
  | .Compare .. :: _, _, h => by cases h
  | .Call .. :: _, _, h => by cases h
  | .FormattedValue .. :: _, _, h => by cases h
  | .JoinedStr .. :: _, _, h => by cases h
  | .Constant .. :: _, _, h => by cases h
  | .Attribute .. :: _, _, h => by cases h
  | .Subscript .. :: _, _, h => by cases h
  | .Starred .. :: _, _, h => by cases h
  | .List .. :: _, _, h => by cases h
  | .Tuple .. :: _, _, h => by cases h
  | .Slice .. :: _, _, h => by cases h

theorem assign_names {P : Unit → Shared → Prop} {E : Value → Shared → Prop} (ok : f.Ok c k) (own : f.Own) : ∀ {es : List Expr} {ns : List Str} {vs : List V} {xs : List Value} {ρ : Loc} {s : Shared}, namesIn es = some ns → ns.all (storesB f.env.scope) = true → vs.length = ns.length → RVs c.base imm vs xs → Rel c f ρ st imm fr s →
    (∀ s', Rel c f (setAll ρ ns vs) st imm fr s' → P () s') → wpAny c.M f.A (assignInOrder ((assignEach es f.env).map (·.2)) xs) P E s := by
  intro es
  induction es with
  | nil =>
    intro ns vs xs ρ s h _ hl r R k
    cases h
    cases vs with
    | nil => cases r; exact wpAny_assignInOrder_none (k s R)
    | cons => simp at hl
  | cons e es ih =>
    intro ns vs xs ρ s h hs hl r R hk
    cases e <;> first | (cases h; done) | skip
    rename_i n p
    simp only [namesIn, Option.map_eq_some_iff] at h
    obtain ⟨ns', h', rfl⟩ := h
    cases r with
    | nil => simp at hl
    | cons rv rvs =>
      simp only [List.all_cons, Bool.and_eq_true] at hs
      show wpAny c.M f.A (assignInOrder (assign (.Name n p) f.env :: (assignEach es f.env).map (·.2)) (_ :: _)) P E s
      refine wpAny_assignInOrder_more (wpAny_assign_Name ?_)
      exact store ok own R hs.1 rv fun s' R' => ih h' hs.2 (by simpa using hl) rvs R' hk

theorem WPs.unpack {es : List Expr} {n : Nat} {tp pos : Pos} {e : Expr} {ns : List Str} (hq : c.q = true) (hn : namesIn es = some ns) (hst : ns.all (storesB sc) = true)
    (h : WPE c k sc ρ st e (fun v st₁ => ∃ vs, v = .tup vs ∧ vs.length = ns.length ∧ S .next (setAll ρ ns vs) st₁) X)
    (hs : ∀ env, swapsWithSole [.Tuple es n tp] e pos.line env = pure false := by intro _; rfl) (hw : ∀ env, swappedStores [.Tuple es n tp] e env = pure none := by intro _; rfl) : WPs c k sc ρ st (.Assign [.Tuple es n tp] e pos) S X := by
  refine ⟨fun f imm fr s ok hsc own R => ?_⟩
  refine Assign_Tuple (wpAny_mono (h.go f imm fr s ok hsc R) (fun x s₁ p => ?_) fun _ _ t => t) (hs _) (hw _)
  obtain ⟨v, st₁, imm₁, i₁, rv, R₁, vs, rfl, hl, h₁⟩ := p
  obtain ⟨_, _, _, rfl, hm, r⟩ := rv.tupI
  · have hA := assignEach_names (env := f.env) hn
    refine wpAny_assign_Tuple (ok.hnd hq) ⟨_, R₁.inImm hm, rfl, _, rfl⟩ (by rw [hA.1]; simp [r.length, hl]) hA.2 (fun h' hx => ?_)
    have R₂ : Rel c f ρ st₁ imm₁ fr { s₁ with heap := h' } := R₁.keeps (tk := s₁.toks) fun b o e => hx b o (Nat.ne_of_lt (Heap.lt_size e)) e
    exact assign_names ok own hn (hsc ▸ hst) hl (by simpa using r) R₂ fun s' R' => ⟨.next, _, st₁, imm₁, i₁, .next, R', h₁⟩

theorem RVs.strs {base : Heap} {imm : Led} : ∀ {ys : List Str} {xs : List Value}, RVs base imm (ys.map V.str) xs → StrsAre xs ys := by
  intro ys
  induction ys with
  | nil => intro xs h; cases h; exact .nil
  | cons y ys ih => intro xs h; cases h with | cons a r => obtain ⟨t, rfl⟩ := a.strI; exact .cons y t (ih r)
theorem W2.inStrs {a : Str} {ys : List Str} {vs : List V} (hv : vs = ys.map V.str) (h : Q (.bool (ys.any (· == a))) st) : W2 c k (compareOp .In) (.str a) (.tup vs) ρ st Q X := by
  subst hv
  refine ⟨fun f imm fr s x y ok R ra rb => ?_⟩
  obtain ⟨_, rfl⟩ := ra.strI
  obtain ⟨_, _, _, rfl, hm, r⟩ := rb.tupI
  exact in_tuple_strs ⟨_, R.inImm hm, rfl, _, rfl⟩ (by simpa using RVs.strs r) (.bool R h)
theorem Fm.Ok.le {k' : Nat} (ok : f.Ok c k) (h : k' ≤ k) : f.Ok c k' := { ok with depth := by have := ok.depth; omega, units := by have := ok.units; omega }
theorem WL.le {t : List Value → Sem Value} {vs : List V} {k' : Nat} (h : WL c k' t vs ρ st Q X) (hk : k' ≤ k) : WL c k t vs ρ st Q X :=
  ⟨fun f imm fr s xs ok R rvs => h.go f imm fr s xs (ok.le hk) R rvs⟩

noncomputable abbrev CF (c : Cx) (k : Nat) (a : Addr) (vs : List V) (ρ : Loc) (st : St) (Q : V → St → Prop) (X : Xp) : Prop := WL c k (fun xs => PySem.call (.ref a) xs) vs ρ st Q X
theorem seqIndex_pos {i : Int} {n : Nat} (h0 : 0 ≤ i) (h1 : i < n) : seqIndex? i n = some i.toNat := by
  unfold seqIndex?
  have h : ¬ i < 0 := by omega
  simp [h, h0, h1]
theorem seqIndex_neg {i : Int} {n : Nat} (h0 : i < 0) (h1 : -(n : Int) ≤ i) : seqIndex? i n = some (i + n).toNat := by
  unfold seqIndex?
  have h2 : 0 ≤ i + (n : Int) := by omega
  have h3 : i + (n : Int) < n := by omega
  simp [h0, h2, h3]
theorem seqIndex_0 {n : Nat} : seqIndex? 0 (n + 1) = some 0 := seqIndex_pos (by decide) (by omega)
theorem seqIndex_1 {n : Nat} : seqIndex? 1 (n + 2) = some 1 := seqIndex_pos (by decide) (by omega)
/-- a store that has grown -/
noncomputable def Le (st st' : St) : Prop := ∀ a o, get st a = some o → get st' a = some o
theorem Le.refl : Le st st := fun _ _ h => h
theorem Le.trans {st₁ st₂ st₃ : St} (h : Le st₁ st₂) (h' : Le st₂ st₃) : Le st₁ st₃ := fun a o e => h' a o (h a o e)
theorem get_head {a : Addr} {o : O} : get ((a, o) :: st) a = some o := by simp [get]
theorem get_tail {a b : Addr} {o : O} (h : b ≠ a) : get ((a, o) :: st) b = get st b := by
  unfold get
  rw [List.lookup_cons]
  have : (b == a) = false := by simpa using h
  rw [this]
theorem Le.alloc {a : Addr} {o : O} (h : get st a = none) : Le st ((a, o) :: st) := fun b p e => by
  have : b ≠ a := fun q => by rw [q, h] at e; cases e
  rw [get_tail this]; exact e
theorem get_upd {a b : Addr} {o : O} : get (upd st a o) b = if b = a then (get st a).map (fun _ => o) else get st b := by
  induction st with
  | nil => simp [get, upd]
  | cons p r ih =>
    obtain ⟨x, y⟩ := p
    by_cases h1 : x = a
    · subst h1
      have e : upd ((x, y) :: r) x o = (x, o) :: upd r x o := by simp [upd]
      rw [e]
      by_cases h2 : b = x
      · subst h2; rw [get_head, get_head, if_pos rfl]; rfl
      · rw [get_tail h2, ih, if_neg h2, if_neg h2, get_tail h2]
    · have e : upd ((x, y) :: r) a o = (x, y) :: upd r a o := by simp [upd, h1]
      rw [e]
      by_cases h2 : b = x
      · subst h2; rw [get_head, if_neg h1, get_head]
      · rw [get_tail h2, ih, get_tail h2, get_tail (fun q => h1 q.symm)]
theorem get_upd_self {a : Addr} {o o' : O} (h : get st a = some o') : get (upd st a o) a = some o := by rw [get_upd, if_pos rfl, h]; rfl
theorem get_upd_ne {a b : Addr} {o : O} (h : b ≠ a) : get (upd st a o) b = get st b := by rw [get_upd, if_neg h]
theorem W2.tupAt {e ie : Expr} {vs : List V} {i : Int} {v : V} (hs : isSl ie = false) (hl : Nat.blt vs.length 1000000 = true) (hv : (seqIndex? i vs.length).bind (fun j => vs[j]?) = some v) (h : Q v st) : W2 c k (subscriptTail e ie) (.tup vs) (.int i) ρ st Q X := by
  have hl' : vs.length < 1000000 := by simpa [Nat.blt_eq] using hl
  cases hj : seqIndex? i vs.length with
  | none => rw [hj] at hv; cases hv
  | some j => rw [hj] at hv; exact W2.subTup hs (by omega) hj hv h
theorem W2.listAt {e ie : Expr} {a : Addr} {vs : List V} {i : Int} {v : V} (hg : get st a = some (.list vs)) (hs : isSl ie = false) (hl : Nat.blt vs.length 1000000 = true) (hv : (seqIndex? i vs.length).bind (fun j => vs[j]?) = some v) (h : Q v st) : W2 c k (subscriptTail e ie) (.ref a) (.int i) ρ st Q X := by
  have hl' : vs.length < 1000000 := by simpa [Nat.blt_eq] using hl
  cases hj : seqIndex? i vs.length with
  | none => rw [hj] at hv; cases hv
  | some j => rw [hj] at hv; exact W2.subList hg hs (by omega) hj hv h
theorem isDict_nil {α : Type} [DecidableEq α] {knd : KeyKind c.prog c.w α} : IsDict knd { cls := .type "dict", data := .dict #[] } [] :=
  ⟨⟨rfl, rfl, rfl⟩, #[], 0, rfl, fun e he => by simp at he, .nil, .nil⟩
theorem Rel.fresh (ok : f.Ok c k) (R : Rel c f ρ st imm fr s) : (s.heap.objs.size == sysModules) = false := by
  obtain ⟨_, m, mt, cs, fo, r⟩ := R
  exact r.frm.notModules (modules_low ok.top.nolimit)
theorem WPE.dict0 {pos : Pos} (h : ∀ a, get st a = none → (a == sysModules) = false → Q (.ref a) ((a, .dictI []) :: st)) : WPE c k sc ρ st (.Dict [] [] pos) Q X :=
  ⟨fun f imm fr s ok hsc R => wpAny_Dict_empty ⟨_, _, imm, fun _ h => h, .ref _, R.pushSt (tk := s.toks) (.dictI .nil isDict_nil), h _ R.none (R.fresh ok)⟩⟩
end
end Mine
namespace Mine
noncomputable def rngItems (a b c : Int) : List V := (List.range (Builtin.Range.rangeSize a b c).toNat).map fun (i : Nat) => .int (a + i * c)
/-- the things of a thing that is gone through -/
inductive Src (st : St) : V → List V → Prop
  | list {a : Addr} {vs : List V} : get st a = some (.list vs) → Src st (.ref a) vs
  | tup {vs : List V} : Src st (.tup vs) vs
  | scr {ns : List Int} : Src st (.scr ns) (ns.map .int)
  | rng {a b c : Int} : Builtin.Range.small a b c = true → Src st (.rng a b c) (rngItems a b c)

/-- an iterator's object, i taken -/
inductive ItO : Value → V → Nat → Obj → Prop
  | list {a : Addr} {i : Nat} {o : Obj} (h1 : o.cls = .type "list_iterator") (h2 : o.data = .fields #[.ref a, .int i 0]) : ItO (.ref a) (.ref a) i o
  | scr {a : Addr} {ns : List Int} {i : Nat} {o : Obj} (h1 : o.cls = .type "list_iterator") (h2 : o.data = .fields #[.ref a, .int i 0]) : ItO (.ref a) (.scr ns) i o
  | tup {a : Addr} {vs : List V} {i : Nat} {o : Obj} (h1 : o.cls = .type "tuple_iterator") (h2 : o.data = .fields #[.ref a, .int i 0]) : ItO (.ref a) (.tup vs) i o
  | rng {r : Addr} {a b c : Int} {i : Nat} : ItO (.ref r) (.rng a b c) i { cls := .type "range_iterator", dict := none, data := .fields #[rawInt (a + i * c), rawInt (Builtin.Range.rangeSize a b c - i), rawInt c], slots := #[] }
theorem ItO.fields {x : Value} {v : V} {i : Nat} {o : Obj} (h : ItO x v i o) : ∀ w, o.data ≠ .cell w := by
  cases h with
  | list _ h => intro w e; rw [h] at e; cases e
  | scr _ h => intro w e; rw [h] at e; cases e
  | tup _ h => intro w e; rw [h] at e; cases e
  | rng => intro w e; cases e

section
variable {c : Cx} {k : Nat} {sc : Scope} {ρ : Loc} {st : St} {Q : V → St → Prop} {S : Fl → Loc → St → Prop} {X : Xp} {f : Fm} {imm fr : Led} {s : Shared} {tk : Nat}

theorem it_start {v : V} {vs : List V} {x : Value} {E : Value → Shared → Prop} (R : Rel c f ρ st imm fr s) (rv : RV c.base imm v x) (hs : Src st v vs) :
    wpAny c.M f.A (pyIter x) (fun it s' => ∃ I o, it = .ref I ∧ ItO x v 0 o ∧ Rel c f ρ st imm ((I, o) :: fr) s') E s := by
  cases hs with
  | list hg =>
    cases rv with
    | ref =>
      obtain ⟨co, hr, ho⟩ := R.get hg
      cases hr with
      | list r => exact wpAny_pyIter_list ⟨_, ho, rfl, _, rfl⟩ ⟨_, _, rfl, .list rfl rfl, R.pushFr (tk := s.toks)⟩
  | tup =>
    cases rv with
    | tup hm r => exact wpAny_pyIter_tuple ⟨_, R.inImm hm, rfl, _, rfl⟩ ⟨_, _, rfl, .tup rfl rfl, R.pushFr (tk := s.toks)⟩
  | scr =>
    cases rv with
    | scr hl hn => exact wpAny_pyIter_list (hl.at fun o e => R.keep _ _ e) ⟨_, _, rfl, .scr rfl rfl, R.pushFr (tk := s.toks)⟩
  | @rng a b cc hsm =>
    cases rv with
    | @rng r _ _ _ _ _ _ hm =>
      refine wpAny_pyIter_range (R.inImm hm) hsm ⟨_, _, rfl, ?_, R.pushFr (tk := s.toks)⟩
      have := ItO.rng (r := r) (a := a) (b := b) (c := cc) (i := 0)
      simpa using this

theorem rngItems_get {a b c : Int} {i : Nat} {u : V} (h : (rngItems a b c)[i]? = some u) : u = .int (a + i * c) ∧ (i : Int) < Builtin.Range.rangeSize a b c := by
  unfold rngItems at h
  rw [List.getElem?_map] at h
  by_cases hi : i < (Builtin.Range.rangeSize a b c).toNat
  · rw [List.getElem?_range hi] at h
    simp at h
    exact ⟨h.symm, by omega⟩
  · rw [List.getElem?_eq_none (by simpa using hi)] at h; cases h
theorem it_next {v u : V} {vs : List V} {x : Value} {I : Addr} {i : Nat} {o : Obj} {E : Value → Shared → Prop} (R : Rel c f ρ st imm ((I, o) :: fr) s) (rv : RV c.base imm v x) (hs : Src st v vs) (hi : ItO x v i o) (hu : vs[i]? = some u) :
    wpAny c.M f.A (pyNext (.ref I)) (fun r s' => ∃ y o', r = some y ∧ RV c.base imm u y ∧ ItO x v (i + 1) o' ∧ Rel c f ρ st imm ((I, o') :: fr) s') E s := by
  have hI := R.inFr (List.mem_cons_self)
  cases hi with
  | list h1 h2 =>
    cases hs with
    | list hg =>
    cases rv with
    | ref =>
      obtain ⟨co, hr, ho⟩ := R.get hg
      cases hr with
      | list r =>
        obtain ⟨y, hy, ry⟩ := r.get hu
        refine wpAny_pyNext_list_item ⟨_, hI, h1, h2⟩ ⟨_, ho, rfl, _, rfl⟩ (by simpa using hy) fun h' hit hsb => ?_
        obtain ⟨o', ho', c1, c2⟩ := hit
        exact ⟨y, o', rfl, ry, .list c1 c2, R.frSet (tk := s.toks) hsb ho' (by rw [h2]; intro _ e; cases e)⟩
  | scr h1 h2 =>
    cases hs with
    | scr =>
    cases rv with
    | scr hl hn =>
      rw [List.getElem?_map] at hu
      obtain ⟨n, hn', rfl⟩ := Option.map_eq_some_iff.mp hu
      obtain ⟨t, ht⟩ := hn.get i n hn'
      refine wpAny_pyNext_list_item ⟨_, hI, h1, h2⟩ (hl.at fun o e => R.keep _ _ e) (by simpa using ht) fun h' hit hsb => ?_
      obtain ⟨o', ho', c1, c2⟩ := hit
      exact ⟨_, o', rfl, .int _ _, .scr c1 c2, R.frSet (tk := s.toks) hsb ho' (by rw [h2]; intro _ e; cases e)⟩
  | tup h1 h2 =>
    cases hs with
    | tup =>
    cases rv with
    | tup hm r =>
      obtain ⟨y, hy, ry⟩ := r.get hu
      refine wpAny_pyNext_tuple_item ⟨_, hI, h1, h2⟩ ⟨_, R.inImm hm, rfl, _, rfl⟩ (by simpa using hy) fun h' hit hsb => ?_
      obtain ⟨o', ho', c1, c2⟩ := hit
      exact ⟨y, o', rfl, ry, .tup c1 c2, R.frSet (tk := s.toks) hsb ho' (by rw [h2]; intro _ e; cases e)⟩
  | @rng r a b cc i =>
    cases hs with
    | rng hsm =>
    obtain ⟨rfl, hlt⟩ := rngItems_get hu
    refine wpAny_pyNext_range_item hI (by omega) fun h' hit hsb => ?_
    refine ⟨_, _, rfl, .int _ _, ?_, R.frSet hsb hit (by intro _ e; cases e)⟩
    have := ItO.rng (r := r) (a := a) (b := b) (c := cc) (i := i + 1)
    have e1 : a + ((i + 1 : Nat) : Int) * cc = a + i * cc + cc := by rw [Int.natCast_add, Int.add_mul]; simp; omega
    have e2 : Builtin.Range.rangeSize a b cc - ((i + 1 : Nat) : Int) = Builtin.Range.rangeSize a b cc - i - 1 := by omega
    rw [e1, e2] at this
    exact this
theorem it_end {v : V} {vs : List V} {x : Value} {I : Addr} {i : Nat} {o : Obj} {E : Value → Shared → Prop} (hh : f.A.handled = none) (R : Rel c f ρ st imm ((I, o) :: fr) s) (rv : RV c.base imm v x) (hs : Src st v vs) (hi : ItO x v i o) (hu : vs.length ≤ i) :
    wpAny c.M f.A (pyNext (.ref I)) (fun r s' => r = none ∧ Rel c f ρ st imm fr s') E s := by
  have hI := R.inFr (List.mem_cons_self)
  have hd := hi.fields
  cases hi with
  | list h1 h2 =>
    cases hs with
    | list hg =>
    cases rv with
    | ref =>
      obtain ⟨co, hr, ho⟩ := R.get hg
      cases hr with
      | list r => exact wpAny_pyNext_list_end hh ⟨_, hI, h1, h2⟩ ⟨_, ho, rfl, _, rfl⟩ (by simpa [r.length] using hu) fun h' hx => ⟨rfl, R.frEnd (tk := s.toks) hx hd⟩
  | scr h1 h2 =>
    cases hs with
    | scr =>
    cases rv with
    | scr hl hn => exact wpAny_pyNext_list_end hh ⟨_, hI, h1, h2⟩ (hl.at fun o e => R.keep _ _ e) (by simpa [hn.length] using hu) fun h' hx => ⟨rfl, R.frEnd (tk := s.toks) hx hd⟩
  | tup h1 h2 =>
    cases hs with
    | tup =>
    cases rv with
    | tup hm r => exact wpAny_pyNext_tuple_end hh ⟨_, hI, h1, h2⟩ ⟨_, R.inImm hm, rfl, _, rfl⟩ (by simpa [r.length] using hu) fun h' hx => ⟨rfl, R.frEnd (tk := s.toks) hx hd⟩
  | @rng r a b cc i =>
    cases hs with
    | rng hsm =>
    refine wpAny_pyNext_range_end hh hI ?_ fun h' hx => ⟨rfl, R.frEnd (tk := s.toks) hx hd⟩
    simp only [rngItems, List.length_map, List.length_range] at hu
    omega
theorem it_self {v : V} {x : Value} {I : Addr} {i : Nat} {o : Obj} {E : Value → Shared → Prop} {P : Value → Shared → Prop} (R : Rel c f ρ st imm ((I, o) :: fr) s) (hi : ItO x v i o) (h : P (.ref I) s) : wpAny c.M f.A (pyIter (.ref I)) P E s := by
  have hI := R.inFr (List.mem_cons_self)
  cases hi with
  | list h1 h2 => exact wpAny_pyIter_listiter ⟨_, hI, h1, h2⟩ h
  | scr h1 h2 => exact wpAny_pyIter_listiter ⟨_, hI, h1, h2⟩ h
  | tup h1 h2 => exact wpAny_pyIter_tupleiter ⟨_, hI, h1, h2⟩ h
  | rng => exact wpAny_pyIter_rangeiter hI h
end
end Mine
namespace Mine
/-- how a turn ends -/
noncomputable def lp (fl : Fl) (again : Prop) (out : Fl → Prop) : Prop := match fl with
  | .next => again
  | .cont => again
  | .brk => out .next
  | .ret v => out (.ret v)
theorem lp_next {p : Prop} {q : Fl → Prop} (h : p) : lp .next p q := h
/-- fewer locals -/
noncomputable def Sub (ρ₂ ρ : Loc) : Prop := ∀ y v, getL ρ₂ y = some v → getL ρ y = some v
theorem getL_mem {ρ : Loc} {y : Str} {v : V} (h : getL ρ y = some v) : (y, v) ∈ ρ := by
  induction ρ with
  | nil => cases h
  | cons p r ih =>
    obtain ⟨x, u⟩ := p
    rw [getL_cons] at h
    by_cases e : x = y
    · subst e; rw [if_pos rfl] at h; cases h; exact .head _
    · rw [if_neg e] at h; exact .tail _ (ih h)
theorem Sub.of {ρ₂ ρ : Loc} (h : ∀ p ∈ ρ₂, getL ρ p.1 = some p.2) : Sub ρ₂ ρ := fun y v e => h (y, v) (getL_mem e)

section
variable {c : Cx} {k : Nat} {sc : Scope} {ρ : Loc} {st : St} {Q : V → St → Prop} {S : Fl → Loc → St → Prop} {X : Xp} {f : Fm} {imm fr : Led} {s : Shared} {tk : Nat}

theorem Rel.locs {ρ' : Loc} (R : Rel c f ρ st imm fr s) (h : Sub ρ' ρ) : Rel c f ρ' st imm fr s := by
  obtain ⟨hs, m, mt, cs, fo, r⟩ := R
  exact ⟨hs, m, mt, cs, fo, r.frm, r.news, r.nodup, r.sto, r.fos, ⟨fun y v e => r.loc.reads y v (h y v e), r.loc.cells, r.loc.inj⟩⟩
theorem WPS.locs {ρ' : Loc} {ss : List Stmt} (h : WPS c k sc ρ' st ss S X) (hs : Sub ρ' ρ) : WPS c k sc ρ st ss S X := ⟨fun f imm fr s ok hsc own R => h.go f imm fr s ok hsc own (R.locs hs)⟩
/-- the turns that are left -/
noncomputable def FOR (c : Cx) (k : Nat) (sc : Scope) (x : Str) (body : List Stmt) (v : V) (vs : List V) (S : Fl → Loc → St → Prop) (X : Xp) : List V → Loc → St → Prop
  | [], ρ, st => S .next ρ st
  | u :: us, ρ, st => WPS c k sc (setL ρ x u) st body (fun fl ρ' st' => lp fl (∃ ρ₂, Sub ρ₂ ρ' ∧ Src st' v vs ∧ FOR c k sc x body v vs S X us ρ₂ st') (fun fl => S fl ρ' st')) X

theorem WPs.for {x : Str} {px pos : Pos} {iter : Expr} {body : List Stmt} (hq : c.q = true) (h : WPE c k sc ρ st iter (fun v st₁ => ∃ vs, Src st₁ v vs ∧ FOR c k sc x body v vs S X vs ρ st₁) X) (hx : storesB sc x = true := by rfl)
    (hs : ∀ env x, foldedSetIterable iter env x = pure x := by intro _ _; rfl) : WPs c k sc ρ st (.For (.Name x px) iter body [] pos) S X := by
  refine ⟨fun f imm fr s ok hsc own R => ?_⟩
  refine wpAny_For (wpAny_mono (h.go f imm fr s ok hsc R) (fun y s₁ p => ?_) fun _ _ t => t) (hs _)
  obtain ⟨v, st₁, imm₁, i₁, rv, R₁, vs, hsrc, hF⟩ := p
  refine wpAny_mono (it_start (E := Thrown c f imm fr X) R₁ rv hsrc) (fun it s₂ p => ?_) fun _ _ t => t
  obtain ⟨I, o, rfl, hi, R₂⟩ := p
  refine codeAny_forLoop (fun n s' => ∃ us i ρ' st' imm' o, n = us.length ∧ vs.drop i = us ∧ (∀ p ∈ imm₁, p ∈ imm') ∧ ItO y v i o ∧ Rel c f ρ' st' imm' ((I, o) :: fr) s' ∧ Src st' v vs ∧ FOR c k sc x body v vs S X us ρ' st') ?_ vs.length
    ⟨vs, 0, ρ, st₁, imm₁, o, rfl, rfl, fun _ h => h, hi, R₂, hsrc, hF⟩
  rintro n s' ⟨us, i, ρ', st', imm', o', rfl, hus, i', hi', R', hsrc', hF'⟩
  cases us with
  | nil =>
    have hle : vs.length ≤ i := by simpa using hus
    refine wpAny_mono (it_end (ok.hnd hq) R' (rv.mono i') hsrc' hi' hle) (fun r s₃ p => ?_) fun _ _ t => t
    obtain ⟨rfl, R₃⟩ := p
    exact wpAny_execs_nil ⟨.next, ρ', st', imm', fun q hq => i' q (i₁ q hq), .next, R₃, hF'⟩
  | cons u us =>
    have hu : vs[i]? = some u := by
      have := congrArg List.head? hus
      rw [List.head?_drop] at this
      simpa using this
    have hdr : vs.drop (i + 1) = us := by
      have := congrArg List.tail hus
      rwa [List.tail_drop] at this
    refine wpAny_mono (it_next R' (rv.mono i') hsrc' hi' hu) (fun r s₃ p => ?_) fun _ _ t => t
    obtain ⟨w, o₂, rfl, rw', hi₂, R₃⟩ := p
    refine wpAny_assign_Name (store ok own R₃ (hsc ▸ hx) rw' fun s₄ R₄ => ?_)
    refine wpAny_mono ((show WPS c k sc (setL ρ' x u) st' body _ X from hF').go f imm' ((I, o₂) :: fr) s₄ ok hsc own R₄) (fun fl s₅ p => ?_) fun _ _ t => outOfLoop ok own.same (t.drop hi₂.fields fun q hq => i' q (i₁ q hq))
    obtain ⟨fl', ρ₅, st₅, imm₅, i₅, rf, R₅, h₅⟩ := p
    have R₆ : Rel c f ρ₅ st₅ imm₅ fr s₅ := by
      have hR := R₅
      obtain ⟨⟨h0, tk0, rfl⟩, _⟩ := hR
      exact R₅.frEnd (h' := h0) (tk := tk0) (fun _ _ _ e => e) hi₂.fields
    cases rf with
    | next => obtain ⟨ρ₂, hsub, h1, h2⟩ := h₅; exact ⟨us.length, by simp, us, i + 1, ρ₂, st₅, imm₅, o₂, rfl, hdr, fun q hq => i₅ q (i' q hq), hi₂, R₅.locs hsub, h1, h2⟩
    | cont => obtain ⟨ρ₂, hsub, h1, h2⟩ := h₅; exact ⟨us.length, by simp, us, i + 1, ρ₂, st₅, imm₅, o₂, rfl, hdr, fun q hq => i₅ q (i' q hq), hi₂, R₅.locs hsub, h1, h2⟩
    | brk => exact ⟨.next, ρ₅, st₅, imm₅, fun q hq => i₅ q (i' q (i₁ q hq)), .next, R₆, h₅⟩
    | ret r => exact ⟨.ret _, ρ₅, st₅, imm₅, fun q hq => i₅ q (i' q (i₁ q hq)), .ret r, R₆, h₅⟩

theorem WPs.while {test : Expr} {body : List Stmt} {pos : Pos} (J : Nat → Loc → St → Prop) (n : Nat) (h0 : J n ρ st)
    (h : ∀ n ρ st, J n ρ st → WPB c k sc ρ st test (fun b st' => cnd b (WPS c k sc ρ st' body (fun fl ρ' st'' => lp fl (∃ m ρ₃, m < n ∧ Sub ρ₃ ρ' ∧ J m ρ₃ st'') (fun fl => S fl ρ' st'')) never) (S .next ρ st')) never) : WPs c k sc ρ st (.While test body [] pos) S X := by
  refine ⟨fun f imm fr s ok hsc own R => ?_⟩
  refine wpAny_While (codeAny_whileLoop (fun n s' => ∃ ρ' st' imm', (∀ p ∈ imm, p ∈ imm') ∧ Rel c f ρ' st' imm' fr s' ∧ J n ρ' st') ?_ n ⟨ρ, st, imm, fun _ h => h, R, h0⟩)
  rintro n s' ⟨ρ', st', imm', i', R', hJ⟩
  refine wpAny_mono ((h n ρ' st' hJ).go f imm' fr s' ok hsc R') (fun b s₁ p => ?_) fun _ _ t => t.never.elim
  obtain ⟨st₁, imm₁, i₁, R₁, h₁⟩ := p
  cases b with
  | false => exact wpAny_execs_nil ⟨.next, ρ', st₁, imm₁, fun q hq => i₁ q (i' q hq), .next, R₁, of_f h₁⟩
  | true =>
    refine wpAny_mono ((of_t h₁).go f imm₁ fr s₁ ok hsc own R₁) (fun fl s₂ p => ?_) fun _ _ t => t.never.elim
    obtain ⟨fl', ρ₂, st₂, imm₂, i₂, rf, R₂, h₂⟩ := p
    have i02 : ∀ p ∈ imm, p ∈ imm₂ := fun q hq => i₂ q (i₁ q (i' q hq))
    cases rf with
    | next => obtain ⟨m, ρ₃, hm, hsub, hj⟩ := (show ∃ m ρ₃, m < n ∧ Sub ρ₃ ρ₂ ∧ J m ρ₃ st₂ from h₂); exact ⟨m, hm, ρ₃, st₂, imm₂, i02, R₂.locs hsub, hj⟩
    | cont => obtain ⟨m, ρ₃, hm, hsub, hj⟩ := (show ∃ m ρ₃, m < n ∧ Sub ρ₃ ρ₂ ∧ J m ρ₃ st₂ from h₂); exact ⟨m, hm, ρ₃, st₂, imm₂, i02, R₂.locs hsub, hj⟩
    | brk => exact ⟨.next, ρ₂, st₂, imm₂, i02, .next, R₂, h₂⟩
    | ret r => exact ⟨.ret _, ρ₂, st₂, imm₂, i02, .ret r, R₂, h₂⟩
end
end Mine
namespace Mine
/-- the cells of a comprehension -/
noncomputable def clF (cells : List (Str × Addr)) : List (Str × NameKind) → List (Str × Addr) → List (Str × Addr)
  | [], acc => acc
  | (n, k) :: r, acc => if k == .free then clF cells r ((n, (cells.lookup n).getD 0) :: acc) else clF cells r acc
theorem closure_go {env : Env} : ∀ (names : List (Str × NameKind)) (acc : List (Str × Addr)), (∀ p ∈ names, p.2 = .free → ∃ a, env.cells.lookup p.1 = some a) →
    (forIn names acc (fun (x : Str × NameKind) cs => (do if (x.2 == NameKind.free) = true then do let a ← cellOf env x.1; pure (ForInStep.yield ((x.1, a) :: cs)) else pure (ForInStep.yield cs) : Sem (ForInStep (List (Str × Addr)))))) = (pure (clF env.cells names acc) : Sem _)
  | [], acc, _ => rfl
  | (n, k) :: r, acc, h => by
    have ih := fun acc => closure_go (env := env) r acc fun p hp => h p (.tail _ hp)
    rw [List.forIn_cons]
    by_cases hk : (k == NameKind.free) = true
    · have hk' : k = .free := by simpa using hk
      obtain ⟨a, ha⟩ := h (n, k) (.head _) hk'
      have e : cellOf env n = pure a := by unfold cellOf; rw [ha]
      simp only [hk, if_true, e, pure_bind]
      rw [ih]
      conv => rhs; unfold clF
      simp only [hk, if_true]
      rw [ha]; rfl
    · simp only [hk, Bool.false_eq_true, if_false, pure_bind]
      rw [ih]
      conv => rhs; unfold clF
      simp only [hk, Bool.false_eq_true, if_false]
theorem closure_is {scope : Scope} {env : Env} (h : ∀ p ∈ scope.names, p.2 = .free → ∃ a, env.cells.lookup p.1 = some a) : closureFor scope env = pure (clF env.cells scope.names []) := by
  have := closure_go (env := env) scope.names [] h
  unfold closureFor
  simp only [pure_bind, bind_pure] at this ⊢
  refine Eq.trans ?_ this
  congr
theorem clF_mem {cells : List (Str × Addr)} {p : Str × Addr} : ∀ {names : List (Str × NameKind)} {acc : List (Str × Addr)}, (∀ q ∈ names, q.2 = .free → ∃ a, cells.lookup q.1 = some a) → p ∈ clF cells names acc → p ∈ acc ∨ cells.lookup p.1 = some p.2
  | [], acc, _, h => .inl h
  | (n, k) :: r, acc, hq, h => by
    unfold clF at h
    split at h
    · rename_i hk
      rcases clF_mem (fun q hq' => hq q (.tail _ hq')) h with h | h
      · rcases List.mem_cons.mp h with rfl | h
        · obtain ⟨a, ha⟩ := hq (n, k) (.head _) (by simpa using hk)
          right; simp [ha]
        · exact .inl h
      · exact .inr h
    · exact clF_mem (fun q hq' => hq q (.tail _ hq')) h
theorem clF_some {cells : List (Str × Addr)} {n : Str} : ∀ {names : List (Str × NameKind)} {acc : List (Str × Addr)}, (n, NameKind.free) ∈ names ∨ (acc.lookup n).isSome = true → ((clF cells names acc).lookup n).isSome = true
  | [], acc, h => by
    rcases h with h | h
    · cases h
    · exact h
  | (y, k) :: r, acc, h => by
    unfold clF
    split
    · rename_i hk
      refine clF_some ?_
      rcases h with h | h
      · rcases List.mem_cons.mp h with h | h
        · cases h; right; simp
        · exact .inl h
      · right
        rw [List.lookup_cons]
        split
        · rfl
        · exact h
    · rename_i hk
      refine clF_some ?_
      rcases h with h | h
      · rcases List.mem_cons.mp h with h | h
        · cases h; exact absurd rfl hk
        · exact .inl h
      · exact .inr h
theorem clF_at {cells : List (Str × Addr)} {names : List (Str × NameKind)} {n : Str} (hq : ∀ q ∈ names, q.2 = .free → ∃ a, cells.lookup q.1 = some a) (h : (n, NameKind.free) ∈ names) : ∃ a, (clF cells names []).lookup n = some a ∧ cells.lookup n = some a := by
  obtain ⟨a, ha⟩ := Option.isSome_iff_exists.mp (clF_some (cells := cells) (acc := []) (.inl h))
  refine ⟨a, ha, ?_⟩
  rcases clF_mem hq (mem_of_lookup ha) with h | h
  · cases h
  · exact h

/-- a comprehension's scope in its block -/
noncomputable def relabelS (scope sc : Scope) : Scope :=
  { scope with names := scope.names.map fun (n, k) => if (k == .free && sc.kind == .function && sc.names.lookup n == some .cell) then (n, .cell) else (n, k) }
/-- what a comprehension reads of its block -/
noncomputable def inner (scope : Scope) : Loc → Loc
  | [] => []
  | (x, v) :: r => match scope.names.lookup x with
    | some .free => (x, v) :: inner scope r
    | _ => inner scope r
theorem inner_get {scope : Scope} {x : Str} {v : V} : ∀ {ρ : Loc}, getL (inner scope ρ) x = some v → scope.names.lookup x = some .free ∧ getL ρ x = some v
  | [], h => by cases h
  | (y, u) :: r, h => by
    unfold inner at h
    split at h
    · rename_i hy
      rw [getL_cons] at h
      rw [getL_cons]
      by_cases e : y = x
      · subst e
        rw [if_pos rfl] at h ⊢
        exact ⟨hy, h⟩
      · rw [if_neg e] at h ⊢
        exact inner_get h
    · rename_i hy
      have z := inner_get h
      refine ⟨z.1, ?_⟩
      rw [getL_cons]
      by_cases e : y = x
      · subst e; exact absurd z.1 hy
      · rw [if_neg e]; exact z.2
/-- a comprehension's scope is plain: its free names are cells of the block -/
noncomputable def compOk (scope sc : Scope) (x : Str) : Bool :=
  (scope.kind == .function) && scope.names.all (fun p => (p.2 != .cell) && (p.2 != .free || sc.names.lookup p.1 == some .cell) && (p.2 != .local || scope.names.lookup p.1 == some .local)) && (scope.names.lookup x == some .local) && (sc.kind == .function)
theorem relabel_free {scope sc : Scope} {y : Str} (hk : sc.kind = .function) (hc : sc.names.lookup y = some .cell) (h : scope.names.lookup y = some .free) : (relabelS scope sc).names.lookup y = some .cell := by
  show (scope.names.map fun (n, k) => if (k == NameKind.free && sc.kind == .function && sc.names.lookup n == some .cell) then (n, NameKind.cell) else (n, k)).lookup y = _
  generalize scope.names = names at h
  induction names with
  | nil => cases h
  | cons p r ih =>
    obtain ⟨n, k⟩ := p
    rw [List.lookup_cons] at h
    by_cases e : y = n
    · subst e
      simp at h
      subst h
      simp [hk, hc]
    · have e' : (y == n) = false := by simpa using e
      rw [e'] at h
      rw [List.map_cons, List.lookup_cons]
      have : ∀ k', (y == ((n, k') : Str × NameKind).1) = false := fun _ => e'
      by_cases q : (k == NameKind.free && sc.kind == .function && sc.names.lookup n == some .cell) = true
      · simp only [q, if_true, e']; exact ih h
      · simp only [q, Bool.false_eq_true, if_false, e']; exact ih h
theorem relabel_cell {scope sc : Scope} {y : Str} (hn : ∀ p ∈ scope.names, p.2 ≠ .cell) (h : (relabelS scope sc).names.lookup y = some .cell) : (y, NameKind.free) ∈ scope.names := by
  have hm := mem_of_lookup h
  obtain ⟨⟨n, k⟩, hp, e⟩ := List.mem_map.mp hm
  dsimp only at e
  split at e
  · rename_i q
    cases e
    simp only [Bool.and_eq_true, beq_iff_eq] at q
    rw [← q.1.1]; exact hp
  · cases e
    exact absurd rfl (hn _ hp)

section
variable {c : Cx} {k : Nat} {sc : Scope} {ρ : Loc} {st : St} {Q : V → St → Prop} {S : Fl → Loc → St → Prop} {X : Xp} {f : Fm} {imm fr : Led} {s : Shared} {tk : Nat}

noncomputable abbrev Fm.comp (f : Fm) (m : Str → Option Value) (C : Addr) (env : Env) : Fm := { outer := f.outer, frs := (f.L, m) :: f.frs, L := C, fenv := f.fenv, env := env, A := f.A, cmp := true }

theorem Fm.Ok.cells {scope : Scope} {x : Str} (ok : f.Ok c k) (h : compOk scope f.env.scope x = true) : ∀ p ∈ scope.names, p.2 = .free → ∃ a, f.env.cells.lookup p.1 = some a := by
  intro p hp hf
  simp only [compOk, Bool.and_eq_true, List.all_eq_true, bne_iff_ne, Bool.or_eq_true, beq_iff_eq] at h
  rcases (h.1.1.2 p hp).1.2 with q | q
  · exact absurd hf q
  · exact ok.ecell _ q

theorem okComp {scope : Scope} {x : Str} {m : Str → Option Value} {C : Addr} (ok : f.Ok c k) (h : compOk scope f.env.scope x = true) : (f.comp m C (compEnvC scope (clF f.env.cells scope.names []) C f.env)).Ok c k := by
  have hc := ok.cells h
  simp only [compOk, Bool.and_eq_true, List.all_eq_true, bne_iff_ne, Bool.or_eq_true, beq_iff_eq] at h
  refine ⟨ok.kin, ok.top, fun e he => ?_, ok.frames, ok.eframe, h.1.1.1, ok.eglob, ok.ebi, fun y hy => ?_, ok.hnd, ok.depth, ok.units⟩
  · obtain ⟨h1, L, h2, h3⟩ := ok.envs e he
    refine ⟨h1, L, h2, .inr ?_⟩
    rcases h3 with rfl | ⟨m', h3⟩
    · exact ⟨m, .head _⟩
    · exact ⟨m', .tail _ h3⟩
  · obtain ⟨a, ha, _⟩ := clF_at hc (relabel_cell (fun p hp => (h.1.1.2 p hp).1.1) hy)
    exact ⟨a, ha⟩

/-- into a comprehension's block -/
theorem enterComp {scope : Scope} {x : Str} {o : Obj} {h₁ : Heap} {m₁ : Str → Option Value} {tk : Nat} (ok : f.Ok c k) (hk : compOk scope f.env.scope x = true) (R : Rel c f ρ st imm fr s) (hns : h₁.Ns s.heap.objs.size m₁) (hsb : Heap.SameBut s.heap.objs.size (s.heap.push o) h₁) :
    ∃ m cs, Fr c.base f.L s.heap m ∧ LocR c.base imm f ρ m cs fr ∧ (∀ p ∈ cs ++ fr, p.1 ≠ f.L) ∧
      Rel c (f.comp m s.heap.objs.size (compEnvC scope (clF f.env.cells scope.names []) s.heap.objs.size f.env)) (inner scope ρ) st imm (cs ++ fr) { s with heap := h₁, toks := tk } := by
  have hcl := ok.cells hk
  simp only [compOk, Bool.and_eq_true, List.all_eq_true, bne_iff_ne, Bool.or_eq_true, beq_iff_eq] at hk
  obtain ⟨⟨h0, tk0, rfl⟩, m, mt, cs, fo, r⟩ := R
  dsimp only at hns hsb r ⊢
  have old : ∀ b ob, h0.get? b = some ob → h₁.get? b = some ob := fun b ob e => (hsb.2 b (Nat.ne_of_lt (Heap.lt_size e))).trans (Heap.get?_push_of_some _ e)
  have hLs : ∀ p ∈ whole mt cs imm fr fo, p.1 ≠ f.L := fun p hp => (r.news p hp).2.1
  have hin : ∀ p ∈ cs ++ fr, p ∈ whole mt cs imm fr fo := fun p hp => by
    simp only [List.mem_append] at hp ⊢
    rcases hp with hp | hp
    · exact .inr (.inl hp)
    · exact .inr (.inr (.inr (.inl hp)))
  obtain ⟨oL, es, ep, hL, hLd, hLk, hLf⟩ := r.frm.ns
  have hb : c.base.objs.size ≤ h0.objs.size := Nat.le_trans r.frm.above (Nat.le_of_lt r.frm.ns.lt)
  refine ⟨m, cs, r.frm, r.loc, fun p hp => hLs p (hin p hp), ⟨h₁, tk, rfl⟩, m₁, mt, [], (f.L, oL) :: fo, ⟨hns, fun b ob e => old b ob (r.frm.keep b ob e), hb⟩, fun p hp => ?_, nodup_count fun b => ?_, r.sto, .cons ⟨es, ep, hLd, hLk, hLf⟩ r.fos, ⟨fun y v e => ?_, (fun q => by cases q), (fun q => by cases q)⟩⟩
  · have hp' : p = (f.L, oL) ∨ p ∈ whole mt cs imm fr fo := by
      simp only [List.mem_append, List.mem_cons, List.nil_append, List.not_mem_nil, false_or] at hp ⊢
      rcases hp with hp | hp | (hp | hp) | hp | hp
      · exact .inr (.inl hp)
      · exact .inr (.inr (.inr (.inl hp)))
      · exact .inr (.inr (.inl hp))
      · exact .inr (.inr (.inr (.inr (.inl hp))))
      · exact .inl hp
      · exact .inr (.inr (.inr (.inr (.inr hp))))
    rcases hp' with rfl | hp'
    · exact ⟨old _ _ hL, Nat.ne_of_lt (Heap.lt_size hL), Heap.get?_none_of_le r.frm.above⟩
    · have z := r.news p hp'
      exact ⟨old _ _ z.1, Nat.ne_of_lt (Heap.lt_size z.1), z.2.2⟩
  · have nd := List.nodup_iff_count.mp r.nodup b
    simp only [List.map_append, List.map_cons, List.count_append, List.count_cons, List.map_nil, List.count_nil] at nd ⊢
    by_cases e : f.L = b
    · subst e
      have : (List.map (fun x => x.fst) (whole mt cs imm fr fo)).count f.L = 0 := List.count_eq_zero.mpr fun hm => by
        obtain ⟨p, hp, e⟩ := List.mem_map.mp hm
        exact hLs p hp e
      simp only [List.map_append, List.count_append] at this
      simp only [beq_self_eq_true, if_true]
      omega
    · have : (f.L == b) = false := by simpa using e
      simp only [this, Bool.false_eq_true, if_false]
      omega
  · obtain ⟨e1, e2⟩ := inner_get e
    obtain ⟨val, rv, q⟩ := r.loc.reads y v e2
    have hfree := mem_of_lookup e1
    have hcell : f.env.scope.names.lookup y = some .cell := by
      rcases (hk.1.1.2 _ hfree).1.2 with q | q
      · exact absurd rfl q
      · exact q
    obtain ⟨a, ha, ha'⟩ := clF_at hcl hfree
    refine ⟨val, rv, ?_⟩
    rcases q with ⟨q1, _⟩ | ⟨q1, cc, ob, q2, q3, q4⟩
    · rw [show f.env.kindOf y = f.env.scope.names.lookup y from rfl, hcell] at q1; cases q1
    · rw [ha'] at q2
      cases q2
      exact .inr ⟨.inl (relabel_free hk.2 hcell e1), a, ob, ha, by simpa using q3, q4⟩

/-- and out of it -/
theorem backC {f' : Fm} {m : Str → Option Value} {ρ' : Loc} {st' : St} {imm' cs : Led} {s' : Shared} {h : Heap} (hf : f'.frs = (f.L, m) :: f.frs) (R : Rel c f' ρ' st' imm' (cs ++ fr) s') (F : Fr c.base f.L h m) (hl : LocR c.base imm f ρ m cs fr) (hi : ∀ p ∈ imm, p ∈ imm')
    (hL : ∀ p ∈ cs ++ fr, p.1 ≠ f.L) : ∃ oC m', s'.heap.Ns f'.L m' ∧ (∃ es ep, oC.data = .dict es ep) ∧ Rel c f ρ st' imm' ((f'.L, oC) :: fr) s' := by
  obtain ⟨hr, m', mt', cs', fo', r⟩ := R
  have fos := r.fos
  rw [hf] at fos
  cases fos with
  | @cons _ _ oL _ fo no fos =>
    have hw := r.news (f.L, oL) (by simp)
    obtain ⟨es, ep, n1, n2, n3⟩ := no
    obtain ⟨oC, esC, epC, hC, hCd, hCk, hCf⟩ := r.frm.ns
    have nd := List.nodup_iff_count.mp r.nodup
    simp only [List.map_append, List.map_cons, List.count_append, List.count_cons] at nd
    have hC0 : ∀ p ∈ whole mt' cs' imm' (cs ++ fr) ((f.L, oL) :: fo), p.1 ≠ f'.L := fun p hp => (r.news p hp).2.1
    have sub : ∀ p ∈ whole mt' cs imm' fr fo, p ∈ whole mt' cs' imm' (cs ++ fr) ((f.L, oL) :: fo) := fun p hp => by
      simp only [List.mem_append, List.mem_cons] at hp ⊢
      rcases hp with hp | hp | hp | hp | hp
      · exact .inl hp
      · exact .inr (.inr (.inr (.inl (.inl hp))))
      · exact .inr (.inr (.inl hp))
      · exact .inr (.inr (.inr (.inl (.inr hp))))
      · exact .inr (.inr (.inr (.inr (.inr hp))))
    refine ⟨oC, m', r.frm.ns, ⟨esC, epC, hCd⟩, hr, m, mt', cs, fo, ⟨⟨oL, es, ep, hw.1, n1, n2, n3⟩, r.frm.keep, F.above⟩, fun p hp => ?_, nodup_count fun a => ?_, r.sto, fos, (hl.mono hi).more⟩
    · have hp' : p = (f'.L, oC) ∨ p ∈ whole mt' cs imm' fr fo := by
        simp only [List.mem_append, List.mem_cons] at hp ⊢
        rcases hp with hp | hp | hp | (hp | hp) | hp
        · exact .inr (.inl hp)
        · exact .inr (.inr (.inl hp))
        · exact .inr (.inr (.inr (.inl hp)))
        · exact .inl hp
        · exact .inr (.inr (.inr (.inr (.inl hp))))
        · exact .inr (.inr (.inr (.inr (.inr hp))))
      rcases hp' with rfl | hp'
      · exact ⟨hC, fun e => hC0 (f.L, oL) (by simp) e.symm, Heap.get?_none_of_le r.frm.above⟩
      · refine ⟨(r.news p (sub p hp')).1, fun e => ?_, (r.news p (sub p hp')).2.2⟩
        have q := nd f.L
        simp only [beq_self_eq_true, if_true] at q
        have hin : p.1 ∈ (mt' ++ (cs ++ (imm' ++ (fr ++ fo)))).map (·.1) := List.mem_map_of_mem hp'
        rw [e] at hin
        have := List.count_pos_iff.mpr hin
        simp only [List.map_append, List.count_append] at this
        omega
    · have q := nd a
      simp only [List.map_append, List.map_cons, List.count_append, List.count_cons]
      by_cases e : f'.L = a
      · subst e
        have : (List.map (fun x => x.fst) (whole mt' cs imm' fr fo)).count f'.L = 0 := List.count_eq_zero.mpr fun hm => by
          obtain ⟨p, hp, e⟩ := List.mem_map.mp hm
          exact hC0 p (sub p hp) e
        simp only [List.map_append, List.count_append] at this
        simp only [beq_self_eq_true, if_true]
        omega
      · have : (f'.L == a) = false := by simpa using e
        simp only [this, Bool.false_eq_true, if_false]
        omega
end
end Mine
namespace Mine
section
variable {c : Cx} {k : Nat} {sc : Scope} {ρ : Loc} {st : St} {Q : V → St → Prop} {S : Fl → Loc → St → Prop} {X : Xp} {f : Fm} {imm fr : Led} {s : Shared} {tk : Nat}

/-- the tests of a comprehension: none or one -/
noncomputable def TST (c : Cx) (k : Nat) (sc : Scope) (ρ : Loc) (st : St) (B : Bool → St → Prop) (X : Xp) : List Expr → Prop
  | [] => B true st
  | [t] => WPB c k sc ρ st t B X
  | _ => False
/-- the turns that are left -/
noncomputable def COMP (c : Cx) (k : Nat) (sc : Scope) (x : Str) (ρ : Loc) (ifs : List Expr) (elt : Expr) (v : V) (vs : List V) (P : List V → St → Prop) (X : Xp) : List V → List V → St → Prop
  | [], acc, st => P acc st
  | u :: us, acc, st => TST c k sc ((x, u) :: ρ) st (fun b st₁ => cnd b
      (WPE c k sc ((x, u) :: ρ) st₁ elt (fun y st₂ => Src st₂ v vs ∧ COMP c k sc x ρ ifs elt v vs P X us (acc ++ [y]) st₂) X)
      (Src st₁ v vs ∧ COMP c k sc x ρ ifs elt v vs P X us acc st₁)) X ifs

theorem wpTests {ifs : List Expr} {B : Bool → St → Prop} {E : Value → Shared → Prop} (ok : f.Ok c k) (hsc : f.env.scope = sc) (R : Rel c f ρ st imm fr s) (h : TST c k sc ρ st B X ifs) (hE : ∀ e s, Thrown c f imm fr X e s → E e s) :
    wpAny c.M f.A (forIn ifs true fun c r => if r = true then do let ok ← isTrue c f.env (eval c f.env); pure (ForInStep.yield ok) else pure (ForInStep.yield r)) (PostB c f ρ imm fr B) E s := by
  match ifs, h with
  | [], h => exact wpAny_tests_nil ⟨st, imm, fun _ h => h, R, h⟩
  | [t], h => exact wpAny_tests_one (wpAny_mono ((show WPB c k sc ρ st t B X from h).go f imm fr s ok hsc R) (fun _ _ p => p) hE)

theorem RVs.snoc {base : Heap} {imm : Led} {us : List V} {vals : List Value} {y : V} {yv : Value} (h : RVs base imm us vals) (hy : RV base imm y yv) : RVs base imm (us ++ [y]) (vals ++ [yv]) := h.append (.one hy)

theorem comp_core {elt iter : Expr} {x : Str} {px : Pos} {ifs : List Expr} {scope : Scope} {pos : Pos} {v : V} {vs : List V} {y : Value} {I : Addr} {o : Obj} {P : List V → St → Prop} {E : Value → Shared → Prop} {RR : Value → Addr → Result → Shared → Prop}
    (hq : c.q = true) (ok : f.Ok c k) (hk : compOk scope f.env.scope x = true) (R : Rel c f ρ st imm ((I, o) :: fr) s) (rv : RV c.base imm v y) (hi : ItO y v 0 o) (hsrc : Src st v vs) (hlen : vs.length ≤ sizeLine)
    (h : COMP c k (relabelS scope f.env.scope) x (inner scope ρ) ifs elt v vs P never vs [] st)
    (hRR : ∀ D C oC m' n us vals st' imm' s', (∀ p ∈ imm, p ∈ imm') → P us st' → RVs c.base imm' us vals → s'.heap.Ns C m' → (∀ w, oC.data ≠ .cell w) → Rel c f ρ st' imm' ((C, oC) :: (D, listOf vals.toArray n) :: fr) s' → RR (.ref D) C (.ok .next) s') :
    wpAny c.M f.A (newList []) (fun acc s₃ => wpAny c.M f.A (newFunctionEnv scope f.env.globals (clF f.env.cells scope.names []) [] f.env.qual none .none (some f.env)) (fun cenv s₄ =>
      codeAny c.M f.A (.compStart (.ListComp elt [⟨.Name x px, iter, ifs, 0⟩] scope pos) 0 (.ref I) acc { cenv with scope := relabel scope f.env }) (RR acc cenv.locals) s₄) E s₃) E s := by
  have hk' := hk
  simp only [compOk, Bool.and_eq_true, List.all_eq_true, bne_iff_ne, Bool.or_eq_true, beq_iff_eq] at hk'
  refine wpAny_newObj_type ?_
  have R₁ := R.pushFr (o := listOf (#[] : Array Value) 0) (tk := s.toks)
  generalize hD : s.heap.objs.size = D at R₁ ⊢
  refine wpAny_newFunctionEnv (fun p hp => (hk'.1.1.2 p hp).1.1) (by intro y hy; cases hy) (fun h₁ hns hsb => ?_) hk'.1.1.1
  obtain ⟨m, cs, F, hl, hL, R₂⟩ := enterComp (tk := s.toks + ([] : List (Str × Value)).length) ok hk R₁ hns hsb
  generalize hC : ((s.heap.push (listOf (#[] : Array Value) 0)).objs.size) = C at R₂
  have ok' := okComp (m := m) (C := C) ok hk
  generalize hf' : f.comp m C (compEnvC scope (clF f.env.cells scope.names []) C f.env) = f' at R₂ ok'
  have hfrs : f'.frs = (f.L, m) :: f.frs := by rw [← hf']
  have hA : f'.A = f.A := by rw [← hf']
  have henv : f'.env = compEnvC scope (clF f.env.cells scope.names []) C f.env := by rw [← hf']
  have hfl : f'.env.locals = f'.L := by rw [← hf']; rfl
  have hfL : f'.L = C := by rw [← hf']
  have hsc : f'.env.scope = relabelS scope f.env.scope := by rw [← hf']; rfl
  have hl0 : LocR c.base imm f ρ m cs fr := by
    have := LocR.other (l₁ := []) hl (by intro w e; cases e) (l₃ := (I, o) :: fr) fun p hp => hp
    exact LocR.other (l₁ := []) this hi.fields fun p hp => hp
  have hx : f'.env.kindOf x = some .local := by rw [henv]; exact lookup_relabel_local hk'.1.2
  have hinn : ∀ (u : V) z w, getL (inner scope ρ) z = some w → getL ((x, u) :: inner scope ρ) z = some w := fun u z w e => by
    rw [getL_cons]
    by_cases q : x = z
    · subst q
      have := (inner_get e).1
      rw [hk'.1.2] at this; cases this
    · rw [if_neg q]; exact e
  have hset : ∀ (u : V) z w, getL ((x, u) :: inner scope ρ) z = some w → getL (setL (inner scope ρ) x u) z = some w := fun u z w e => by
    rw [getL_cons] at e
    rw [getL_setL]
    by_cases q : x = z
    · subst q; rw [if_pos rfl] at e ⊢; exact e
    · rw [if_neg q] at e; rw [if_neg (fun z => q z.symm)]; exact e
  have R₃ := R₂.permFr (fr' := (I, o) :: (D, listOf ([] : List Value).toArray 0) :: (cs ++ fr)) (by
    refine List.Perm.trans List.perm_middle ?_
    refine List.Perm.trans (List.Perm.cons _ List.perm_middle) ?_
    exact List.Perm.swap _ _ _)
  have loop : codeAny c.M f.A (.compLoop (.ListComp elt [⟨.Name x px, iter, ifs, 0⟩] scope pos) 0 (.ref I) (.ref D) (compEnvC scope (clF f.env.cells scope.names []) C f.env)) (RR (.ref D) C) { s with heap := h₁, toks := s.toks + ([] : List (Str × Value)).length } := by
    rw [← henv, ← hA]
    refine codeAny_compLoop_tests (fun n s' => ∃ us i acc vals nn st' imm' o, n = us.length ∧ vs.drop i = us ∧ (∀ p ∈ imm, p ∈ imm') ∧ ItO y v i o ∧ RVs c.base imm' acc vals ∧ acc.length ≤ i ∧
        Rel c f' (inner scope ρ) st' imm' ((I, o) :: (D, listOf vals.toArray nn) :: (cs ++ fr)) s' ∧ Src st' v vs ∧ COMP c k (relabelS scope f.env.scope) x (inner scope ρ) ifs elt v vs P never us acc st') ?_ vs.length
      ⟨vs, 0, [], [], 0, st, imm, o, rfl, rfl, fun _ h => h, hi, .nil, Nat.zero_le _, R₃, hsrc, h⟩
    rintro n s' ⟨us, i, acc, vals, nn, st', imm', o', rfl, hus, i', hi', hacc, hai, R', hsrc', hC'⟩
    cases us with
    | nil =>
      have hle : vs.length ≤ i := by simpa using hus
      refine wpAny_mono (it_end (ok'.hnd hq) R' (rv.mono i') hsrc' hi' hle) (fun r s₃ p => ?_) fun _ _ t => t
      obtain ⟨rfl, R₄⟩ := p
      have R₅ := R₄.permFr (fr' := cs ++ (D, listOf vals.toArray nn) :: fr) List.perm_middle.symm
      obtain ⟨oC, m', hnsC, ⟨es, ep, hoC⟩, R₆⟩ := backC hfrs R₅ F hl0.more i' (fun p hp => by
        rcases List.mem_append.mp hp with hp | hp
        · exact hL p (List.mem_append_left _ hp)
        · rcases List.mem_cons.mp hp with rfl | hp
          · exact hL (D, listOf (#[] : Array Value) 0) (List.mem_append_right _ (.head _))
          · exact hL p (List.mem_append_right _ (.tail _ (.tail _ hp))))
      rw [hfL] at hnsC R₆
      exact hRR D C oC m' nn acc vals st' imm' _ i' hC' hacc hnsC (by rw [hoC]; intro w e; cases e) R₆
    | cons u us =>
      have hu : vs[i]? = some u := by
        have := congrArg List.head? hus
        rw [List.head?_drop] at this
        simpa using this
      have hdr : vs.drop (i + 1) = us := by
        have := congrArg List.tail hus
        rwa [List.tail_drop] at this
      have hil : i < vs.length := by
        rcases Nat.lt_or_ge i vs.length with q | q
        · exact q
        · rw [List.getElem?_eq_none q] at hu; cases hu
      refine wpAny_mono (it_next R' (rv.mono i') hsrc' hi' hu) (fun r s₃ p => ?_) fun _ _ t => t
      obtain ⟨w, o₂, rfl, rw', hi₂, R₄⟩ := p
      refine wpAny_assign_Name (store_local ok' hfl R₄ hx rw' fun s₄ R₅ => ?_)
      have R₆ := R₅.locs (hset u)
      refine wpAny_mono (wpTests ok' hsc R₆ hC' fun e s t => t.never.elim) (fun b s₅ p => ?_) fun _ _ t => t
      obtain ⟨st₅, imm₅, i₅, R₇, h₇⟩ := p
      have i05 : ∀ p ∈ imm, p ∈ imm₅ := fun p hp => i₅ p (i' p hp)
      cases b with
      | false =>
        rw [if_neg (by decide)]
        exact ⟨us.length, by simp, us, i + 1, acc, vals, nn, st₅, imm₅, o₂, rfl, hdr, i05, hi₂, hacc.mono i₅, Nat.le_succ_of_le hai, R₇.locs (hinn u), (of_f h₇).1, (of_f h₇).2⟩
      | true =>
        rw [if_pos rfl]
        refine wpAny_mono ((of_t h₇).go f' imm₅ _ s₅ ok' hsc R₇) (fun z s₆ p => ?_) fun _ _ t => t.never.elim
        obtain ⟨zv, st₆, imm₆, i₆, rz, R₈, hsrc₆, h₈⟩ := p
        have ho := R₈.inFr (.tail _ (.head _))
        have hvl : vals.length ≤ sizeLine := by rw [hacc.length]; omega
        refine append_at (hsz := by simpa using hvl) ho fun h' hsb' hg' => ?_
        refine ⟨us.length, by simp, us, i + 1, acc ++ [zv], vals ++ [z], nn + 1, st₆, imm₆, o₂, rfl, hdr, fun p hp => i₆ p (i05 p hp), hi₂, ((hacc.mono i₅).mono i₆).snoc rz, by simp; omega, ?_, hsrc₆, h₈⟩
        have := (Rel.frSetAt [(I, o₂)] R₈ (tk := s₆.toks) hsb' hg' (by intro w e; cases e)).locs (hinn u)
        simpa using this
  subst hD
  refine codeAny_compStart_list ?_ ?_
  · exact loop
  · have hI := it_self (E := notedBy c.M f.A (compEnvC scope (clF f.env.cells scope.names []) C f.env) fun x s' => RR (.ref s.heap.objs.size) C (.error x) s') (P := fun it' s' => codeAny c.M f.A (.compLoop (.ListComp elt [⟨.Name x px, iter, ifs, 0⟩] scope pos) 0 it' (.ref s.heap.objs.size) (compEnvC scope (clF f.env.cells scope.names []) C f.env)) (RR (.ref s.heap.objs.size) C) s') R₃ hi loop
    rw [hA] at hI
    exact hI

theorem WPE.comp {elt iter : Expr} {x : Str} {px : Pos} {ifs : List Expr} {scope : Scope} {pos : Pos} (hq : c.q = true) (hk : compOk scope sc x = true)
    (h : WPE c k sc ρ st iter (fun v st₁ => ∃ vs, Src st₁ v vs ∧ vs.length ≤ sizeLine ∧ COMP c k (relabelS scope sc) x (inner scope ρ) ifs elt v vs (fun us st₂ => ∀ a, get st₂ a = none → Q (.ref a) ((a, .list us) :: st₂)) never vs [] st₁) X)
    (hs : ∀ env x, foldedSetIterable iter env x = pure x := by intro _ _; rfl) : WPE c k sc ρ st (.ListComp elt [⟨.Name x px, iter, ifs, 0⟩] scope pos) Q X := by
  refine ⟨fun f imm fr s ok hsc R => ?_⟩
  subst hsc
  have hk' := hk
  simp only [compOk, Bool.and_eq_true, List.all_eq_true, bne_iff_ne, Bool.or_eq_true, beq_iff_eq] at hk'
  rw [eval_ListComp]
  refine wpAny_comprehension_free (use := none) rfl (hs _) (closure_is (ok.cells hk)) hk'.1.1.1 (fun p hp e => ?_) (wpAny_mono (h.go f imm fr s ok rfl R) (fun y s₁ p => ?_) fun _ _ t => t)
  · rcases (hk'.1.1.2 p hp).2 with q | q
    · exact absurd e q
    · exact q
  · obtain ⟨v, st₁, imm₁, i₁, rv, R₁, vs, hsrc, hlen, hC⟩ := p
    refine wpAny_mono (it_start (E := Thrown c f imm fr X) R₁ rv hsrc) (fun it s₂ p => ?_) fun _ _ t => t
    obtain ⟨I, o, rfl, hi, R₂⟩ := p
    refine comp_core (RR := fun acc C => compPost c.M f.A (Thrown c f imm fr X) none (PostE c f ρ imm fr Q) acc C) hq ok hk R₂ rv hi hsrc hlen hC ?_
    intro D C oC m' n us vals st' imm' s' i' hP rus hns hoC R'
    refine ⟨m', hns, fun h' hsb => ?_⟩
    have R₃ := R'.frEnd (tk := s'.toks) hsb.extBut hoC
    obtain ⟨R₄, hnone⟩ := R₃.frSt (by intro w e; cases e) (.list rus)
    exact ⟨.ref D, _, imm', fun p hp => i' p (i₁ p hp), .ref D, R₄, hP D hnone⟩

end
end Mine
namespace Mine
section
variable {c : Cx} {k : Nat} {sc : Scope} {ρ : Loc} {st : St} {Q : V → St → Prop} {S : Fl → Loc → St → Prop} {X : Xp} {f : Fm} {imm fr : Led} {s : Shared} {tk : Nat}

/-! range -/
theorem PostE.pushImm {v : V} {x : Value} {o : Obj} (R : Rel c f ρ st imm fr s) (hv : RV c.base ((s.heap.objs.size, o) :: imm) v x) (h : Q v st) (ho : o.isFreed = false := by rfl) : PostE c f ρ imm fr Q x { s with heap := s.heap.push o, toks := tk } :=
  ⟨v, st, _, fun _ h => .tail _ h, hv, R.pushImm (tk := tk) ho, h⟩
theorem WL.range1 {n : Int} (h : Q (.rng 0 n 1) st) : WL c k (fun xs => call (.type "range") xs) [.int n] ρ st Q X := by
  refine ⟨fun f imm fr s xs ok R rvs => ?_⟩
  obtain ⟨_, rfl, rx0⟩ := rvs.inv1
  obtain ⟨t, rfl⟩ := rx0.intI
  exact call_range_1 (.pushImm R (.rng (.head _)) h)
theorem WL.range2 {a b : Int} (h : Q (.rng a b 1) st) : WL c k (fun xs => call (.type "range") xs) [.int a, .int b] ρ st Q X := by
  refine ⟨fun f imm fr s xs ok R rvs => ?_⟩
  obtain ⟨_, _, rfl, rx0, rx1⟩ := rvs.inv2
  obtain ⟨t, rfl⟩ := rx0.intI
  obtain ⟨u, rfl⟩ := rx1.intI
  exact call_range_2 (.pushImm R (.rng (.head _)) h)
theorem WL.range3 {a b d : Int} (hd : d ≠ 0) (hs : d.natAbs < 1073741824) (h : Q (.rng a b d) st) : WL c k (fun xs => call (.type "range") xs) [.int a, .int b, .int d] ρ st Q X := by
  refine ⟨fun f imm fr s xs ok R rvs => ?_⟩
  obtain ⟨_, _, _, rfl, rx0, rx1, rx2⟩ := rvs.inv3
  obtain ⟨t, rfl⟩ := rx0.intI
  obtain ⟨u, rfl⟩ := rx1.intI
  obtain ⟨w, rfl⟩ := rx2.intI
  exact call_range_3 hd (.pushImm R (.rng (.head _)) h) (.inl (PyProof.noPylong_small hs))
theorem small_up {a n : Nat} (h : a + n < 1000000) : Builtin.Range.small (a : Int) ((a : Int) + n) 1 = true := by
  have e : Builtin.Range.rangeSize (a : Int) ((a : Int) + n) 1 = n := by
    unfold Builtin.Range.rangeSize
    rw [if_pos (by decide), Int.ediv_one]
    split <;> omega
  unfold Builtin.Range.small Builtin.Range.rangeFitsLong
  rw [e]
  simp
  omega
/-! numbers of a list -/
theorem RVs.ints {base : Heap} {imm : Led} : ∀ {ns : List Int} {xs : List Value}, RVs base imm (ns.map V.int) xs → IntsAre xs ns := by
  intro ns
  induction ns with
  | nil => intro xs h; cases h; exact .nil
  | cons y ys ih => intro xs h; cases h with | cons a r => obtain ⟨t, rfl⟩ := a.intI; exact .cons y t (ih r)
theorem RVs.bools {base : Heap} {imm : Led} : ∀ {bs : List Bool} {xs : List Value}, RVs base imm (bs.map V.bool) xs → LSm.BoolsAre xs bs := by
  intro ns
  induction ns with
  | nil => intro xs h; cases h; exact .nil
  | cons y ys ih => intro xs h; cases h with | cons a r => obtain rfl := a.boolI; exact .cons y (ih r)
theorem RVs.ofInts {base : Heap} {imm : Led} {ns : List Int} {xs : List Value} (h : IntsAre xs ns) : RVs base imm (ns.map V.int) xs := by
  induction h with
  | nil => exact .nil
  | cons n t _ ih => exact .cons (.int n t) ih
theorem Rel.same {h' : Heap} {m : Str → Option Value} {mt cs fo : Led} (hs : ∃ h tk, s = { c.s₀ with heap := h, toks := tk }) (r : RelAt c f ρ st imm fr s.heap m mt cs fo) (F : Fr c.base f.L h' m) (N : News c.base f.L h' (whole mt cs imm fr fo)) : Rel c f ρ st imm fr { s with heap := h', toks := tk } := by
  obtain ⟨h0, tk0, rfl⟩ := hs
  exact ⟨⟨h', tk, rfl⟩, m, mt, cs, fo, F, N, r.nodup, r.sto, r.fos, r.loc⟩
theorem WL.minInts {a : Addr} {ns : List Int} (hq : c.q = true) (hg : get st a = some (.list (ns.map .int))) (hne : 0 < ns.length) (h : ∀ M, M ∈ ns → (∀ x ∈ ns, M ≤ x) → Q (.int M) st) : WL c k (fun xs => call (.builtin "min") xs) [.ref a] ρ st Q X := by
  refine ⟨fun f imm fr s xs ok R rvs => ?_⟩
  obtain ⟨_, rfl, rx0⟩ := rvs.inv1
  obtain rfl := rx0.refI
  obtain ⟨vals, n, r, ho⟩ := R.isList hg
  obtain ⟨hs, m, mt, cs, fo, rr⟩ := id R
  exact kso_min rr.frm rr.news ⟨_, ho, rfl, _, rfl⟩ r.ints hne (ok.hnd hq) fun h' M t tk F N h1 h2 => .of (.int _ _) (Rel.same hs rr F N) (h M h1 h2)
theorem WL.allBools {a : Addr} {bs : List Bool} (hq : c.q = true) (hg : get st a = some (.list (bs.map .bool))) (h : Q (.bool (bs.all id)) st) : WL c k (fun xs => call (.builtin "all") xs) [.ref a] ρ st Q X := by
  refine ⟨fun f imm fr s xs ok R rvs => ?_⟩
  obtain ⟨_, rfl, rx0⟩ := rvs.inv1
  obtain rfl := rx0.refI
  obtain ⟨vals, n, r, ho⟩ := R.isList hg
  obtain ⟨hs, m, mt, cs, fo, rr⟩ := id R
  exact LSm.all_bools rr.frm rr.news (ok.hnd hq) ⟨_, ho, rfl, _, rfl⟩ r.bools fun h' tk F N => .of (.bool _) (Rel.same hs rr F N) h
/-! methods of lists -/
theorem Rel.noneAt {D : Addr} {m : Str → Option Value} {mt cs fo : Led} {h : Heap} (rr : RelAt c f ρ st imm fr h m mt cs fo) (hlt : ∀ p ∈ whole mt cs imm fr fo, p.1 < D) : Mine.get st D = Option.none := by
  cases q : Mine.get st D with
  | none => rfl
  | some y =>
    obtain ⟨co, hm, _⟩ := rr.sto.get q
    exact absurd (hlt (D, co) (List.mem_append_left _ hm)) (Nat.lt_irrefl _)
theorem RelAt.newSt {D : Addr} {o : Obj} {x : O} {m : Str → Option Value} {mt cs fo : Led} {h h' : Heap} (rr : RelAt c f ρ st imm fr h m mt cs fo) (F : Fr c.base f.L h' m) (N : News c.base f.L h' ((D, o) :: whole mt cs imm fr fo)) (hlt : ∀ p ∈ whole mt cs imm fr fo, p.1 < D) (hr : RO c imm x o) :
    RelAt c f ρ ((D, x) :: st) imm fr h' m ((D, o) :: mt) cs fo := by
  refine ⟨F, N, ?_, .cons hr rr.sto, rr.fos, rr.loc⟩
  rw [show whole ((D, o) :: mt) cs imm fr fo = (D, o) :: whole mt cs imm fr fo from rfl, List.map_cons, List.nodup_cons]
  refine ⟨fun hm => ?_, rr.nodup⟩
  obtain ⟨p, hp, e⟩ := List.mem_map.mp hm
  have := hlt p hp
  rw [e] at this
  exact Nat.lt_irrefl _ this
theorem Rel.mapSeq {a : Addr} {vs vs' : List V} {vals vals' : List Value} {n : Nat} (g : Array Value → Array Value) (R : Rel c f ρ st imm fr s) (hg : Mine.get st a = some (.list vs)) (ho : s.heap.get? a = some (listOf vals.toArray n)) (e : g vals.toArray = vals'.toArray) (r' : RVs c.base imm vs' vals') :
    Rel c f ρ (Mine.upd st a (.list vs')) imm fr { s with heap := s.heap.update a (Obj.mapSeq g), toks := tk } := by
  have hm : Obj.mapSeq g (listOf vals.toArray n) = listOf vals'.toArray (if vals'.toArray.size == vals.toArray.size then n else n + 1) := by
    show Obj.mk _ _ _ _ = _
    rw [e]
  refine R.upd (o := listOf vals'.toArray (if vals'.toArray.size == vals.toArray.size then n else n + 1)) hg (Heap.SameBut.update ..) ?_ (.list r')
  rw [Heap.get?_update_self _ ho (by rw [hm]; rfl), hm]
theorem WL.append {a : Addr} {vs : List V} {v : V} (hg : get st a = some (.list vs)) (hl : vs.length ≤ 1000000) (h : Q .none (upd st a (.list (vs ++ [v])))) : WL c k (fun xs => call (.builtin "list.append") xs) [.ref a, v] ρ st Q X := by
  refine ⟨fun f imm fr s xs ok R rvs => ?_⟩
  obtain ⟨_, _, rfl, rx0, rx1⟩ := rvs.inv2
  obtain rfl := rx0.refI
  have rv := rx1
  obtain ⟨vals, n, r, ho⟩ := R.isList hg
  have hl' : vals.length ≤ 1000000 := by rw [r.length]; exact hl
  refine append_at (hsz := by rw [PySem.sizeLine_eq]; simp; omega) ho fun h' hsb hg' => ?_
  exact .none (R.upd (tk := s.toks) hg hsb hg' (by simpa using RO.list (r.snoc rv))) h
theorem WPE.meth {e : Expr} {name : Str} {ap pos : Pos} {args : List Expr} {id : String} (slot : Slot "list" name id) (hty : typeOf (.builtin id) = pure (.type "method_descriptor"))
    (h : WPE c k sc ρ st e (fun v st₁ => ∃ a vs, v = .ref a ∧ get st₁ a = some (.list vs) ∧ WPEs c k sc ρ st₁ args (fun us st₂ => WL c k (fun xs => PySem.call (.builtin id) xs) (.ref a :: us) ρ st₂ Q X) X) X)
    (hp : args.any isStar = false := by rfl)
    (he : ∀ env, ∃ pl, eval (.Call (.Attribute e name ap) args [] pos) env = (do
      let ov ← eval e env
      standAt ap.atName
      let (f, first) ← holding [ov] (getMethod ov name pl)
      callWith pos f first (backTo pos (starEach args env)) []) := by intro _; exact ⟨_, rfl⟩) : WPE c k sc ρ st (.Call (.Attribute e name ap) args [] pos) Q X := by
  refine ⟨fun f imm fr s ok hsc R => ?_⟩
  obtain ⟨pl, he⟩ := he f.env
  refine MethodCall_ (pl := pl) (wpAny_mono (h.go f imm fr s ok hsc R) (fun x s₁ p => ?_) fun _ _ t => t) he
  obtain ⟨v, st₁, imm₁, i₁, rv, R₁, a, vs, rfl, hg, h₁⟩ := p
  cases rv with
  | ref =>
    obtain ⟨vals, n, r, ho⟩ := R₁.isList hg
    refine getMethod_list_of slot hty ⟨_, ho, rfl, _, rfl⟩ ⟨_, ho, rfl⟩ ?_
    refine wpAny_mono (callWithW (f := f) (val := .builtin id) (first := [.ref a]) (vs₀ := [.ref a]) rfl hp ok hsc R₁ (.one (.ref a)) (.inr fun T e => by cases e) (by simpa using h₁)) (fun _ _ p => p.mono i₁) fun _ _ t => t.mono i₁

theorem WPE.mAppend {e : Expr} {ap pos : Pos} {args : List Expr}
    (h : WPE c k sc ρ st e (fun v st₁ => ∃ a vs, v = .ref a ∧ get st₁ a = some (.list vs) ∧ WPEs c k sc ρ st₁ args (fun us st₂ => WL c k (fun xs => PySem.call (.builtin "list.append") xs) (.ref a :: us) ρ st₂ Q X) X) X)
    (hp : args.any isStar = false := by rfl)
    (he : ∀ env, ∃ pl, eval (.Call (.Attribute e "append" ap) args [] pos) env = (do
      let ov ← eval e env
      standAt ap.atName
      let (f, first) ← holding [ov] (getMethod ov "append" pl)
      callWith pos f first (backTo pos (starEach args env)) []) := by intro _; exact ⟨_, rfl⟩) : WPE c k sc ρ st (.Call (.Attribute e "append" ap) args [] pos) Q X := WPE.meth slot_list_append PySem.F.type_list_append h hp he

theorem FOR.inv {x : Str} {body : List Stmt} {v : V} {vs : List V} (J : Nat → Loc → St → Prop) (h0 : J 0 ρ st)
    (step : ∀ i u ρ₁ st₁, vs[i]? = some u → J i ρ₁ st₁ → WPS c k sc (setL ρ₁ x u) st₁ body (fun fl ρ' st' => lp fl (∃ ρ₂, Sub ρ₂ ρ' ∧ Src st' v vs ∧ J (i + 1) ρ₂ st') (fun fl => S fl ρ' st')) X)
    (fin : ∀ ρ₁ st₁, J vs.length ρ₁ st₁ → S .next ρ₁ st₁) : FOR c k sc x body v vs S X vs ρ st := by
  have go : ∀ us i ρ st, vs.drop i = us → i ≤ vs.length → J i ρ st → FOR c k sc x body v vs S X us ρ st := by
    intro us
    induction us with
    | nil =>
      intro i ρ st hd hi hJ
      have : i = vs.length := by have : vs.length ≤ i := by simpa using hd
                                 omega
      subst this
      exact fin ρ st hJ
    | cons u us ih =>
      intro i ρ st hd hi hJ
      have hu : vs[i]? = some u := by
        have := congrArg List.head? hd
        rw [List.head?_drop] at this
        simpa using this
      have hdr : vs.drop (i + 1) = us := by
        have := congrArg List.tail hd
        rwa [List.tail_drop] at this
      have hil : i < vs.length := by
        rcases Nat.lt_or_ge i vs.length with q | q
        · exact q
        · rw [List.getElem?_eq_none q] at hu; cases hu
      have H := step i u ρ st hu hJ
      refine ⟨fun f imm fr s ok hsc own R => wpAny_mono (H.go f imm fr s ok hsc own R) (fun fl s' p => ?_) fun _ _ t => t⟩
      obtain ⟨fl', ρ', st', imm', i', rf, R', h'⟩ := p
      refine ⟨fl', ρ', st', imm', i', rf, R', ?_⟩
      cases fl' with
      | next => obtain ⟨ρ₂, a, b, d⟩ := h'; exact ⟨ρ₂, a, b, ih (i + 1) ρ₂ st' hdr hil d⟩
      | cont => obtain ⟨ρ₂, a, b, d⟩ := h'; exact ⟨ρ₂, a, b, ih (i + 1) ρ₂ st' hdr hil d⟩
      | brk => exact h'
      | ret => exact h'
  exact go vs 0 ρ st rfl (Nat.zero_le _) h0
theorem WPE.mono {e : Expr} {Q' : V → St → Prop} (h : WPE c k sc ρ st e Q X) (hq : ∀ v st', Q v st' → Q' v st') : WPE c k sc ρ st e Q' X :=
  ⟨fun f imm fr s ok hsc R => wpAny_mono (h.go f imm fr s ok hsc R) (fun _ _ ⟨v, st, imm', a, b, r, q⟩ => ⟨v, st, imm', a, b, r, hq _ _ q⟩) fun _ _ t => t⟩
theorem COMP.inv {x : Str} {elt : Expr} {v : V} {vs : List V} {P : List V → St → Prop} (J : Nat → List V → St → Prop) (h0 : J 0 [] st)
    (step : ∀ i u acc st₁, vs[i]? = some u → J i acc st₁ → WPE c k sc ((x, u) :: ρ) st₁ elt (fun y st₂ => Src st₂ v vs ∧ J (i + 1) (acc ++ [y]) st₂) X)
    (fin : ∀ acc st₁, J vs.length acc st₁ → P acc st₁) : COMP c k sc x ρ [] elt v vs P X vs [] st := by
  have go : ∀ us i acc st, vs.drop i = us → i ≤ vs.length → J i acc st → COMP c k sc x ρ [] elt v vs P X us acc st := by
    intro us
    induction us with
    | nil =>
      intro i acc st hd hi hJ
      have : i = vs.length := by have : vs.length ≤ i := by simpa using hd
                                 omega
      subst this
      exact fin acc st hJ
    | cons u us ih =>
      intro i acc st hd hi hJ
      have hu : vs[i]? = some u := by
        have := congrArg List.head? hd
        rw [List.head?_drop] at this
        simpa using this
      have hdr : vs.drop (i + 1) = us := by
        have := congrArg List.tail hd
        rwa [List.tail_drop] at this
      have hil : i < vs.length := by
        rcases Nat.lt_or_ge i vs.length with q | q
        · exact q
        · rw [List.getElem?_eq_none q] at hu; cases hu
      exact WPE.mono (step i u acc st hu hJ) fun y st₂ h => ⟨h.1, ih (i + 1) _ st₂ hdr hil h.2⟩
  exact go vs 0 [] st rfl (Nat.zero_le _) h0
/-- each thing by itself, the store as it is -/
theorem COMP.pure {x : Str} {elt : Expr} {v : V} {vs : List V} {P : List V → St → Prop} (g : Nat → V) (hs : Src st v vs)
    (step : ∀ i u, vs[i]? = some u → WPE c k sc ((x, u) :: ρ) st elt (fun y st₂ => y = g i ∧ st₂ = st) X) (fin : P ((List.range vs.length).map g) st) : COMP c k sc x ρ [] elt v vs P X vs [] st := by
  refine COMP.inv (fun i acc st₁ => st₁ = st ∧ acc = (List.range i).map g) ⟨rfl, rfl⟩ (fun i u acc st₁ hu hJ => ?_) (fun acc st₁ hJ => ?_)
  · obtain ⟨rfl, rfl⟩ := hJ
    refine WPE.mono (step i u hu) fun y st₂ h => ?_
    obtain ⟨rfl, rfl⟩ := h
    exact ⟨hs, rfl, by rw [List.range_succ, List.map_append]; rfl⟩
  · obtain ⟨rfl, rfl⟩ := hJ; exact fin
/-! ranges that rise by one -/
theorem rng_up {A B : Int} {a n : Nat} (hA : A = a) (hB : B = a + n) : rngItems A B 1 = (List.range' a n).map (fun (i : Nat) => V.int i) := by
  subst hA hB
  unfold rngItems
  have e : (Builtin.Range.rangeSize (a : Int) (a + n) 1).toNat = n := by
    unfold Builtin.Range.rangeSize
    rw [if_pos (by decide), Int.ediv_one]
    split <;> omega
  rw [e, List.range'_eq_map_range, List.map_map]
  refine List.map_congr_left fun i _ => ?_
  simp
theorem Sub.nil : Sub [] ρ := fun _ _ h => by cases h
theorem Sub.cons {x : Str} {v : V} {ρ₂ : Loc} (h : getL ρ x = some v) (t : Sub ρ₂ ρ) : Sub ((x, v) :: ρ₂) ρ := fun y w e => by
  rw [getL_cons] at e
  by_cases q : x = y
  · subst q; rw [if_pos rfl] at e; cases e; exact h
  · rw [if_neg q] at e; exact t y w e
noncomputable def upTo (a n : Nat) : List V := (List.range' a n).map fun (i : Nat) => V.int i
theorem Src.up {A B : Int} (a n : Nat) (hA : A = a) (hB : B = a + n) (hb : a + n < 1000000) : Src st (.rng A B 1) (upTo a n) := by
  unfold upTo
  rw [← rng_up hA hB]
  exact .rng (by subst hA hB; exact small_up hb)
theorem upTo_len {a n : Nat} : (upTo a n).length = n := by simp [upTo]
theorem upTo_get {a n i : Nat} {u : V} (h : (upTo a n)[i]? = some u) : i < n ∧ u = .int ((a + i : Nat) : Int) := by
  unfold upTo at h
  rw [List.getElem?_map] at h
  obtain ⟨j, hj, rfl⟩ := Option.map_eq_some_iff.mp h
  have hi : i < n := by
    rcases Nat.lt_or_ge i n with q | q
    · exact q
    · rw [List.getElem?_eq_none (by simpa using q)] at hj; cases hj
  rw [List.getElem?_range' hi] at hj
  simp at hj
  subst hj
  exact ⟨hi, rfl⟩
theorem Le.upd {st' : St} {a : Addr} {o : O} (h : Le st st') (hn : get st a = none) : Le st (upd st' a o) := fun b x e => by
  have : b ≠ a := fun q => by rw [q, hn] at e; cases e
  rw [get_upd_ne this]; exact h b x e
theorem Le.cons {st' : St} {a : Addr} {o : O} (h : Le st st') (hn : get st' a = none) : Le st ((a, o) :: st') := h.trans (Le.alloc hn)
theorem Le.none {st' : St} {a : Addr} (h : Le st st') (hn : get st' a = Option.none) : get st a = Option.none := by
  cases e : get st a with
  | none => rfl
  | some o => rw [h a o e] at hn; cases hn
end
end Mine
namespace Mine
section
variable {c : Cx} {k : Nat} {sc : Scope} {ρ : Loc} {st : St} {Q : V → St → Prop} {S : Fl → Loc → St → Prop} {X : Xp} {f : Fm} {imm fr : Led} {s : Shared} {tk : Nat}

theorem Dats.ints {ns : List Int} : Dats st (ns.map V.int) (ns.map PyData.int) := by
  induction ns with
  | nil => exact .nil
  | cons n ns ih => exact .cons (.int n) ih
theorem lay_ints {ns : List Int} : PyData.canLayAll0 (ns.map PyData.int) = true := by
  induction ns with
  | nil => rfl
  | cons n ns ih => simp [PyData.canLayAll0, PyData.canLay0, ih]
theorem depth_ints {ns : List Int} : PyData.depthAll (ns.map PyData.int) ≤ 1 := by
  induction ns with
  | nil => simp [PyData.depthAll]
  | cons n ns ih => simp [PyData.depthAll, PyData.depth]; omega
theorem shaped_ints {ns : List Int} : SeqAt.shaped (.list (ns.map PyData.int)) = true := by
  unfold SeqAt.shaped
  have := depth_ints (ns := ns)
  simp [PyData.canLay0, lay_ints, PyData.depth]
  omega
end
end Mine
namespace Mine
section
variable {c : Cx} {k : Nat} {sc : Scope} {ρ : Loc} {st : St} {Q : V → St → Prop} {S : Fl → Loc → St → Prop} {X : Xp} {f : Fm} {imm fr : Led} {s : Shared} {tk : Nat}

noncomputable abbrev vbm : List Value := [.type "ValueError", .type "Exception", .type "BaseException", .type "object"]

/-! under a handler -/
end

/-! the class of an exception -/
structure ExcK (K : Frag) (C : Addr) : Prop where
  ga : findIn K (.ref C) "__getattribute__" = some (some (.builtin "BaseException.__getattribute__"))
  gh : findIn K (.ref C) "__getattr__" = some none
  cl : findIn K (.ref C) "__class__" = some (some (.builtin "object.__class__"))
  gt : specialIn K (.builtin "object.__class__") "__get__" = some (some (.builtin "getset_descriptor.__get__"))
  tk : takesIn K (.builtin "object.__class__") = some true
  ob : mroIn K C (.type "object") = some true
  be : mroIn K C (.type "BaseException") = some true
  is : (clsIn K C).isSome = true

section
variable {prog : Program} {w : World} {A : Around} {E : Value → Shared → Prop} {K : Frag} {e C : Addr} {h : Heap} {g : Array GenState} {d : Drawn} {t : Nat} {os : OsState}
open Builtin Builtin.ObjectAttr Builtin.Getset_descriptor
end

section
variable {c : Cx} {k : Nat} {sc : Scope} {ρ : Loc} {st : St} {Q : V → St → Prop} {S : Fl → Loc → St → Prop} {X : Xp}
/-! count, index -/
end
end Mine
namespace Mine
section
variable {c : Cx} {k : Nat} {sc : Scope} {ρ : Loc} {st : St} {Q : V → St → Prop} {S : Fl → Loc → St → Prop} {X : Xp} {f : Fm} {imm fr : Led} {s : Shared} {tk : Nat}

/-! copies -/
theorem WL.listOf {a : Addr} {vs : List V} (hg : get st a = some (.list vs)) (hl : vs.length ≤ 1000000) (h : ∀ d, get st d = none → Q (.ref d) ((d, .list vs) :: st)) : WL c k (fun xs => call (.type "list") xs) [.ref a] ρ st Q X := by
  refine ⟨fun f imm fr s xs ok R rvs => ?_⟩
  obtain ⟨_, rfl, rx0⟩ := rvs.inv1
  obtain rfl := rx0.refI
  obtain ⟨vals, n, r, ho⟩ := R.isList hg
  have hl' : vals.length ≤ 1000000 := by rw [r.length]; exact hl
  obtain ⟨⟨h0, tk0, rfl⟩, m, mt, cs, fo, rr⟩ := id R
  refine list_copyK rr.frm rr.news ⟨_, ho, rfl, _, rfl⟩ (fun D e h' F N hlt => ?_) (by rw [PySem.sizeLine_eq]; simp; omega)
  exact ⟨.ref D, _, imm, fun _ h => h, .ref D, ⟨⟨h', tk0, rfl⟩, m, _, cs, fo, rr.newSt F N hlt (.list r)⟩, h D (Rel.noneAt rr hlt)⟩
theorem RVs.drop {base : Heap} {imm : Led} : ∀ (n : Nat) {vs : List V} {xs : List Value}, RVs base imm vs xs → RVs base imm (vs.drop n) (xs.drop n)
  | 0, _, _, h => h
  | n + 1, _, _, .nil => .nil
  | n + 1, _, _, .cons _ h => RVs.drop n h
theorem RVs.take {base : Heap} {imm : Led} : ∀ (n : Nat) {vs : List V} {xs : List Value}, RVs base imm vs xs → RVs base imm (vs.take n) (xs.take n)
  | 0, _, _, h => .nil
  | n + 1, _, _, .nil => .nil
  | n + 1, _, _, .cons a h => .cons a (RVs.take n h)

/-! slices -/
noncomputable def WPO (c : Cx) (k : Nat) (sc : Scope) (ρ : Loc) (st : St) (oe : Option Expr) (P : Option Int → St → Prop) (X : Xp) : Prop := match oe with
  | none => P none st
  | some e => WPE c k sc ρ st e (fun v st₁ => ∃ i, v = .int i ∧ P (some i) st₁) X
theorem WPO.so {e : Expr} {P : Option Int → St → Prop} (h : WPE c k sc ρ st e (fun v st₁ => ∃ i, v = .int i ∧ P (some i) st₁) X) : WPO c k sc ρ st (some e) P X := h
theorem wpo {oe : Option Expr} {P : Option Int → St → Prop} (h : WPO c k sc ρ st oe P X) (ok : f.Ok c k) (hsc : f.env.scope = sc) (R : Rel c f ρ st imm fr s) :
    wpAny c.M f.A (evalPart oe f.env) (fun v s' => ∃ i st' imm', (∀ p ∈ imm, p ∈ imm') ∧ IsPart v i ∧ Rel c f ρ st' imm' fr s' ∧ P i st') (Thrown c f imm fr X) s := by
  cases oe with
  | none => exact wpAny_evalPart_none ⟨none, st, imm, fun _ h => h, .none, R, h⟩
  | some e =>
    refine wpAny_evalPart_some (wpAny_mono ((show WPE c k sc ρ st e _ X from h).go f imm fr s ok hsc R) (fun x s₁ p => ?_) fun _ _ t => t)
    obtain ⟨v, st₁, imm₁, i₁, rv, R₁, i, rfl, h₁⟩ := p
    cases rv
    exact ⟨some i, st₁, imm₁, i₁, .int _ _, R₁, h₁⟩
theorem WPE.slice {e : Expr} {lo hi : Option Expr} {p pos : Pos}
    (h : WPE c k sc ρ st e (fun v st₁ => WPO c k sc ρ st₁ lo (fun l st₂ => WPO c k sc ρ st₂ hi (fun u st₃ => ∃ a vs x y, v = .ref a ∧ get st₃ a = some (.list vs) ∧ vs.length ≤ 1000000 ∧ sliceBounds l u none vs.length = (((x : Nat) : Int), ((y : Nat) : Int), 1) ∧
      ∀ d, get st₃ d = none → Q (.ref d) ((d, .list ((vs.drop x).take (y - x))) :: st₃)) X) X) X) : WPE c k sc ρ st (.Subscript e (.Slice lo hi none p) pos) Q X := by
  refine ⟨fun f imm fr s ok hsc R => ?_⟩
  refine Subscript_ (wpAny_mono (h.go f imm fr s ok hsc R) (fun x s₁ p => ?_) fun _ _ t => t)
  obtain ⟨v, st₁, imm₁, i₁, rv, R₁, h₁⟩ := p
  refine wpAny_Slice (wpAny_mono (wpo h₁ ok hsc R₁) (fun vl s₂ p => ?_) fun _ _ t => t.mono i₁)
  obtain ⟨l, st₂, imm₂, i₂, pl, R₂, h₂⟩ := p
  refine wpAny_mono (wpo h₂ ok hsc R₂) (fun vu s₃ p => ?_) fun _ _ t => t.mono fun q hq => i₂ q (i₁ q hq)
  obtain ⟨u, st₃, imm₃, i₃, pu, R₃, a, vs, y1, y2, rfl, hg, hl, hb, h₃⟩ := p
  refine wpAny_evalPart_none ?_
  cases rv with
  | ref =>
    obtain ⟨vals, n, r, ho⟩ := R₃.isList hg
    have hl' : vals.length ≤ 1000000 := by rw [r.length]; exact hl
    obtain ⟨⟨h0, tk0, rfl⟩, m, mt, cs, fo, rr⟩ := id R₃
    refine kba_turn (value' := PySem.Expr.Name (PySem.Str.ofString "_") ⟨0, 0, 0, 0⟩) (fun _ => rfl) ?_
    refine kmk_slice rr.frm rr.news ⟨_, ho, rfl, _, rfl⟩ pl pu (fun D h' F N hlt => ?_) (by with_unfolding_all rfl) (fun _ => rfl) (by rw [PySem.sizeLine_eq]; simp; omega)
    rw [kmk_pick_nat _ (by simpa [r.length] using hb)] at N
    exact ⟨.ref D, _, imm₃, fun q hq => i₃ q (i₂ q (i₁ q hq)), .ref D, ⟨⟨h', tk0, rfl⟩, m, _, cs, fo, rr.newSt F N hlt (.list ((r.drop y1).take (y2 - y1)))⟩, h₃ D (Rel.noneAt rr hlt)⟩
theorem sb_run {n x y : Nat} (h : x ≤ n) (h' : y ≤ n) : sliceBounds (some (x : Int)) (some (y : Int)) none n = ((x : Int), (y : Int), 1) := by
  unfold sliceBounds
  simp
  omega
theorem WPE.mCount {e : Expr} {ap pos : Pos} {args : List Expr}
    (h : WPE c k sc ρ st e (fun v st₁ => ∃ a vs, v = .ref a ∧ get st₁ a = some (.list vs) ∧ WPEs c k sc ρ st₁ args (fun us st₂ => WL c k (fun xs => PySem.call (.builtin "list.count") xs) (.ref a :: us) ρ st₂ Q X) X) X)
    (hp : args.any isStar = false := by rfl)
    (he : ∀ env, ∃ pl, eval (.Call (.Attribute e "count" ap) args [] pos) env = (do
      let ov ← eval e env
      standAt ap.atName
      let (f, first) ← holding [ov] (getMethod ov "count" pl)
      callWith pos f first (backTo pos (starEach args env)) []) := by intro _; exact ⟨_, rfl⟩) : WPE c k sc ρ st (.Call (.Attribute e "count" ap) args [] pos) Q X := WPE.meth PySem.F.slot_list_count PySem.F.type_list_count h hp he
theorem WPE.mClear {e : Expr} {ap pos : Pos} {args : List Expr}
    (h : WPE c k sc ρ st e (fun v st₁ => ∃ a vs, v = .ref a ∧ get st₁ a = some (.list vs) ∧ WPEs c k sc ρ st₁ args (fun us st₂ => WL c k (fun xs => PySem.call (.builtin "list.clear") xs) (.ref a :: us) ρ st₂ Q X) X) X)
    (hp : args.any isStar = false := by rfl)
    (he : ∀ env, ∃ pl, eval (.Call (.Attribute e "clear" ap) args [] pos) env = (do
      let ov ← eval e env
      standAt ap.atName
      let (f, first) ← holding [ov] (getMethod ov "clear" pl)
      callWith pos f first (backTo pos (starEach args env)) []) := by intro _; exact ⟨_, rfl⟩) : WPE c k sc ρ st (.Call (.Attribute e "clear" ap) args [] pos) Q X := WPE.meth PySem.F.slot_list_clear PySem.F.type_list_clear h hp he
/-! things that are equal to themselves -/
noncomputable def flatV : V → Bool
  | .none => true
  | .bool _ => true
  | .int _ => true
  | .str _ => true
  | .ref _ => true
  | _ => false
noncomputable def selfV : V → Bool
  | .tup us => us.all flatV
  | v => flatV v
theorem flat_eq {base : Heap} {A : Around} {v : V} {x y : Value} (h : flatV v = true) (rx : RV base imm v x) (ry : RV base imm v y) : SeqAt.EqAt A s x y true := by
  cases v with
  | none => obtain rfl := rx.noneI; obtain rfl := ry.noneI; exact SeqAt.EqAt.same _
  | bool b => obtain rfl := rx.boolI; obtain rfl := ry.boolI; exact SeqAt.EqAt.same _
  | int i => obtain ⟨t, rfl⟩ := rx.intI; obtain ⟨u, rfl⟩ := ry.intI; have := SeqAt.EqAt.int_int (A := A) (s := s) i t i u; rwa [beq_self_eq_true] at this
  | str i => obtain ⟨t, rfl⟩ := rx.strI; obtain ⟨u, rfl⟩ := ry.strI; have := SeqAt.EqAt.str_str (A := A) (s := s) i t i u; rwa [beq_self_eq_true] at this
  | ref a => obtain rfl := rx.refI; obtain rfl := ry.refI; exact SeqAt.EqAt.same _
  | tup _ => cases h
  | rng _ _ _ => cases h
  | stat _ => cases h
  | scr _ => cases h
theorem RVs.pair {base : Heap} {vs : List V} {xs ys : List Value} (h : RVs base imm vs xs) (h' : RVs base imm vs ys) : xs.length = ys.length ∧ ∀ j (h1 : j < xs.length) (h2 : j < ys.length), ∃ v ∈ vs, RV base imm v xs[j] ∧ RV base imm v ys[j] := by
  refine ⟨h.length.trans h'.length.symm, fun j h1 h2 => ?_⟩
  obtain ⟨v, hv, r⟩ := h.get' (List.getElem?_eq_getElem h1)
  obtain ⟨y, hy, r'⟩ := h'.get hv
  rw [List.getElem?_eq_getElem h2] at hy
  cases hy
  exact ⟨v, List.mem_of_getElem? hv, r, r'⟩
theorem all_true {n : Nat} : (List.range n).all (fun _ => true) = true := by simp
theorem self_eq {A : Around} {v : V} {x y : Value} (R : Rel c f ρ st imm fr s) (hu : A.units < cLine) (h : selfV v = true) (rx : RV c.base imm v x) (ry : RV c.base imm v y) : SeqAt.EqAt A s x y true := by
  cases v with
  | tup us =>
    obtain ⟨a, vals, n, rfl, hm, r⟩ := rx.tupI
    obtain ⟨b, vals2, n2, rfl, hm2, r2⟩ := ry.tupI
    · by_cases e : a = b
      · subst e; exact SeqAt.EqAt.same _
      · refine SeqAt.EqAt.of_refs e ?_
        obtain ⟨hl, hp⟩ := RVs.pair r r2
        have := SeqAt.RcAt.tuples (A := A) (s := s) (e := fun _ => true) (items := vals.toArray) (items2 := vals2.toArray) ⟨_, R.inImm hm, rfl, _, rfl⟩ ⟨_, R.inImm hm2, rfl, _, rfl⟩ hu (fun j h1 h2 => by
          obtain ⟨v, hv, q1, q2⟩ := hp j (by simpa using h1) (by simpa using h2)
          have := flat_eq (A := A.in1) (s := s) (List.all_eq_true.mp h v hv) q1 q2
          simpa using this)
        rw [all_true, show (vals.toArray.size == vals2.toArray.size) = true from by simpa using hl] at this
        exact this
  | none => exact flat_eq rfl rx ry
  | bool b => exact flat_eq rfl rx ry
  | int i => exact flat_eq rfl rx ry
  | str i => exact flat_eq rfl rx ry
  | ref a => exact flat_eq rfl rx ry
  | rng _ _ _ => cases h
  | stat _ => cases h
  | scr _ => cases h
theorem W2.neSelfL {a b : Addr} {vs : List V} (ha : get st a = some (.list vs)) (hb : get st b = some (.list vs)) (he : ∀ u ∈ vs, selfV u = true) (h : Q (.bool false) st) : W2 c k (compareOp .NotEq) (.ref a) (.ref b) ρ st Q X := by
  refine ⟨fun f imm fr s x y ok R ra rb => ?_⟩
  obtain rfl := ra.refI
  obtain rfl := rb.refI
  obtain ⟨va, na, r1, h1⟩ := R.isList ha
  obtain ⟨vb, nb, r2, h2⟩ := R.isList hb
  obtain ⟨hl, hp⟩ := RVs.pair r1 r2
  have hu := ok.units
  have := SeqAt.RcNeAt.lists (A := f.A) (s := s) (e := fun _ => true) (items := va.toArray) (items2 := vb.toArray) ⟨_, h1, rfl, _, rfl⟩ ⟨_, h2, rfl, _, rfl⟩ (by simpa using hl) (by omega) (fun j l1 l2 => by
    obtain ⟨v, hv, q1, q2⟩ := hp j (by simpa using l1) (by simpa using l2)
    have := self_eq (A := f.A.in1) R (by show f.A.units + 1 < _; omega) (he v hv) q1 q2
    simpa using this)
  rw [all_true] at this
  exact this _ _ _ _ (.of (.bool _) R h)
end
end Mine
namespace Mine
section
variable {base : Heap} {imm : Led} {fs : List (Str × V)} {es : List DictEntry} {x : Str} {v : V} {val : Value} {t : Tok} {hsh : Int}
theorem isStr_str {x y : Str} {t : Tok} : (Value.str y t).isStr x = (y == x) := rfl
theorem AtR.get (h : AtR base imm fs es) (e : Mine.getL fs x = some v) : ∃ val, RV base imm v val ∧ PySem.W.getL x es = some (some val) := by
  induction h with
  | nil => cases e
  | @cons y u t hsh val fs es r _ ih =>
    rw [Mine.getL_cons] at e
    unfold PySem.W.getL at ih ⊢
    rw [List.find?_cons]
    by_cases q : y = x
    · subst q
      rw [if_pos rfl] at e
      cases e
      exact ⟨val, r, by simp [isStr_str]⟩
    · rw [if_neg q] at e
      obtain ⟨val', r', h'⟩ := ih e
      refine ⟨val', r', ?_⟩
      have : (y == x) = false := by simpa using q
      simp only [isStr_str, this]
      split at h' <;> rename_i z <;> simp only [z] <;> first | exact h' | (split at h' <;> cases h')
theorem AtR.no (h : AtR base imm fs es) (e : Mine.getL fs x = none) : PySem.W.getL x es = some none := by
  have h1 : es.find? (·.key.isStr x) = none ∧ es.any (·.refKey) = false := by
    induction h with
    | nil => exact ⟨rfl, rfl⟩
    | @cons y u t hsh val fs es r _ ih =>
      rw [Mine.getL_cons] at e
      by_cases q : y = x
      · rw [if_pos q] at e; cases e
      · rw [if_neg q] at e
        obtain ⟨a, b⟩ := ih e
        have : (y == x) = false := by simpa using q
        refine ⟨by rw [List.find?_cons]; simp only [isStr_str, this]; exact a, by rw [List.any_cons, b]; rfl⟩
  unfold PySem.W.getL
  rw [h1.1]
  simp [h1.2]
theorem AtR.put (h : AtR base imm fs es) (r : RV base imm v val) : AtR base imm (setL fs x v) (putL x hsh (.str x t) val es) := by
  induction h with
  | nil => exact .cons r .nil
  | @cons y u t hsh val fs es r' h' ih =>
    unfold setL putL
    by_cases q : y = x
    · subst q
      simp only [isStr_str, beq_self_eq_true, if_true]
      exact .cons r h'
    · have : (y == x) = false := by simpa using q
      simp only [isStr_str, this, q, if_false, Bool.false_eq_true]
      exact .cons r' ih
theorem AtR.length (h : AtR base imm fs es) : es.length = fs.length := by
  induction h with
  | nil => rfl
  | cons _ _ ih => simp [ih]
theorem AtR.some (h : AtR base imm fs es) : (PySem.W.getL x es).isSome = true := by
  cases e : Mine.getL fs x with
  | none => rw [h.no e]; rfl
  | some v => obtain ⟨val, _, q⟩ := h.get e; rw [q]; rfl
end

/-- a class of the text, and a name of what is made of it -/
structure ClsK (K : Frag) (C : Addr) (name : Str) : Prop where
  get : plainGet K C name = true
  dict : hasDictIn K C = true
  no : findIn K (.ref C) name = some none
  set : findIn K (.ref C) "__setattr__" = some (some (.builtin "object.__setattr__"))
  over : plainOver K C = true
  taker : takerIn K C name = some none
structure MethK (K : Frag) (C : Addr) (name : Str) (fA : Addr) : Prop where
  get : plainGet K C name = true
  at_ : findIn K (.ref C) name = some (some (.ref fA))
  fn : isFn K (.ref fA) = true
  keep : keepIn K (.ref fA) = true
structure MakeK (K : Frag) (C fI : Addr) : Prop where
  make : makesIn K C = true
  init : findIn K (.ref C) "__init__" = some (some (.ref fI))
  fn : isFn K (.ref fI) = true
noncomputable def plainV : V → Bool
  | .stat _ => false
  | _ => true
theorem handed_of {base : Heap} {imm : Led} {v : V} {val : Value} (r : RV base imm v val) (h : plainV v = true) : handedIn val = true := by
  cases r <;> first | rfl | cases h

section
variable {c : Cx} {k : Nat} {sc : Scope} {ρ : Loc} {st : St} {Q : V → St → Prop} {S : Fl → Loc → St → Prop} {X : Xp} {f : Fm} {imm fr : Led} {s : Shared} {tk : Nat}

theorem RelAt.inst {x C d : Addr} {fs : List (Str × V)} {m : Str → Option Value} {mt cs fo : Led} {h : Heap} (R : RelAt c f ρ st imm fr h m mt cs fo) (hx : Mine.get st x = some (.inst C d)) (hd : Mine.get st d = some (.attr fs)) :
    ∃ es n, AtR c.base imm fs es ∧ (d, dictOf es n) ∈ mt ∧ InstAt h x (instObj C d) C (some (dictOf es n)) := by
  obtain ⟨co, h1, h2, h3⟩ := R.get hx
  obtain ⟨co', h4, h5, h6⟩ := R.get hd
  cases h2 with
  | inst =>
  cases h5 with
  | attr a => exact ⟨_, _, a, h4, h3, rfl, rfl, h6⟩

theorem WPE.attr {e : Expr} {name : Str} {pos : Pos} (h : WPE c k sc ρ st e (fun v st₁ => ∃ x C d fs u, v = .ref x ∧ get st₁ x = some (.inst C d) ∧ get st₁ d = some (.attr fs) ∧ ClsK c.K C name ∧ getL fs name = some u ∧ plainV u = true ∧ Q u st₁) X)
    (hb : ∀ env whole, attributeBase e name env whole = whole := by intro _ _; rfl) (ht : ∀ o r, letTemporaryGo e o r = pure () := by intro _ _; rfl) : WPE c k sc ρ st (.Attribute e name pos) Q X := by
  refine ⟨fun f imm fr s ok hsc R => ?_⟩
  rw [arm_eval_Attribute, hb]
  refine wpAny_bind (wpAny_mono (h.go f imm fr s ok hsc R) (fun y s₁ p => ?_) fun _ _ t => t)
  obtain ⟨v, st₁, imm₁, i₁, rv, R₁, x, C, d, fs, u, rfl, hx, hd, hK, hu, hp, h₁⟩ := p
  cases rv with
  | ref =>
    refine wpAny_bind (wpAny_standAt (wpAny_bind (wpAny_holding ?_)))
    obtain ⟨hs, m, mt, cs, fo, r⟩ := id R₁
    obtain ⟨es, n, a, _, I⟩ := r.inst hx hd
    obtain ⟨val, rval, hl⟩ := a.get hu
    refine get_own r.frm ok.kin I hK.get hK.dict hK.no rfl hl (handed_of rval hp) ?_
    refine wpAny_bind (wpAny_of_eq (ht _ _) (wpAny_pure ?_))
    exact ⟨u, st₁, imm₁, i₁, rval, R₁.toks, h₁⟩

theorem upd_led {d : Addr} {o o' : Obj} : ∀ {l : Led}, (d, o) ∈ l → (l.map (·.1)).Nodup → Upd d o o' l (l.map fun p => if p.1 = d then (d, o') else p)
  | [], h, _ => by cases h
  | p :: l, h, nd => by
    rw [List.map_cons, List.nodup_cons] at nd
    rcases List.mem_cons.mp h with rfl | h
    · have : l.map (fun p => if p.1 = d then (d, o') else p) = l := by
        have : ∀ p ∈ l, (if p.1 = d then (d, o') else p) = p := fun p hp => if_neg fun q => nd.1 (List.mem_map.mpr ⟨p, hp, q⟩)
        rw [List.map_congr_left this, List.map_id'']
        intro _; rfl
      rw [List.map_cons, if_pos rfl, this]
      exact .head fun q hq z => nd.1 (List.mem_map.mpr ⟨q, hq, z⟩)
    · have hne : p.1 ≠ d := fun q => nd.1 (List.mem_map.mpr ⟨_, h, q.symm⟩)
      rw [List.map_cons, if_neg hne]
      exact .tail hne (upd_led h nd.2)
theorem map_other {d : Addr} {o' : Obj} {l : Led} (h : ∀ p ∈ l, p.1 ≠ d) : l.map (fun p => if p.1 = d then (d, o') else p) = l := by
  have : ∀ p ∈ l, (if p.1 = d then (d, o') else p) = p := fun p hp => if_neg (h p hp)
  rw [List.map_congr_left this, List.map_id'']
  intro _; rfl
theorem RelAt.changed {d : Addr} {o o' : Obj} {x : O} {m : Str → Option Value} {mt cs fo : Led} {h h' : Heap} (R : RelAt c f ρ st imm fr h m mt cs fo) (hm : (d, o) ∈ mt) (F : Fr c.base f.L h' m)
    (N : News c.base f.L h' ((whole mt cs imm fr fo).map fun p => if p.1 = d then (d, o') else p)) (hr : RO c imm x o') : RelAt c f ρ (Mine.upd st d x) imm fr h' m (mt.map fun p => if p.1 = d then (d, o') else p) cs fo := by
  have ne : ∀ p ∈ cs ++ (imm ++ (fr ++ fo)), p.1 ≠ d := fun p hp q => by
    have := R.nodup
    rw [List.map_append, List.nodup_append] at this
    exact this.2.2 d (List.mem_map_of_mem hm) p.1 (List.mem_map_of_mem hp) q.symm
  have e : ((whole mt cs imm fr fo).map fun p => if p.1 = d then (d, o') else p) = whole (mt.map fun p => if p.1 = d then (d, o') else p) cs imm fr fo := by
    show (mt ++ (cs ++ (imm ++ (fr ++ fo)))).map _ = _
    rw [List.map_append, map_other ne]
  rw [e] at N
  refine ⟨F, N, ?_, R.sto.upd hr, R.fos, R.loc⟩
  have e1 : (mt.map fun p => if p.1 = d then (d, o') else p).map (·.1) = mt.map (·.1) := by
    rw [List.map_map]
    refine List.map_congr_left fun p _ => ?_
    simp only [Function.comp]
    split
    · rename_i q; exact q.symm
    · rfl
  have := R.nodup
  simp only [whole, List.map_append] at this ⊢
  rw [e1]; exact this

theorem WPs.setAttr {o value : Expr} {name : Str} {p' pos : Pos}
    (h : WPE c k sc ρ st value (fun u st₁ => WPE c k sc ρ st₁ o (fun v st₂ => ∃ x C d fs, v = .ref x ∧ get st₂ x = some (.inst C d) ∧ get st₂ d = some (.attr fs) ∧ ClsK c.K C name ∧ fs.length ≤ 900 ∧ S .next ρ (upd st₂ d (.attr (setL fs name u)))) X) X)
    (hs : ∀ env, swapsWith value (some (.Attribute o name p')) pos.line env = pure false := by intro _; rfl) : WPs c k sc ρ st (.Assign [.Attribute o name p'] value pos) S X := by
  refine ⟨fun f imm fr s ok hsc own R => ?_⟩
  refine plainObj_wpAny_Assign_Attribute (wpAny_mono (h.go f imm fr s ok hsc R) (fun y s₁ p => ?_) fun _ _ t => t) (hs _)
  obtain ⟨u, st₁, imm₁, i₁, ru, R₁, h₁⟩ := p
  refine wpAny_mono (h₁.go f imm₁ fr s₁ ok hsc R₁) (fun z s₂ p => ?_) fun _ _ t => t.mono i₁
  obtain ⟨v, st₂, imm₂, i₂, rv, R₂, x, C, d, fs, rfl, hx, hd, hK, hlen, h₂⟩ := p
  cases rv with
  | ref =>
    obtain ⟨⟨h0, tk0, rfl⟩, m, mt, cs, fo, r⟩ := R₂
    obtain ⟨es, n, a, hm, I⟩ := r.inst hx hd
    have hlen' : (putL name (PyData.keyHash c.w.params name) (.str name (tk0 + 1)) y es).length ≤ 1000 := by
      have z := (a.put (x := name) (hsh := PyData.keyHash c.w.params name) (t := tk0 + 1) (ru.mono i₂)).length
      have : (setL fs name u).length ≤ fs.length + 1 := by
        clear h₂ hd a z I hlen
        induction fs with
        | nil => simp [setL]
        | cons p fs ih => obtain ⟨y, w⟩ := p; unfold setL; split <;> simp <;> omega
      omega
    refine set_dict r.frm ok.kin r.news I rfl hK.set hK.over hK.taker hK.dict a.some rfl (upd_led (List.mem_append_left _ hm) r.nodup) hlen' fun h' F' N' => ?_
    exact ⟨.next, ρ, _, imm₂, fun q hq => i₂ q (i₁ q hq), .next, ⟨⟨h', _, rfl⟩, m, _, cs, fo, r.changed hm F' N' (.attr (a.put (ru.mono i₂)))⟩, h₂⟩

theorem WPE.methI {e : Expr} {name : Str} {ap pos : Pos} {args : List Expr}
    (h : WPE c k sc ρ st e (fun v st₁ => ∃ x C d fs fA, v = .ref x ∧ get st₁ x = some (.inst C d) ∧ get st₁ d = some (.attr fs) ∧ getL fs name = none ∧ MethK c.K C name fA ∧ WPEs c k sc ρ st₁ args (fun us st₂ => WL c k (fun xs => PySem.call (.ref fA) xs) (.ref x :: us) ρ st₂ Q X) X) X)
    (hp : args.any isStar = false := by rfl)
    (he : ∀ env, ∃ pl, eval (.Call (.Attribute e name ap) args [] pos) env = (do
      let ov ← eval e env
      standAt ap.atName
      let (f, first) ← holding [ov] (getMethod ov name pl)
      callWith pos f first (backTo pos (starEach args env)) []) := by intro _; exact ⟨_, rfl⟩) : WPE c k sc ρ st (.Call (.Attribute e name ap) args [] pos) Q X := by
  refine ⟨fun f imm fr s ok hsc R => ?_⟩
  obtain ⟨pl, he⟩ := he f.env
  refine MethodCall_ (pl := pl) (wpAny_mono (h.go f imm fr s ok hsc R) (fun y s₁ p => ?_) fun _ _ t => t) he
  obtain ⟨v, st₁, imm₁, i₁, rv, R₁, x, C, d, fs, fA, rfl, hx, hd, hno, hM, h₁⟩ := p
  cases rv with
  | ref =>
    obtain ⟨hs, m, mt, cs, fo, r⟩ := id R₁
    obtain ⟨es, n, a, _, I⟩ := r.inst hx hd
    refine method_inst r.frm ok.kin I hM.get hM.at_ hM.fn (a.no hno) ?_
    exact wpAny_mono (callWithW (f := f) (val := .ref fA) (first := [.ref x]) (vs₀ := [.ref x]) hM.keep hp ok hsc R₁ (.one (.ref x)) (.inr fun T e => by cases e) (by simpa using h₁)) (fun _ _ p => p.mono i₁) fun _ _ t => t.mono i₁

noncomputable abbrev Fm.reA (f : Fm) (A : Around) : Fm := { f with A := A }
theorem Rel.reA {A : Around} (R : Rel c f ρ st imm fr s) : Rel c (f.reA A) ρ st imm fr s := by
  obtain ⟨hs, m, mt, cs, fo, r⟩ := R
  exact ⟨hs, m, mt, cs, fo, r.frm, r.news, r.nodup, r.sto, r.fos, ⟨r.loc.reads, r.loc.cells, r.loc.inj⟩⟩
theorem Rel.unA {A : Around} (R : Rel c (f.reA A) ρ st imm fr s) : Rel c f ρ st imm fr s := by
  obtain ⟨hs, m, mt, cs, fo, r⟩ := R
  exact ⟨hs, m, mt, cs, fo, r.frm, r.news, r.nodup, r.sto, r.fos, ⟨r.loc.reads, r.loc.cells, r.loc.inj⟩⟩
theorem WL.make {C fI : Addr} {names : List Str} {sc : Scope} {body : List Stmt} {vs : List V} (hM : MakeK c.K C fI) (H : FnAt c.K fI names sc body) (hn : (vs.length + 1) = names.length)
    (h : ∀ x d, get st x = none → get st d = none → x ≠ d → WPS c k sc (names.zip (.ref x :: vs)) ((x, .inst C d) :: (d, .attr []) :: st) body (fun fl ρ' st' => retV fl = .none ∧ Q (.ref x) st') (fun E _ st' => X E ρ st')) :
    WL c (k + 2) (fun xs => call (.ref C) xs) vs ρ st Q X := by
  refine ⟨fun f imm fr s xs ok R rvs => ?_⟩
  obtain ⟨⟨h0, tk0, rfl⟩, m, mt, cs, fo, r⟩ := id R
  refine call_cls r.frm ok.kin r.news hM.make hM.init hM.fn fun x dx h' F N hlt hlx => ?_
  generalize hA' : f.A.under (.builtin "type.__call__" ⟨.ref C :: xs, []⟩) = A'
  have hdep : A'.depth = f.A.depth + 1 := by rw [← hA']; rfl
  have z0 : (Code.builtin "type.__call__" ⟨.ref C :: xs, []⟩).frames = 0 := rfl
  have hun : A'.units ≤ f.A.units + 4 := by rw [← hA']; show f.A.units + (1 + 3 * (Code.builtin "type.__call__" ⟨.ref C :: xs, []⟩).frames) ≤ _; rw [z0]; omega
  have hfr' : A'.frames = f.A.frames := by rw [← hA']; rfl
  have hha' : A'.handled = f.A.handled := by rw [← hA']; rfl
  have ok' : (f.reA A').Ok c (k + 1) := ⟨ok.kin, ok.top, ok.envs, hfr'.trans ok.frames, ok.eframe, ok.ekind, ok.eglob, ok.ebi, ok.ecell, fun q => hha'.trans (ok.hnd q), by show A'.depth + (k + 1) + 200 < _; have := ok.depth; omega, by show A'.units + 8 * (k + 1) + 200 < _; have := ok.units; omega⟩
  have r1 : RelAt c f ρ ((dx, .attr []) :: st) imm fr h' m ((dx, dictOf [] 0) :: mt) cs fo := r.newSt F (fun p hp => N p (.tail _ hp)) hlt (.attr .nil)
  have r2 : RelAt c f ρ ((x, .inst C dx) :: (dx, .attr []) :: st) imm fr h' m ((x, instObj C dx) :: (dx, dictOf [] 0) :: mt) cs fo := r1.newSt F N (by
    intro p hp
    rcases List.mem_cons.mp hp with rfl | hp
    · exact hlx
    · exact Nat.lt_trans (hlt p hp) hlx) (.inst C dx)
  have hdn : get st dx = none := Rel.noneAt r hlt
  have hxn : get st x = none := Rel.noneAt r fun p hp => Nat.lt_trans (hlt p hp) hlx
  have R2 : Rel c (f.reA A') ρ ((x, .inst C dx) :: (dx, .attr []) :: st) imm fr { c.s₀ with heap := h', toks := tk0 } := Rel.reA ⟨⟨h', tk0, rfl⟩, m, _, cs, fo, r2⟩
  refine codeAny_mono (CodeW.fn (Q := fun v st' => v = .none ∧ Q (.ref x) st') (vs := .ref x :: vs) H (by simpa using hn) (h x dx hxn hdn (Nat.ne_of_gt hlx)) ok' R2 (.cons (.ref x) rvs)) fun rr s' z => ?_
  rcases rr with e | (_ | _ | _ | v)
  all_goals first | exact z.elim | skip
  · obtain ⟨e1, C1, mk, E1, ρ1, st1, imm1, q1, q2, q3, q4, q5, q6⟩ := z
    exact ⟨e1, C1, mk, E1, ρ1, st1, imm1, q1, q2, q3, q4, q5.unA, q6⟩
  · obtain ⟨u, st1, imm1, i1, ru, R1, rfl, hQ⟩ := z
    cases ru
    exact ⟨rfl, .ref x, st1, imm1, i1, .ref x, R1.unA, hQ⟩
end
end Mine
namespace Mine
/-! dicts with ints as keys -/
noncomputable def valA {α : Type} [DecidableEq α] (kvs : List (α × V)) (k : α) : Option V := (kvs.find? fun kv => kv.1 = k).map (·.2)
noncomputable def putA {α : Type} [DecidableEq α] (kvs : List (α × V)) (k : α) (v : V) : List (α × V) := if kvs.any (fun kv => kv.1 = k) then kvs.map (fun kv => if kv.1 = k then (kv.1, v) else kv) else kvs ++ [(k, v)]
noncomputable def delA {α : Type} [DecidableEq α] (kvs : List (α × V)) (k : α) : List (α × V) := kvs.filter fun kv => !decide (kv.1 = k)
section
variable {α : Type} [DecidableEq α] {base : Heap} {imm : Led} {l : List (α × V)} {r : List (α × Value)} {k : α} {v : V} {x : Value}
theorem RKs.len (h : RKs base imm l r) : r.length = l.length := by
  induction h with
  | nil => rfl
  | cons _ _ ih => simp [ih]
theorem RKs.val (h : RKs base imm l r) : (valA l k = none ∧ valueAt r k = none) ∨ ∃ v x, valA l k = some v ∧ valueAt r k = some x ∧ RV base imm v x := by
  induction h with
  | nil => exact .inl ⟨rfl, rfl⟩
  | @cons j w y l r a _ ih =>
    unfold valA valueAt at ih ⊢
    rw [List.find?_cons, List.find?_cons]
    by_cases q : j = k
    · simp only [q, decide_true]; exact .inr ⟨w, y, rfl, rfl, a⟩
    · simp only [q, decide_false]; exact ih
theorem RKs.any (h : RKs base imm l r) : (l.any fun kv => kv.1 = k) = r.any fun kv => kv.1 = k := by
  induction h with
  | nil => rfl
  | cons _ _ ih => rw [List.any_cons, List.any_cons, ih]
theorem RKs.mapSet (h : RKs base imm l r) (a : RV base imm v x) : RKs base imm (l.map fun kv => if kv.1 = k then (kv.1, v) else kv) (r.map fun kv => if kv.1 = k then (kv.1, x) else kv) := by
  induction h with
  | nil => exact .nil
  | @cons j w y l r b _ ih =>
    rw [List.map_cons, List.map_cons]
    by_cases q : j = k
    · simp only [q, if_true]; exact .cons a ih
    · simp only [q, if_false]; exact .cons b ih
theorem RKs.snoc (h : RKs base imm l r) (a : RV base imm v x) : RKs base imm (l ++ [(k, v)]) (r ++ [(k, x)]) := by
  induction h with
  | nil => exact .cons a .nil
  | cons b _ ih => exact .cons b ih
theorem RKs.put (h : RKs base imm l r) (a : RV base imm v x) : RKs base imm (putA l k v) (stored r k x) := by
  unfold putA stored
  rw [h.any (k := k)]
  split
  · exact h.mapSet a
  · exact h.snoc a
theorem RKs.del (h : RKs base imm l r) : RKs base imm (delA l k) (without r k) := by
  induction h with
  | nil => exact .nil
  | @cons j w y l r b _ ih =>
    unfold delA without at ih ⊢
    rw [List.filter_cons, List.filter_cons]
    by_cases q : j = k
    · simp only [q, decide_true, Bool.not_true, Bool.false_eq_true, if_false]; first | exact ih | (simp; simpa using ih)
    · simp only [q, decide_false, Bool.not_false, if_true]; first | exact .cons b ih | (simp [q]; exact .cons b (by simpa using ih))
theorem IsDict.of {prog : Program} {w : World} {knd : KeyKind prog w α} {h : Heap} {d : Addr} {o : Obj} {kvs : List (α × Value)} (ho : h.get? d = some o) (hd : IsDict knd o kvs) : h.DictOf knd d kvs :=
  let ⟨a, es, ep, b, e, f, g⟩ := hd; ⟨o, es, ep, ho, a, b, e, f, g⟩
theorem IsDict.to {prog : Program} {w : World} {knd : KeyKind prog w α} {h : Heap} {d : Addr} {kvs : List (α × Value)} (hd : h.DictOf knd d kvs) : ∃ o, h.get? d = some o ∧ IsDict knd o kvs :=
  let ⟨o, es, ep, ho, a, b, e, f, g⟩ := hd; ⟨o, ho, a, es, ep, b, e, f, g⟩
end

section
variable {c : Cx} {k : Nat} {sc : Scope} {ρ : Loc} {st : St} {Q : V → St → Prop} {S : Fl → Loc → St → Prop} {X : Xp} {f : Fm} {imm fr : Led} {s : Shared} {tk : Nat}

theorem Rel.isDict {d : Addr} {kvs : List (Int × V)} (R : Rel c f ρ st imm fr s) (hg : Mine.get st d = some (.dictI kvs)) : ∃ kvals, RKs c.base imm kvs kvals ∧ s.heap.DictOf (intKind c.prog c.w) d kvals := by
  obtain ⟨co, hr, ho⟩ := R.get hg
  cases hr with
  | dictI r d => exact ⟨_, r, IsDict.of ho d⟩
theorem W2.inDict {d : Addr} {kvs : List (Int × V)} {i : Int} (hs : (d == sysModules) = false) (hg : get st d = some (.dictI kvs)) (h : Q (.bool (valA kvs i).isSome) st) : W2 c k (compareOp .In) (.int i) (.ref d) ρ st Q X := by
  refine ⟨fun f imm fr s x y ok R ra rb => ?_⟩
  cases ra with
  | int =>
  cases rb with
  | ref =>
    obtain ⟨kvals, r, hd⟩ := R.isDict hg
    refine wpAny_in_of (intKind_is _ _ _ _) hs hd.mapOf ?_
    rcases r.val (k := i) with ⟨e1, e2⟩ | ⟨v, x, e1, e2, _⟩ <;> (rw [e1] at h; rw [e2]; exact .of (.bool _) R.toks h)
theorem W2.notInDict {d : Addr} {kvs : List (Int × V)} {i : Int} (hs : (d == sysModules) = false) (hg : get st d = some (.dictI kvs)) (h : Q (.bool (!(valA kvs i).isSome)) st) : W2 c k (compareOp .NotIn) (.int i) (.ref d) ρ st Q X := by
  refine ⟨fun f imm fr s x y ok R ra rb => ?_⟩
  cases ra with
  | int =>
  cases rb with
  | ref =>
    obtain ⟨kvals, r, hd⟩ := R.isDict hg
    refine wpAny_notIn_of (intKind_is _ _ _ _) hs hd.mapOf ?_
    rcases r.val (k := i) with ⟨e1, e2⟩ | ⟨v, x, e1, e2, _⟩ <;> (rw [e1] at h; rw [e2]; exact .of (.bool _) R.toks h)
theorem WL.lenDict {d : Addr} {kvs : List (Int × V)} (hs : (d == sysModules) = false) (hg : get st d = some (.dictI kvs)) (hl : (kvs.length : Int) < 2 ^ 63) (h : Q (.int kvs.length) st) : WL c k (fun xs => call (.builtin "len") xs) [.ref d] ρ st Q X := by
  refine ⟨fun f imm fr s xs ok R rvs => ?_⟩
  obtain ⟨_, rfl, rx0⟩ := rvs.inv1
  obtain rfl := rx0.refI
  obtain ⟨kvals, r, hd⟩ := R.isDict hg
  refine call_len_dict hs hd (by rw [r.len]; exact hl) ?_
  rw [r.len]
  exact .of (.int _ _) R.toks h
/-! dicts with texts as keys -/
theorem W2.getI {e ie : Expr} {d : Addr} {kvs : List (Int × V)} {i : Int} {v : V} (hg : get st d = some (.dictI kvs)) (hs : isSl ie = false) (hv : valA kvs i = some v) (h : Q v st) : W2 c k (subscriptTail e ie) (.ref d) (.int i) ρ st Q X := by
  refine ⟨fun f imm fr s x y ok R ra rb => ?_⟩
  obtain ⟨_, rfl⟩ := rb.intI
  obtain rfl := ra.refI
  obtain ⟨kvals, r, hd⟩ := R.isDict hg
  rcases r.val (k := i) with ⟨e1, _⟩ | ⟨v', x', e1, e2, rv⟩
  · rw [e1] at hv; cases hv
  · obtain rfl : v' = v := by rw [e1] at hv; exact Option.some.inj hv
    exact tail_any hd.typeIs slot_dict_getitem.lookup (wpAny_getItem_of (intKind_is _ _ _ _) hd.mapOf e2 (.of rv R.toks h)) (sub_plain hs _ _)
end
/-- three values in, none out -/
structure W3 (c : Cx) (k : Nat) (t : Value → Value → Value → Sem Unit) (a b v : V) (ρ : Loc) (st : St) (P : St → Prop) (X : Xp) : Prop where
  go : ∀ f imm fr s x y z, f.Ok c k → Rel c f ρ st imm fr s → RV c.base imm a x → RV c.base imm b y → RV c.base imm v z →
    wpAny c.M f.A (t x y z) (fun _ s' => ∃ st' imm', (∀ p ∈ imm, p ∈ imm') ∧ Rel c f ρ st' imm' fr s' ∧ P st') (Thrown c f imm fr X) s
section
variable {c : Cx} {k : Nat} {sc : Scope} {ρ : Loc} {st : St} {Q : V → St → Prop} {S : Fl → Loc → St → Prop} {X : Xp} {f : Fm} {imm fr : Led} {s : Shared} {tk : Nat} {P : St → Prop}
theorem WPs.setItem {o i value : Expr} {p' pos : Pos}
    (h : WPE c k sc ρ st value (fun u st₁ => WPE c k sc ρ st₁ o (fun v st₂ => WPE c k sc ρ st₂ i (fun w st₃ => W3 c k setItem v w u ρ st₃ (fun st' => S .next ρ st') X) X) X) X)
    (hs : ∀ env, swapsWith value (some (.Subscript o i p')) pos.line env = pure false := by intro _; rfl) : WPs c k sc ρ st (.Assign [.Subscript o i p'] value pos) S X := by
  refine ⟨fun f imm fr s ok hsc own R => ?_⟩
  refine wpAny_Assign_Subscript (wpAny_mono (h.go f imm fr s ok hsc R) (fun y s₁ p => ?_) fun _ _ t => t) (hs _)
  obtain ⟨u, st₁, imm₁, i₁, ru, R₁, h₁⟩ := p
  refine wpAny_mono (h₁.go f imm₁ fr s₁ ok hsc R₁) (fun z s₂ p => ?_) fun _ _ t => t.mono i₁
  obtain ⟨v, st₂, imm₂, i₂, rv, R₂, h₂⟩ := p
  refine wpAny_mono (h₂.go f imm₂ fr s₂ ok hsc R₂) (fun x s₃ p => ?_) fun _ _ t => (t.mono i₂).mono i₁
  obtain ⟨w, st₃, imm₃, i₃, rw, R₃, h₃⟩ := p
  refine wpAny_mono (h₃.go f imm₃ fr s₃ _ _ _ ok R₃ (rv.mono i₃) rw ((ru.mono i₂).mono i₃)) (fun _ s₄ p => ?_) fun _ _ t => ((t.mono i₃).mono i₂).mono i₁
  obtain ⟨st₄, imm₄, i₄, R₄, h₄⟩ := p
  exact ⟨.next, ρ, st₄, imm₄, fun q hq => i₄ q (i₃ q (i₂ q (i₁ q hq))), .next, R₄, h₄⟩
theorem W3.putI {d : Addr} {kvs : List (Int × V)} {i : Int} {v : V} (hg : get st d = some (.dictI kvs)) (hl : kvs.length ≤ 1000000) (h : P (upd st d (.dictI (putA kvs i v)))) : W3 c k setItem (.ref d) (.int i) v ρ st P X := by
  refine ⟨fun f imm fr s x y z ok R ra rb rv => ?_⟩
  obtain rfl := ra.refI
  obtain ⟨_, rfl⟩ := rb.intI
  obtain ⟨kvals, r, hd⟩ := R.isDict hg
  refine wpAny_setItem_pairs (intKind_is _ _ _ _) hd (fun h' hd' hs' => ?_) (by rw [r.len, sizeLine_eq]; omega)
  obtain ⟨o, ho, hD⟩ := IsDict.to hd'
  exact ⟨_, imm, fun _ h => h, R.upd hg hs' ho (.dictI (r.put rv) hD), h⟩
theorem WL.popI {d : Addr} {kvs : List (Int × V)} {i : Int} {v : V} (hg : get st d = some (.dictI kvs)) (hv : valA kvs i = some v) (hl : kvs.length ≤ 1000000) (h : Q v (upd st d (.dictI (delA kvs i)))) : WL c k (fun xs => call (.builtin "dict.pop") xs) [.ref d, .int i] ρ st Q X := by
  refine ⟨fun f imm fr s xs ok R rvs => ?_⟩
  obtain ⟨_, _, rfl, rx0, rx1⟩ := rvs.inv2
  obtain rfl := rx0.refI
  obtain ⟨_, rfl⟩ := rx1.intI
  obtain ⟨kvals, r, hd⟩ := R.isDict hg
  rcases r.val (k := i) with ⟨e1, _⟩ | ⟨v', x', e1, e2, rv⟩
  · rw [e1] at hv; cases hv
  · obtain rfl : v' = v := by rw [e1] at hv; exact Option.some.inj hv
    refine call_meetsIn PySem.F.slot_dict_pop hd.typeIs PySem.F.entry_dict_pop (PySem.F.args_dict_pop_2 _ _) (meets_dict_pop_there (k := i) (intKind c.prog c.w) d (intKind_is _ _ _ _) [] (.inl rfl) (by rfl)) ⟨kvals, x', hd, by rw [r.len, sizeLine_eq]; omega, e2, fun h' hd' hs' => ?_⟩
    obtain ⟨o, ho, hD⟩ := IsDict.to hd'
    exact ⟨_, _, imm, fun _ h => h, rv, R.upd hg hs' ho (.dictI r.del hD), h⟩
theorem WPE.methD {e : Expr} {name : Str} {ap pos : Pos} {args : List Expr} {id : String} (slot : Slot "dict" name id) (hty : typeOf (.builtin id) = pure (.type "method_descriptor"))
    (h : WPE c k sc ρ st e (fun v st₁ => ∃ a kvs, v = .ref a ∧ get st₁ a = some (.dictI kvs) ∧ WPEs c k sc ρ st₁ args (fun us st₂ => WL c k (fun xs => PySem.call (.builtin id) xs) (.ref a :: us) ρ st₂ Q X) X) X)
    (hp : args.any isStar = false := by rfl)
    (he : ∀ env, ∃ pl, eval (.Call (.Attribute e name ap) args [] pos) env = (do
      let ov ← eval e env
      standAt ap.atName
      let (f, first) ← holding [ov] (getMethod ov name pl)
      callWith pos f first (backTo pos (starEach args env)) []) := by intro _; exact ⟨_, rfl⟩) : WPE c k sc ρ st (.Call (.Attribute e name ap) args [] pos) Q X := by
  refine ⟨fun f imm fr s ok hsc R => ?_⟩
  obtain ⟨pl, he⟩ := he f.env
  refine MethodCall_ (pl := pl) (wpAny_mono (h.go f imm fr s ok hsc R) (fun x s₁ p => ?_) fun _ _ t => t) he
  obtain ⟨v, st₁, imm₁, i₁, rv, R₁, a, kvs, rfl, hg, h₁⟩ := p
  cases rv with
  | ref =>
    obtain ⟨kvals, r, hd⟩ := R₁.isDict hg
    obtain ⟨o, ho, hD⟩ := IsDict.to hd
    refine getMethod_builtin hd.typeIs PySem.F.plainAttrs_dict slot hty (fun a e => by cases e; exact ⟨o, ho, hD.1.2.1⟩) ?_
    refine wpAny_mono (callWithW (f := f) (val := .builtin id) (first := [.ref a]) (vs₀ := [.ref a]) rfl hp ok hsc R₁ (.one (.ref a)) (.inr fun T e => by cases e) (by simpa using h₁)) (fun _ _ p => p.mono i₁) fun _ _ t => t.mono i₁
theorem WPE.mPopD {e : Expr} {ap pos : Pos} {args : List Expr}
    (h : WPE c k sc ρ st e (fun v st₁ => ∃ a kvs, v = .ref a ∧ get st₁ a = some (.dictI kvs) ∧ WPEs c k sc ρ st₁ args (fun us st₂ => WL c k (fun xs => PySem.call (.builtin "dict.pop") xs) (.ref a :: us) ρ st₂ Q X) X) X)
    (hp : args.any isStar = false := by rfl)
    (he : ∀ env, ∃ pl, eval (.Call (.Attribute e "pop" ap) args [] pos) env = (do
      let ov ← eval e env
      standAt ap.atName
      let (f, first) ← holding [ov] (getMethod ov "pop" pl)
      callWith pos f first (backTo pos (starEach args env)) []) := by intro _; exact ⟨_, rfl⟩) : WPE c k sc ρ st (.Call (.Attribute e "pop" ap) args [] pos) Q X :=
  WPE.methD PySem.F.slot_dict_pop PySem.F.type_dict_pop h hp he
theorem RKs.keys {α : Type} {base : Heap} {imm : Led} {l : List (α × V)} {r : List (α × Value)} (h : RKs base imm l r) : r.map (·.1) = l.map (·.1) := by
  induction h with
  | nil => rfl
  | cons _ _ ih => simp [ih]
theorem WL.sortedDict {d : Addr} {kvs : List (Int × V)} (hq : c.q = true) (hs : (d == sysModules) = false) (hg : get st d = some (.dictI kvs)) (hl : kvs.length < 64) (h : ∀ ns' : List Int, ns'.Perm (kvs.map (·.1)) → ns'.Pairwise (· ≤ ·) → ∀ b, get st b = none → Q (.ref b) ((b, .list (ns'.map .int)) :: st)) : WL c k (fun xs => call (.builtin "sorted") xs) [.ref d] ρ st Q X := by
  refine ⟨fun f imm fr s xs ok R rvs => ?_⟩
  obtain ⟨_, rfl, rx0⟩ := rvs.inv1
  obtain rfl := rx0.refI
  obtain ⟨kvals, r, hd⟩ := R.isDict hg
  obtain ⟨ep, hat⟩ := hd.dictAt
  obtain ⟨⟨h0, tk0, rfl⟩, m, mt, cs, fo, rr⟩ := id R
  refine kdu_sorted (kdl_dict (knd := intKind c.prog c.w) (kvs := kvals) (ep := ep) hs) (ok.hnd hq) rr.frm rr.news hat (by rw [r.len, sizeLine_eq]; omega) fun D h' tk vs F N hlt hlen hv => ?_
  have hD := N _ (.head _)
  have hI : IntsAre vs (kvals.map (·.1)) := by
    clear N F hD
    have key : ∀ (vs : List Value) (l : List (Int × Value)), vs.length = l.length → (∀ (j : Nat) (v : Value), vs[j]? = some v → ∃ k x, l[j]? = some (k, x) ∧ (intKind c.prog c.w).is k v = true) → IntsAre vs (l.map (·.1)) := by
      intro vs
      induction vs with
      | nil => intro l hl _; cases l with
        | nil => exact .nil
        | cons _ _ => cases hl
      | cons v vs ih => intro l hl hv; cases l with
        | nil => cases hl
        | cons p l =>
          obtain ⟨k, x, e, hk⟩ := hv 0 v rfl
          cases e
          obtain ⟨t, rfl⟩ := Value.isInt_shape hk
          exact .cons _ _ (ih l (Nat.succ.inj hl) fun j v e => hv (j + 1) v e)
    exact key vs kvals hlen hv
  have hlen' : vs.length < 64 := by rw [hlen, r.len]; exact hl
  refine wpAny_call_entry slot_list_sort ⟨_, hD.1, rfl⟩ entry_list_sort (list_sort_tree hD.1 hI hlen' fun out ns' a1 a2 a3 => ⟨_, rfl, ?_⟩) (args_list_sort _)
  obtain ⟨e, he⟩ := sortedHeap_at (out := out) hD.1
  have old : ∀ b o, b ≠ D → h'.get? b = some o → (sortedHeap h' D vs out).get? b = some o := fun b o hb q => (sortedHeap_old hb (Heap.lt_size q)).trans q
  have F₂ : Fr c.base f.L (sortedHeap h' D vs out) m := ⟨F.ns.at' fun ob q => old _ _ (Ne.symm hD.2.1) q, fun b o q => old b o (fun e => by rw [e, hD.2.2] at q; cases q) (F.keep b o q), F.above⟩
  have N₂ : News c.base f.L (sortedHeap h' D vs out) ((D, PySem.W.listOf out e) :: whole mt cs imm fr fo) := by
    intro p hp
    rcases List.mem_cons.mp hp with rfl | hp
    · exact ⟨he, hD.2⟩
    · have z := N p (.tail _ hp)
      exact ⟨old _ _ (Nat.ne_of_lt (hlt p hp)) z.1, z.2⟩
  refine ⟨.ref D, _, imm, fun _ h => h, .ref _, ⟨⟨_, tk, rfl⟩, m, _, cs, fo, rr.newSt F₂ N₂ hlt (.list (vals := out.toList) (RVs.ofInts a1))⟩, h ns' (by rw [← r.keys]; exact a2) a3 _ (Rel.noneAt rr hlt)⟩
end
end Mine
namespace Mine
section
variable {c : Cx} {k : Nat} {sc : Scope} {ρ : Loc} {st : St} {Q : V → St → Prop} {S : Fl → Loc → St → Prop} {X : Xp} {f : Fm} {imm fr : Led} {s : Shared} {tk : Nat}

end
end Mine
namespace Mine
/-! pairs of ints in order; the least of a list of them -/
noncomputable def ltP (x y : Int × Int) : Bool := if x.1 = y.1 then decide (x.2 < y.2) else decide (x.1 < y.1)
noncomputable def pairV (p : Int × Int) : V := .tup [.int p.1, .int p.2]
noncomputable def bestP (m : Int × Int) (l : List (Int × Int)) : Int × Int := l.foldl (fun m x => if ltP x m then x else m) m

/-- a value that is a pair of ints, its thing among the led -/
noncomputable def PairIn (T : Led) (v : Value) (p : Int × Int) : Prop := ∃ a n t u, v = .ref a ∧ (a, tupObj [.int p.1 t, .int p.2 u] n) ∈ T

section
variable {prog : Program} {w : World} {A : Around} {E : Value → Shared → Prop} {s : Shared}

theorem nL {a n : Nat} (h : a < n) : a ≠ n ∧ a ≠ n + 1 := by omega
theorem lt_int' {a b : Int} {t u : Tok} {Q : Value → Shared → Prop} (h : Q (.bool (decide (a < b))) s) : wpAny (model prog w) A (richCompare .Lt (.int a t) (.int b u)) Q E s :=
  richCompare_gives (op := .Lt) (typeIs_int s _ t) (typeIs_int s _ u) PySem.F.slot_int_lt PySem.F.entry_int_lt (PySem.F.args_int_lt_2 _ _) (gives_int_lt _ _ t u) (fun x => nomatch x) h
theorem pair_lt {a b : Addr} {p q : Int × Int} {n n' : Nat} {t u t' u' : Tok} {Q : Value → Shared → Prop} (hu : A.units < cLine) (ha : s.heap.get? a = some (tupObj [.int p.1 t, .int p.2 u] n)) (hb : s.heap.get? b = some (tupObj [.int q.1 t', .int q.2 u'] n'))
    (h : Q (.bool (ltP p q)) s) : wpAny (model prog w) A (richCompare .Lt (.ref a) (.ref b)) Q E s := by
  have hTa : s.TypeIs (.ref a) "tuple" := ⟨_, ha, rfl⟩
  have hTb : s.TypeIs (.ref b) "tuple" := ⟨_, hb, rfl⟩
  refine wpAny_richCompare_same_room (op := .Lt) hTa hTb PySem.F.slot_tuple_lt (wpAny_call_entry PySem.F.slot_tuple_lt hTa PySem.F.entry_tuple_lt ?_ (PySem.F.args_tuple_lt_2 _ _)) hu
  show wpAny _ _ (isInstance (.ref b) (.type "tuple") >>= _) _ _ s
  refine wpAny_bind (wpAny_isInstance hTb isSubtype_tuple_tuple ?_)
  simp only [Bool.not_true, Bool.false_eq_true, if_false]
  refine wpAny_bind (wpAny_tupleItemsOf ha rfl ?_)
  refine wpAny_bind (wpAny_tupleItemsOf hb rfl ?_)
  refine wpAny_bind ?_
  show wpAny _ _ (forIn [(Value.int p.1 t, Value.int q.1 t'), (Value.int p.2 u, Value.int q.2 u')] _ _) _ _ s
  rw [List.forIn_cons]
  refine wpAny_bind (wpAny_bind ((intKind prog w).eqBool (a := p.1) (b := q.1) (by simp [intKind, Value.isInt]) (by simp [intKind, Value.isInt]) ?_))
  by_cases h1 : p.1 = q.1
  · rw [decide_eq_true h1]
    refine wpAny_pure ?_
    show wpAny _ _ (forIn [(Value.int p.2 u, Value.int q.2 u')] _ _) _ _ s
    rw [List.forIn_cons]
    refine wpAny_bind (wpAny_bind ((intKind prog w).eqBool (a := p.2) (b := q.2) (by simp [intKind, Value.isInt]) (by simp [intKind, Value.isInt]) ?_))
    by_cases h2 : p.2 = q.2
    · rw [decide_eq_true h2]
      refine wpAny_pure ?_
      show wpAny _ _ (forIn ([] : List (Value × Value)) _ _) _ _ s
      rw [List.forIn_nil]
      refine wpAny_pure (wpAny_pure ⟨_, rfl, (fun e => nomatch e), ?_⟩)
      have : ltP p q = false := by simp [ltP, h1, h2]
      rw [this] at h
      exact h
    · rw [decide_eq_false h2]
      refine wpAny_bind (wpAny_rule (wpAny_bind (lt_int' ?_)))
      refine wpAny_bind (wpAny_pure (wpAny_pure (wpAny_pure (wpAny_pure ⟨_, rfl, (fun e => nomatch e), ?_⟩))))
      have : ltP p q = decide (p.2 < q.2) := by simp [ltP, h1]
      rw [← this]
      exact h
  · rw [decide_eq_false h1]
    refine wpAny_bind (wpAny_rule (wpAny_bind (lt_int' ?_)))
    refine wpAny_bind (wpAny_pure (wpAny_pure (wpAny_pure (wpAny_pure ⟨_, rfl, (fun e => nomatch e), ?_⟩))))
    have : ltP p q = decide (p.1 < q.1) := by simp [ltP, h1]
    rw [← this]
    exact h

theorem min_loopP {I S : Addr} {fp wr : List Addr} {n : Nat} {St : Nat → Heap → Prop} {vals : Array Value} {R : Result → Shared → Prop} {T : Led} (W : Walks prog w A.in1 I fp wr n (fun i v => vals[i]? = some v) St) (hSf : S ∉ fp) (hu : A.in1.units < cLine)
    (hT : ∀ p ∈ T, p.1 ∉ wr ∧ p.1 ≠ S) {ps : List (Int × Int)} (hn : ps.length = n) (hv : ∀ (i : Nat) (v : Value) (p : Int × Int), vals[i]? = some v → ps[i]? = some p → PairIn T v p) :
    ∀ (l : List (Int × Int)) (j : Nat) (s : Shared) (vb : Value) (m : Int × Int) (c : Nat), ps.drop (j + 1) = l → j + 1 ≤ n → St (j + 1) s.heap → PairIn T vb m → (∀ p ∈ T, s.heap.get? p.1 = some p.2) →
    s.heap.get? S = some { cls := .type "list", dict := none, data := .seq #[vb, vb] c, slots := #[] } →
    (∀ v h' tk, PairIn T v (bestP m l) → (∀ b o, b ∉ wr → b ≠ S → s.heap.get? b = some o → h'.get? b = some o) → R (.ok (.ret v)) { s with heap := h', toks := tk }) →
    codeAny (model prog w) A (.builtin "min.loop" ⟨[.ref I, .none, .ref S], []⟩) R s := by
  have hSw : S ∉ wr := fun h => hSf (W.sub _ h)
  have hname : (toString "min" ++ toString ".loop" : String) = "min.loop" := by decide
  intro l
  induction l with
  | nil =>
    intro j s vb m c hl hj hst hPb hk hS hR
    have hin : j + 1 = n := by
      have := congrArg List.length hl
      simp only [List.length_drop, List.length_nil] at this
      omega
    refine codeAny_builtin PySem.F.entry_min_loop ?_
    rw [Around.under_plainId PySem.F.plain_min_loop _]
    show wpAny _ A.in1 (seqItems? (.ref S) >>= _) _ _ s
    refine wpAny_bind (wpAny_seqItems hS rfl ?_)
    show wpAny _ A.in1 (tryCatch (pyNext (.ref I)) _ >>= _) _ _ s
    refine wpAny_bind (wpAny_tryCatch (W.done s _ _ (hin ▸ hst) fun h' tk hk' => ?_))
    have hS' := hk' S _ hSw hS
    show wpAny _ A.in1 (updateSeq S (fun _ => #[]) >>= _) _ _ _
    refine wpAny_bind (wpAny_updateSeq hS' rfl (wpAny_bind (wpAny_letGo (wpAny_pure ?_))))
    exact hR vb _ tk hPb fun b o hbw hbS e => (Heap.get?_update_other _ _ (Ne.symm hbS)).trans (hk' b o hbw e)
  | cons q l ih =>
    intro j s vb m c hl hj hst hPb hk hS hR
    have hlt : j + 1 < n := by
      have := congrArg List.length hl
      simp only [List.length_drop, List.length_cons] at this
      omega
    have hq : ps[j + 1]? = some q := by
      have := congrArg (·[0]?) hl
      simpa using this
    have hl' : ps.drop (j + 1 + 1) = l := by
      have := congrArg (List.drop 1) hl
      simpa [List.drop_drop, Nat.add_comm] using this
    refine codeAny_builtin PySem.F.entry_min_loop ?_
    rw [Around.under_plainId PySem.F.plain_min_loop _]
    show wpAny _ A.in1 (seqItems? (.ref S) >>= _) _ _ s
    refine wpAny_bind (wpAny_seqItems hS rfl ?_)
    show wpAny _ A.in1 (tryCatch (pyNext (.ref I)) _ >>= _) _ _ s
    refine wpAny_bind (wpAny_tryCatch (W.item (j + 1) s _ _ hlt hst fun v h' tk hP hst' hk' => ?_))
    have hS' := hk' S _ hSw hS
    have hkT : ∀ p ∈ T, h'.get? p.1 = some p.2 := fun p hp => hk' p.1 p.2 (hT p hp).1 (hk p hp)
    have hPv := hv _ _ _ hP hq
    show wpAny _ A.in1 (tryCatch (holding [v, v] (richCompare .Lt v vb >>= _)) _ >>= _) _ _ _
    obtain ⟨a1, n1, t1, u1, rfl, hm1⟩ := id hPv
    obtain ⟨a2, n2, t2, u2, rfl, hm2⟩ := id hPb
    refine wpAny_bind (wpAny_tryCatch (wpAny_holding (wpAny_bind (pair_lt hu (hkT _ hm1) (hkT _ hm2) ?_))))
    refine wpAny_bind (wpAny_holding (wpAny_truthy_bool ?_))
    refine wpAny_bind (wpAny_letGo (wpAny_pure ?_))
    have hb : bestP m (q :: l) = bestP (if ltP q m then q else m) l := rfl
    rw [hb] at hR
    cases hlt' : ltP q m with
    | true =>
      simp only [if_true]
      rw [hlt', if_pos rfl] at hR
      refine wpAny_bind (wpAny_updateSeq hS' rfl (wpAny_bind (wpAny_letGo ?_)))
      rw [hname]
      refine wpAny_pure ⟨plainId_quiet PySem.F.plain_min_loop _, ih (j + 1) _ _ q _ hl' hlt (W.frame _ _ _ hst' fun b hbf o e => ?_) hPv (fun p hp => (Heap.get?_update_other _ _ (Ne.symm (hT p hp).2)).trans (hkT p hp)) (Heap.get?_update_self _ hS' rfl) fun v' h'' tk'' hP' hk'' => ?_⟩
      · exact (Heap.get?_update_other _ _ (fun h : S = b => hSf (by rw [h]; exact hbf))).trans e
      · exact hR v' h'' tk'' hP' fun b o hbw hbS e => hk'' b o hbw hbS ((Heap.get?_update_other _ _ (Ne.symm hbS)).trans (hk' b o hbw e))
    | false =>
      simp only [Bool.false_eq_true, if_false]
      rw [hlt', if_neg Bool.false_ne_true] at hR
      refine wpAny_bind (wpAny_letGo ?_)
      rw [hname]
      refine wpAny_pure ⟨plainId_quiet PySem.F.plain_min_loop _, ih (j + 1) _ _ m c hl' hlt hst' hPb hkT hS' fun v' h'' tk'' hP' hk'' => ?_⟩
      exact hR v' h'' tk'' hP' fun b o hbw hbS e => hk'' b o hbw hbS (hk' b o hbw e)

theorem min_pairs {l : Addr} {vals : Array Value} {T : Led} {p : Int × Int} {ps : List (Int × Int)} {Q : Value → Shared → Prop} (hh : A.handled = none) (hu : A.in1.units < cLine) (hl : s.heap.IsList l vals) (hn : (p :: ps).length = vals.size)
    (hT : ∀ q ∈ T, s.heap.get? q.1 = some q.2) (hv : ∀ (i : Nat) (v : Value) (q : Int × Int), vals[i]? = some v → (p :: ps)[i]? = some q → PairIn T v q)
    (h : ∀ v h' tk, PairIn T v (bestP p ps) → (∀ b o, s.heap.get? b = some o → h'.get? b = some o) → Q v { s with heap := h', toks := tk }) :
    wpAny (model prog w) A (call (.builtin "min") [.ref l]) Q E s := by
  have hname : (toString "min" ++ toString ".loop" : String) = "min.loop" := by decide
  refine call_function_tree PySem.F.kind_min PySem.F.plain_min PySem.F.entry_min (PySem.F.args_min1 _) ?_
  show wpAny _ A.in1 (Builtin.Builtins.bindParams "min" ["key", "default"] 0 ⟨[], []⟩ >>= _) _ _ s
  refine wpAny_bind (wpAny_of_eq (show Builtin.Builtins.bindParams "min" ["key", "default"] 0 ⟨[], []⟩ = pure [none, none] from rfl) ?_)
  refine wpAny_bind (wpAny_pure ?_)
  have hlt : l < s.heap.objs.size := by obtain ⟨_, e, _⟩ := hl; exact Heap.lt_size e
  refine wpAny_bind (wpAny_pyIter_list hl ?_)
  refine wpAny_bind (wpAny_newObj_type ?_)
  rw [hname]
  have W := Walks.list (prog := prog) (w := w) (A := A.in1) hh s.heap.objs.size l (Nat.ne_of_lt hlt) vals
  have hs1 : (s.heap.push { cls := .type "list_iterator", data := .fields #[.ref l, .int 0 0] }).objs.size = s.heap.objs.size + 1 := Heap.size_push ..
  have hold : ∀ b o, s.heap.get? b = some o → ((s.heap.push { cls := .type "list_iterator", data := .fields #[.ref l, .int 0 0] }).push { cls := .type "list", data := .seq #[] }).get? b = some o := fun b o e => Heap.get?_push_of_some _ (Heap.get?_push_of_some _ e)
  have hSf : s.heap.objs.size + 1 ∉ [s.heap.objs.size, l] := by
    intro hm
    rcases List.mem_cons.mp hm with e | hm
    · exact Nat.succ_ne_self _ e
    · rcases List.mem_cons.mp hm with e | hm
      · exact (nL hlt).2 e.symm
      · cases hm
  refine wpAny_pure ⟨plainId_quiet PySem.F.plain_min_loop _, ?_⟩
  refine codeAny_builtin PySem.F.entry_min_loop ?_
  rw [Around.under_plainId PySem.F.plain_min_loop _]
  have hS : ((s.heap.push { cls := .type "list_iterator", data := .fields #[.ref l, .int 0 0] }).push { cls := .type "list", data := .seq #[] }).get? (s.heap.objs.size + 1) = some { cls := .type "list", dict := none, data := .seq #[] 0, slots := #[] } := by
    rw [← hs1]; exact Heap.get?_push_size _ rfl
  show wpAny _ A.in1 (seqItems? (.ref ((s.heap.push _).objs.size)) >>= _) _ _ _
  rw [hs1]
  refine wpAny_bind (wpAny_seqItems hS rfl ?_)
  show wpAny _ A.in1 (tryCatch (pyNext (.ref s.heap.objs.size)) _ >>= _) _ _ _
  have hpos : 0 < vals.size := by rw [← hn]; simp
  refine wpAny_bind (wpAny_tryCatch (W.item 0 _ _ _ hpos ⟨⟨_, Heap.get?_push_of_some _ (Heap.get?_push_size _ rfl), rfl, rfl⟩, (hl.push _).push _⟩ fun v h' tk hP hst' hk' => ?_))
  have hSw : s.heap.objs.size + 1 ∉ [s.heap.objs.size] := by simp
  have hS' := hk' _ _ hSw hS
  show wpAny _ A.in1 (updateSeq (s.heap.objs.size + 1) (fun _ => #[v, v]) >>= _) _ _ _
  refine wpAny_bind (wpAny_updateSeq hS' rfl ?_)
  have hTlt : ∀ q ∈ T, q.1 < s.heap.objs.size := fun q hq => Heap.lt_size (hT q hq)
  have hTn : ∀ q ∈ T, q.1 ∉ [s.heap.objs.size] ∧ q.1 ≠ s.heap.objs.size + 1 := fun q hq => by
    refine ⟨fun hm => ?_, (nL (hTlt q hq)).2⟩
    rcases List.mem_cons.mp hm with e | hm
    · exact (nL (hTlt q hq)).1 e
    · cases hm
  have hkT : ∀ q ∈ T, h'.get? q.1 = some q.2 := fun q hq => hk' q.1 q.2 (hTn q hq).1 (hold _ _ (hT q hq))
  rw [hname]
  refine wpAny_pure ⟨plainId_quiet PySem.F.plain_min_loop _, min_loopP W hSf hu hTn hn hv ps 0 _ v p _ rfl hpos (W.frame _ _ _ hst' fun b hbf o e => ?_) (hv 0 v p hP rfl) (fun q hq => (Heap.get?_update_other _ _ (Ne.symm (hTn q hq).2)).trans (hkT q hq)) (Heap.get?_update_self _ hS' rfl) fun v' h'' tk'' hP' hk'' => ?_⟩
  · exact (Heap.get?_update_other _ _ (fun h : s.heap.objs.size + 1 = b => hSf (by rw [h]; exact hbf))).trans e
  · refine h v' h'' tk'' hP' fun b o e => ?_
    have hb := Heap.lt_size e
    have h1 : b ∉ [s.heap.objs.size] := fun hm => by
      rcases List.mem_cons.mp hm with e | hm
      · exact (nL hb).1 e
      · cases hm
    have h2 : b ≠ s.heap.objs.size + 1 := (nL hb).2
    exact hk'' b o h1 h2 ((Heap.get?_update_other _ _ (Ne.symm h2)).trans (hk' b o h1 (hold b o e)))
end
end Mine
namespace Mine
section
variable {c : Cx} {k : Nat} {sc : Scope} {ρ : Loc} {st : St} {Q : V → St → Prop} {X : Xp} {f : Fm} {imm fr : Led} {s : Shared}

theorem PairIn.of {base : Heap} {imm : Led} {p : Int × Int} {v : Value} (h : RV base imm (pairV p) v) : PairIn imm v p := by
  obtain ⟨a, vals, n, rfl, hm, r⟩ := h.tupI
  obtain ⟨x, y, rfl, rx, ry⟩ := r.inv2
  obtain ⟨t, rfl⟩ := rx.intI
  obtain ⟨u, rfl⟩ := ry.intI
  exact ⟨a, n, t, u, rfl, hm⟩
theorem PairIn.to {base : Heap} {imm : Led} {p : Int × Int} {v : Value} (h : PairIn imm v p) : RV base imm (pairV p) v := by
  obtain ⟨a, n, t, u, rfl, hm⟩ := h
  exact .tup hm (.cons (.int _ _) (.cons (.int _ _) .nil))
theorem RVs.at {base : Heap} {imm : Led} : ∀ {vs : List V} {xs : List Value}, RVs base imm vs xs → ∀ {i : Nat} {x : Value} {v : V}, xs[i]? = some x → vs[i]? = some v → RV base imm v x := by
  intro vs
  induction vs with
  | nil => intro xs r i x v h1 h2; simp at h2
  | cons u vs ih =>
    intro xs r i x v h1 h2
    cases r with
    | cons a r =>
      cases i with
      | zero => simp at h1 h2; subst h1 h2; exact a
      | succ i => exact ih r (by simpa using h1) (by simpa using h2)
theorem WL.minPairs {a : Addr} {p : Int × Int} {ps : List (Int × Int)} (hq : c.q = true) (hg : get st a = some (.list ((p :: ps).map pairV))) (h : Q (pairV (bestP p ps)) st) : WL c k (fun xs => call (.builtin "min") xs) [.ref a] ρ st Q X := by
  refine ⟨fun f imm fr s xs ok R rvs => ?_⟩
  obtain ⟨_, rfl, rx0⟩ := rvs.inv1
  obtain rfl := rx0.refI
  obtain ⟨vals, n, r, ho⟩ := R.isList hg
  refine min_pairs (T := imm) (p := p) (ps := ps) (vals := vals.toArray) (ok.hnd hq) (by show f.A.units + 1 < _; have := ok.units; omega) ⟨_, ho, rfl, _, rfl⟩ (by have := r.length; simpa using this.symm) (fun q hq => R.inImm hq) (fun i v q h1 h2 => ?_) fun v h' tk hp hk => ?_
  · exact PairIn.of (r.at (by simpa using h1) (by rw [List.getElem?_map, h2]; rfl))
  · exact ⟨_, _, imm, fun _ h => h, hp.to, R.keeps hk, h⟩

end
end Mine
namespace Mine
section
variable (prog : Program) (w : World)
end
section
variable {prog : Program} {w : World} {A : Around} {E : Value → Shared → Prop} {s : Shared} {n m : Nd} {a b : Addr}
end
section
variable {c : Cx} {k : Nat} {sc : Scope} {ρ : Loc} {st : St} {Q : V → St → Prop} {S : Fl → Loc → St → Prop} {X : Xp} {f : Fm} {imm fr : Led} {s : Shared} {tk : Nat}
end
end Mine
namespace Mine
/-! dicts that are written out, with texts as keys -/
section
variable {c : Cx} {k : Nat} {sc : Scope} {ρ : Loc} {st : St} {Q : V → St → Prop} {S : Fl → Loc → St → Prop} {X : Xp} {f : Fm} {imm fr : Led} {s : Shared} {tk : Nat} {P : List (Str × V) → St → Prop} {keys : List (Option Expr)} {values : List Expr}
theorem WL.clear {a : Addr} {vs : List V} (hg : get st a = some (.list vs)) (hl : vs.length ≤ 1000000) (h : Q .none (upd st a (.list []))) : WL c k (fun xs => call (.builtin "list.clear") xs) [.ref a] ρ st Q X := by
  refine ⟨fun f imm fr s xs ok R rvs => ?_⟩
  obtain ⟨_, rfl, rx0⟩ := rvs.inv1
  obtain rfl := rx0.refI
  obtain ⟨vals, n, r, ho⟩ := R.isList hg
  refine call_meets PySem.F.slot_list_clear ⟨_, ho, rfl⟩ PySem.F.entry_list_clear (PySem.F.args_list_clear_1 _) (AutoSeq1.list_clear_list_0 a vals.toArray n (by have := r.length; rw [PySem.sizeLine_eq]; simp; omega)) ⟨ho, ?_⟩
  exact .none (R.mapSeq (tk := s.toks) (vals' := []) _ hg ho (by simp) .nil) h
end
end Mine
namespace Mine
/-! a list, backwards -/
theorem nolen_rv : typeLookup (.type "list_reverseiterator") "__len__" = pure none := by rw [typeLookup_type, builtinLookup_eq_fast]; kernel_rfl
theorem hint_rv : typeLookup (.type "list_reverseiterator") "__length_hint__" = pure (some (.builtin "list_reverseiterator.__length_hint__")) := by rw [typeLookup_type, builtinLookup_eq_fast]; kernel_rfl
section
variable {prog : Program} {w : World} {A : Around} {E : Value → Shared → Prop} {s : Shared} {I l : Addr} {items : Array Value}
noncomputable def RevAt (items : Array Value) (i : Nat) (v : Value) : Prop := items[items.size - 1 - i]? = some v
theorem rev_extend {R : Result → Shared → Prop} (hh : A.handled = none) (hit : s.heap.IsRevIter I l ((items.size : Int) - 1)) (hl : s.heap.IsList l items) (hne : l ≠ I) (hn : items.size ≤ sizeLine) (S : Addr) (hSI : S ≠ I) (hSl : S ≠ l) (res : Value) (c₀ : Nat) (hS : s.heap.get? S = some { cls := .type "list", data := .seq #[] c₀ })
    (hR : ∀ h' tk acc' c', (∀ b o, b ≠ S → b ≠ I → s.heap.get? b = some o → h'.get? b = some o) → h'.get? S = some { cls := .type "list", dict := none, data := .seq acc' c', slots := #[] } → ItemsOf (RevAt items) acc' items.size → R (.ok (.ret res)) { s with heap := h', toks := tk }) :
    wpAny (model prog w) A.in1 (Builtin.List.listExtendWith (.ref S) (.ref I) res)
      (fun fin s' => match fin with | .done f => R (.ok f) s' | .again c' => c'.quiet = true ∧ codeAny (model prog w) A c' R s') (fun e s' => R (.error e) s') s := by
  have hSf : S ∉ [I, l] := by simp only [List.mem_cons, List.not_mem_nil, or_false, not_or]; exact ⟨hSI, hSl⟩
  have W := Walks.listRev (prog := prog) (w := w) (A := A.in1) hh I l hne items
  have e0 : (items.size : Int) - 1 - ((0 : Nat) : Int) = (items.size : Int) - 1 := by omega
  have h1 : Builtin.List.listSameRef (.ref S) (.ref I) = false := by simp [Builtin.List.listSameRef, hSI]
  unfold Builtin.List.listExtendWith
  refine wpAny_bind (wpAny_typeOf hit.typeIs ?_)
  rw [if_neg (by rw [h1]; decide)]
  refine wpAny_bind (wpAny_pyIter_revIter hit ?_)
  refine wpAny_bind (wpAny_holding ?_)
  unfold Builtin.List.listLengthHint
  refine wpAny_bind (wpAny_specialOf hit.typeIs nolen_rv ?_)
  show wpAny _ A.in1 (specialOf (Value.ref I) (Str.ofString "__length_hint__") >>= _) _ _ _
  refine wpAny_bind (wpAny_specialOf hit.typeIs hint_rv ?_)
  generalize hid : ("list_reverseiterator.__length_hint__" : String) = id0
  wp_delta
  rw [show splitId id0 = some ("list_reverseiterator", "__length_hint__") from by subst hid; decide +kernel]
  subst hid
  refine wpAny_bind (wpAny_isInstance (b := true) hit.typeIs (by rw [isSubtype_type]; kernel_rfl) ?_)
  refine wpAny_pure ?_
  rw [if_neg (by decide)]
  refine wpAny_pure ⟨plainId_quiet PySem.F.plain_extend_loop _, codeAny_extend_loopS W.toS hn S hSf res items.size 0 _ #[] c₀ rfl (Nat.zero_le _) ⟨Nat.zero_le _, by rw [e0]; exact hit, hl⟩ hS (ItemsOf.nil _) fun s' acc' c' hm hS' hacc => ?_⟩
  rw [Moved.eq_with hm]
  refine hR s'.heap s'.toks acc' c' (fun b o hb hb' e => hm.heap b o (fun hmem => ?_) e) hS' hacc
  rcases List.mem_cons.mp hmem with e' | hmem
  · exact hb e'
  · exact hb' (List.mem_singleton.mp hmem)
theorem rev_list {Q : Value → Shared → Prop} (hh : A.handled = none) (hit : s.heap.IsRevIter I l ((items.size : Int) - 1)) (hl : s.heap.IsList l items) (hne : l ≠ I) (hn : items.size ≤ sizeLine)
    (hQ : ∀ h' tk acc' c', (∀ b o, b ≠ I → s.heap.get? b = some o → h'.get? b = some o) → h'.get? s.heap.objs.size = some { cls := .type "list", dict := none, data := .seq acc' c', slots := #[] } → ItemsOf (RevAt items) acc' items.size → Q (.ref s.heap.objs.size) { s with heap := h', toks := tk }) :
    wpAny (model prog w) A (call (.type "list") [.ref I]) Q E s := by
  refine callType_codes (Q₁ := fun obj s₁ => obj = .ref s.heap.objs.size ∧ s₁ = { s with heap := s.heap.push { cls := .type "list", data := .seq #[] } }) PySem.F.called_list (PySem.F.typeCall_list_1 _) PySem.F.entry_list_init
    (code_list_new _ ⟨rfl, rfl⟩) fun obj s₁ h₁ => ?_
  obtain ⟨rfl, rfl⟩ := h₁
  have hS : (s.heap.push { cls := .type "list", data := .seq #[] }).get? s.heap.objs.size = some { cls := .type "list", data := .seq #[] } := Heap.get?_push_size _ rfl
  have hI : s.heap.objs.size ≠ I := by obtain ⟨o, ho, _⟩ := hit; exact fun e => Nat.lt_irrefl _ (e ▸ Heap.lt_size ho)
  have hL : s.heap.objs.size ≠ l := by obtain ⟨o, ho, _⟩ := hl; exact fun e => Nat.lt_irrefl _ (e ▸ Heap.lt_size ho)
  refine ⟨⟨_, hS, rfl⟩, PySem.F.args_list_init_2 _ _, ?_⟩
  show wpAny _ _ (do let old ← Builtin.List.listItems (.ref s.heap.objs.size); Builtin.List.listUpdate (.ref s.heap.objs.size) (fun _ => #[]); letGo old.toList.reverse; Builtin.List.listExtendWith (.ref s.heap.objs.size) (.ref I) .none) _ _ _
  refine wpAny_bind ?_
  unfold Builtin.List.listItems
  refine wpAny_bind (wpAny_seqItems hS rfl (wpAny_pure ?_))
  show wpAny _ _ (updateSeq s.heap.objs.size (fun _ => #[]) >>= fun _ => letGo (#[] : Array Value).toList.reverse >>= fun _ => Builtin.List.listExtendWith (.ref s.heap.objs.size) (.ref I) .none) _ _ _
  refine wpAny_bind (wpAny_updateSeq hS rfl ?_)
  have hS₂ := Heap.get?_update_self (Obj.mapSeq (fun _ => (#[] : Array Value))) hS rfl
  have oth : ∀ b o, s.heap.get? b = some o → ((s.heap.push { cls := .type "list", data := .seq #[] }).update s.heap.objs.size (Obj.mapSeq (fun _ => (#[] : Array Value)))).get? b = some o :=
    fun b o e => (Heap.get?_update_other _ _ (Ne.symm (Nat.ne_of_lt (Heap.lt_size e)))).trans (Heap.get?_push_of_some _ e)
  refine wpAny_bind (wpAny_letGo ?_)
  refine rev_extend (A := A.in1) hh (hit.at fun o e => oth _ _ e) (hl.at fun o e => oth _ _ e) hne hn _ hI hL .none _ hS₂ fun h' tk acc' c' hk hS' hacc => ?_
  exact ⟨rfl, hQ h' tk acc' c' (fun b o hb e => hk b o (Nat.ne_of_lt (Heap.lt_size e)) hb (oth b o e)) hS' hacc⟩
end
section
variable {c : Cx} {k : Nat} {sc : Scope} {ρ : Loc} {st : St} {Q : V → St → Prop} {S : Fl → Loc → St → Prop} {X : Xp} {f : Fm} {imm fr : Led} {s : Shared} {tk : Nat} {h h' : Heap} {m : Str → Option Value} {mt cs fo : Led} {r : Addr}
noncomputable def delS (st : St) (r : Addr) : St := st.filter fun p => !decide (p.1 = r)
theorem get_del {b : Addr} (hb : b ≠ r) : Mine.get (delS st r) b = Mine.get st b := by
  unfold Mine.get delS
  induction st with
  | nil => rfl
  | cons p st ih =>
    rw [List.filter_cons, List.lookup_cons]
    by_cases e : p.1 = r
    · simp only [e, decide_true, Bool.not_true, Bool.false_eq_true, if_false]
      rw [ih, show (b == r) = false from beq_eq_false_iff_ne.mpr hb]
    · simp only [e, decide_false, Bool.not_false, if_true]
      rw [List.lookup_cons, ih]
theorem StR.del (h : StR c imm st mt) : StR c imm (delS st r) (mt.filter fun p => !decide (p.1 = r)) := by
  induction h with
  | nil => exact .nil
  | @cons a o co st mt hr _ ih =>
    unfold delS at ih ⊢
    rw [List.filter_cons, List.filter_cons]
    by_cases e : a = r
    · simp only [e, decide_true, Bool.not_true, Bool.false_eq_true, if_false]; exact ih
    · simp only [e, decide_false, Bool.not_false, if_true]; exact .cons hr ih
theorem RelAt.del {x : O} (R : RelAt c f ρ st imm fr h m mt cs fo) (hg : Mine.get st r = some x) (hs : ∀ b o, b ≠ r → h.get? b = some o → h'.get? b = some o) : RelAt c f ρ (delS st r) imm fr h' m (mt.filter fun p => !decide (p.1 = r)) cs fo := by
  obtain ⟨co, hm, _⟩ := R.sto.get hg
  have hw := R.news _ (List.mem_append_left _ hm)
  have sub : List.Sublist (whole (mt.filter fun p => !decide (p.1 = r)) cs imm fr fo) (whole mt cs imm fr fo) := List.Sublist.append (List.filter_sublist) (List.Sublist.refl _)
  have ne : ∀ p ∈ whole (mt.filter fun p => !decide (p.1 = r)) cs imm fr fo, p.1 ≠ r := by
    intro p hp e
    rcases List.mem_append.mp hp with hp | hp
    · have := (List.mem_filter.mp hp).2
      simp [e] at this
    · have nd := R.nodup
      rw [List.map_append, List.nodup_append] at nd
      exact nd.2.2 r (List.mem_map_of_mem hm) p.1 (List.mem_map_of_mem hp) e.symm
  refine ⟨⟨R.frm.ns.at' fun ob q => hs _ _ (Ne.symm hw.2.1) q, fun b ob q => hs b ob (fun q' => by rw [q', hw.2.2] at q; cases q) (R.frm.keep b ob q), R.frm.above⟩, fun p hp => ?_, (sub.map _).nodup R.nodup, R.sto.del, R.fos, R.loc⟩
  have z := R.news p (sub.subset hp)
  exact ⟨hs _ _ (ne p hp) z.1, z.2⟩
noncomputable def RevP (a : Addr) (n : Nat) : Led → Obj → Prop := fun _ o => o = revObj a ((n : Int) - 1)
theorem WL.reversed {a : Addr} {vs : List V} (hg : get st a = some (.list vs)) (h : ∀ d, get st d = none → Q (.ref d) ((d, .any (RevP a vs.length)) :: st)) : WL c k (fun xs => call (.type "reversed") xs) [.ref a] ρ st Q X := by
  refine ⟨fun f imm fr s xs ok R rvs => ?_⟩
  obtain ⟨_, rfl, rx0⟩ := rvs.inv1
  obtain rfl := rx0.refI
  obtain ⟨vals, n, r, ho⟩ := R.isList hg
  refine call_reversed_list (items := vals.toArray) ⟨_, ho, rfl, _, rfl⟩ ?_
  have e : ((vals.toArray.size : Nat) : Int) - 1 = (vs.length : Int) - 1 := by simp [r.length]
  rw [e]
  exact ⟨_, _, imm, fun _ h => h, .ref _, R.pushSt (tk := s.toks) (x := .any (RevP a vs.length)) (.any fun _ _ => rfl), h _ R.none⟩
theorem RVs.rev {base : Heap} : ∀ {vs : List V} {xs : List Value}, RVs base imm vs xs → RVs base imm vs.reverse xs.reverse
  | [], _, h => by cases h; exact .nil
  | v :: vs, _, h => by
    cases h with
    | cons a r => rw [List.reverse_cons, List.reverse_cons]; exact (RVs.rev r).append (.one a)
theorem WL.listRev {a : Addr} {vs : List V} (hq : c.q = true) (hr : get st r = some (.any (RevP a vs.length))) (hg : get st a = some (.list vs)) (hl : vs.length ≤ 1000000)
    (h : ∀ d st', (∀ b o, b ≠ r → get st b = some o → get st' b = some o) → get st d = none → get st' d = some (.list vs.reverse) → Q (.ref d) st') : WL c k (fun xs => call (.type "list") xs) [.ref r] ρ st Q X := by
  refine ⟨fun f imm fr s xs ok R rvs => ?_⟩
  obtain ⟨_, rfl, rx0⟩ := rvs.inv1
  obtain rfl := rx0.refI
  obtain ⟨vals, n, rv, ho⟩ := R.isList hg
  obtain ⟨co, hro, hco⟩ := R.get hr
  have hlen := rv.length
  have hrev : s.heap.IsRevIter r a ((vals.toArray.size : Int) - 1) := by
    cases hro with
    | any q =>
      obtain rfl := q imm fun _ hp => hp
      rw [show ((vals.toArray.size : Int) - 1) = (vs.length : Int) - 1 by simp [hlen]]
      exact ⟨_, hco, rfl, rfl⟩
  have hne : a ≠ r := fun e => by rw [e, hr] at hg; cases hg
  refine rev_list (items := vals.toArray) (ok.hnd hq) hrev ⟨_, ho, rfl, _, rfl⟩ hne (by rw [sizeLine_eq]; simp; omega) fun h' tk acc' c' hk hD hacc => ?_
  obtain ⟨⟨h0, tk0, rfl⟩, m, mt, cs, fo, rr⟩ := id R
  have acc_eq : acc' = vals.reverse.toArray := by
    apply Array.ext'
    refine List.ext_getElem? fun i => ?_
    have hsz : acc'.toList.length = vals.length := by rw [Array.length_toList]; simpa using hacc.1
    rcases Nat.lt_or_ge i vals.length with hi | hi
    · obtain ⟨v, hv⟩ : ∃ v, acc'.toList[i]? = some v := ⟨_, List.getElem?_eq_getElem (by omega)⟩
      have := hacc.2 i v (by rw [← Array.getElem?_toList]; exact hv)
      unfold RevAt at this
      rw [hv]
      simp only [List.toList_toArray]
      rw [List.getElem?_reverse hi]
      simpa using this.symm
    · rw [List.getElem?_eq_none (by omega)]
      simp only [List.toList_toArray]
      rw [List.getElem?_eq_none (by simpa using hi)]
  subst acc_eq
  have rd := rr.del (h' := h') hr hk
  have hlt : ∀ p ∈ whole (mt.filter fun p => !decide (p.1 = r)) cs imm fr fo, p.1 < h0.objs.size := fun p hp => rr.size p (by
    rcases List.mem_append.mp hp with q | q
    · exact List.mem_append_left _ (List.mem_filter.mp q).1
    · exact List.mem_append_right _ q)
  have hnD : c.base.get? h0.objs.size = none := by
    cases q : c.base.get? h0.objs.size with
    | none => rfl
    | some o => exact absurd (Heap.lt_size (rr.frm.keep _ _ q)) (Nat.lt_irrefl _)
  have hrD : h0.objs.size ≠ r := fun e => Nat.lt_irrefl _ (e ▸ Heap.lt_size hco)
  have N : News c.base f.L h' ((h0.objs.size, PySem.W.listOf vals.reverse.toArray c') :: whole (mt.filter fun p => !decide (p.1 = r)) cs imm fr fo) := by
    intro p hp
    rcases List.mem_cons.mp hp with rfl | hp
    · exact ⟨hD, Nat.ne_of_gt rr.frm.ns.lt, hnD⟩
    · exact rd.news p hp
  have rn := rd.newSt rd.frm N hlt (.list rv.rev)
  refine ⟨.ref h0.objs.size, _, imm, fun _ h => h, .ref _, ⟨⟨h', tk, rfl⟩, m, _, cs, fo, rn⟩, h _ _ (fun b o hb e => ?_) R.none get_head⟩
  rw [get_tail (fun q => by subst q; rw [R.none] at e; cases e), get_del hb]
  exact e
end
end Mine
namespace Mine
set_option genInjectivity false
set_option genSizeOfSpec false
noncomputable def nthS : List Stmt → Nat → Option Stmt
  | [], _ => none
  | x :: _, 0 => some x
  | _ :: l, n + 1 => nthS l n
noncomputable def bodyI : Option Stmt → List Stmt
  | some (.FunctionDef _ _ b _ _ _ _ _ _ _) => b
  | _ => []
noncomputable def scI : Option Stmt → Scope
  | some (.FunctionDef _ _ _ _ _ _ s _ _ _) => s
  | _ => { kind := .module, names := [], isGenerator := false, isCoroutine := false, more := [] }
noncomputable def memI : Option Stmt → Nat → Option Stmt
  | some (.ClassDef _ _ _ b _ _ _ _ _ _ _), j => nthS b j
  | _, _ => none
noncomputable def stI (i : Nat) : Option Stmt := nthS PySem.Challenge.pw_uf040029_08.main.body i
noncomputable abbrev A_between : Addr := 130
noncomputable def S_between : Scope := scI (stI 13)
noncomputable def B_between : List Stmt := bodyI (stI 13)
noncomputable abbrev A_is_state : Addr := 137
noncomputable def S_is_state : Scope := scI (stI 14)
noncomputable def B_is_state : List Stmt := bodyI (stI 14)
noncomputable abbrev A_is_rule : Addr := 144
noncomputable def S_is_rule : Scope := scI (stI 15)
noncomputable def B_is_rule : List Stmt := bodyI (stI 15)
noncomputable abbrev A_forth : Addr := 151
noncomputable def S_forth : Scope := scI (stI 16)
noncomputable def B_forth : List Stmt := bodyI (stI 16)
noncomputable abbrev A_need_row : Addr := 158
noncomputable def S_need_row : Scope := scI (stI 17)
noncomputable def B_need_row : List Stmt := bodyI (stI 17)
noncomputable abbrev A_need_counts : Addr := 165
noncomputable def S_need_counts : Scope := scI (stI 21)
noncomputable def B_need_counts : List Stmt := bodyI (stI 21)
noncomputable abbrev A_row_above : Addr := 170
noncomputable def S_row_above : Scope := scI (stI 22)
noncomputable def B_row_above : List Stmt := bodyI (stI 22)
noncomputable abbrev A_table : Addr := 175
noncomputable def S_table : Scope := scI (stI 23)
noncomputable def B_table : List Stmt := bodyI (stI 23)
noncomputable abbrev A_least : Addr := 182
noncomputable def S_least : Scope := scI (stI 24)
noncomputable def B_least : List Stmt := bodyI (stI 24)
noncomputable abbrev A_best_ahead : Addr := 189
noncomputable def S_best_ahead : Scope := scI (stI 26)
noncomputable def B_best_ahead : List Stmt := bodyI (stI 26)
noncomputable abbrev A_by_one : Addr := 196
noncomputable def S_by_one : Scope := scI (stI 27)
noncomputable def B_by_one : List Stmt := bodyI (stI 27)
noncomputable abbrev A_met_from : Addr := 203
noncomputable def S_met_from : Scope := scI (stI 28)
noncomputable def B_met_from : List Stmt := bodyI (stI 28)
noncomputable abbrev A_plan : Addr := 210
noncomputable def S_plan : Scope := scI (stI 29)
noncomputable def B_plan : List Stmt := bodyI (stI 29)
noncomputable abbrev A_is_deed : Addr := 217
noncomputable def S_is_deed : Scope := scI (stI 32)
noncomputable def B_is_deed : List Stmt := bodyI (stI 32)
noncomputable abbrev A_walked : Addr := 292
noncomputable def S_walked : Scope := scI (stI 36)
noncomputable def B_walked : List Stmt := bodyI (stI 36)
noncomputable abbrev A_backwards : Addr := 299
noncomputable def S_backwards : Scope := scI (stI 37)
noncomputable def B_backwards : List Stmt := bodyI (stI 37)
noncomputable abbrev A_law_cell_at : Addr := 306
noncomputable def S_law_cell_at : Scope := scI (stI 39)
noncomputable def B_law_cell_at : List Stmt := bodyI (stI 39)
noncomputable abbrev A_law_number : Addr := 313
noncomputable def S_law_number : Scope := scI (stI 40)
noncomputable def B_law_number : List Stmt := bodyI (stI 40)
noncomputable abbrev A_law_whole : Addr := 320
noncomputable def S_law_whole : Scope := scI (stI 41)
noncomputable def B_law_whole : List Stmt := bodyI (stI 41)
noncomputable abbrev A_law_rule : Addr := 327
noncomputable def S_law_rule : Scope := scI (stI 42)
noncomputable def B_law_rule : List Stmt := bodyI (stI 42)
noncomputable abbrev A_law_forth : Addr := 334
noncomputable def S_law_forth : Scope := scI (stI 43)
noncomputable def B_law_forth : List Stmt := bodyI (stI 43)
noncomputable abbrev A_law_row : Addr := 339
noncomputable def S_law_row : Scope := scI (stI 44)
noncomputable def B_law_row : List Stmt := bodyI (stI 44)
noncomputable abbrev A_law_states : Addr := 346
noncomputable def S_law_states : Scope := scI (stI 45)
noncomputable def B_law_states : List Stmt := bodyI (stI 45)
noncomputable abbrev A_law_by_deeds : Addr := 353
noncomputable def S_law_by_deeds : Scope := scI (stI 46)
noncomputable def B_law_by_deeds : List Stmt := bodyI (stI 46)
noncomputable def S_law : Scope := scI (stI 47)
noncomputable def B_law : List Stmt := bodyI (stI 47)
noncomputable def S_Walker_init : Scope := scI (memI (stI 34) 0)
noncomputable def B_Walker_init : List Stmt := bodyI (memI (stI 34) 0)
noncomputable abbrev A_Walker_kept : Addr := 236
noncomputable def S_Walker_kept : Scope := scI (memI (stI 34) 1)
noncomputable def B_Walker_kept : List Stmt := bodyI (memI (stI 34) 1)
noncomputable abbrev A_Walker_met : Addr := 243
noncomputable def S_Walker_met : Scope := scI (memI (stI 34) 2)
noncomputable def B_Walker_met : List Stmt := bodyI (memI (stI 34) 2)
noncomputable abbrev A_Walker_do : Addr := 250
noncomputable def S_Walker_do : Scope := scI (memI (stI 34) 3)
noncomputable def B_Walker_do : List Stmt := bodyI (memI (stI 34) 3)
noncomputable abbrev A_Walker_keep_it : Addr := 257
noncomputable def S_Walker_keep_it : Scope := scI (memI (stI 34) 4)
noncomputable def B_Walker_keep_it : List Stmt := bodyI (memI (stI 34) 4)
noncomputable abbrev A_Walker_handle : Addr := 264
noncomputable def S_Walker_handle : Scope := scI (memI (stI 34) 5)
noncomputable def B_Walker_handle : List Stmt := bodyI (memI (stI 34) 5)
noncomputable abbrev A_Walker_go_on : Addr := 271
noncomputable def S_Walker_go_on : Scope := scI (memI (stI 34) 6)
noncomputable def B_Walker_go_on : List Stmt := bodyI (memI (stI 34) 6)
noncomputable abbrev A_Walker_meet_it : Addr := 278
noncomputable def S_Walker_meet_it : Scope := scI (memI (stI 34) 7)
noncomputable def B_Walker_meet_it : List Stmt := bodyI (memI (stI 34) 7)
noncomputable abbrev A_MarkError : Addr := 24
noncomputable abbrev A_BadCount : Addr := 37
noncomputable abbrev A_BadRule : Addr := 49
noncomputable abbrev A_BadDeed : Addr := 61
noncomputable abbrev A_Full : Addr := 73
noncomputable abbrev A_Twice : Addr := 85
noncomputable abbrev A_NotKept : Addr := 97
noncomputable abbrev A_AtEnd : Addr := 109
noncomputable abbrev A_NotWanted : Addr := 121
noncomputable abbrev A_Walker : Addr := 281
/-- what the walk asks of the text's globals -/
structure Facts (K : Frag) : Prop where
  fn_between : FnAt K 130 ["thing", "low", "high"] S_between B_between
  g_between : nsIn K mainGlobals "between" = some (some (.ref 130))
  k_between : keepIn K (.ref 130) = true
  fn_is_state : FnAt K 137 ["thing"] S_is_state B_is_state
  g_is_state : nsIn K mainGlobals "is_state" = some (some (.ref 137))
  k_is_state : keepIn K (.ref 137) = true
  fn_is_rule : FnAt K 144 ["thing"] S_is_rule B_is_rule
  g_is_rule : nsIn K mainGlobals "is_rule" = some (some (.ref 144))
  k_is_rule : keepIn K (.ref 144) = true
  fn_forth : FnAt K 151 ["rule", "state"] S_forth B_forth
  g_forth : nsIn K mainGlobals "forth" = some (some (.ref 151))
  k_forth : keepIn K (.ref 151) = true
  fn_need_row : FnAt K 158 ["first", "rules"] S_need_row B_need_row
  g_need_row : nsIn K mainGlobals "need_row" = some (some (.ref 158))
  k_need_row : keepIn K (.ref 158) = true
  fn_need_counts : FnAt K 165 ["steps", "room"] S_need_counts B_need_counts
  g_need_counts : nsIn K mainGlobals "need_counts" = some (some (.ref 165))
  k_need_counts : keepIn K (.ref 165) = true
  fn_row_above : FnAt K 170 ["below", "steps"] S_row_above B_row_above
  g_row_above : nsIn K mainGlobals "row_above" = some (some (.ref 170))
  k_row_above : keepIn K (.ref 170) = true
  fn_table : FnAt K 175 ["steps", "room"] S_table B_table
  g_table : nsIn K mainGlobals "table" = some (some (.ref 175))
  k_table : keepIn K (.ref 175) = true
  fn_least : FnAt K 182 ["steps", "room"] S_least B_least
  g_least : nsIn K mainGlobals "least" = some (some (.ref 182))
  k_least : keepIn K (.ref 182) = true
  fn_best_ahead : FnAt K 189 ["rows", "steps", "room"] S_best_ahead B_best_ahead
  g_best_ahead : nsIn K mainGlobals "best_ahead" = some (some (.ref 189))
  k_best_ahead : keepIn K (.ref 189) = true
  fn_by_one : FnAt K 196 ["place", "steps"] S_by_one B_by_one
  g_by_one : nsIn K mainGlobals "by_one" = some (some (.ref 196))
  k_by_one : keepIn K (.ref 196) = true
  fn_met_from : FnAt K 203 ["rows", "place", "steps", "room"] S_met_from B_met_from
  g_met_from : nsIn K mainGlobals "met_from" = some (some (.ref 203))
  k_met_from : keepIn K (.ref 203) = true
  fn_plan : FnAt K 210 ["steps", "room"] S_plan B_plan
  g_plan : nsIn K mainGlobals "plan" = some (some (.ref 210))
  k_plan : keepIn K (.ref 210) = true
  fn_is_deed : FnAt K 217 ["thing"] S_is_deed B_is_deed
  g_is_deed : nsIn K mainGlobals "is_deed" = some (some (.ref 217))
  k_is_deed : keepIn K (.ref 217) = true
  fn_walked : FnAt K 292 ["first", "rules", "room", "deeds"] S_walked B_walked
  g_walked : nsIn K mainGlobals "walked" = some (some (.ref 292))
  k_walked : keepIn K (.ref 292) = true
  fn_backwards : FnAt K 299 ["first", "rules", "room"] S_backwards B_backwards
  g_backwards : nsIn K mainGlobals "backwards" = some (some (.ref 299))
  k_backwards : keepIn K (.ref 299) = true
  fn_law_cell_at : FnAt K 306 ["_law_script", "_law_k"] S_law_cell_at B_law_cell_at
  g_law_cell_at : nsIn K mainGlobals "_law_cell_at" = some (some (.ref 306))
  k_law_cell_at : keepIn K (.ref 306) = true
  fn_law_number : FnAt K 313 ["_law_script", "_law_k"] S_law_number B_law_number
  g_law_number : nsIn K mainGlobals "_law_number" = some (some (.ref 313))
  k_law_number : keepIn K (.ref 313) = true
  fn_law_whole : FnAt K 320 ["_law_found"] S_law_whole B_law_whole
  g_law_whole : nsIn K mainGlobals "_law_whole" = some (some (.ref 320))
  k_law_whole : keepIn K (.ref 320) = true
  fn_law_rule : FnAt K 327 ["_law_number_here"] S_law_rule B_law_rule
  g_law_rule : nsIn K mainGlobals "_law_rule" = some (some (.ref 327))
  k_law_rule : keepIn K (.ref 327) = true
  fn_law_forth : FnAt K 334 ["_law_rule_here", "_law_state"] S_law_forth B_law_forth
  g_law_forth : nsIn K mainGlobals "_law_forth" = some (some (.ref 334))
  k_law_forth : keepIn K (.ref 334) = true
  fn_law_row : FnAt K 339 ["_law_script", "_law_start", "_law_most"] S_law_row B_law_row
  g_law_row : nsIn K mainGlobals "_law_row" = some (some (.ref 339))
  k_law_row : keepIn K (.ref 339) = true
  fn_law_states : FnAt K 346 ["_law_first", "_law_rules"] S_law_states B_law_states
  g_law_states : nsIn K mainGlobals "_law_states" = some (some (.ref 346))
  k_law_states : keepIn K (.ref 346) = true
  fn_law_by_deeds : FnAt K 353 ["_law_first", "_law_rules", "_law_room", "_law_due"] S_law_by_deeds B_law_by_deeds
  g_law_by_deeds : nsIn K mainGlobals "_law_by_deeds" = some (some (.ref 353))
  k_law_by_deeds : keepIn K (.ref 353) = true
  fn_law : FnAt K 358 ["_law_script"] S_law B_law
  g_law : nsIn K mainGlobals "law" = some (some (.ref 358))
  k_law : keepIn K (.ref 358) = true
  fn_Walker_init : FnAt K 231 ["self", "first", "rules", "room"] S_Walker_init B_Walker_init
  mk_Walker : MakeK K 281 231
  fn_Walker_kept : FnAt K 236 ["self"] S_Walker_kept B_Walker_kept
  me_Walker_kept : MethK K 281 "kept" 236
  fn_Walker_met : FnAt K 243 ["self"] S_Walker_met B_Walker_met
  me_Walker_met : MethK K 281 "met" 243
  fn_Walker_do : FnAt K 250 ["self", "deed"] S_Walker_do B_Walker_do
  me_Walker_do : MethK K 281 "do" 250
  fn_Walker_keep_it : FnAt K 257 ["self"] S_Walker_keep_it B_Walker_keep_it
  me_Walker_keep_it : MethK K 281 "keep_it" 257
  fn_Walker_handle : FnAt K 264 ["self", "word", "place"] S_Walker_handle B_Walker_handle
  me_Walker_handle : MethK K 281 "handle" 264
  fn_Walker_go_on : FnAt K 271 ["self", "many"] S_Walker_go_on B_Walker_go_on
  me_Walker_go_on : MethK K 281 "go_on" 271
  fn_Walker_meet_it : FnAt K 278 ["self"] S_Walker_meet_it B_Walker_meet_it
  me_Walker_meet_it : MethK K 281 "meet_it" 278
  at_Walker_done : ClsK K 281 "done"
  at_Walker_place : ClsK K 281 "place"
  at_Walker_room : ClsK K 281 "room"
  at_Walker_rules : ClsK K 281 "rules"
  at_Walker_seen : ClsK K 281 "seen"
  at_Walker_shelf : ClsK K 281 "shelf"
  at_Walker_state : ClsK K 281 "state"
  at_Walker_wanted : ClsK K 281 "wanted"
  g_MarkError : nsIn K mainGlobals "MarkError" = some (some (.ref A_MarkError))
  k_MarkError : keepIn K (.ref A_MarkError) = true
  g_BadCount : nsIn K mainGlobals "BadCount" = some (some (.ref A_BadCount))
  k_BadCount : keepIn K (.ref A_BadCount) = true
  g_BadRule : nsIn K mainGlobals "BadRule" = some (some (.ref A_BadRule))
  k_BadRule : keepIn K (.ref A_BadRule) = true
  g_BadDeed : nsIn K mainGlobals "BadDeed" = some (some (.ref A_BadDeed))
  k_BadDeed : keepIn K (.ref A_BadDeed) = true
  g_Full : nsIn K mainGlobals "Full" = some (some (.ref A_Full))
  k_Full : keepIn K (.ref A_Full) = true
  g_Twice : nsIn K mainGlobals "Twice" = some (some (.ref A_Twice))
  k_Twice : keepIn K (.ref A_Twice) = true
  g_NotKept : nsIn K mainGlobals "NotKept" = some (some (.ref A_NotKept))
  k_NotKept : keepIn K (.ref A_NotKept) = true
  g_AtEnd : nsIn K mainGlobals "AtEnd" = some (some (.ref A_AtEnd))
  k_AtEnd : keepIn K (.ref A_AtEnd) = true
  g_NotWanted : nsIn K mainGlobals "NotWanted" = some (some (.ref A_NotWanted))
  k_NotWanted : keepIn K (.ref A_NotWanted) = true
  g_Walker : nsIn K mainGlobals "Walker" = some (some (.ref A_Walker))
  k_Walker : keepIn K (.ref A_Walker) = true
  ex_BadCount : excIn K A_BadCount vbm "ValueError.__new__" = true
  ek_BadCount : ExcK K A_BadCount
  em_BadCount : exmOne K (.ref A_BadCount) (.ref A_MarkError) = some true
  kit_BadCount : kitOne K (.ref A_BadCount) (.ref A_BadCount) = some true ∧ kitOne K (.ref A_BadCount) (.ref A_BadRule) = some false ∧ kitOne K (.ref A_BadCount) (.ref A_BadDeed) = some false ∧ kitOne K (.ref A_BadCount) (.ref A_Full) = some false ∧ kitOne K (.ref A_BadCount) (.ref A_Twice) = some false ∧ kitOne K (.ref A_BadCount) (.ref A_NotKept) = some false ∧ kitOne K (.ref A_BadCount) (.ref A_AtEnd) = some false ∧ kitOne K (.ref A_BadCount) (.ref A_NotWanted) = some false ∧ kitOne K (.ref A_BadCount) (.type "ValueError") = some true
  ex_BadRule : excIn K A_BadRule vbm "ValueError.__new__" = true
  ek_BadRule : ExcK K A_BadRule
  em_BadRule : exmOne K (.ref A_BadRule) (.ref A_MarkError) = some true
  kit_BadRule : kitOne K (.ref A_BadRule) (.ref A_BadCount) = some false ∧ kitOne K (.ref A_BadRule) (.ref A_BadRule) = some true ∧ kitOne K (.ref A_BadRule) (.ref A_BadDeed) = some false ∧ kitOne K (.ref A_BadRule) (.ref A_Full) = some false ∧ kitOne K (.ref A_BadRule) (.ref A_Twice) = some false ∧ kitOne K (.ref A_BadRule) (.ref A_NotKept) = some false ∧ kitOne K (.ref A_BadRule) (.ref A_AtEnd) = some false ∧ kitOne K (.ref A_BadRule) (.ref A_NotWanted) = some false ∧ kitOne K (.ref A_BadRule) (.type "ValueError") = some true
  ex_BadDeed : excIn K A_BadDeed vbm "ValueError.__new__" = true
  ek_BadDeed : ExcK K A_BadDeed
  em_BadDeed : exmOne K (.ref A_BadDeed) (.ref A_MarkError) = some true
  kit_BadDeed : kitOne K (.ref A_BadDeed) (.ref A_BadCount) = some false ∧ kitOne K (.ref A_BadDeed) (.ref A_BadRule) = some false ∧ kitOne K (.ref A_BadDeed) (.ref A_BadDeed) = some true ∧ kitOne K (.ref A_BadDeed) (.ref A_Full) = some false ∧ kitOne K (.ref A_BadDeed) (.ref A_Twice) = some false ∧ kitOne K (.ref A_BadDeed) (.ref A_NotKept) = some false ∧ kitOne K (.ref A_BadDeed) (.ref A_AtEnd) = some false ∧ kitOne K (.ref A_BadDeed) (.ref A_NotWanted) = some false ∧ kitOne K (.ref A_BadDeed) (.type "ValueError") = some true
  ex_Full : excIn K A_Full vbm "ValueError.__new__" = true
  ek_Full : ExcK K A_Full
  em_Full : exmOne K (.ref A_Full) (.ref A_MarkError) = some true
  kit_Full : kitOne K (.ref A_Full) (.ref A_BadCount) = some false ∧ kitOne K (.ref A_Full) (.ref A_BadRule) = some false ∧ kitOne K (.ref A_Full) (.ref A_BadDeed) = some false ∧ kitOne K (.ref A_Full) (.ref A_Full) = some true ∧ kitOne K (.ref A_Full) (.ref A_Twice) = some false ∧ kitOne K (.ref A_Full) (.ref A_NotKept) = some false ∧ kitOne K (.ref A_Full) (.ref A_AtEnd) = some false ∧ kitOne K (.ref A_Full) (.ref A_NotWanted) = some false ∧ kitOne K (.ref A_Full) (.type "ValueError") = some true
  ex_Twice : excIn K A_Twice vbm "ValueError.__new__" = true
  ek_Twice : ExcK K A_Twice
  em_Twice : exmOne K (.ref A_Twice) (.ref A_MarkError) = some true
  kit_Twice : kitOne K (.ref A_Twice) (.ref A_BadCount) = some false ∧ kitOne K (.ref A_Twice) (.ref A_BadRule) = some false ∧ kitOne K (.ref A_Twice) (.ref A_BadDeed) = some false ∧ kitOne K (.ref A_Twice) (.ref A_Full) = some false ∧ kitOne K (.ref A_Twice) (.ref A_Twice) = some true ∧ kitOne K (.ref A_Twice) (.ref A_NotKept) = some false ∧ kitOne K (.ref A_Twice) (.ref A_AtEnd) = some false ∧ kitOne K (.ref A_Twice) (.ref A_NotWanted) = some false ∧ kitOne K (.ref A_Twice) (.type "ValueError") = some true
  ex_NotKept : excIn K A_NotKept vbm "ValueError.__new__" = true
  ek_NotKept : ExcK K A_NotKept
  em_NotKept : exmOne K (.ref A_NotKept) (.ref A_MarkError) = some true
  kit_NotKept : kitOne K (.ref A_NotKept) (.ref A_BadCount) = some false ∧ kitOne K (.ref A_NotKept) (.ref A_BadRule) = some false ∧ kitOne K (.ref A_NotKept) (.ref A_BadDeed) = some false ∧ kitOne K (.ref A_NotKept) (.ref A_Full) = some false ∧ kitOne K (.ref A_NotKept) (.ref A_Twice) = some false ∧ kitOne K (.ref A_NotKept) (.ref A_NotKept) = some true ∧ kitOne K (.ref A_NotKept) (.ref A_AtEnd) = some false ∧ kitOne K (.ref A_NotKept) (.ref A_NotWanted) = some false ∧ kitOne K (.ref A_NotKept) (.type "ValueError") = some true
  ex_AtEnd : excIn K A_AtEnd vbm "ValueError.__new__" = true
  ek_AtEnd : ExcK K A_AtEnd
  em_AtEnd : exmOne K (.ref A_AtEnd) (.ref A_MarkError) = some true
  kit_AtEnd : kitOne K (.ref A_AtEnd) (.ref A_BadCount) = some false ∧ kitOne K (.ref A_AtEnd) (.ref A_BadRule) = some false ∧ kitOne K (.ref A_AtEnd) (.ref A_BadDeed) = some false ∧ kitOne K (.ref A_AtEnd) (.ref A_Full) = some false ∧ kitOne K (.ref A_AtEnd) (.ref A_Twice) = some false ∧ kitOne K (.ref A_AtEnd) (.ref A_NotKept) = some false ∧ kitOne K (.ref A_AtEnd) (.ref A_AtEnd) = some true ∧ kitOne K (.ref A_AtEnd) (.ref A_NotWanted) = some false ∧ kitOne K (.ref A_AtEnd) (.type "ValueError") = some true
  ex_NotWanted : excIn K A_NotWanted vbm "ValueError.__new__" = true
  ek_NotWanted : ExcK K A_NotWanted
  em_NotWanted : exmOne K (.ref A_NotWanted) (.ref A_MarkError) = some true
  kit_NotWanted : kitOne K (.ref A_NotWanted) (.ref A_BadCount) = some false ∧ kitOne K (.ref A_NotWanted) (.ref A_BadRule) = some false ∧ kitOne K (.ref A_NotWanted) (.ref A_BadDeed) = some false ∧ kitOne K (.ref A_NotWanted) (.ref A_Full) = some false ∧ kitOne K (.ref A_NotWanted) (.ref A_Twice) = some false ∧ kitOne K (.ref A_NotWanted) (.ref A_NotKept) = some false ∧ kitOne K (.ref A_NotWanted) (.ref A_AtEnd) = some false ∧ kitOne K (.ref A_NotWanted) (.ref A_NotWanted) = some true ∧ kitOne K (.ref A_NotWanted) (.type "ValueError") = some true
  g_ROUND : ∃ t, nsIn K mainGlobals "ROUND" = some (some (.int 999983 t))
  g_MOST_RULES : ∃ t, nsIn K mainGlobals "MOST_RULES" = some (some (.int 100 t))
  g_MOST_STEPS : ∃ t, nsIn K mainGlobals "MOST_STEPS" = some (some (.int 100 t))
  g_MOST_ROOM : ∃ t, nsIn K mainGlobals "MOST_ROOM" = some (some (.int 12 t))
  g_MOST : ∃ t, nsIn K mainGlobals "MOST" = some (some (.int 100 t))
  g_isinstance : nsIn K mainGlobals "isinstance" = some none
  g_len : nsIn K mainGlobals "len" = some none
  g_min : nsIn K mainGlobals "min" = some none
  g_sorted : nsIn K mainGlobals "sorted" = some none
  g_all : nsIn K mainGlobals "all" = some none
  g_list : nsIn K mainGlobals "list" = some none
  g_int : nsIn K mainGlobals "int" = some none
  g_str : nsIn K mainGlobals "str" = some none
  g_tuple : nsIn K mainGlobals "tuple" = some none
  g_range : nsIn K mainGlobals "range" = some none
  g_reversed : nsIn K mainGlobals "reversed" = some none
  g_bool : nsIn K mainGlobals "bool" = some none
  g_ValueError : nsIn K mainGlobals "ValueError" = some none
noncomputable def Kc (c : Cx) : Prop := Facts c.K
theorem useK {K : Frag} {h : Heap} (X : K.In h) {P : Prop} (f : Facts K) (g : Facts K → P) : P := g f
section
variable {c : Cx} {k : Nat} {sc : Scope} {ρ : Loc} {st : St} {Q : V → St → Prop} {X : Xp} {p pos : Pos} {args : List Expr}
theorem c_between (hK : Kc c) (hx : sc.names.lookup ("between" : Str) = some .globalImplicit) (h : WPEs c k sc ρ st args (fun vs st₂ => WL c k (fun xs => PySem.call (.ref 130) xs) vs ρ st₂ Q X) X) (hp : args.any isStar = false := by rfl) : WPE c k sc ρ st (.Call (.Name "between" p) args [] pos) Q X :=
  WPE.callF hx (Facts.g_between hK) (Facts.k_between hK) h hp
theorem c_is_state (hK : Kc c) (hx : sc.names.lookup ("is_state" : Str) = some .globalImplicit) (h : WPEs c k sc ρ st args (fun vs st₂ => WL c k (fun xs => PySem.call (.ref 137) xs) vs ρ st₂ Q X) X) (hp : args.any isStar = false := by rfl) : WPE c k sc ρ st (.Call (.Name "is_state" p) args [] pos) Q X :=
  WPE.callF hx (Facts.g_is_state hK) (Facts.k_is_state hK) h hp
theorem c_is_rule (hK : Kc c) (hx : sc.names.lookup ("is_rule" : Str) = some .globalImplicit) (h : WPEs c k sc ρ st args (fun vs st₂ => WL c k (fun xs => PySem.call (.ref 144) xs) vs ρ st₂ Q X) X) (hp : args.any isStar = false := by rfl) : WPE c k sc ρ st (.Call (.Name "is_rule" p) args [] pos) Q X :=
  WPE.callF hx (Facts.g_is_rule hK) (Facts.k_is_rule hK) h hp
theorem c_forth (hK : Kc c) (hx : sc.names.lookup ("forth" : Str) = some .globalImplicit) (h : WPEs c k sc ρ st args (fun vs st₂ => WL c k (fun xs => PySem.call (.ref 151) xs) vs ρ st₂ Q X) X) (hp : args.any isStar = false := by rfl) : WPE c k sc ρ st (.Call (.Name "forth" p) args [] pos) Q X :=
  WPE.callF hx (Facts.g_forth hK) (Facts.k_forth hK) h hp
theorem c_need_row (hK : Kc c) (hx : sc.names.lookup ("need_row" : Str) = some .globalImplicit) (h : WPEs c k sc ρ st args (fun vs st₂ => WL c k (fun xs => PySem.call (.ref 158) xs) vs ρ st₂ Q X) X) (hp : args.any isStar = false := by rfl) : WPE c k sc ρ st (.Call (.Name "need_row" p) args [] pos) Q X :=
  WPE.callF hx (Facts.g_need_row hK) (Facts.k_need_row hK) h hp
theorem c_need_counts (hK : Kc c) (hx : sc.names.lookup ("need_counts" : Str) = some .globalImplicit) (h : WPEs c k sc ρ st args (fun vs st₂ => WL c k (fun xs => PySem.call (.ref 165) xs) vs ρ st₂ Q X) X) (hp : args.any isStar = false := by rfl) : WPE c k sc ρ st (.Call (.Name "need_counts" p) args [] pos) Q X :=
  WPE.callF hx (Facts.g_need_counts hK) (Facts.k_need_counts hK) h hp
theorem c_row_above (hK : Kc c) (hx : sc.names.lookup ("row_above" : Str) = some .globalImplicit) (h : WPEs c k sc ρ st args (fun vs st₂ => WL c k (fun xs => PySem.call (.ref 170) xs) vs ρ st₂ Q X) X) (hp : args.any isStar = false := by rfl) : WPE c k sc ρ st (.Call (.Name "row_above" p) args [] pos) Q X :=
  WPE.callF hx (Facts.g_row_above hK) (Facts.k_row_above hK) h hp
theorem c_table (hK : Kc c) (hx : sc.names.lookup ("table" : Str) = some .globalImplicit) (h : WPEs c k sc ρ st args (fun vs st₂ => WL c k (fun xs => PySem.call (.ref 175) xs) vs ρ st₂ Q X) X) (hp : args.any isStar = false := by rfl) : WPE c k sc ρ st (.Call (.Name "table" p) args [] pos) Q X :=
  WPE.callF hx (Facts.g_table hK) (Facts.k_table hK) h hp
theorem c_least (hK : Kc c) (hx : sc.names.lookup ("least" : Str) = some .globalImplicit) (h : WPEs c k sc ρ st args (fun vs st₂ => WL c k (fun xs => PySem.call (.ref 182) xs) vs ρ st₂ Q X) X) (hp : args.any isStar = false := by rfl) : WPE c k sc ρ st (.Call (.Name "least" p) args [] pos) Q X :=
  WPE.callF hx (Facts.g_least hK) (Facts.k_least hK) h hp
theorem c_best_ahead (hK : Kc c) (hx : sc.names.lookup ("best_ahead" : Str) = some .globalImplicit) (h : WPEs c k sc ρ st args (fun vs st₂ => WL c k (fun xs => PySem.call (.ref 189) xs) vs ρ st₂ Q X) X) (hp : args.any isStar = false := by rfl) : WPE c k sc ρ st (.Call (.Name "best_ahead" p) args [] pos) Q X :=
  WPE.callF hx (Facts.g_best_ahead hK) (Facts.k_best_ahead hK) h hp
theorem c_by_one (hK : Kc c) (hx : sc.names.lookup ("by_one" : Str) = some .globalImplicit) (h : WPEs c k sc ρ st args (fun vs st₂ => WL c k (fun xs => PySem.call (.ref 196) xs) vs ρ st₂ Q X) X) (hp : args.any isStar = false := by rfl) : WPE c k sc ρ st (.Call (.Name "by_one" p) args [] pos) Q X :=
  WPE.callF hx (Facts.g_by_one hK) (Facts.k_by_one hK) h hp
theorem c_met_from (hK : Kc c) (hx : sc.names.lookup ("met_from" : Str) = some .globalImplicit) (h : WPEs c k sc ρ st args (fun vs st₂ => WL c k (fun xs => PySem.call (.ref 203) xs) vs ρ st₂ Q X) X) (hp : args.any isStar = false := by rfl) : WPE c k sc ρ st (.Call (.Name "met_from" p) args [] pos) Q X :=
  WPE.callF hx (Facts.g_met_from hK) (Facts.k_met_from hK) h hp
theorem c_plan (hK : Kc c) (hx : sc.names.lookup ("plan" : Str) = some .globalImplicit) (h : WPEs c k sc ρ st args (fun vs st₂ => WL c k (fun xs => PySem.call (.ref 210) xs) vs ρ st₂ Q X) X) (hp : args.any isStar = false := by rfl) : WPE c k sc ρ st (.Call (.Name "plan" p) args [] pos) Q X :=
  WPE.callF hx (Facts.g_plan hK) (Facts.k_plan hK) h hp
theorem c_is_deed (hK : Kc c) (hx : sc.names.lookup ("is_deed" : Str) = some .globalImplicit) (h : WPEs c k sc ρ st args (fun vs st₂ => WL c k (fun xs => PySem.call (.ref 217) xs) vs ρ st₂ Q X) X) (hp : args.any isStar = false := by rfl) : WPE c k sc ρ st (.Call (.Name "is_deed" p) args [] pos) Q X :=
  WPE.callF hx (Facts.g_is_deed hK) (Facts.k_is_deed hK) h hp
theorem c_walked (hK : Kc c) (hx : sc.names.lookup ("walked" : Str) = some .globalImplicit) (h : WPEs c k sc ρ st args (fun vs st₂ => WL c k (fun xs => PySem.call (.ref 292) xs) vs ρ st₂ Q X) X) (hp : args.any isStar = false := by rfl) : WPE c k sc ρ st (.Call (.Name "walked" p) args [] pos) Q X :=
  WPE.callF hx (Facts.g_walked hK) (Facts.k_walked hK) h hp
theorem c_backwards (hK : Kc c) (hx : sc.names.lookup ("backwards" : Str) = some .globalImplicit) (h : WPEs c k sc ρ st args (fun vs st₂ => WL c k (fun xs => PySem.call (.ref 299) xs) vs ρ st₂ Q X) X) (hp : args.any isStar = false := by rfl) : WPE c k sc ρ st (.Call (.Name "backwards" p) args [] pos) Q X :=
  WPE.callF hx (Facts.g_backwards hK) (Facts.k_backwards hK) h hp
theorem c_law_cell_at (hK : Kc c) (hx : sc.names.lookup ("_law_cell_at" : Str) = some .globalImplicit) (h : WPEs c k sc ρ st args (fun vs st₂ => WL c k (fun xs => PySem.call (.ref 306) xs) vs ρ st₂ Q X) X) (hp : args.any isStar = false := by rfl) : WPE c k sc ρ st (.Call (.Name "_law_cell_at" p) args [] pos) Q X :=
  WPE.callF hx (Facts.g_law_cell_at hK) (Facts.k_law_cell_at hK) h hp
theorem c_law_number (hK : Kc c) (hx : sc.names.lookup ("_law_number" : Str) = some .globalImplicit) (h : WPEs c k sc ρ st args (fun vs st₂ => WL c k (fun xs => PySem.call (.ref 313) xs) vs ρ st₂ Q X) X) (hp : args.any isStar = false := by rfl) : WPE c k sc ρ st (.Call (.Name "_law_number" p) args [] pos) Q X :=
  WPE.callF hx (Facts.g_law_number hK) (Facts.k_law_number hK) h hp
theorem c_law_whole (hK : Kc c) (hx : sc.names.lookup ("_law_whole" : Str) = some .globalImplicit) (h : WPEs c k sc ρ st args (fun vs st₂ => WL c k (fun xs => PySem.call (.ref 320) xs) vs ρ st₂ Q X) X) (hp : args.any isStar = false := by rfl) : WPE c k sc ρ st (.Call (.Name "_law_whole" p) args [] pos) Q X :=
  WPE.callF hx (Facts.g_law_whole hK) (Facts.k_law_whole hK) h hp
theorem c_law_rule (hK : Kc c) (hx : sc.names.lookup ("_law_rule" : Str) = some .globalImplicit) (h : WPEs c k sc ρ st args (fun vs st₂ => WL c k (fun xs => PySem.call (.ref 327) xs) vs ρ st₂ Q X) X) (hp : args.any isStar = false := by rfl) : WPE c k sc ρ st (.Call (.Name "_law_rule" p) args [] pos) Q X :=
  WPE.callF hx (Facts.g_law_rule hK) (Facts.k_law_rule hK) h hp
theorem c_law_forth (hK : Kc c) (hx : sc.names.lookup ("_law_forth" : Str) = some .globalImplicit) (h : WPEs c k sc ρ st args (fun vs st₂ => WL c k (fun xs => PySem.call (.ref 334) xs) vs ρ st₂ Q X) X) (hp : args.any isStar = false := by rfl) : WPE c k sc ρ st (.Call (.Name "_law_forth" p) args [] pos) Q X :=
  WPE.callF hx (Facts.g_law_forth hK) (Facts.k_law_forth hK) h hp
theorem c_law_row (hK : Kc c) (hx : sc.names.lookup ("_law_row" : Str) = some .globalImplicit) (h : WPEs c k sc ρ st args (fun vs st₂ => WL c k (fun xs => PySem.call (.ref 339) xs) vs ρ st₂ Q X) X) (hp : args.any isStar = false := by rfl) : WPE c k sc ρ st (.Call (.Name "_law_row" p) args [] pos) Q X :=
  WPE.callF hx (Facts.g_law_row hK) (Facts.k_law_row hK) h hp
theorem c_law_states (hK : Kc c) (hx : sc.names.lookup ("_law_states" : Str) = some .globalImplicit) (h : WPEs c k sc ρ st args (fun vs st₂ => WL c k (fun xs => PySem.call (.ref 346) xs) vs ρ st₂ Q X) X) (hp : args.any isStar = false := by rfl) : WPE c k sc ρ st (.Call (.Name "_law_states" p) args [] pos) Q X :=
  WPE.callF hx (Facts.g_law_states hK) (Facts.k_law_states hK) h hp
theorem c_law_by_deeds (hK : Kc c) (hx : sc.names.lookup ("_law_by_deeds" : Str) = some .globalImplicit) (h : WPEs c k sc ρ st args (fun vs st₂ => WL c k (fun xs => PySem.call (.ref 353) xs) vs ρ st₂ Q X) X) (hp : args.any isStar = false := by rfl) : WPE c k sc ρ st (.Call (.Name "_law_by_deeds" p) args [] pos) Q X :=
  WPE.callF hx (Facts.g_law_by_deeds hK) (Facts.k_law_by_deeds hK) h hp
theorem c_Walker (hK : Kc c) (hx : sc.names.lookup ("Walker" : Str) = some .globalImplicit) (h : WPEs c k sc ρ st args (fun vs st₂ => WL c k (fun xs => PySem.call (.ref 281) xs) vs ρ st₂ Q X) X) (hp : args.any isStar = false := by rfl) : WPE c k sc ρ st (.Call (.Name "Walker" p) args [] pos) Q X :=
  WPE.callF hx (Facts.g_Walker hK) (Facts.k_Walker hK) h hp
theorem n_ROUND (hK : Kc c) (hx : sc.names.lookup ("ROUND" : Str) = some .globalImplicit) (h : Q (.int 999983) st) : WPE c k sc ρ st (.Name "ROUND" p) Q X := let ⟨_, e⟩ := Facts.g_ROUND hK; WPE.globI hx e h
theorem n_MOST_RULES (hK : Kc c) (hx : sc.names.lookup ("MOST_RULES" : Str) = some .globalImplicit) (h : Q (.int 100) st) : WPE c k sc ρ st (.Name "MOST_RULES" p) Q X := let ⟨_, e⟩ := Facts.g_MOST_RULES hK; WPE.globI hx e h
theorem n_MOST_STEPS (hK : Kc c) (hx : sc.names.lookup ("MOST_STEPS" : Str) = some .globalImplicit) (h : Q (.int 100) st) : WPE c k sc ρ st (.Name "MOST_STEPS" p) Q X := let ⟨_, e⟩ := Facts.g_MOST_STEPS hK; WPE.globI hx e h
theorem n_MOST_ROOM (hK : Kc c) (hx : sc.names.lookup ("MOST_ROOM" : Str) = some .globalImplicit) (h : Q (.int 12) st) : WPE c k sc ρ st (.Name "MOST_ROOM" p) Q X := let ⟨_, e⟩ := Facts.g_MOST_ROOM hK; WPE.globI hx e h
theorem n_MOST (hK : Kc c) (hx : sc.names.lookup ("MOST" : Str) = some .globalImplicit) (h : Q (.int 100) st) : WPE c k sc ρ st (.Name "MOST" p) Q X := let ⟨_, e⟩ := Facts.g_MOST hK; WPE.globI hx e h
theorem c_isinstance (hK : Kc c) (hx : sc.names.lookup ("isinstance" : Str) = some .globalImplicit) (h : WPEs c k sc ρ st args (fun vs st₂ => WL c k (fun xs => PySem.call (.builtin "isinstance") xs) vs ρ st₂ Q X) X) (hp : args.any isStar = false := by rfl) : WPE c k sc ρ st (.Call (.Name "isinstance" p) args [] pos) Q X :=
  WPE.callB hx (Facts.g_isinstance hK) (by boot_by_name) h hp
theorem c_len (hK : Kc c) (hx : sc.names.lookup ("len" : Str) = some .globalImplicit) (h : WPEs c k sc ρ st args (fun vs st₂ => WL c k (fun xs => PySem.call (.builtin "len") xs) vs ρ st₂ Q X) X) (hp : args.any isStar = false := by rfl) : WPE c k sc ρ st (.Call (.Name "len" p) args [] pos) Q X :=
  WPE.callB hx (Facts.g_len hK) (by boot_by_name) h hp
theorem c_min (hK : Kc c) (hx : sc.names.lookup ("min" : Str) = some .globalImplicit) (h : WPEs c k sc ρ st args (fun vs st₂ => WL c k (fun xs => PySem.call (.builtin "min") xs) vs ρ st₂ Q X) X) (hp : args.any isStar = false := by rfl) : WPE c k sc ρ st (.Call (.Name "min" p) args [] pos) Q X :=
  WPE.callB hx (Facts.g_min hK) (by boot_by_name) h hp
theorem c_sorted (hK : Kc c) (hx : sc.names.lookup ("sorted" : Str) = some .globalImplicit) (h : WPEs c k sc ρ st args (fun vs st₂ => WL c k (fun xs => PySem.call (.builtin "sorted") xs) vs ρ st₂ Q X) X) (hp : args.any isStar = false := by rfl) : WPE c k sc ρ st (.Call (.Name "sorted" p) args [] pos) Q X :=
  WPE.callB hx (Facts.g_sorted hK) (by boot_by_name) h hp
theorem c_all (hK : Kc c) (hx : sc.names.lookup ("all" : Str) = some .globalImplicit) (h : WPEs c k sc ρ st args (fun vs st₂ => WL c k (fun xs => PySem.call (.builtin "all") xs) vs ρ st₂ Q X) X) (hp : args.any isStar = false := by rfl) : WPE c k sc ρ st (.Call (.Name "all" p) args [] pos) Q X :=
  WPE.callB hx (Facts.g_all hK) (by boot_by_name) h hp
theorem c_list (hK : Kc c) (hx : sc.names.lookup ("list" : Str) = some .globalImplicit) (h : WPEs c k sc ρ st args (fun vs st₂ => WL c k (fun xs => PySem.call (.type "list") xs) vs ρ st₂ Q X) X) (hp : args.any isStar = false := by rfl) : WPE c k sc ρ st (.Call (.Name "list" p) args [] pos) Q X :=
  WPE.callT hx (Facts.g_list hK) (by boot_by_name) h hp
theorem n_list (hK : Kc c) (hx : sc.names.lookup ("list" : Str) = some .globalImplicit) (h : Q (.stat (.type "list")) st) : WPE c k sc ρ st (.Name "list" p) Q X := WPE.bltT hx (Facts.g_list hK) (by boot_by_name) h
theorem n_int (hK : Kc c) (hx : sc.names.lookup ("int" : Str) = some .globalImplicit) (h : Q (.stat (.type "int")) st) : WPE c k sc ρ st (.Name "int" p) Q X := WPE.bltT hx (Facts.g_int hK) (by boot_by_name) h
theorem n_str (hK : Kc c) (hx : sc.names.lookup ("str" : Str) = some .globalImplicit) (h : Q (.stat (.type "str")) st) : WPE c k sc ρ st (.Name "str" p) Q X := WPE.bltT hx (Facts.g_str hK) (by boot_by_name) h
theorem n_tuple (hK : Kc c) (hx : sc.names.lookup ("tuple" : Str) = some .globalImplicit) (h : Q (.stat (.type "tuple")) st) : WPE c k sc ρ st (.Name "tuple" p) Q X := WPE.bltT hx (Facts.g_tuple hK) (by boot_by_name) h
theorem c_range (hK : Kc c) (hx : sc.names.lookup ("range" : Str) = some .globalImplicit) (h : WPEs c k sc ρ st args (fun vs st₂ => WL c k (fun xs => PySem.call (.type "range") xs) vs ρ st₂ Q X) X) (hp : args.any isStar = false := by rfl) : WPE c k sc ρ st (.Call (.Name "range" p) args [] pos) Q X :=
  WPE.callT hx (Facts.g_range hK) (by boot_by_name) h hp
theorem c_reversed (hK : Kc c) (hx : sc.names.lookup ("reversed" : Str) = some .globalImplicit) (h : WPEs c k sc ρ st args (fun vs st₂ => WL c k (fun xs => PySem.call (.type "reversed") xs) vs ρ st₂ Q X) X) (hp : args.any isStar = false := by rfl) : WPE c k sc ρ st (.Call (.Name "reversed" p) args [] pos) Q X :=
  WPE.callT hx (Facts.g_reversed hK) (by boot_by_name) h hp
theorem n_bool (hK : Kc c) (hx : sc.names.lookup ("bool" : Str) = some .globalImplicit) (h : Q (.stat (.type "bool")) st) : WPE c k sc ρ st (.Name "bool" p) Q X := WPE.bltT hx (Facts.g_bool hK) (by boot_by_name) h
end
section
variable {c : Cx} {k : Nat} {ρ : Loc} {st : St} {Q : V → St → Prop} {X : Xp}
/-- a cell of the script, 0 behind its end -/
noncomputable def cellV (ns : List Int) (i : Int) : Int := ns.getD i.toNat 0
noncomputable def numV (ns : List Int) (i : Int) : Int := if ns.length = 0 then 5003 * i else ((ns.getD (i.fmod ns.length).toNat 0 + 7919 * i.fdiv ns.length + 101 * i) * 48271).fmod 2147483647
theorem fmod_lt {a b : Int} (h : 0 < b) : 0 ≤ a.fmod b ∧ a.fmod b < b := by
  rw [Int.fmod_eq_emod_of_nonneg _ (Int.le_of_lt h)]
  exact ⟨Int.emod_nonneg _ (by omega), Int.emod_lt_of_pos _ h⟩
theorem mulOk_right {a b : Int} (h : b.natAbs < 2 ^ 63) : IntMulOk a b := by
  refine IntMulOk.of_right ?_
  unfold Builtin.Int.intBits
  split
  · omega
  · rename_i hb
    have h0 : b.natAbs ≠ 0 := by simpa using hb
    have : b.natAbs.log2 < 63 := (Nat.log2_lt h0).mpr h
    omega

theorem s_cell_at (hK : Kc c) {ns : List Int} {i : Int} (h0 : 0 ≤ i) (hl : ns.length < 1000) (h : Q (.int (cellV ns i)) st) : CF c (k + 1) A_law_cell_at [.scr ns, .int i] ρ st Q X := by
  refine CallW.fn (Facts.fn_law_cell_at hK) rfl ?_
  ((refine WPS.cons ?_); (repeat' (first | (with_reducible first | refine WPEs.nil ?_ | refine WPs.ifs ?_) | ((with_reducible refine WPEs.cons ?_ ?_); (case refine_2 => intros; rfl)) | ((with_reducible refine WPB.cmp ?_ ?_); (case refine_2 => rfl)) | ((with_reducible refine c_len ‹_› ?_ ?_ ?_); (case refine_1 => rfl); (case refine_3 => intros; rfl)) | ((with_reducible refine' WPE.nm ?_ ?_ ?_ ?_); (case refine'_2 => rfl); (case refine'_4 => decide); (case refine'_5 => decide)) | fail)))
  skip
  refine WL.lenScr (by omega) ?_
  (repeat' (first | (with_reducible first | refine Mine.W2.ltI ?_ | refine ⟨_, rfl, ?_⟩) | fail))
  refine cnd_cases (fun hb => ?_) (fun hb => ?_)
  · have hb' : i < (ns.length : Int) := by simpa using hb
    (repeat' (first | (with_reducible first | refine WPS.cons ?_ | refine WPs.ret ?_ | refine WPE.sub ?_) | ((with_reducible refine' WPE.nm ?_ ?_ ?_ ?_); (case refine'_2 => rfl); (case refine'_4 => decide); (case refine'_5 => decide)) | fail))
    refine W2.subScr rfl (by omega) (seqIndex_pos h0 hb') (List.getElem?_eq_getElem (by omega)) ?_
    have : cellV ns i = ns[i.toNat] := by unfold cellV; rw [List.getD_eq_getElem?_getD, List.getElem?_eq_getElem (by omega)]; rfl
    rw [this] at h; exact h
  · have hb' : ¬ i < (ns.length : Int) := by simpa using hb
    (repeat' (first | (with_reducible first | refine WPE.cint ?_ | refine nxt_next ?_ | refine nxt_ret ?_ | refine WPS.cons ?_ | refine WPS.nil ?_ | refine WPs.ret ?_) | fail))
    have : cellV ns i = 0 := by unfold cellV; rw [List.getD_eq_getElem?_getD, List.getElem?_eq_none (by omega)]; rfl
    rw [this] at h; exact h
theorem s_number (hK : Kc c) {ns : List Int} {i : Int} (h0 : 0 ≤ i) (hi : i < 1000000) (hl : ns.length < 1000) (h : Q (.int (numV ns i)) st) : CF c (k + 1) A_law_number [.scr ns, .int i] ρ st Q X := by
  refine CallW.fn (Facts.fn_law_number hK) rfl ?_
  ((refine WPS.cons ?_); (repeat' (first | (with_reducible first | refine WPEs.nil ?_ | refine WPs.ifs ?_) | ((with_reducible refine WPEs.cons ?_ ?_); (case refine_2 => intros; rfl)) | ((with_reducible refine WPB.cmp ?_ ?_); (case refine_2 => rfl)) | ((with_reducible refine c_len ‹_› ?_ ?_ ?_); (case refine_1 => rfl); (case refine_3 => intros; rfl)) | ((with_reducible refine' WPE.nm ?_ ?_ ?_ ?_); (case refine'_2 => rfl); (case refine'_4 => decide); (case refine'_5 => decide)) | fail)))
  skip
  refine WL.lenScr (by omega) ?_
  (repeat' (first | (with_reducible first | refine WPE.cint ?_ | refine Mine.W2.eqI ?_ | refine ⟨_, rfl, ?_⟩) | fail))
  refine cnd_cases (fun hb => ?_) (fun hb => ?_)
  · have hb' : ns.length = 0 := by simpa using hb
    (repeat' (first | (with_reducible first | refine WPE.cint ?_ | refine WPE.bin ?_ | refine WPS.cons ?_ | refine WPs.ret ?_) | ((with_reducible refine' WPE.nm ?_ ?_ ?_ ?_); (case refine'_2 => rfl); (case refine'_4 => decide); (case refine'_5 => decide)) | fail))
    refine W2.mulI (mulOk_right (by omega)) ?_
    unfold numV at h; rw [if_pos hb'] at h; exact h
  · have hb' : ¬ ns.length = 0 := by simpa using hb
    have hm := fmod_lt (a := i) (b := ns.length) (by omega)
    unfold numV at h; rw [if_neg hb'] at h
    (repeat' (first | (with_reducible first | refine WPE.bin ?_ | refine nxt_next ?_ | refine WPS.cons ?_ | refine WPS.nil ?_ | refine WPEs.nil ?_) | ((with_reducible refine WPEs.cons ?_ ?_); (case refine_2 => intros; rfl)) | ((with_reducible refine WPs.asg ?_ ?_ ?_); (case refine_2 => rfl); (case refine_3 => intros; rfl)) | ((with_reducible refine c_len ‹_› ?_ ?_ ?_); (case refine_1 => rfl); (case refine_3 => intros; rfl)) | (with_reducible refine WPE.sub ?_) | ((with_reducible refine' WPE.nm ?_ ?_ ?_ ?_); (case refine'_2 => rfl); (case refine'_4 => decide); (case refine'_5 => decide)) | fail))
    refine WL.lenScr (by omega) ?_
    refine W2.modI (by omega) ?_
    refine W2.subScr rfl (by omega) (seqIndex_pos hm.1 hm.2) (List.getElem?_eq_getElem (by omega)) ?_
    (repeat' (first | (with_reducible first | refine WPE.cint ?_ | refine WPE.bin ?_ | refine WPEs.nil ?_) | ((with_reducible refine WPEs.cons ?_ ?_); (case refine_2 => intros; rfl)) | ((with_reducible refine c_len ‹_› ?_ ?_ ?_); (case refine_1 => rfl); (case refine_3 => intros; rfl)) | ((with_reducible refine' WPE.nm ?_ ?_ ?_ ?_); (case refine'_2 => rfl); (case refine'_4 => decide); (case refine'_5 => decide)) | fail))
    refine WL.lenScr (by omega) ?_
    refine W2.divI (by omega) (by omega) ?_
    refine W2.mulI (IntMulOk.of_left (by decide)) ?_
    (repeat' (first | (with_reducible first | refine WPE.cint ?_ | refine WPE.bin ?_ | refine Mine.W2.addI ?_) | ((with_reducible refine' WPE.nm ?_ ?_ ?_ ?_); (case refine'_2 => rfl); (case refine'_4 => decide); (case refine'_5 => decide)) | fail))
    refine W2.mulI (IntMulOk.of_left (by decide)) ?_
    (repeat' (first | (with_reducible first | refine WPE.cint ?_ | refine WPE.bin ?_ | refine Mine.W2.addI ?_ | refine nxt_next ?_ | refine WPS.cons ?_ | refine WPs.ret ?_) | ((with_reducible refine' WPE.nm ?_ ?_ ?_ ?_); (case refine'_2 => rfl); (case refine'_4 => decide); (case refine'_5 => decide)) | fail))
    refine W2.mulI (mulOk_right (by decide)) ?_
    (repeat' (first | (with_reducible refine WPE.cint ?_) | fail))
    refine W2.modI (by decide) ?_
    rw [List.getD_eq_getElem?_getD, List.getElem?_eq_getElem (by omega)] at h
    exact h
end

section
variable {c : Cx} {k : Nat} {ρ : Loc} {st : St} {Q : V → St → Prop} {X : Xp}
noncomputable def btwV (lo hi : Int) : V → Bool
  | .int i => decide (lo ≤ i) && decide (i ≤ hi)
  | _ => false
theorem typ_int {v : V} (h : typV st v = some "int") : ∃ i, v = .int i := by
  cases v <;> simp [typV] at h
  · exact ⟨_, rfl⟩
  · split at h <;> simp at h
theorem s_between (hK : Kc c) {v : V} {T : String} {lo hi : Int} (ht : typV st v = some T) (h : Q (.bool (btwV lo hi v)) st) : CF c (k + 1) A_between [v, .int lo, .int hi] ρ st Q X := by
  refine CallW.fn (Facts.fn_between hK) rfl ?_
  ((refine WPS.cons ?_); (repeat' (first | (with_reducible first | refine WPAll.or ?_ | refine WPEs.nil ?_ | refine WPs.ifs ?_ | refine WPB.op ?_ | refine WPB.not ?_) | ((with_reducible refine WPEs.cons ?_ ?_); (case refine_2 => intros; rfl)) | ((with_reducible refine n_int ‹_› ?_ ?_); (case refine_1 => rfl)) | ((with_reducible refine c_isinstance ‹_› ?_ ?_ ?_); (case refine_1 => rfl); (case refine_3 => intros; rfl)) | ((with_reducible refine' WPE.nm ?_ ?_ ?_ ?_); (case refine'_2 => rfl); (case refine'_4 => decide); (case refine'_5 => decide)) | ((with_reducible refine WPB.val ?_ ?_); (case refine_2 => intros; rfl)) | fail)))
  skip
  refine WL.isinstance ht rfl ⟨_, rfl, ?_⟩
  by_cases hT : T = "int"
  · subst hT
    obtain ⟨i, rfl⟩ := typ_int ht
    (repeat' (first | (with_reducible first | refine Mine.W2.leI ?_ | refine WPAll.or ?_ | refine WPAll.orNil ?_ | refine nxt_next ?_ | refine cnd_t ?_ | refine cnd_f ?_ | refine WPS.cons ?_ | refine WPS.nil ?_ | refine WPEs.nil ?_ | refine WPs.ret ?_) | ((with_reducible refine WPEs.cons ?_ ?_); (case refine_2 => intros; rfl)) | ((with_reducible refine WPE.cmp2 ?_ ?_); (case refine_2 => rfl)) | ((with_reducible refine n_bool ‹_› ?_ ?_); (case refine_1 => rfl)) | ((with_reducible refine c_isinstance ‹_› ?_ ?_ ?_); (case refine_1 => rfl); (case refine_3 => intros; rfl)) | ((with_reducible refine' WPE.nm ?_ ?_ ?_ ?_); (case refine'_2 => rfl); (case refine'_4 => decide); (case refine'_5 => decide)) | ((with_reducible refine WPB.val ?_ ?_); (case refine_2 => intros; rfl)) | ((with_reducible refine cnd_is true ?_ ?_); (case refine_1 => rfl)) | ((with_reducible refine cnd_is false ?_ ?_); (case refine_1 => rfl)) | (with_reducible refine ⟨_, rfl, ?_⟩) | ((with_reducible refine' WL.isinstance ?_ ?_ ?_); (case refine'_2 => rfl); (case refine'_3 => rfl)) | fail))
    simp only [btwV] at h
    refine cnd_cases (fun hb => ?_) (fun hb => ?_)
    · (repeat' (first | (with_reducible first | refine Mine.W2.leI ?_ | refine nxt_ret ?_) | ((with_reducible refine' WPE.nm ?_ ?_ ?_ ?_); (case refine'_2 => rfl); (case refine'_4 => decide); (case refine'_5 => decide)) | fail))
      rw [hb, Bool.true_and] at h; exact h
    · rw [hb, Bool.false_and] at h; exact h
  · have hf : btwV lo hi v = false := by
      cases v <;> first | rfl | (exact absurd (Option.some.inj ht).symm hT)
    rw [hf] at h
    by_cases hB : T = "bool"
    · subst hB
      (repeat' (first | (with_reducible first | refine WPAll.or ?_ | refine cnd_t ?_ | refine cnd_f ?_ | refine WPEs.nil ?_) | ((with_reducible refine WPEs.cons ?_ ?_); (case refine_2 => intros; rfl)) | ((with_reducible refine n_bool ‹_› ?_ ?_); (case refine_1 => rfl)) | ((with_reducible refine c_isinstance ‹_› ?_ ?_ ?_); (case refine_1 => rfl); (case refine_3 => intros; rfl)) | ((with_reducible refine' WPE.nm ?_ ?_ ?_ ?_); (case refine'_2 => rfl); (case refine'_4 => decide); (case refine'_5 => decide)) | ((with_reducible refine WPB.val ?_ ?_); (case refine_2 => intros; rfl)) | ((with_reducible refine cnd_is true ?_ ?_); (case refine_1 => rfl)) | fail))
      refine WL.isinstance ht rfl ⟨_, rfl, ?_⟩
      (repeat' (first | (with_reducible first | refine WPE.cbool ?_ | refine nxt_ret ?_ | refine cnd_t ?_ | refine WPS.cons ?_ | refine WPs.ret ?_) | ((with_reducible refine cnd_is true ?_ ?_); (case refine_1 => rfl)) | fail))
      exact h
    · have : isi T "int" = false := by simp [isi, hT, hB]
      rw [this]
      (repeat' (first | (with_reducible first | refine WPE.cbool ?_ | refine nxt_ret ?_ | refine cnd_t ?_ | refine cnd_f ?_ | refine WPS.cons ?_ | refine WPs.ret ?_) | fail))
      exact h
end

section
variable {c : Cx} {k : Nat} {ρ : Loc} {st : St} {Q : V → St → Prop} {X : Xp}
theorem s_whole (hK : Kc c) {i : Int} (h : Q (.bool true) st) : CF c (k + 1) A_law_whole [.int i] ρ st Q X := by
  refine CallW.fn (Facts.fn_law_whole hK) rfl ?_
  ((refine WPS.cons ?_); (repeat' (first | (with_reducible first | refine WPE.opOne ?_ | refine WPE.and ?_ | refine WPE.not ?_ | refine nxt_ret ?_ | refine cnd_t ?_ | refine cnd_f ?_ | refine WPEs.nil ?_ | refine WPs.ret ?_) | ((with_reducible refine WPEs.cons ?_ ?_); (case refine_2 => intros; rfl)) | ((with_reducible refine n_int ‹_› ?_ ?_); (case refine_1 => rfl)) | ((with_reducible refine n_bool ‹_› ?_ ?_); (case refine_1 => rfl)) | ((with_reducible refine c_isinstance ‹_› ?_ ?_ ?_); (case refine_1 => rfl); (case refine_3 => intros; rfl)) | ((with_reducible refine' WPE.nm ?_ ?_ ?_ ?_); (case refine'_2 => rfl); (case refine'_4 => decide); (case refine'_5 => decide)) | ((with_reducible refine cnd_is true ?_ ?_); (case refine_1 => rfl)) | ((with_reducible refine cnd_is false ?_ ?_); (case refine_1 => rfl)) | (with_reducible refine ⟨_, rfl, ?_⟩) | ((with_reducible refine' WL.isinstance ?_ ?_ ?_); (case refine'_2 => rfl); (case refine'_3 => rfl)) | fail)))
  skip
  exact h
end

section
variable {c : Cx} {k : Nat} {ρ : Loc} {st : St} {Q : V → St → Prop} {X : Xp}
theorem s_is_state (hK : Kc c) {v : V} {T : String} (ht : typV st v = some T) (h : Q (.bool (btwV 0 999982 v)) st) : CF c (k + 2) A_is_state [v] ρ st Q X := by
  refine CallW.fn (Facts.fn_is_state hK) rfl ?_
  ((refine WPS.cons ?_); (repeat' (first | (with_reducible first | refine WPE.cint ?_ | refine WPE.bin ?_ | refine Mine.W2.subI ?_ | refine WPEs.nil ?_ | refine WPs.ret ?_) | ((with_reducible refine WPEs.cons ?_ ?_); (case refine_2 => intros; rfl)) | ((with_reducible refine n_ROUND ‹_› ?_ ?_); (case refine_1 => rfl)) | ((with_reducible refine c_between ‹_› ?_ ?_ ?_); (case refine_1 => rfl); (case refine_3 => intros; rfl)) | ((with_reducible refine' WPE.nm ?_ ?_ ?_ ?_); (case refine'_2 => rfl); (case refine'_4 => decide); (case refine'_5 => decide)) | fail)))
  skip
  exact s_between hK ht h
noncomputable def ruleV : V → Bool
  | .tup (.str x :: r) => if (["square", "half"] : List Str).any (· == x) then ((r.length + 1 : Nat) : Int) == 1 else (["add", "times"] : List Str).any (· == x) && (((r.length + 1 : Nat) : Int) == 2 && (match r with | v :: _ => btwV 0 999982 v | [] => false))
  | _ => false
theorem typ_tup {v : V} (h : typV st v = some "tuple") : ∃ vs, v = .tup vs := by
  cases v <;> simp [typV] at h
  · exact ⟨_, rfl⟩
  · split at h <;> simp at h
theorem typ_str {v : V} (h : typV st v = some "str") : ∃ x, v = .str x := by
  cases v <;> simp [typV] at h
  · exact ⟨_, rfl⟩
  · split at h <;> simp at h
theorem s_is_rule (hK : Kc c) {v : V} {T : String} (ht : typV st v = some T) (hs : ∀ vs, v = .tup vs → (vs.length < 1000 ∧ ∀ u ∈ vs, (typV st u).isSome = true)) (h : Q (.bool (ruleV v)) st) : CF c (k + 3) A_is_rule [v] ρ st Q X := by
  refine CallW.fn (Facts.fn_is_rule hK) rfl ?_
  ((refine WPS.cons ?_); (repeat' (first | (with_reducible first | refine WPAll.or ?_ | refine WPEs.nil ?_ | refine WPs.ifs ?_ | refine WPB.op ?_ | refine WPB.not ?_) | ((with_reducible refine WPEs.cons ?_ ?_); (case refine_2 => intros; rfl)) | ((with_reducible refine n_tuple ‹_› ?_ ?_); (case refine_1 => rfl)) | ((with_reducible refine c_isinstance ‹_› ?_ ?_ ?_); (case refine_1 => rfl); (case refine_3 => intros; rfl)) | ((with_reducible refine' WPE.nm ?_ ?_ ?_ ?_); (case refine'_2 => rfl); (case refine'_4 => decide); (case refine'_5 => decide)) | ((with_reducible refine WPB.val ?_ ?_); (case refine_2 => intros; rfl)) | fail)))
  skip
  refine WL.isinstance ht rfl ⟨_, rfl, ?_⟩
  by_cases hT : T = "tuple"
  · subst hT
    obtain ⟨vs, rfl⟩ := typ_tup ht
    obtain ⟨hl, hs⟩ := hs vs rfl
    (repeat' (first | (with_reducible first | refine WPAll.or ?_ | refine cnd_t ?_ | refine cnd_f ?_ | refine WPEs.nil ?_) | ((with_reducible refine WPEs.cons ?_ ?_); (case refine_2 => intros; rfl)) | ((with_reducible refine WPB.cmp ?_ ?_); (case refine_2 => rfl)) | ((with_reducible refine c_len ‹_› ?_ ?_ ?_); (case refine_1 => rfl); (case refine_3 => intros; rfl)) | ((with_reducible refine' WPE.nm ?_ ?_ ?_ ?_); (case refine'_2 => rfl); (case refine'_4 => decide); (case refine'_5 => decide)) | ((with_reducible refine cnd_is true ?_ ?_); (case refine_1 => rfl)) | fail))
    refine WL.lenTup (by omega) ?_
    (repeat' (first | (with_reducible first | refine WPE.cint ?_ | refine Mine.W2.eqI ?_ | refine ⟨_, rfl, ?_⟩) | fail))
    cases vs with
    | nil =>
      (repeat' (first | (with_reducible first | refine WPE.cbool ?_ | refine nxt_ret ?_ | refine cnd_t ?_ | refine WPS.cons ?_ | refine WPs.ret ?_) | ((with_reducible refine cnd_is true ?_ ?_); (case refine_1 => rfl)) | fail))
      exact h
    | cons u r =>
      have hl' : ((u :: r).length : Int) < 2 ^ 63 := by omega
      (repeat' (first | (with_reducible first | refine WPE.cint ?_ | refine WPAll.or ?_ | refine cnd_f ?_ | refine WPB.not ?_) | ((with_reducible refine WPEs.cons ?_ ?_); (case refine_2 => intros; rfl)) | ((with_reducible refine c_isinstance ‹_› ?_ ?_ ?_); (case refine_1 => rfl); (case refine_3 => intros; rfl)) | (with_reducible refine WPE.sub ?_) | ((with_reducible refine' WPE.nm ?_ ?_ ?_ ?_); (case refine'_2 => rfl); (case refine'_4 => decide); (case refine'_5 => decide)) | ((with_reducible refine WPB.val ?_ ?_); (case refine_2 => intros; rfl)) | ((with_reducible refine cnd_is false ?_ ?_); (case refine_1 => rfl)) | fail))
      refine W2.subTup rfl hl' seqIndex_0 rfl ?_
      obtain ⟨U, hU⟩ := Option.isSome_iff_exists.mp (hs u (by simp))
      (repeat' (first | (with_reducible refine WPEs.nil ?_) | ((with_reducible refine WPEs.cons ?_ ?_); (case refine_2 => intros; rfl)) | ((with_reducible refine n_str ‹_› ?_ ?_); (case refine_1 => rfl)) | fail))
      refine WL.isinstance hU rfl ⟨_, rfl, ?_⟩
      by_cases hS : U = "str"
      · subst hS
        obtain ⟨x, rfl⟩ := typ_str hU
        (repeat' (first | (with_reducible first | refine WPE.cint ?_ | refine WPAll.orNil ?_ | refine nxt_next ?_ | refine cnd_t ?_ | refine cnd_f ?_ | refine WPS.cons ?_ | refine WPS.nil ?_ | refine WPs.ifs ?_) | ((with_reducible refine WPB.cmp ?_ ?_); (case refine_2 => rfl)) | (with_reducible refine WPE.sub ?_) | ((with_reducible refine' WPE.nm ?_ ?_ ?_ ?_); (case refine'_2 => rfl); (case refine'_4 => decide); (case refine'_5 => decide)) | ((with_reducible refine cnd_is true ?_ ?_); (case refine_1 => rfl)) | fail))
        refine W2.subTup rfl hl' seqIndex_0 rfl ?_
        (repeat' (first | (with_reducible first | refine WPE.cstr ?_ | refine WPEs.nil ?_) | ((with_reducible refine WPEs.cons ?_ ?_); (case refine_2 => intros; rfl)) | ((with_reducible refine WPE.tup ?_ ?_); (case refine_2 => decide)) | fail))
        refine W2.inStrs (ys := ["square", "half"]) rfl ⟨_, rfl, ?_⟩
        simp only [ruleV] at h
        refine cnd_cases (fun hb => ?_) (fun hb => ?_)
        · rw [if_pos hb] at h
          (repeat' (first | (with_reducible first | refine WPS.cons ?_ | refine WPEs.nil ?_ | refine WPs.ret ?_) | ((with_reducible refine WPEs.cons ?_ ?_); (case refine_2 => intros; rfl)) | ((with_reducible refine WPE.cmp ?_ ?_); (case refine_2 => rfl)) | ((with_reducible refine c_len ‹_› ?_ ?_ ?_); (case refine_1 => rfl); (case refine_3 => intros; rfl)) | ((with_reducible refine' WPE.nm ?_ ?_ ?_ ?_); (case refine'_2 => rfl); (case refine'_4 => decide); (case refine'_5 => decide)) | fail))
          refine WL.lenTup hl' ?_
          (repeat' (first | (with_reducible first | refine WPE.cint ?_ | refine Mine.W2.eqI ?_ | refine nxt_ret ?_) | fail))
          exact h
        · rw [if_neg (by rw [hb]; decide)] at h
          (repeat' (first | (with_reducible first | refine WPE.cint ?_ | refine WPE.and ?_ | refine nxt_next ?_ | refine WPS.cons ?_ | refine WPS.nil ?_ | refine WPs.ret ?_) | ((with_reducible refine WPE.cmp ?_ ?_); (case refine_2 => rfl)) | (with_reducible refine WPE.sub ?_) | ((with_reducible refine' WPE.nm ?_ ?_ ?_ ?_); (case refine'_2 => rfl); (case refine'_4 => decide); (case refine'_5 => decide)) | fail))
          refine W2.subTup rfl hl' seqIndex_0 rfl ?_
          (repeat' (first | (with_reducible first | refine WPE.cstr ?_ | refine WPEs.nil ?_) | ((with_reducible refine WPEs.cons ?_ ?_); (case refine_2 => intros; rfl)) | ((with_reducible refine WPE.tup ?_ ?_); (case refine_2 => decide)) | fail))
          refine W2.inStrs (ys := ["add", "times"]) rfl ⟨_, rfl, ?_⟩
          refine cnd_cases (fun hb2 => ?_) (fun hb2 => ?_)
          · rw [hb2, Bool.true_and] at h
            (repeat' (first | (with_reducible first | refine WPE.and ?_ | refine WPEs.nil ?_) | ((with_reducible refine WPEs.cons ?_ ?_); (case refine_2 => intros; rfl)) | ((with_reducible refine WPE.cmp ?_ ?_); (case refine_2 => rfl)) | ((with_reducible refine c_len ‹_› ?_ ?_ ?_); (case refine_1 => rfl); (case refine_3 => intros; rfl)) | ((with_reducible refine' WPE.nm ?_ ?_ ?_ ?_); (case refine'_2 => rfl); (case refine'_4 => decide); (case refine'_5 => decide)) | fail))
            refine WL.lenTup hl' ?_
            (repeat' (first | (with_reducible first | refine WPE.cint ?_ | refine Mine.W2.eqI ?_ | refine ⟨_, rfl, ?_⟩) | fail))
            refine cnd_cases (fun hb3 => ?_) (fun hb3 => ?_)
            · have e3 : ((r.length + 1 : Nat) : Int) == 2 := hb3
              rw [e3, Bool.true_and] at h
              cases r with
              | nil => simp at e3
              | cons w r =>
                (repeat' (first | (with_reducible first | refine WPE.cint ?_ | refine WPE.opOne ?_) | ((with_reducible refine WPEs.cons ?_ ?_); (case refine_2 => intros; rfl)) | ((with_reducible refine c_is_state ‹_› ?_ ?_ ?_); (case refine_1 => rfl); (case refine_3 => intros; rfl)) | (with_reducible refine WPE.sub ?_) | ((with_reducible refine' WPE.nm ?_ ?_ ?_ ?_); (case refine'_2 => rfl); (case refine'_4 => decide); (case refine'_5 => decide)) | fail))
                refine W2.subTup rfl hl' seqIndex_1 rfl ?_
                obtain ⟨W, hW⟩ := Option.isSome_iff_exists.mp (hs w (by simp))
                (repeat' (first | (with_reducible refine WPEs.nil ?_) | fail))
                exact s_is_state hK hW h
            · have e3 : (((r.length + 1 : Nat) : Int) == 2) = false := hb3
              rw [e3, Bool.false_and] at h
              exact h
          · rw [hb2, Bool.false_and] at h
            exact h
      · have : isi U "str" = false := by simp [isi, hS]
        rw [this]
        (repeat' (first | (with_reducible first | refine WPE.cbool ?_ | refine nxt_ret ?_ | refine cnd_t ?_ | refine cnd_f ?_ | refine WPS.cons ?_ | refine WPs.ret ?_) | fail))
        have hf : ruleV (.tup (u :: r)) = false := by
          cases u <;> first | rfl | (exact absurd (Option.some.inj hU).symm hS)
        rw [hf] at h; exact h
  · have : isi T "tuple" = false := by simp [isi, hT]
    rw [this]
    (repeat' (first | (with_reducible first | refine WPE.cbool ?_ | refine nxt_ret ?_ | refine cnd_t ?_ | refine cnd_f ?_ | refine WPS.cons ?_ | refine WPs.ret ?_) | fail))
    have hf : ruleV v = false := by
      cases v <;> first | rfl | (exact absurd (Option.some.inj ht).symm hT)
    rw [hf] at h; exact h
end

/-- the least of f 1 .. f n -/
noncomputable def minT (f : Nat → Nat) : Nat → Nat
  | 0 => 0
  | 1 => f 1
  | n + 2 => min (minT f (n + 1)) (f (n + 2))
noncomputable def nextRow (t : List Nat) : Nat → List Nat
  | 0 => [0]
  | n + 1 => nextRow t n ++ [minT (fun a => a + t.getD (n + 1 - a) 0 + (nextRow t n).getD (a - 1) 0) (n + 1)]
noncomputable def T1 : List Nat := (List.range 101).map fun i => i * (i + 1) / 2
noncomputable def TT : Nat → List Nat
  | 0 => []
  | 1 => T1
  | r + 2 => nextRow (TT (r + 1)) 100
noncomputable def Up (t t' : List Nat) : Prop := ∀ s, 1 ≤ s → s ≤ 100 → (∀ a, 1 ≤ a → a ≤ s → t'.getD s 0 ≤ a + t.getD (s - a) 0 + t'.getD (a - 1) 0) ∧ ∃ a, 1 ≤ a ∧ a ≤ s ∧ t'.getD s 0 = a + t.getD (s - a) 0 + t'.getD (a - 1) 0
theorem minT_spec {f : Nat → Nat} : ∀ {n : Nat}, 1 ≤ n → (∀ a, 1 ≤ a → a ≤ n → minT f n ≤ f a) ∧ ∃ a, 1 ≤ a ∧ a ≤ n ∧ minT f n = f a
  | 0, h => absurd h (by decide)
  | 1, _ => ⟨fun a h1 h2 => by rw [Nat.le_antisymm h2 h1]; exact Nat.le_refl _, 1, Nat.le_refl _, Nat.le_refl _, rfl⟩
  | n + 2, _ => by
    obtain ⟨h1, a, a1, a2, a3⟩ := minT_spec (f := f) (n := n + 1) (Nat.succ_le_succ (Nat.zero_le _))
    have e : minT f (n + 2) = min (minT f (n + 1)) (f (n + 2)) := rfl
    refine ⟨fun b b1 b2 => ?_, ?_⟩
    · rw [e]
      rcases Nat.lt_or_ge b (n + 2) with q | q
      · exact Nat.le_trans (Nat.min_le_left _ _) (h1 b b1 (Nat.le_of_lt_succ q))
      · rw [Nat.le_antisymm b2 q]; exact Nat.min_le_right _ _
    · rw [e]
      rcases Nat.le_total (minT f (n + 1)) (f (n + 2)) with q | q
      · exact ⟨a, a1, Nat.le_succ_of_le a2, (Nat.min_eq_left q).trans a3⟩
      · exact ⟨n + 2, Nat.succ_le_succ (Nat.zero_le _), Nat.le_refl _, Nat.min_eq_right q⟩
theorem nextRow_len {t : List Nat} : ∀ {n : Nat}, (nextRow t n).length = n + 1
  | 0 => rfl
  | n + 1 => by rw [nextRow, List.length_append, nextRow_len]; rfl
theorem nextRow_pre {t : List Nat} {i m : Nat} (hi : i ≤ m) : ∀ {n : Nat}, m ≤ n → (nextRow t n).getD i 0 = (nextRow t m).getD i 0
  | 0, h => by rw [Nat.le_zero.mp h]
  | n + 1, h => by
    rcases Nat.lt_or_ge m (n + 1) with q | q
    · rw [nextRow, List.getD_eq_getElem?_getD, List.getElem?_append_left (by rw [nextRow_len]; exact Nat.lt_succ_of_le (Nat.le_trans hi (Nat.le_of_lt_succ q))), ← List.getD_eq_getElem?_getD]
      exact nextRow_pre hi (Nat.le_of_lt_succ q)
    · rw [Nat.le_antisymm h q]
theorem nextRow_at {t : List Nat} {n : Nat} : (nextRow t (n + 1)).getD (n + 1) 0 = minT (fun a => a + t.getD (n + 1 - a) 0 + (nextRow t n).getD (a - 1) 0) (n + 1) := by
  rw [nextRow, List.getD_eq_getElem?_getD, List.getElem?_append_right (by rw [nextRow_len]; exact Nat.le_refl _), nextRow_len, Nat.sub_self]; rfl
theorem up_next (t : List Nat) : Up t (nextRow t 100) := by
  intro s h1 h2
  obtain ⟨n, rfl⟩ : ∃ n, s = n + 1 := ⟨s - 1, (Nat.succ_pred_eq_of_pos h1).symm⟩
  obtain ⟨q1, a, a1, a2, a3⟩ := minT_spec (f := fun a => a + t.getD (n + 1 - a) 0 + (nextRow t n).getD (a - 1) 0) h1
  have pre : ∀ b, 1 ≤ b → b ≤ n + 1 → (nextRow t 100).getD (b - 1) 0 = (nextRow t n).getD (b - 1) 0 := fun b _ hb => nextRow_pre (Nat.sub_le_of_le_add hb) (Nat.le_of_succ_le h2)
  rw [nextRow_pre (Nat.le_refl _) h2, nextRow_at]
  exact ⟨fun b b1 b2 => by rw [pre b b1 b2]; exact q1 b b1 b2, a, a1, a2, by rw [pre a a1 a2]; exact a3⟩
theorem up_all : ∀ r, 1 ≤ r → r < 12 → Up (TT r) (TT (r + 1))
  | 0, h, _ => absurd h (by decide)
  | r + 1, _, _ => up_next _
theorem TT_hd : ∀ r, 1 ≤ r → r ≤ 12 → (TT r).getD 0 0 = 0
  | 0, h, _ => absurd h (by decide)
  | 1, _, _ => rfl
  | r + 2, _, _ => (nextRow_pre (Nat.le_refl _) (Nat.zero_le _)).trans rfl
theorem T1_at {i : Nat} (h : i ≤ 100) : T1.getD i 0 = i * (i + 1) / 2 := by
  unfold T1
  rw [List.getD_eq_getElem?_getD, List.getElem?_map, List.getElem?_range (Nat.lt_succ_of_le h)]; rfl

section
variable {c : Cx} {k : Nat} {ρ : Loc} {st : St} {Q : V → St → Prop} {X : Xp}
theorem s_need_counts (hK : Kc c) {s r : Int} (h0 : 0 ≤ s) (h1 : s ≤ 100) (h2 : 1 ≤ r) (h3 : r ≤ 12) (h : Q .none st) : CF c (k + 2) A_need_counts [.int s, .int r] ρ st Q X := by
  refine CallW.fn (Facts.fn_need_counts hK) rfl ?_
  ((refine WPS.cons ?_); (repeat' (first | (with_reducible first | refine WPE.cint ?_ | refine WPEs.nil ?_ | refine WPs.ifs ?_ | refine WPB.not ?_) | ((with_reducible refine WPEs.cons ?_ ?_); (case refine_2 => intros; rfl)) | ((with_reducible refine n_MOST_STEPS ‹_› ?_ ?_); (case refine_1 => rfl)) | ((with_reducible refine c_between ‹_› ?_ ?_ ?_); (case refine_1 => rfl); (case refine_3 => intros; rfl)) | ((with_reducible refine' WPE.nm ?_ ?_ ?_ ?_); (case refine'_2 => rfl); (case refine'_4 => decide); (case refine'_5 => decide)) | ((with_reducible refine WPB.val ?_ ?_); (case refine_2 => intros; rfl)) | fail)))
  refine s_between hK (T := "int") rfl ?_
  refine ⟨_, rfl, ?_⟩
  refine cnd_is true (by simp [btwV]; omega) ?_
  (repeat' (first | (with_reducible first | refine WPE.cint ?_ | refine nxt_next ?_ | refine cnd_t ?_ | refine cnd_f ?_ | refine WPS.cons ?_ | refine WPS.nil ?_ | refine WPEs.nil ?_ | refine WPs.ifs ?_ | refine WPB.not ?_) | ((with_reducible refine WPEs.cons ?_ ?_); (case refine_2 => intros; rfl)) | ((with_reducible refine n_MOST_ROOM ‹_› ?_ ?_); (case refine_1 => rfl)) | ((with_reducible refine c_between ‹_› ?_ ?_ ?_); (case refine_1 => rfl); (case refine_3 => intros; rfl)) | ((with_reducible refine' WPE.nm ?_ ?_ ?_ ?_); (case refine'_2 => rfl); (case refine'_4 => decide); (case refine'_5 => decide)) | ((with_reducible refine WPB.val ?_ ?_); (case refine_2 => intros; rfl)) | fail))
  refine s_between hK (T := "int") rfl ?_
  refine ⟨_, rfl, ?_⟩
  refine cnd_is true (by simp [btwV]; omega) ?_
  (repeat' (first | (with_reducible first | refine nxt_next ?_ | refine cnd_t ?_ | refine cnd_f ?_ | refine WPS.nil ?_) | fail))
  exact h
theorem small_ok' {a : Nat} (h : a ≤ 1000) : a ≤ sizeLine := Nat.le_trans h (by decide)
/-- a row as it lies -/
noncomputable def rowV (t : List Nat) (n : Nat) : List V := (List.range n).map fun i => V.int ((t.getD i 0 : Nat) : Int)
theorem rowV_len {t : List Nat} {n : Nat} : (rowV t n).length = n := by simp [rowV]
theorem rowV_get {t : List Nat} {n i : Nat} (h : i < n) : (rowV t n)[i]? = some (V.int ((t.getD i 0 : Nat) : Int)) := by
  unfold rowV; rw [List.getElem?_map, List.getElem?_range h]; rfl
theorem rowV_succ {t : List Nat} {n : Nat} : rowV t (n + 1) = rowV t n ++ [V.int ((t.getD n 0 : Nat) : Int)] := by
  unfold rowV; rw [List.range_succ, List.map_append]; rfl
noncomputable def candV (t t' : List Nat) (s : Nat) (a : Nat) : Int := (a : Int) + ((t.getD (s - a) 0 : Nat) : Int) + ((t'.getD (a - 1) 0 : Nat) : Int)
theorem s_row_above (hK : Kc c) (hq : c.q = true) {t t' : List Nat} (hup : Up t t') (h0 : t'.getD 0 0 = 0) {b : Addr} {S : Nat} (hS : S ≤ 100) (hg : get st b = some (.list (rowV t (S + 1))))
    (h : ∀ a st', Le st st' → get st' a = some (.list (rowV t' (S + 1))) → get st a = none → Q (.ref a) st') : CF c (k + 1) A_row_above [.ref b, .int S] ρ st Q X := by
  refine CallW.fn (Facts.fn_row_above hK) rfl ?_
  ((refine WPS.cons ?_); (repeat' (first | (with_reducible first | refine WPE.cint ?_ | refine WPEs.nil ?_) | ((with_reducible refine WPEs.cons ?_ ?_); (case refine_2 => intros; rfl)) | ((with_reducible refine WPs.asg ?_ ?_ ?_); (case refine_2 => rfl); (case refine_3 => intros; rfl)) | ((with_reducible refine WPE.lst ?_ ?_); (case refine_2 => decide)) | fail)))
  intro row hrow
  (repeat' (first | (with_reducible first | refine WPE.cint ?_ | refine WPE.bin ?_ | refine Mine.W2.addI ?_ | refine nxt_next ?_ | refine WPS.cons ?_ | refine WPEs.nil ?_) | ((with_reducible refine WPEs.cons ?_ ?_); (case refine_2 => intros; rfl)) | ((with_reducible refine WPs.for ‹_› ?_ ?_ ?_); (case refine_2 => rfl); (case refine_3 => intros; rfl)) | ((with_reducible refine c_range ‹_› ?_ ?_ ?_); (case refine_1 => rfl); (case refine_3 => intros; rfl)) | ((with_reducible refine' WPE.nm ?_ ?_ ?_ ?_); (case refine'_2 => rfl); (case refine'_4 => decide); (case refine'_5 => decide)) | fail))
  refine WL.range2 ⟨_, Src.up 1 S rfl (by omega) (by omega), ?_⟩
  refine FOR.inv (fun i ρ₁ st₁ => ρ₁ = ([("below", .ref b), ("steps", .int S), ("row", .ref row)] : Loc) ∧ Le st st₁ ∧ get st₁ row = some (.list (rowV t' (i + 1)))) ⟨rfl, Le.alloc hrow, ?_⟩ ?_ ?_
  · rw [get_head]; show some (O.list [V.int 0]) = some (O.list [V.int ((t'.getD 0 0 : Nat) : Int)]); rw [h0]; rfl
  · rintro i u ρ₁ st₁ hu ⟨rfl, hle, hr⟩
    obtain ⟨hi, rfl⟩ := upTo_get hu
    ((refine WPS.cons ?_); (repeat' (first | ((with_reducible refine WPs.expr ?_ ?_); (case refine_2 => intros; rfl)) | ((with_reducible refine' WPE.nm ?_ ?_ ?_ ?_); (case refine'_2 => rfl); (case refine'_4 => decide); (case refine'_5 => decide)) | ((with_reducible refine WPE.mAppend ?_ ?_ ?_); (case refine_2 => rfl); (case refine_3 => intros; exact ⟨_, rfl⟩)) | fail)))
    refine ⟨_, _, rfl, hr, ?_⟩
    (repeat' (first | (with_reducible first | refine WPE.cint ?_ | refine WPE.bin ?_ | refine Mine.W2.addI ?_ | refine WPEs.nil ?_) | ((with_reducible refine WPEs.cons ?_ ?_); (case refine_2 => intros; rfl)) | ((with_reducible refine WPE.comp ‹_› ?_ ?_ ?_); (case refine_1 => rfl); (case refine_3 => intros; rfl)) | ((with_reducible refine c_min ‹_› ?_ ?_ ?_); (case refine_1 => rfl); (case refine_3 => intros; rfl)) | ((with_reducible refine c_range ‹_› ?_ ?_ ?_); (case refine_1 => rfl); (case refine_3 => intros; rfl)) | ((with_reducible refine' WPE.nm ?_ ?_ ?_ ?_); (case refine'_2 => rfl); (case refine'_4 => decide); (case refine'_5 => decide)) | fail))
    have hsrc : ∀ st', Src st' (.rng 1 (((1 + i : Nat) : Int) + 1) 1) (upTo 1 (1 + i)) := fun st' => Src.up 1 (1 + i) rfl (by omega) (by omega)
    refine WL.range2 ⟨_, hsrc _, by rw [upTo_len]; exact small_ok' (by omega), ?_⟩
    have hbl : get st₁ b = some (.list (rowV t (S + 1))) := hle _ _ hg
    refine COMP.pure (fun a' => V.int (candV t t' (1 + i) (1 + a'))) ?_ ?_ ?_
    · exact hsrc _
    · intro a' u hu
      obtain ⟨ha, rfl⟩ := upTo_get hu
      (repeat' (first | (with_reducible first | refine WPE.bin ?_ | refine Mine.W2.subI ?_ | refine WPE.sub ?_) | ((with_reducible refine' WPE.nm ?_ ?_ ?_ ?_); (case refine'_2 => rfl); (case refine'_4 => decide); (case refine'_5 => decide)) | fail))
      refine W2.subList hbl rfl (by rw [rowV_len]; omega) (seqIndex_pos (by omega) (by rw [rowV_len]; omega)) (rowV_get (by omega)) ?_
      (repeat' (first | (with_reducible first | refine WPE.cint ?_ | refine WPE.bin ?_ | refine Mine.W2.addI ?_ | refine Mine.W2.subI ?_ | refine WPE.sub ?_) | ((with_reducible refine' WPE.nm ?_ ?_ ?_ ?_); (case refine'_2 => rfl); (case refine'_4 => decide); (case refine'_5 => decide)) | fail))
      refine W2.subList hr rfl (by rw [rowV_len]; omega) (seqIndex_pos (by omega) (by rw [rowV_len]; omega)) (rowV_get (by omega)) ?_
      (repeat' (first | (with_reducible refine Mine.W2.addI ?_) | fail))
      refine ⟨?_, rfl⟩
      unfold candV
      rw [show ((((1 + i : Nat) : Int) - ((1 + a' : Nat) : Int)).toNat) = 1 + i - (1 + a') by omega, show ((((1 + a' : Nat) : Int) - 1).toNat) = 1 + a' - 1 by omega]
    · intro d hd
      (repeat' (first | (with_reducible refine WPEs.nil ?_) | fail))
      rw [upTo_len, show (List.range (1 + i)).map (fun a' => V.int (candV t t' (1 + i) (1 + a'))) = ((List.range (1 + i)).map fun a' => candV t t' (1 + i) (1 + a')).map V.int by simp [List.map_map, Function.comp_def]]
      refine WL.minInts hq get_head (by simp; omega) fun M hM hle' => ?_
      have hM' : M = ((t'.getD (i + 1) 0 : Nat) : Int) := by
        obtain ⟨hlow, a₀, ha1, ha2, ha3⟩ := hup (1 + i) (by omega) (by omega)
        have e1 : M ≤ candV t t' (1 + i) a₀ := by
          refine hle' _ (List.mem_map.mpr ⟨a₀ - 1, List.mem_range.mpr (by omega), ?_⟩)
          rw [show 1 + (a₀ - 1) = a₀ by omega]
        obtain ⟨a₁, hm1, hm2⟩ := List.mem_map.mp hM
        have hr1 := List.mem_range.mp hm1
        have e2 := hlow (1 + a₁) (by omega) (by omega)
        unfold candV at e1 hm2
        rw [show i + 1 = 1 + i by omega]
        omega
      subst hM'
      have hdr : d ≠ row := fun e => by rw [e, hr] at hd; cases hd
      (repeat' (first | (with_reducible refine WPEs.nil ?_) | fail))
      refine WL.append ((get_tail (Ne.symm hdr)).trans hr) (by rw [rowV_len]; omega) ?_
      (repeat' (first | (with_reducible first | refine nxt_next ?_ | refine WPS.nil ?_) | fail))
      refine lp_next ⟨_, .cons rfl (.cons rfl (.cons rfl .nil)), Src.up 1 S rfl (by omega) (by omega), rfl, (hle.cons hd).upd hrow, ?_⟩
      rw [get_upd_self ((get_tail (Ne.symm hdr)).trans hr), rowV_succ (n := i + 1)]
  · rintro ρ₁ st₁ ⟨rfl, hle, hr⟩
    (repeat' (first | (with_reducible first | refine nxt_next ?_ | refine nxt_ret ?_ | refine WPS.cons ?_ | refine WPs.ret ?_) | ((with_reducible refine' WPE.nm ?_ ?_ ?_ ?_); (case refine'_2 => rfl); (case refine'_4 => decide); (case refine'_5 => decide)) | fail))
    exact h row st₁ hle (by rw [upTo_len] at hr; exact hr) hrow
end
section
variable {c : Cx} {k : Nat} {ρ : Loc} {st : St} {Q : V → St → Prop} {X : Xp}
/-- rows, as they lie -/
structure Rows (st : St) (a : Addr) (S n : Nat) : Prop where
  ex : ∃ bs : List Addr, get st a = some (.list (bs.map .ref)) ∧ bs.length = n ∧ (∀ i b, bs[i]? = some b → get st b = some (.list (rowV (TT (i + 1)) (S + 1)))) ∧ ∀ b ∈ bs, b ≠ a
theorem s_table (hK : Kc c) (hq : c.q = true) {S r : Nat} (hS : S ≤ 100) (h1 : 1 ≤ r) (h2 : r ≤ 12) (h : ∀ a st', Le st st' → Rows st' a S r → get st a = none → Q (.ref a) st') : CF c (k + 3) A_table [.int S, .int r] ρ st Q X := by
  refine CallW.fn (Facts.fn_table hK) rfl ?_
  ((refine WPS.cons ?_); (repeat' (first | (with_reducible refine WPEs.nil ?_) | ((with_reducible refine WPEs.cons ?_ ?_); (case refine_2 => intros; rfl)) | ((with_reducible refine WPs.expr ?_ ?_); (case refine_2 => intros; rfl)) | ((with_reducible refine c_need_counts ‹_› ?_ ?_ ?_); (case refine_1 => rfl); (case refine_3 => intros; rfl)) | ((with_reducible refine' WPE.nm ?_ ?_ ?_ ?_); (case refine'_2 => rfl); (case refine'_4 => decide); (case refine'_5 => decide)) | fail)))
  refine s_need_counts hK (by omega) (by omega) (by omega) (by omega) ?_
  (repeat' (first | (with_reducible first | refine WPE.cint ?_ | refine WPE.bin ?_ | refine Mine.W2.addI ?_ | refine nxt_next ?_ | refine WPS.cons ?_ | refine WPEs.nil ?_) | ((with_reducible refine WPEs.cons ?_ ?_); (case refine_2 => intros; rfl)) | ((with_reducible refine WPs.asg ?_ ?_ ?_); (case refine_2 => rfl); (case refine_3 => intros; rfl)) | ((with_reducible refine WPE.comp ‹_› ?_ ?_ ?_); (case refine_1 => rfl); (case refine_3 => intros; rfl)) | ((with_reducible refine c_range ‹_› ?_ ?_ ?_); (case refine_1 => rfl); (case refine_3 => intros; rfl)) | ((with_reducible refine WPE.lst ?_ ?_); (case refine_2 => decide)) | ((with_reducible refine' WPE.nm ?_ ?_ ?_ ?_); (case refine'_2 => rfl); (case refine'_4 => decide); (case refine'_5 => decide)) | fail))
  refine WL.range1 ⟨_, Src.up 0 (S + 1) rfl (by omega) (by omega), by rw [upTo_len]; exact small_ok' (by omega), ?_⟩
  refine COMP.pure (fun i => V.int ((T1.getD i 0 : Nat) : Int)) (Src.up 0 (S + 1) rfl (by omega) (by omega)) ?_ ?_
  · intro i u hu
    obtain ⟨hi, rfl⟩ := upTo_get hu
    (repeat' (first | (with_reducible first | refine WPE.cint ?_ | refine WPE.bin ?_ | refine Mine.W2.addI ?_) | ((with_reducible refine' WPE.nm ?_ ?_ ?_ ?_); (case refine'_2 => rfl); (case refine'_4 => decide); (case refine'_5 => decide)) | fail))
    refine W2.mulI (mulOk_right (by omega)) ?_
    (repeat' (first | (with_reducible refine WPE.cint ?_) | fail))
    refine W2.divI (by decide) (by decide) ?_
    refine ⟨?_, rfl⟩
    rw [T1_at (by omega)]
    congr 1
    rw [Int.fdiv_eq_ediv_of_nonneg _ (by decide)]
    simp
  · intro d hd
    (repeat' (first | (with_reducible refine WPEs.nil ?_) | fail))
    intro a ha
    (repeat' (first | (with_reducible first | refine nxt_next ?_ | refine WPS.cons ?_) | fail))
    rw [upTo_len] at ha ⊢
    refine WPs.while (fun n ρ₁ st₁ => ∃ m, n = r - m ∧ 1 ≤ m ∧ m ≤ r ∧ ρ₁ = ([("steps", .int S), ("room", .int r), ("rows", .ref a)] : Loc) ∧ Le st st₁ ∧ Rows st₁ a S m) (r - 1) ⟨1, rfl, by omega, h1, rfl, (Le.alloc hd).cons ha, ?_⟩ ?_
    · refine ⟨[d], get_head, rfl, ?_, ?_⟩
      · intro i b hb
        cases i with
        | zero => simp at hb; subst hb; rw [get_tail (fun e => by rw [e] at ha; rw [get_head] at ha; cases ha), get_head]; rfl
        | succ i => simp at hb
      · intro b hb
        simp at hb
        subst hb
        exact fun e => by rw [← e, get_head] at ha; cases ha
    · rintro n ρ₁ st₁ ⟨m, rfl, hm1, hm2, rfl, hle, hR⟩
      obtain ⟨bs, hb1, hb2, hb3, hb4⟩ := hR.ex
      (repeat' (first | (with_reducible refine WPEs.nil ?_) | ((with_reducible refine WPEs.cons ?_ ?_); (case refine_2 => intros; rfl)) | ((with_reducible refine WPB.cmp ?_ ?_); (case refine_2 => rfl)) | ((with_reducible refine c_len ‹_› ?_ ?_ ?_); (case refine_1 => rfl); (case refine_3 => intros; rfl)) | ((with_reducible refine' WPE.nm ?_ ?_ ?_ ?_); (case refine'_2 => rfl); (case refine'_4 => decide); (case refine'_5 => decide)) | fail))
      refine WL.lenList hb1 (by simp; omega) ?_
      (repeat' (first | (with_reducible refine Mine.W2.ltI ?_) | ((with_reducible refine' WPE.nm ?_ ?_ ?_ ?_); (case refine'_2 => rfl); (case refine'_4 => decide); (case refine'_5 => decide)) | (with_reducible refine ⟨_, rfl, ?_⟩) | fail))
      refine cnd_cases (fun hb => ?_) (fun hb => ?_)
      · have hlt : m < r := by simpa [hb2] using hb
        (repeat' (first | (with_reducible refine WPS.cons ?_) | ((with_reducible refine WPs.expr ?_ ?_); (case refine_2 => intros; rfl)) | ((with_reducible refine' WPE.nm ?_ ?_ ?_ ?_); (case refine'_2 => rfl); (case refine'_4 => decide); (case refine'_5 => decide)) | ((with_reducible refine WPE.mAppend ?_ ?_ ?_); (case refine_2 => rfl); (case refine_3 => intros; exact ⟨_, rfl⟩)) | fail))
        refine ⟨_, _, rfl, hb1, ?_⟩
        (repeat' (first | (with_reducible first | refine WPE.cint ?_ | refine WPE.un ?_ | refine W1.negI ?_) | ((with_reducible refine WPEs.cons ?_ ?_); (case refine_2 => intros; rfl)) | ((with_reducible refine c_row_above ‹_› ?_ ?_ ?_); (case refine_1 => rfl); (case refine_3 => intros; rfl)) | (with_reducible refine WPE.sub ?_) | ((with_reducible refine' WPE.nm ?_ ?_ ?_ ?_); (case refine'_2 => rfl); (case refine'_4 => decide); (case refine'_5 => decide)) | fail))
        obtain ⟨bl, hbl⟩ : ∃ bl, bs[m - 1]? = some bl := ⟨_, List.getElem?_eq_getElem (by omega)⟩
        refine W2.subList hb1 rfl (by simp; omega) (seqIndex_neg (by decide) (by simp; omega)) (v := .ref bl) (by rw [List.getElem?_map, List.length_map, hb2, show (-1 + (m : Int)).toNat = m - 1 by omega, hbl]; rfl) ?_
        (repeat' (first | (with_reducible refine WPEs.nil ?_) | ((with_reducible refine WPEs.cons ?_ ?_); (case refine_2 => intros; rfl)) | ((with_reducible refine' WPE.nm ?_ ?_ ?_ ?_); (case refine'_2 => rfl); (case refine'_4 => decide); (case refine'_5 => decide)) | fail))
        refine s_row_above hK hq (up_all m hm1 (by omega)) (TT_hd (m + 1) (by omega) (by omega)) hS ?_ ?_
        · have := hb3 (m - 1) bl hbl
          rwa [show m - 1 + 1 = m by omega] at this
        · intro a' st₂ hle₂ hg₂ hn₂
          (repeat' (first | (with_reducible refine WPEs.nil ?_) | fail))
          refine WL.append (hle₂ _ _ hb1) (by simp; omega) ?_
          (repeat' (first | (with_reducible first | refine nxt_next ?_ | refine WPS.nil ?_) | fail))
          have haa : a' ≠ a := fun e => by rw [e, hb1] at hn₂; cases hn₂
          refine lp_next ⟨_, _, ?_, .cons rfl (.cons rfl (.cons rfl .nil)), m + 1, rfl, by omega, by omega, rfl, (hle.trans hle₂).upd ((Le.alloc hd).none ha), bs ++ [a'], ?_, by simp [hb2], ?_, ?_⟩
          · omega
          · rw [get_upd_self (hle₂ _ _ hb1)]; simp
          · intro i b hb'
            by_cases hi : i < bs.length
            · rw [List.getElem?_append_left hi] at hb'
              have hbm := List.mem_of_getElem? hb'
              rw [get_upd_ne (hb4 b hbm)]
              exact hle₂ _ _ (hb3 i b hb')
            · rw [List.getElem?_append_right (by omega)] at hb'
              have : i = m := by
                rcases Nat.lt_or_ge (i - bs.length) 1 with q | q
                · omega
                · rw [List.getElem?_eq_none (by simpa using q)] at hb'; cases hb'
              subst this
              simp [hb2] at hb'
              subst hb'
              rw [get_upd_ne haa]; exact hg₂
          · intro b hb'
            rcases List.mem_append.mp hb' with hb' | hb'
            · exact hb4 b hb'
            · simp at hb'; subst hb'; exact haa
      · have hge : m = r := by
          have : ¬ m < r := by simpa [hb2] using hb
          omega
        subst hge
        (repeat' (first | (with_reducible first | refine nxt_next ?_ | refine nxt_ret ?_ | refine WPS.cons ?_ | refine WPs.ret ?_) | ((with_reducible refine' WPE.nm ?_ ?_ ?_ ?_); (case refine'_2 => rfl); (case refine'_4 => decide); (case refine'_5 => decide)) | fail))
        exact h a st₁ hle hR ((Le.alloc hd).none ha)
theorem s_least (hK : Kc c) (hq : c.q = true) {S r : Nat} (hS : S ≤ 100) (h1 : 1 ≤ r) (h2 : r ≤ 12) (h : ∀ st', Le st st' → Q (.int (((TT r).getD S 0 : Nat) : Int)) st') : CF c (k + 4) A_least [.int S, .int r] ρ st Q X := by
  refine CallW.fn (Facts.fn_least hK) rfl ?_
  ((refine WPS.cons ?_); (repeat' (first | (with_reducible first | refine WPEs.nil ?_ | refine WPs.ret ?_) | ((with_reducible refine WPEs.cons ?_ ?_); (case refine_2 => intros; rfl)) | ((with_reducible refine c_table ‹_› ?_ ?_ ?_); (case refine_1 => rfl); (case refine_3 => intros; rfl)) | (with_reducible refine WPE.sub ?_) | ((with_reducible refine' WPE.nm ?_ ?_ ?_ ?_); (case refine'_2 => rfl); (case refine'_4 => decide); (case refine'_5 => decide)) | fail)))
  refine s_table hK hq hS h1 h2 fun a st' hle hR _ => ?_
  obtain ⟨bs, hb1, hb2, hb3, hb4⟩ := hR.ex
  (repeat' (first | (with_reducible first | refine WPE.cint ?_ | refine WPE.un ?_ | refine W1.negI ?_) | fail))
  obtain ⟨bl, hbl⟩ : ∃ bl, bs[r - 1]? = some bl := ⟨_, List.getElem?_eq_getElem (by omega)⟩
  refine W2.subList hb1 rfl (by simp; omega) (seqIndex_neg (by decide) (by simp; omega)) (v := .ref bl) (by rw [List.getElem?_map, List.length_map, hb2, show (-1 + (r : Int)).toNat = r - 1 by omega, hbl]; rfl) ?_
  (repeat' (first | ((with_reducible refine' WPE.nm ?_ ?_ ?_ ?_); (case refine'_2 => rfl); (case refine'_4 => decide); (case refine'_5 => decide)) | fail))
  have hg := hb3 (r - 1) bl hbl
  rw [show r - 1 + 1 = r by omega] at hg
  refine W2.subList hg rfl (by rw [rowV_len]; omega) (seqIndex_pos (by omega) (by rw [rowV_len]; omega)) (rowV_get (by omega)) ?_
  exact h st' hle
end

section
variable {c : Cx} {k : Nat} {ρ : Loc} {st : St} {Q : V → St → Prop} {X : Xp}
/-- the rules that are -/
inductive Ru where
  | add (i : Int) | times (i : Int) | square | half
noncomputable def Ru.v : Ru → V
  | .add i => .tup [.str "add", .int i]
  | .times i => .tup [.str "times", .int i]
  | .square => .tup [.str "square"]
  | .half => .tup [.str "half"]
noncomputable def Ru.Ok : Ru → Prop
  | .add i => 0 ≤ i ∧ i ≤ 999982
  | .times i => 0 ≤ i ∧ i ≤ 999982
  | _ => True
noncomputable def Ru.fwd : Ru → Int → Int
  | .add i, s => (s + i).fmod 999983
  | .times i, s => (s * i).fmod 999983
  | .square, s => (s * s).fmod 999983
  | .half, s => s.fdiv 2
theorem s_rule (hK : Kc c) {n : Int} (h : ∀ (r : Ru) st', r.Ok → Le st st' → Q r.v st') : CF c (k + 1) A_law_rule [.int n] ρ st Q X := by
  refine CallW.fn (Facts.fn_law_rule hK) rfl ?_
  ((refine WPS.cons ?_); (repeat' (first | (with_reducible first | refine WPE.cint ?_ | refine WPE.bin ?_) | ((with_reducible refine WPs.asg ?_ ?_ ?_); (case refine_2 => rfl); (case refine_3 => intros; rfl)) | ((with_reducible refine' WPE.nm ?_ ?_ ?_ ?_); (case refine'_2 => rfl); (case refine'_4 => decide); (case refine'_5 => decide)) | fail)))
  refine W2.divI (by decide) (by decide) ?_
  (repeat' (first | (with_reducible refine WPE.cint ?_) | fail))
  refine W2.modI (by decide) ?_
  (repeat' (first | (with_reducible first | refine WPE.cint ?_ | refine WPE.bin ?_ | refine nxt_next ?_ | refine WPS.cons ?_ | refine WPs.ifs ?_) | ((with_reducible refine WPB.cmp ?_ ?_); (case refine_2 => rfl)) | ((with_reducible refine' WPE.nm ?_ ?_ ?_ ?_); (case refine'_2 => rfl); (case refine'_4 => decide); (case refine'_5 => decide)) | fail))
  refine W2.divI (by decide) (by decide) ?_
  (repeat' (first | (with_reducible refine WPE.cint ?_) | fail))
  refine W2.modI (by decide) ?_
  (repeat' (first | (with_reducible first | refine WPE.cint ?_ | refine Mine.W2.eqI ?_ | refine ⟨_, rfl, ?_⟩) | fail))
  have rest : ∀ (i : Int) (st₁ : St), 0 ≤ i → i ≤ 999982 → Le st st₁ → WPS c k (S_law_rule) [("_law_number_here", .int n), ("_law_k", .int i)] st₁ (B_law_rule.drop 2) (fun fl _ st' => Q (retV fl) st') (fun C _ st' => X C ρ st') := by
    intro i st₁ i0 i1 hle
    ((refine WPS.cons ?_); (repeat' (first | (with_reducible first | refine WPE.cint ?_ | refine WPE.bin ?_ | refine WPs.ifs ?_) | ((with_reducible refine WPB.cmp ?_ ?_); (case refine_2 => rfl)) | ((with_reducible refine' WPE.nm ?_ ?_ ?_ ?_); (case refine'_2 => rfl); (case refine'_4 => decide); (case refine'_5 => decide)) | fail)))
    refine W2.modI (by decide) ?_
    (repeat' (first | (with_reducible first | refine WPE.cint ?_ | refine Mine.W2.ltI ?_ | refine ⟨_, rfl, ?_⟩) | fail))
    refine cnd_cases (fun hb => ?_) (fun hb => ?_)
    · (repeat' (first | (with_reducible first | refine WPE.cstr ?_ | refine nxt_ret ?_ | refine WPS.cons ?_ | refine WPEs.nil ?_ | refine WPs.ret ?_) | ((with_reducible refine WPEs.cons ?_ ?_); (case refine_2 => intros; rfl)) | ((with_reducible refine WPE.tup ?_ ?_); (case refine_2 => decide)) | ((with_reducible refine' WPE.nm ?_ ?_ ?_ ?_); (case refine'_2 => rfl); (case refine'_4 => decide); (case refine'_5 => decide)) | fail))
      exact h (.add i) _ ⟨i0, i1⟩ hle
    · (repeat' (first | (with_reducible first | refine WPE.cint ?_ | refine WPE.bin ?_ | refine nxt_next ?_ | refine WPS.cons ?_ | refine WPS.nil ?_ | refine WPs.ifs ?_) | ((with_reducible refine WPB.cmp ?_ ?_); (case refine_2 => rfl)) | ((with_reducible refine' WPE.nm ?_ ?_ ?_ ?_); (case refine'_2 => rfl); (case refine'_4 => decide); (case refine'_5 => decide)) | fail))
      refine W2.modI (by decide) ?_
      (repeat' (first | (with_reducible first | refine WPE.cint ?_ | refine Mine.W2.eqI ?_ | refine ⟨_, rfl, ?_⟩) | fail))
      refine cnd_cases (fun hb2 => ?_) (fun hb2 => ?_)
      · (repeat' (first | (with_reducible first | refine WPE.cstr ?_ | refine nxt_ret ?_ | refine WPS.cons ?_ | refine WPEs.nil ?_ | refine WPs.ret ?_) | ((with_reducible refine WPEs.cons ?_ ?_); (case refine_2 => intros; rfl)) | ((with_reducible refine WPE.tup ?_ ?_); (case refine_2 => decide)) | ((with_reducible refine' WPE.nm ?_ ?_ ?_ ?_); (case refine'_2 => rfl); (case refine'_4 => decide); (case refine'_5 => decide)) | fail))
        exact h (.times i) _ ⟨i0, i1⟩ hle
      · (repeat' (first | (with_reducible first | refine WPE.cstr ?_ | refine nxt_next ?_ | refine WPS.cons ?_ | refine WPS.nil ?_ | refine WPEs.nil ?_ | refine WPs.ret ?_) | ((with_reducible refine WPEs.cons ?_ ?_); (case refine_2 => intros; rfl)) | (with_reducible refine WPE.sub ?_) | ((with_reducible refine WPE.tup ?_ ?_); (case refine_2 => decide)) | ((with_reducible refine WPE.lst ?_ ?_); (case refine_2 => decide)) | fail))
        intro a ha
        (repeat' (first | (with_reducible first | refine WPE.cint ?_ | refine WPE.bin ?_) | ((with_reducible refine' WPE.nm ?_ ?_ ?_ ?_); (case refine'_2 => rfl); (case refine'_4 => decide); (case refine'_5 => decide)) | fail))
        refine W2.modI (by decide) ?_
        (repeat' (first | (with_reducible first | refine WPE.cint ?_ | refine Mine.W2.subI ?_) | fail))
        have hm := fmod_lt (a := n) (b := 5) (by decide)
        have e1 : ¬ n.fmod 5 < 2 := by simpa using hb
        have e2 : ¬ n.fmod 5 = 2 := by simpa using hb2
        have e3 : n.fmod 5 = 3 ∨ n.fmod 5 = 4 := by omega
        rcases e3 with e3 | e3
        · rw [e3]
          refine W2.subList get_head rfl (by decide) (by rfl) (by rfl) ?_
          (repeat' (first | (with_reducible first | refine nxt_ret ?_ | refine WPEs.nil ?_) | fail))
          exact h .square _ trivial (hle.trans (.alloc ha))
        · rw [e3]
          refine W2.subList get_head rfl (by decide) (by rfl) (by rfl) ?_
          (repeat' (first | (with_reducible first | refine nxt_ret ?_ | refine WPEs.nil ?_) | fail))
          exact h .half _ trivial (hle.trans (.alloc ha))
  refine cnd_cases (fun hb => ?_) (fun hb => ?_)
  · refine WPS.cons ?_
    (repeat' (first | ((fail_if_success (with_reducible show WPS _ _ _ _ _ _ _ _)); (first | (with_reducible first | refine WPE.cint ?_ | refine WPEs.nil ?_) | ((with_reducible refine WPEs.cons ?_ ?_); (case refine_2 => intros; rfl)) | ((with_reducible refine WPs.asg ?_ ?_ ?_); (case refine_2 => rfl); (case refine_3 => intros; rfl)) | (with_reducible refine WPE.sub ?_) | ((with_reducible refine WPE.lst ?_ ?_); (case refine_2 => decide)) | fail)) | fail))
    intro a ha
    (repeat' (first | ((fail_if_success (with_reducible show WPS _ _ _ _ _ _ _ _)); (first | (with_reducible first | refine WPE.cint ?_ | refine WPE.bin ?_) | ((with_reducible refine' WPE.nm ?_ ?_ ?_ ?_); (case refine'_2 => rfl); (case refine'_4 => decide); (case refine'_5 => decide)) | fail)) | fail))
    refine W2.divI (by decide) (by decide) ?_
    (repeat' (first | ((fail_if_success (with_reducible show WPS _ _ _ _ _ _ _ _)); (first | (with_reducible refine WPE.cint ?_) | fail)) | fail))
    refine W2.modI (by decide) ?_
    have hm := fmod_lt (a := n.fdiv 15) (b := 5) (by decide)
    generalize (n.fdiv 15).fmod 5 = j at hm
    have e3 : j = 0 ∨ j = 1 ∨ j = 2 ∨ j = 3 ∨ j = 4 := by omega
    rcases e3 with rfl | rfl | rfl | rfl | rfl <;>
    · refine W2.subList get_head rfl (by decide) (by rfl) (by rfl) ?_
      (repeat' (first | (with_reducible refine WPS.nil ?_) | ((fail_if_success (with_reducible show WPS _ _ _ _ _ _ _ _)); (first | (with_reducible refine nxt_next ?_) | fail)) | fail))
      exact rest _ _ (by decide) (by decide) (.alloc ha)
  · (repeat' (first | (with_reducible refine WPS.nil ?_) | ((fail_if_success (with_reducible show WPS _ _ _ _ _ _ _ _)); (first | (with_reducible refine nxt_next ?_) | fail)) | fail))
    have hm := fmod_lt (a := n.fdiv 5) (b := 999983) (by decide)
    exact rest _ _ hm.1 (by omega) .refl
end

section
variable {c : Cx} {k : Nat} {ρ : Loc} {st : St} {Q : V → St → Prop} {X : Xp}
theorem Ru.fwd_ok {r : Ru} {s : Int} (hr : r.Ok) (h0 : 0 ≤ s) (h1 : s ≤ 999982) : 0 ≤ r.fwd s ∧ r.fwd s ≤ 999982 := by
  cases r with
  | half =>
    simp only [Ru.fwd]
    rw [Int.fdiv_eq_ediv_of_nonneg _ (by decide)]
    omega
  | add i => have := fmod_lt (a := s + i) (b := 999983) (by decide); simp only [Ru.fwd]; omega
  | times i => have := fmod_lt (a := s * i) (b := 999983) (by decide); simp only [Ru.fwd]; omega
  | square => have := fmod_lt (a := s * s) (b := 999983) (by decide); simp only [Ru.fwd]; omega
theorem s_forth (hK : Kc c) {r : Ru} {s : Int} (hr : r.Ok) (h0 : 0 ≤ s) (h1 : s ≤ 999982) (h : Q (.int (r.fwd s)) st) : CF c (k + 1) A_forth [r.v, .int s] ρ st Q X := by
  refine CallW.fn (Facts.fn_forth hK) rfl ?_
  cases r with
  | add i =>
    simp only [Ru.v, Ru.fwd, Ru.Ok] at *
    ((refine WPS.cons ?_); (repeat' (first | (with_reducible first | refine WPE.cint ?_ | refine WPE.cstr ?_ | refine WPE.bin ?_ | refine Mine.W2.addI ?_ | refine Mine.W2.eqS ?_ | refine cnd_t ?_ | refine WPS.cons ?_ | refine WPs.ret ?_ | refine WPs.ifs ?_) | ((with_reducible refine WPB.cmp ?_ ?_); (case refine_2 => rfl)) | ((with_reducible refine n_ROUND ‹_› ?_ ?_); (case refine_1 => rfl)) | (with_reducible refine WPE.sub ?_) | ((with_reducible refine' WPE.nm ?_ ?_ ?_ ?_); (case refine'_2 => rfl); (case refine'_4 => decide); (case refine'_5 => decide)) | ((with_reducible refine cnd_is true ?_ ?_); (case refine_1 => rfl)) | ((with_reducible refine' Mine.W2.tupAt ?_ ?_ ?_ ?_); (case refine'_2 => rfl); (case refine'_3 => rfl); (case refine'_4 => rfl)) | (with_reducible refine ⟨_, rfl, ?_⟩) | fail)))
    refine W2.modI (by decide) ?_
    (repeat' (first | (with_reducible refine nxt_ret ?_) | fail))
    exact h
  | times i =>
    simp only [Ru.v, Ru.fwd, Ru.Ok] at *
    ((refine WPS.cons ?_); (repeat' (first | (with_reducible first | refine WPE.cint ?_ | refine WPE.cstr ?_ | refine WPE.bin ?_ | refine Mine.W2.eqS ?_ | refine nxt_next ?_ | refine cnd_t ?_ | refine cnd_f ?_ | refine WPS.cons ?_ | refine WPS.nil ?_ | refine WPs.ret ?_ | refine WPs.ifs ?_) | ((with_reducible refine WPB.cmp ?_ ?_); (case refine_2 => rfl)) | (with_reducible refine WPE.sub ?_) | ((with_reducible refine' WPE.nm ?_ ?_ ?_ ?_); (case refine'_2 => rfl); (case refine'_4 => decide); (case refine'_5 => decide)) | ((with_reducible refine cnd_is true ?_ ?_); (case refine_1 => rfl)) | ((with_reducible refine cnd_is false ?_ ?_); (case refine_1 => rfl)) | ((with_reducible refine' Mine.W2.tupAt ?_ ?_ ?_ ?_); (case refine'_2 => rfl); (case refine'_3 => rfl); (case refine'_4 => rfl)) | (with_reducible refine ⟨_, rfl, ?_⟩) | fail)))
    refine W2.mulI (mulOk_right (by omega)) ?_
    (repeat' (first | ((with_reducible refine n_ROUND ‹_› ?_ ?_); (case refine_1 => rfl)) | fail))
    refine W2.modI (by decide) ?_
    (repeat' (first | (with_reducible refine nxt_ret ?_) | fail))
    exact h
  | square =>
    simp only [Ru.v, Ru.fwd, Ru.Ok] at *
    ((refine WPS.cons ?_); (repeat' (first | (with_reducible first | refine WPE.cint ?_ | refine WPE.cstr ?_ | refine WPE.bin ?_ | refine Mine.W2.eqS ?_ | refine nxt_next ?_ | refine cnd_t ?_ | refine cnd_f ?_ | refine WPS.cons ?_ | refine WPS.nil ?_ | refine WPs.ret ?_ | refine WPs.ifs ?_) | ((with_reducible refine WPB.cmp ?_ ?_); (case refine_2 => rfl)) | (with_reducible refine WPE.sub ?_) | ((with_reducible refine' WPE.nm ?_ ?_ ?_ ?_); (case refine'_2 => rfl); (case refine'_4 => decide); (case refine'_5 => decide)) | ((with_reducible refine cnd_is true ?_ ?_); (case refine_1 => rfl)) | ((with_reducible refine cnd_is false ?_ ?_); (case refine_1 => rfl)) | ((with_reducible refine' Mine.W2.tupAt ?_ ?_ ?_ ?_); (case refine'_2 => rfl); (case refine'_3 => rfl); (case refine'_4 => rfl)) | (with_reducible refine ⟨_, rfl, ?_⟩) | fail)))
    refine W2.mulI (mulOk_right (by omega)) ?_
    (repeat' (first | ((with_reducible refine n_ROUND ‹_› ?_ ?_); (case refine_1 => rfl)) | fail))
    refine W2.modI (by decide) ?_
    (repeat' (first | (with_reducible refine nxt_ret ?_) | fail))
    exact h
  | half =>
    simp only [Ru.v, Ru.fwd, Ru.Ok] at *
    ((refine WPS.cons ?_); (repeat' (first | (with_reducible first | refine WPE.cint ?_ | refine WPE.cstr ?_ | refine WPE.bin ?_ | refine Mine.W2.eqS ?_ | refine nxt_next ?_ | refine cnd_f ?_ | refine WPS.cons ?_ | refine WPS.nil ?_ | refine WPs.ret ?_ | refine WPs.ifs ?_) | ((with_reducible refine WPB.cmp ?_ ?_); (case refine_2 => rfl)) | (with_reducible refine WPE.sub ?_) | ((with_reducible refine' WPE.nm ?_ ?_ ?_ ?_); (case refine'_2 => rfl); (case refine'_4 => decide); (case refine'_5 => decide)) | ((with_reducible refine cnd_is false ?_ ?_); (case refine_1 => rfl)) | ((with_reducible refine' Mine.W2.tupAt ?_ ?_ ?_ ?_); (case refine'_2 => rfl); (case refine'_3 => rfl); (case refine'_4 => rfl)) | (with_reducible refine ⟨_, rfl, ?_⟩) | fail)))
    refine W2.divI (by decide) (by decide) ?_
    (repeat' (first | (with_reducible refine nxt_ret ?_) | fail))
    exact h
theorem s_law_forth (hK : Kc c) {r : Ru} {s : Int} (hr : r.Ok) (h0 : 0 ≤ s) (h1 : s ≤ 999982) (h : Q (.int (r.fwd s)) st) : CF c (k + 1) A_law_forth [r.v, .int s] ρ st Q X := by
  refine CallW.fn (Facts.fn_law_forth hK) rfl ?_
  cases r with
  | add i =>
    simp only [Ru.v, Ru.fwd, Ru.Ok] at *
    ((refine WPS.cons ?_); (repeat' (first | (with_reducible first | refine WPE.cint ?_ | refine WPE.cstr ?_ | refine WPE.bin ?_ | refine Mine.W2.addI ?_ | refine Mine.W2.eqS ?_ | refine cnd_t ?_ | refine WPS.cons ?_ | refine WPs.ret ?_ | refine WPs.ifs ?_) | ((with_reducible refine WPB.cmp ?_ ?_); (case refine_2 => rfl)) | (with_reducible refine WPE.sub ?_) | ((with_reducible refine' WPE.nm ?_ ?_ ?_ ?_); (case refine'_2 => rfl); (case refine'_4 => decide); (case refine'_5 => decide)) | ((with_reducible refine cnd_is true ?_ ?_); (case refine_1 => rfl)) | ((with_reducible refine' Mine.W2.tupAt ?_ ?_ ?_ ?_); (case refine'_2 => rfl); (case refine'_3 => rfl); (case refine'_4 => rfl)) | (with_reducible refine ⟨_, rfl, ?_⟩) | fail)))
    refine W2.modI (by decide) ?_
    (repeat' (first | (with_reducible refine nxt_ret ?_) | fail))
    exact h
  | times i =>
    simp only [Ru.v, Ru.fwd, Ru.Ok] at *
    ((refine WPS.cons ?_); (repeat' (first | (with_reducible first | refine WPE.cint ?_ | refine WPE.cstr ?_ | refine WPE.bin ?_ | refine Mine.W2.eqS ?_ | refine nxt_next ?_ | refine cnd_t ?_ | refine cnd_f ?_ | refine WPS.cons ?_ | refine WPS.nil ?_ | refine WPs.ret ?_ | refine WPs.ifs ?_) | ((with_reducible refine WPB.cmp ?_ ?_); (case refine_2 => rfl)) | (with_reducible refine WPE.sub ?_) | ((with_reducible refine' WPE.nm ?_ ?_ ?_ ?_); (case refine'_2 => rfl); (case refine'_4 => decide); (case refine'_5 => decide)) | ((with_reducible refine cnd_is true ?_ ?_); (case refine_1 => rfl)) | ((with_reducible refine cnd_is false ?_ ?_); (case refine_1 => rfl)) | ((with_reducible refine' Mine.W2.tupAt ?_ ?_ ?_ ?_); (case refine'_2 => rfl); (case refine'_3 => rfl); (case refine'_4 => rfl)) | (with_reducible refine ⟨_, rfl, ?_⟩) | fail)))
    refine W2.mulI (mulOk_right (by omega)) ?_
    (repeat' (first | (with_reducible refine WPE.cint ?_) | fail))
    refine W2.modI (by decide) ?_
    (repeat' (first | (with_reducible refine nxt_ret ?_) | fail))
    exact h
  | square =>
    simp only [Ru.v, Ru.fwd, Ru.Ok] at *
    ((refine WPS.cons ?_); (repeat' (first | (with_reducible first | refine WPE.cint ?_ | refine WPE.cstr ?_ | refine WPE.bin ?_ | refine Mine.W2.eqS ?_ | refine nxt_next ?_ | refine cnd_t ?_ | refine cnd_f ?_ | refine WPS.cons ?_ | refine WPS.nil ?_ | refine WPs.ret ?_ | refine WPs.ifs ?_) | ((with_reducible refine WPB.cmp ?_ ?_); (case refine_2 => rfl)) | (with_reducible refine WPE.sub ?_) | ((with_reducible refine' WPE.nm ?_ ?_ ?_ ?_); (case refine'_2 => rfl); (case refine'_4 => decide); (case refine'_5 => decide)) | ((with_reducible refine cnd_is true ?_ ?_); (case refine_1 => rfl)) | ((with_reducible refine cnd_is false ?_ ?_); (case refine_1 => rfl)) | ((with_reducible refine' Mine.W2.tupAt ?_ ?_ ?_ ?_); (case refine'_2 => rfl); (case refine'_3 => rfl); (case refine'_4 => rfl)) | (with_reducible refine ⟨_, rfl, ?_⟩) | fail)))
    refine W2.mulI (mulOk_right (by omega)) ?_
    (repeat' (first | (with_reducible refine WPE.cint ?_) | fail))
    refine W2.modI (by decide) ?_
    (repeat' (first | (with_reducible refine nxt_ret ?_) | fail))
    exact h
  | half =>
    simp only [Ru.v, Ru.fwd, Ru.Ok] at *
    ((refine WPS.cons ?_); (repeat' (first | (with_reducible first | refine WPE.cint ?_ | refine WPE.cstr ?_ | refine WPE.bin ?_ | refine Mine.W2.eqS ?_ | refine nxt_next ?_ | refine cnd_f ?_ | refine WPS.cons ?_ | refine WPS.nil ?_ | refine WPs.ret ?_ | refine WPs.ifs ?_) | ((with_reducible refine WPB.cmp ?_ ?_); (case refine_2 => rfl)) | (with_reducible refine WPE.sub ?_) | ((with_reducible refine' WPE.nm ?_ ?_ ?_ ?_); (case refine'_2 => rfl); (case refine'_4 => decide); (case refine'_5 => decide)) | ((with_reducible refine cnd_is false ?_ ?_); (case refine_1 => rfl)) | ((with_reducible refine' Mine.W2.tupAt ?_ ?_ ?_ ?_); (case refine'_2 => rfl); (case refine'_3 => rfl); (case refine'_4 => rfl)) | (with_reducible refine ⟨_, rfl, ?_⟩) | fail)))
    refine W2.divI (by decide) (by decide) ?_
    (repeat' (first | (with_reducible refine nxt_ret ?_) | fail))
    exact h
end

section
variable {c : Cx} {k : Nat} {ρ : Loc} {st : St} {Q : V → St → Prop} {X : Xp}
theorem small_ok'' {a : Nat} (h : a ≤ 1000) : a ≤ sizeLine := by rw [PySem.sizeLine_eq]; omega
theorem s_row (hK : Kc c) (hq : c.q = true) {ns : List Int} {a m : Nat} (ha : a < 1000) (hm : m ≤ 100) (hl : ns.length < 1000)
    (h : ∀ (fs : Int) (rs : List Ru) d st', 0 ≤ fs → fs ≤ 999982 → (∀ r ∈ rs, r.Ok) → rs.length ≤ m → Le st st' → get st d = none → get st' d = some (.list (rs.map Ru.v)) → Q (.tup [.int fs, .ref d]) st') : CF c (k + 2) A_law_row [.scr ns, .int a, .int m] ρ st Q X := by
  refine CallW.fn (Facts.fn_law_row hK) rfl ?_
  have rest : ∀ (fs : Int) (st₁ : St), 0 ≤ fs → fs ≤ 999982 → Le st st₁ → WPS c (k + 1) (S_law_row) [("_law_script", .scr ns), ("_law_start", .int a), ("_law_most", .int m), ("_law_first", .int fs)] st₁ (B_law_row.drop 1) (fun fl _ st' => Q (retV fl) st') (fun C _ st' => X C ρ st') := by
    intro fs st₁ f0 f1 hle
    ((refine WPS.cons ?_); (repeat' (first | (with_reducible first | refine WPE.cint ?_ | refine WPE.bin ?_ | refine Mine.W2.addI ?_ | refine WPEs.nil ?_) | ((with_reducible refine WPEs.cons ?_ ?_); (case refine_2 => intros; rfl)) | ((with_reducible refine WPs.asg ?_ ?_ ?_); (case refine_2 => rfl); (case refine_3 => intros; rfl)) | ((with_reducible refine c_law_number ‹_› ?_ ?_ ?_); (case refine_1 => rfl); (case refine_3 => intros; rfl)) | ((with_reducible refine' WPE.nm ?_ ?_ ?_ ?_); (case refine'_2 => rfl); (case refine'_4 => decide); (case refine'_5 => decide)) | fail)))
    refine s_number hK (by omega) (by omega) hl ?_
    (repeat' (first | (with_reducible first | refine WPE.cint ?_ | refine WPE.bin ?_ | refine Mine.W2.addI ?_) | ((with_reducible refine' WPE.nm ?_ ?_ ?_ ?_); (case refine'_2 => rfl); (case refine'_4 => decide); (case refine'_5 => decide)) | fail))
    refine W2.modI (by omega) ?_
    have hm' := fmod_lt (a := numV ns ((a : Int) + 1)) (b := (m : Int) + 1) (by omega)
    generalize (numV ns ((a : Int) + 1)).fmod ((m : Int) + 1) = n at hm'
    obtain ⟨n, rfl⟩ : ∃ n' : Nat, n = n' := ⟨n.toNat, by omega⟩
    (repeat' (first | (with_reducible first | refine nxt_next ?_ | refine WPS.cons ?_ | refine WPEs.nil ?_ | refine WPs.ret ?_) | ((with_reducible refine WPEs.cons ?_ ?_); (case refine_2 => intros; rfl)) | ((with_reducible refine WPE.comp ‹_› ?_ ?_ ?_); (case refine_1 => rfl); (case refine_3 => intros; rfl)) | ((with_reducible refine c_range ‹_› ?_ ?_ ?_); (case refine_1 => rfl); (case refine_3 => intros; rfl)) | ((with_reducible refine WPE.tup ?_ ?_); (case refine_2 => decide)) | ((with_reducible refine' WPE.nm ?_ ?_ ?_ ?_); (case refine'_2 => rfl); (case refine'_4 => decide); (case refine'_5 => decide)) | fail))
    have hsrc : ∀ st', Src st' (.rng 0 (n : Int) 1) (upTo 0 n) := fun st' => Src.up 0 n rfl (by omega) (by omega)
    refine WL.range1 ⟨_, hsrc _, by rw [upTo_len]; exact small_ok'' (by omega), ?_⟩
    refine COMP.inv (fun i acc st₂ => Le st₁ st₂ ∧ ∃ rs : List Ru, acc = rs.map Ru.v ∧ rs.length = i ∧ ∀ r ∈ rs, r.Ok) ⟨Le.refl, [], rfl, rfl, by intro r hr; cases hr⟩ ?_ ?_
    · rintro i u acc st₂ hu ⟨hle₂, rs, rfl, hrl, hrs⟩
      obtain ⟨hi, rfl⟩ := upTo_get hu
      (repeat' (first | (with_reducible first | refine WPE.cint ?_ | refine WPE.bin ?_ | refine Mine.W2.addI ?_ | refine WPEs.nil ?_) | ((with_reducible refine WPEs.cons ?_ ?_); (case refine_2 => intros; rfl)) | ((with_reducible refine c_law_number ‹_› ?_ ?_ ?_); (case refine_1 => rfl); (case refine_3 => intros; rfl)) | ((with_reducible refine c_law_rule ‹_› ?_ ?_ ?_); (case refine_1 => rfl); (case refine_3 => intros; rfl)) | ((with_reducible refine' WPE.nm ?_ ?_ ?_ ?_); (case refine'_2 => rfl); (case refine'_4 => decide); (case refine'_5 => decide)) | fail))
      refine s_number hK (by omega) (by omega) hl ?_
      (repeat' (first | (with_reducible refine WPEs.nil ?_) | fail))
      refine s_rule hK fun r st₃ hr hle₃ => ⟨hsrc _, hle₂.trans hle₃, rs ++ [r], by simp, by simp [hrl], ?_⟩
      intro r' hr'
      rcases List.mem_append.mp hr' with q | q
      · exact hrs r' q
      · simp at q; subst q; exact hr
    · rintro acc st₂ ⟨hle₂, rs, rfl, hrl, hrs⟩
      intro d hd
      (repeat' (first | (with_reducible first | refine nxt_ret ?_ | refine WPEs.nil ?_) | fail))
      rw [upTo_len] at hrl
      exact h fs rs d _ f0 f1 hrs (by omega) ((hle.trans hle₂).cons hd) ((hle.trans hle₂).none hd) get_head
  refine WPS.cons ?_
  (repeat' (first | ((fail_if_success (with_reducible show WPS _ _ _ _ _ _ _ _)); (first | (with_reducible first | refine WPE.cint ?_ | refine WPE.bin ?_ | refine WPEs.nil ?_) | ((with_reducible refine WPEs.cons ?_ ?_); (case refine_2 => intros; rfl)) | ((with_reducible refine WPs.asg ?_ ?_ ?_); (case refine_2 => rfl); (case refine_3 => intros; rfl)) | ((with_reducible refine c_law_number ‹_› ?_ ?_ ?_); (case refine_1 => rfl); (case refine_3 => intros; rfl)) | (with_reducible refine WPE.sub ?_) | ((with_reducible refine WPE.lst ?_ ?_); (case refine_2 => decide)) | ((with_reducible refine' WPE.nm ?_ ?_ ?_ ?_); (case refine'_2 => rfl); (case refine'_4 => decide); (case refine'_5 => decide)) | fail)) | fail))
  refine s_number hK (by omega) (by omega) hl ?_
  (repeat' (first | ((fail_if_success (with_reducible show WPS _ _ _ _ _ _ _ _)); (first | (with_reducible refine WPE.cint ?_) | fail)) | fail))
  refine W2.divI (by decide) (by decide) ?_
  (repeat' (first | ((fail_if_success (with_reducible show WPS _ _ _ _ _ _ _ _)); (first | (with_reducible refine WPE.cint ?_) | fail)) | fail))
  refine W2.modI (by decide) ?_
  (repeat' (first | ((fail_if_success (with_reducible show WPS _ _ _ _ _ _ _ _)); (first | (with_reducible refine WPEs.nil ?_) | fail)) | fail))
  intro al hal
  (repeat' (first | ((fail_if_success (with_reducible show WPS _ _ _ _ _ _ _ _)); (first | (with_reducible first | refine WPE.bin ?_ | refine WPEs.nil ?_) | ((with_reducible refine WPEs.cons ?_ ?_); (case refine_2 => intros; rfl)) | ((with_reducible refine c_law_number ‹_› ?_ ?_ ?_); (case refine_1 => rfl); (case refine_3 => intros; rfl)) | ((with_reducible refine' WPE.nm ?_ ?_ ?_ ?_); (case refine'_2 => rfl); (case refine'_4 => decide); (case refine'_5 => decide)) | fail)) | fail))
  refine s_number hK (by omega) (by omega) hl ?_
  (repeat' (first | ((fail_if_success (with_reducible show WPS _ _ _ _ _ _ _ _)); (first | (with_reducible refine WPE.cint ?_) | fail)) | fail))
  refine W2.modI (by decide) ?_
  have h4 := fmod_lt (a := numV ns (a : Int)) (b := 4) (by decide)
  have h9 := fmod_lt (a := (numV ns (a : Int)).fdiv 4) (b := 999983) (by decide)
  generalize (numV ns (a : Int)).fmod 4 = j at h4
  have e3 : j = 0 ∨ j = 1 ∨ j = 2 ∨ j = 3 := by omega
  rcases e3 with rfl | rfl | rfl | rfl <;>
  · refine W2.listAt get_head rfl rfl (by rfl) ?_
    (repeat' (first | ((fail_if_success (with_reducible show WPS _ _ _ _ _ _ _ _)); (first | (with_reducible refine nxt_next ?_) | fail)) | fail))
    exact rest _ _ (by first | decide | omega) (by first | decide | omega) (.alloc hal)
end

section
variable {c : Cx} {k : Nat} {ρ : Loc} {st : St} {Q : V → St → Prop} {X : Xp}
/-- a thing that may lie among the rules -/
structure El (st : St) (v : V) : Prop where
  typ : ∃ T, typV st v = some T
  tup : ∀ vs, v = .tup vs → (vs.length < 1000 ∧ ∀ u ∈ vs, (typV st u).isSome = true)
  self : selfV v = true
theorem Ru.el (r : Ru) : El st r.v := by
  cases r with
  | add i => exact ⟨⟨_, rfl⟩, fun vs e => by cases e; exact ⟨by simp, by intro u hu; simp at hu; rcases hu with rfl | rfl <;> rfl⟩, rfl⟩
  | times i => exact ⟨⟨_, rfl⟩, fun vs e => by cases e; exact ⟨by simp, by intro u hu; simp at hu; rcases hu with rfl | rfl <;> rfl⟩, rfl⟩
  | square => exact ⟨⟨_, rfl⟩, fun vs e => by cases e; exact ⟨by simp, by intro u hu; simp at hu; subst hu; rfl⟩, rfl⟩
  | half => exact ⟨⟨_, rfl⟩, fun vs e => by cases e; exact ⟨by simp, by intro u hu; simp at hu; subst hu; rfl⟩, rfl⟩
theorem Ru.is {r : Ru} (h : r.Ok) : ruleV r.v = true := by
  cases r with
  | add i => obtain ⟨h1, h2⟩ := h; show (decide (0 ≤ i) && decide (i ≤ 999982)) = true; simp [h1, h2]
  | times i => obtain ⟨h1, h2⟩ := h; show (decide (0 ≤ i) && decide (i ≤ 999982)) = true; simp [h1, h2]
  | square => rfl
  | half => rfl
theorem s_need_good (hK : Kc c) (hq : c.q = true) {fs : Int} {a : Addr} {vs : List V} (h0 : 0 ≤ fs) (h1 : fs ≤ 999982) (hg : get st a = some (.list vs)) (hle : vs.length ≤ 100) (he : ∀ u ∈ vs, El st u) (hr : ∀ u ∈ vs, ruleV u = true) (h : Q .none st) : CF c (k + 4) A_need_row [.int fs, .ref a] ρ st Q X := by
  refine CallW.fn (Facts.fn_need_row hK) rfl ?_
  ((refine WPS.cons ?_); (repeat' (first | (with_reducible first | refine WPEs.nil ?_ | refine WPs.ifs ?_ | refine WPB.not ?_) | ((with_reducible refine WPEs.cons ?_ ?_); (case refine_2 => intros; rfl)) | ((with_reducible refine c_is_state ‹_› ?_ ?_ ?_); (case refine_1 => rfl); (case refine_3 => intros; rfl)) | ((with_reducible refine' WPE.nm ?_ ?_ ?_ ?_); (case refine'_2 => rfl); (case refine'_4 => decide); (case refine'_5 => decide)) | ((with_reducible refine WPB.val ?_ ?_); (case refine_2 => intros; rfl)) | fail)))
  refine s_is_state hK (T := "int") rfl ?_
  rw [show btwV 0 999982 (.int fs) = true by simp [btwV, h0, h1]]
  (repeat' (first | (with_reducible first | refine WPAll.or ?_ | refine nxt_next ?_ | refine cnd_t ?_ | refine cnd_f ?_ | refine WPS.cons ?_ | refine WPS.nil ?_ | refine WPEs.nil ?_ | refine WPs.ifs ?_ | refine WPB.op ?_ | refine WPB.not ?_) | ((with_reducible refine WPEs.cons ?_ ?_); (case refine_2 => intros; rfl)) | ((with_reducible refine n_list ‹_› ?_ ?_); (case refine_1 => rfl)) | ((with_reducible refine c_isinstance ‹_› ?_ ?_ ?_); (case refine_1 => rfl); (case refine_3 => intros; rfl)) | ((with_reducible refine' WPE.nm ?_ ?_ ?_ ?_); (case refine'_2 => rfl); (case refine'_4 => decide); (case refine'_5 => decide)) | ((with_reducible refine WPB.val ?_ ?_); (case refine_2 => intros; rfl)) | (with_reducible refine ⟨_, rfl, ?_⟩) | fail))
  refine WL.isinstance (T := "list") (by simp [typV, hg]) rfl ?_
  (repeat' (first | (with_reducible first | refine WPAll.or ?_ | refine cnd_t ?_ | refine cnd_f ?_ | refine WPEs.nil ?_) | ((with_reducible refine WPEs.cons ?_ ?_); (case refine_2 => intros; rfl)) | ((with_reducible refine WPB.cmp ?_ ?_); (case refine_2 => rfl)) | ((with_reducible refine c_len ‹_› ?_ ?_ ?_); (case refine_1 => rfl); (case refine_3 => intros; rfl)) | ((with_reducible refine' WPE.nm ?_ ?_ ?_ ?_); (case refine'_2 => rfl); (case refine'_4 => decide); (case refine'_5 => decide)) | ((with_reducible refine cnd_is true ?_ ?_); (case refine_1 => rfl)) | (with_reducible refine ⟨_, rfl, ?_⟩) | fail))
  refine WL.lenList hg (by omega) ?_
  (repeat' (first | (with_reducible refine Mine.W2.gtI ?_) | ((with_reducible refine n_MOST_RULES ‹_› ?_ ?_); (case refine_1 => rfl)) | (with_reducible refine ⟨_, rfl, ?_⟩) | fail))
  refine cnd_is false (by simp; omega) ?_
  (repeat' (first | (with_reducible first | refine WPAll.orNil ?_ | refine nxt_next ?_ | refine cnd_f ?_ | refine WPS.cons ?_ | refine WPS.nil ?_) | ((with_reducible refine WPs.for ‹_› ?_ ?_ ?_); (case refine_2 => rfl); (case refine_3 => intros; rfl)) | ((with_reducible refine' WPE.nm ?_ ?_ ?_ ?_); (case refine'_2 => rfl); (case refine'_4 => decide); (case refine'_5 => decide)) | fail))
  refine ⟨_, .list hg, ?_⟩
  refine FOR.inv (fun i ρ₁ st₁ => st₁ = st ∧ ρ₁ = ([("first", .int fs), ("rules", .ref a)] : Loc)) ⟨rfl, rfl⟩ ?_ ?_
  · rintro i y ρ₁ st₁ hy ⟨rfl, rfl⟩
    have hm : y ∈ vs := List.mem_of_getElem? hy
    obtain ⟨⟨U, hU⟩, htup, _⟩ := he y hm
    ((refine WPS.cons ?_); (repeat' (first | (with_reducible first | refine WPEs.nil ?_ | refine WPs.ifs ?_ | refine WPB.not ?_) | ((with_reducible refine WPEs.cons ?_ ?_); (case refine_2 => intros; rfl)) | ((with_reducible refine c_is_rule ‹_› ?_ ?_ ?_); (case refine_1 => rfl); (case refine_3 => intros; rfl)) | ((with_reducible refine' WPE.nm ?_ ?_ ?_ ?_); (case refine'_2 => rfl); (case refine'_4 => decide); (case refine'_5 => decide)) | ((with_reducible refine WPB.val ?_ ?_); (case refine_2 => intros; rfl)) | fail)))
    refine s_is_rule hK hU htup ?_
    rw [hr y hm]
    (repeat' (first | (with_reducible first | refine nxt_next ?_ | refine cnd_t ?_ | refine cnd_f ?_ | refine WPS.nil ?_ | refine ⟨_, rfl, ?_⟩) | fail))
    exact lp_next ⟨_, Sub.of (by intro p hp; simp at hp; rcases hp with rfl | rfl <;> rfl), .list hg, rfl, rfl⟩
  · rintro ρ₁ st₁ ⟨rfl, rfl⟩
    (repeat' (first | (with_reducible first | refine nxt_next ?_ | refine WPS.nil ?_) | fail))
    exact h
end

section
variable {c : Cx} {k : Nat} {ρ : Loc} {st : St} {Q : V → St → Prop} {X : Xp}
/-- the states of a row -/
noncomputable def stN (fs : Int) (rs : List Ru) (i : Nat) : Int := (rs.take i).foldl (fun s r => r.fwd s) fs
noncomputable def stL (fs : Int) (rs : List Ru) (n : Nat) : List Int := (List.range n).map (stN fs rs)
theorem stN_succ {fs : Int} {rs : List Ru} {i : Nat} {r : Ru} (h : rs[i]? = some r) : stN fs rs (i + 1) = r.fwd (stN fs rs i) := by
  unfold stN
  have : i < rs.length := by
    rcases Nat.lt_or_ge i rs.length with q | q
    · exact q
    · rw [List.getElem?_eq_none q] at h; cases h
  rw [List.take_add_one, h]
  simp
theorem stN_ok {fs : Int} {rs : List Ru} (h0 : 0 ≤ fs) (h1 : fs ≤ 999982) (hr : ∀ r ∈ rs, r.Ok) : ∀ i, 0 ≤ stN fs rs i ∧ stN fs rs i ≤ 999982
  | 0 => ⟨h0, h1⟩
  | i + 1 => by
    obtain ⟨a, b⟩ := stN_ok h0 h1 hr i
    cases e : rs[i]? with
    | none =>
      have : stN fs rs (i + 1) = stN fs rs i := by
        unfold stN
        have hl : rs.length ≤ i := by simpa using e
        rw [List.take_of_length_le hl, List.take_of_length_le (by omega)]
      rw [this]; exact ⟨a, b⟩
    | some r =>
      rw [stN_succ e]
      exact Ru.fwd_ok (hr r (List.mem_of_getElem? e)) a b
theorem stL_succ {fs : Int} {rs : List Ru} {n : Nat} : stL fs rs (n + 1) = stL fs rs n ++ [stN fs rs n] := by simp [stL, List.range_succ]
theorem stL_len {fs : Int} {rs : List Ru} {n : Nat} : (stL fs rs n).length = n := by simp [stL]
theorem stL_last {fs : Int} {rs : List Ru} {n : Nat} : ((stL fs rs (n + 1)).map V.int)[n]? = some (.int (stN fs rs n)) := by
  rw [stL_succ, List.map_append, List.getElem?_append_right (by simp [stL_len])]
  simp [stL_len]
theorem s_law_states (hK : Kc c) (hq : c.q = true) {fs : Int} {a : Addr} {rs : List Ru} (h0 : 0 ≤ fs) (h1 : fs ≤ 999982) (hr : ∀ r ∈ rs, r.Ok) (hl : rs.length ≤ 1000) (hg : get st a = some (.list (rs.map Ru.v)))
    (h : ∀ d st', Le st st' → get st d = none → get st' d = some (.list ((stL fs rs (rs.length + 1)).map .int)) → Q (.ref d) st') : CF c (k + 2) A_law_states [.int fs, .ref a] ρ st Q X := by
  refine CallW.fn (Facts.fn_law_states hK) rfl ?_
  ((refine WPS.cons ?_); (repeat' (first | (with_reducible refine WPEs.nil ?_) | ((with_reducible refine WPEs.cons ?_ ?_); (case refine_2 => intros; rfl)) | ((with_reducible refine WPs.asg ?_ ?_ ?_); (case refine_2 => rfl); (case refine_3 => intros; rfl)) | ((with_reducible refine WPE.lst ?_ ?_); (case refine_2 => decide)) | ((with_reducible refine' WPE.nm ?_ ?_ ?_ ?_); (case refine'_2 => rfl); (case refine'_4 => decide); (case refine'_5 => decide)) | fail)))
  intro d hd
  (repeat' (first | (with_reducible first | refine nxt_next ?_ | refine WPS.cons ?_) | ((with_reducible refine WPs.for ‹_› ?_ ?_ ?_); (case refine_2 => rfl); (case refine_3 => intros; rfl)) | ((with_reducible refine' WPE.nm ?_ ?_ ?_ ?_); (case refine'_2 => rfl); (case refine'_4 => decide); (case refine'_5 => decide)) | fail))
  refine ⟨_, .list ((Le.alloc hd) _ _ hg), ?_⟩
  refine FOR.inv (fun i ρ₁ st₁ => Le st st₁ ∧ get st₁ d = some (.list ((stL fs rs (i + 1)).map .int)) ∧ ρ₁ = ([("_law_first", .int fs), ("_law_rules", .ref a), ("_law_found", .ref d)] : Loc)) ⟨Le.alloc hd, get_head, rfl⟩ ?_ ?_
  · rintro i y ρ₁ st₁ hy ⟨hle, hgd, rfl⟩
    rw [List.getElem?_map] at hy
    obtain ⟨r, hri, rfl⟩ := Option.map_eq_some_iff.mp hy
    have hil : i < rs.length := by
      rcases Nat.lt_or_ge i rs.length with q | q
      · exact q
      · rw [List.getElem?_eq_none q] at hri; cases hri
    obtain ⟨a0, a1⟩ := stN_ok h0 h1 hr i
    ((refine WPS.cons ?_); (repeat' (first | ((with_reducible refine WPs.expr ?_ ?_); (case refine_2 => intros; rfl)) | ((with_reducible refine' WPE.nm ?_ ?_ ?_ ?_); (case refine'_2 => rfl); (case refine'_4 => decide); (case refine'_5 => decide)) | ((with_reducible refine WPE.mAppend ?_ ?_ ?_); (case refine_2 => rfl); (case refine_3 => intros; exact ⟨_, rfl⟩)) | fail)))
    refine ⟨_, _, rfl, hgd, ?_⟩
    (repeat' (first | (with_reducible first | refine WPE.cint ?_ | refine WPE.un ?_ | refine W1.negI ?_) | ((with_reducible refine WPEs.cons ?_ ?_); (case refine_2 => intros; rfl)) | ((with_reducible refine c_law_forth ‹_› ?_ ?_ ?_); (case refine_1 => rfl); (case refine_3 => intros; rfl)) | (with_reducible refine WPE.sub ?_) | ((with_reducible refine' WPE.nm ?_ ?_ ?_ ?_); (case refine'_2 => rfl); (case refine'_4 => decide); (case refine'_5 => decide)) | fail))
    refine W2.subList hgd rfl (by simp [stL_len]; omega) (seqIndex_neg (by decide) (by simp [stL_len]; omega)) (v := .int (stN fs rs i)) (by rw [show ((-1 + (((stL fs rs (i + 1)).map V.int).length : Int)).toNat) = i by simp [stL_len]; omega]; exact stL_last) ?_
    (repeat' (first | (with_reducible refine WPEs.nil ?_) | fail))
    refine s_law_forth hK (hr r (List.mem_of_getElem? hri)) a0 a1 ?_
    (repeat' (first | (with_reducible refine WPEs.nil ?_) | fail))
    refine WL.append hgd (by simp [stL_len]; omega) ?_
    (repeat' (first | (with_reducible first | refine nxt_next ?_ | refine WPS.nil ?_) | fail))
    refine lp_next ⟨_, Sub.of (by intro p hp; simp at hp; rcases hp with rfl | rfl | rfl <;> rfl), ?_, hle.upd hd, ?_, rfl⟩
    · exact .list ((hle.upd hd) _ _ hg)
    · rw [get_upd_self hgd, stL_succ (n := i + 1), stN_succ hri]; simp
  · rintro ρ₁ st₁ ⟨hle, hgd, rfl⟩
    (repeat' (first | (with_reducible first | refine nxt_next ?_ | refine nxt_ret ?_ | refine WPS.cons ?_ | refine WPs.ret ?_) | ((with_reducible refine' WPE.nm ?_ ?_ ?_ ?_); (case refine'_2 => rfl); (case refine'_4 => decide); (case refine'_5 => decide)) | fail))
    rw [List.length_map] at hgd
    exact h d st₁ hle hd hgd
end

/-- deeds -/
inductive Dd where
  | keep
  | meet
  | take (n : Nat)
  | drop (n : Nat)
  | go (n : Nat)
noncomputable def byOne (p : Nat) : Nat → List Dd
  | 0 => [.meet]
  | s + 1 => .go (s + 1) :: .meet :: .take p :: byOne p s
/-- what met_from may tell -/
inductive MF (T : Nat → Nat → Nat) : Nat → Nat → Nat → List Dd → Prop
  | one {r p s : Nat} : s = 0 ∨ r = 1 → MF T r p s (byOne p s)
  | more {r p s a : Nat} {l₁ l₂ : List Dd} : 2 ≤ r → 1 ≤ a → a ≤ s → a + T (r - 1) (s - a) + T r (a - 1) = T r s → MF T (r - 1) (p + a) (s - a) l₁ → MF T r p (a - 1) l₂ →
      MF T r p s (.go a :: .keep :: (l₁ ++ (.drop (p + a) :: .take p :: l₂)))
/-- a walk -/
structure Sg where
  place : Nat
  marks : List Nat
  want : Nat
  cost : Nat
noncomputable def stp (room steps : Nat) (g : Sg) : Dd → Option Sg
  | .keep => if g.place ∉ g.marks ∧ g.marks.length < room then some { g with marks := g.marks ++ [g.place] } else none
  | .meet => if g.want = g.place + 1 then some { g with want := g.place } else none
  | .take n => if n ∈ g.marks then some { g with place := n } else none
  | .drop n => if n ∈ g.marks then some { g with marks := g.marks.filter fun x => !decide (x = n) } else none
  | .go n => if 0 < n ∧ g.place + n ≤ steps then some { g with place := g.place + n, cost := g.cost + n } else none
noncomputable def run (room steps : Nat) : Sg → List Dd → Option Sg
  | g, [] => some g
  | g, d :: ds => match stp room steps g d with
    | some g' => run room steps g' ds
    | none => none
theorem run_cons {room steps : Nat} {g g' : Sg} {d : Dd} {ds : List Dd} (h : stp room steps g d = some g') : run room steps g (d :: ds) = run room steps g' ds := by
  show (match stp room steps g d with | some g' => run room steps g' ds | none => none) = _
  rw [h]
theorem run_app {room steps : Nat} {g g' : Sg} {l r : List Dd} (h : run room steps g l = some g') : run room steps g (l ++ r) = run room steps g' r := by
  induction l generalizing g with
  | nil => cases h; rfl
  | cons d l ih =>
    cases e : stp room steps g d with
    | none => rw [run, e] at h; cases h
    | some g₁ => rw [run_cons e] at h; rw [List.cons_append, run_cons e]; exact ih h
theorem stp_keep {room steps : Nat} {g : Sg} (h1 : g.place ∉ g.marks) (h2 : g.marks.length < room) : stp room steps g .keep = some { g with marks := g.marks ++ [g.place] } := if_pos ⟨h1, h2⟩
theorem stp_meet {room steps : Nat} {g : Sg} (h1 : g.want = g.place + 1) : stp room steps g .meet = some { g with want := g.place } := if_pos h1
theorem stp_take {room steps n : Nat} {g : Sg} (h1 : n ∈ g.marks) : stp room steps g (.take n) = some { g with place := n } := if_pos h1
theorem stp_drop {room steps n : Nat} {g : Sg} (h1 : n ∈ g.marks) : stp room steps g (.drop n) = some { g with marks := g.marks.filter fun x => !decide (x = n) } := if_pos h1
theorem stp_go {room steps n : Nat} {g : Sg} (h1 : 0 < n) (h2 : g.place + n ≤ steps) : stp room steps g (.go n) = some { g with place := g.place + n, cost := g.cost + n } := if_pos ⟨h1, h2⟩
noncomputable def tri : Nat → Nat
  | 0 => 0
  | s + 1 => (s + 1) + tri s
theorem one_run {room steps p : Nat} : ∀ {s : Nat} {g : Sg}, g.place = p → p ∈ g.marks → g.want = p + s + 1 → p + s ≤ steps → run room steps g (byOne p s) = some ⟨p, g.marks, p, g.cost + tri s⟩
  | 0, ⟨pl, m, w, co⟩, h1, h2, h3, h4 => by
    dsimp at h1 h2 h3
    subst h1
    rw [byOne, run_cons (stp_meet (by dsimp; omega))]; rfl
  | s + 1, ⟨pl, m, w, co⟩, h1, h2, h3, h4 => by
    dsimp at h1 h2 h3
    subst h1
    rw [byOne, run_cons (stp_go (by omega) (by dsimp; omega)), run_cons (stp_meet (by dsimp; omega)), run_cons (stp_take h2)]
    rw [one_run (p := pl) (s := s) rfl h2 (by dsimp; omega) (by omega)]
    show some (Sg.mk pl m pl (co + (s + 1) + tri s)) = some (Sg.mk pl m pl (co + (s + 1 + tri s)))
    rw [Nat.add_assoc]
theorem filt_last {l : List Nat} {x : Nat} (h : x ∉ l) : (l ++ [x]).filter (fun y => !decide (y = x)) = l := by
  rw [List.filter_append, List.filter_eq_self.mpr (fun y hy => by simp; exact fun e => h (e ▸ hy))]
  simp
theorem mf_run {T : Nat → Nat → Nat} {room steps : Nat} (hT1 : ∀ s, s ≤ steps → T 1 s = tri s) (hT0 : ∀ r, 1 ≤ r → r ≤ room → T r 0 = 0) {r p s : Nat} {ds : List Dd} (h : MF T r p s ds) :
    1 ≤ r → ∀ g : Sg, g.place = p → p ∈ g.marks → (∀ x ∈ g.marks, x ≤ p) → g.marks.length + r ≤ room + 1 → g.want = p + s + 1 → p + s ≤ steps → run room steps g ds = some ⟨p, g.marks, p, g.cost + T r s⟩ := by
  induction h with
  | @one r p s h =>
    rintro h0 ⟨pl, m, w, co⟩ h1 h2 h3 h4 h5 h6
    dsimp at h1 h2 h3 h4 h5
    rw [one_run h1 h2 h5 h6]
    rcases h with h | h
    · subst h
      have hm : 1 ≤ m.length := List.length_pos_iff.mpr (List.ne_nil_of_mem h2)
      rw [hT0 r h0 (by omega)]; rfl
    · subst h; rw [hT1 s (by omega)]
  | @more r p s a l₁ l₂ hr ha1 ha2 hT _ _ ih₁ ih₂ =>
    rintro h0 ⟨pl, m, w, co⟩ h1 h2 h3 h4 h5 h6
    dsimp at h1 h2 h3 h4 h5
    subst h1
    have hm : 1 ≤ m.length := List.length_pos_iff.mpr (List.ne_nil_of_mem h2)
    have hn : pl + a ∉ m := fun q => by have := h3 _ q; omega
    rw [run_cons (stp_go (by omega) (by dsimp; omega)), run_cons (stp_keep hn (by dsimp; omega))]
    rw [run_app (ih₁ (by omega) _ rfl (by simp) (by intro x hx; simp at hx; rcases hx with hx | hx; have := h3 x hx; omega; omega) (by simp; omega) (by dsimp; omega) (by omega))]
    rw [run_cons (stp_drop (by simp)), run_cons (stp_take (by dsimp; rw [filt_last hn]; exact h2))]
    dsimp
    rw [filt_last hn]
    rw [ih₂ h0 _ rfl h2 h3 h4 (by dsimp; omega) (by omega)]
    congr 2
    dsimp
    omega
theorem one_len {p : Nat} : ∀ {s : Nat}, (byOne p s).length = 3 * s + 1
  | 0 => rfl
  | s + 1 => by simp [byOne, one_len (s := s)]; omega
theorem mf_len {T : Nat → Nat → Nat} {r p s : Nat} {ds : List Dd} (h : MF T r p s ds) : ds.length ≤ 5 * s + 1 := by
  induction h with
  | one _ => rw [one_len]; omega
  | more _ _ _ _ _ _ ih₁ ih₂ => simp; omega
/-- what plan tells -/
noncomputable def PlanOk (T : Nat → Nat → Nat) (S r : Nat) (ds : List Dd) : Prop := (S = 0 ∧ ds = [.meet]) ∨ (1 ≤ S ∧ ∃ l, MF T r 0 S l ∧ ds = .keep :: l)
theorem plan_run {T : Nat → Nat → Nat} {S r : Nat} (hT1 : ∀ s, s ≤ S → T 1 s = tri s) (hT0 : ∀ q, 1 ≤ q → q ≤ r → T q 0 = 0) (h1 : 1 ≤ r) {ds : List Dd} (h : PlanOk T S r ds) : ∃ m, run r S ⟨0, [], S + 1, 0⟩ ds = some ⟨0, m, 0, T r S⟩ := by
  rcases h with ⟨rfl, rfl⟩ | ⟨hs, l, hl, rfl⟩
  · refine ⟨[], ?_⟩
    rw [run_cons (stp_meet rfl), hT0 r h1 (Nat.le_refl _)]; rfl
  · refine ⟨[0], ?_⟩
    rw [run_cons (stp_keep (by simp) (by dsimp; omega))]
    rw [mf_run hT1 hT0 hl h1 _ rfl (by simp) (by simp) (by simp; omega) (by dsimp; omega) (by omega)]
    simp
theorem plan_len {T : Nat → Nat → Nat} {S r : Nat} {ds : List Dd} (h : PlanOk T S r ds) : ds.length ≤ 5 * S + 2 := by
  rcases h with ⟨rfl, rfl⟩ | ⟨_, l, hl, rfl⟩
  · simp
  · have := mf_len hl; simp; omega

/-- least costs -/
noncomputable def TF (r s : Nat) : Nat := (TT r).getD s 0
/-- deeds as they lie -/
noncomputable def deedV : Dd → V
  | .keep => .tup [.str "keep"]
  | .meet => .tup [.str "meet"]
  | .take n => .tup [.str "take", .int n]
  | .drop n => .tup [.str "drop", .int n]
  | .go n => .tup [.str "go", .int n]

section
variable {st : St}
noncomputable def dnTo (s : Nat) : List V := (List.range s).map fun i => V.int ((s - i : Nat) : Int)
theorem Src.dn {s : Nat} (hs : s < 1000000) : Src st (.rng (s : Int) 0 (-1)) (dnTo s) := by
  have e : Builtin.Range.rangeSize (s : Int) 0 (-1) = s := by
    unfold Builtin.Range.rangeSize
    rw [if_neg (by decide), show (- -1 : Int) = 1 from rfl, Int.ediv_one]
    split <;> omega
  have h : dnTo s = rngItems (s : Int) 0 (-1) := by
    unfold dnTo rngItems
    rw [e, Int.toNat_natCast]
    refine List.map_congr_left fun i hi => ?_
    have := List.mem_range.mp hi
    congr 1
    omega
  rw [h]
  refine .rng ?_
  unfold Builtin.Range.small Builtin.Range.rangeFitsLong
  rw [e]
  simp
  omega
theorem dnTo_len {s : Nat} : (dnTo s).length = s := by simp [dnTo]
theorem dnTo_get {s i : Nat} {u : V} (h : (dnTo s)[i]? = some u) : i < s ∧ u = .int ((s - i : Nat) : Int) := by
  unfold dnTo at h
  rw [List.getElem?_map] at h
  obtain ⟨j, hj, rfl⟩ := Option.map_eq_some_iff.mp h
  obtain ⟨h1, h2⟩ := List.getElem?_eq_some_iff.mp hj
  simp at h1 h2
  subst h2
  exact ⟨h1, rfl⟩
end
theorem bestP_mem : ∀ {l : List (Int × Int)} {m : Int × Int}, bestP m l ∈ m :: l
  | [], m => by simp [bestP]
  | x :: l, m => by
    have h := bestP_mem (l := l) (m := if ltP x m then x else m)
    show bestP (if ltP x m then x else m) l ∈ _
    split at h <;> rcases List.mem_cons.mp h with q | q <;> simp_all
theorem bestP_le : ∀ {l : List (Int × Int)} {m y : Int × Int}, y ∈ m :: l → (bestP m l).1 ≤ y.1
  | [], m, y, h => by simp at h; subst h; exact Int.le_refl _
  | x :: l, m, y, h => by
    have hm : (bestP (if ltP x m then x else m) l).1 ≤ (if ltP x m then x else m).1 := bestP_le (by simp)
    show (bestP (if ltP x m then x else m) l).1 ≤ y.1
    have hx : (if ltP x m then x else m).1 ≤ x.1 ∧ (if ltP x m then x else m).1 ≤ m.1 := by
      unfold ltP
      by_cases e : x.1 = m.1 <;> by_cases e2 : x.2 < m.2 <;> by_cases e3 : x.1 < m.1 <;> simp [e, e2, e3] <;> omega
    rcases List.mem_cons.mp h with q | q
    · subst q; omega
    · rcases List.mem_cons.mp q with q | q
      · subst q; omega
      · exact bestP_le (List.mem_cons_of_mem _ q)
section
variable {c : Cx} {k : Nat} {ρ : Loc} {st : St} {Q : V → St → Prop} {X : Xp}
noncomputable def candP (r s i : Nat) : List (Int × Int) := (List.range i).map fun j => (candV (TT (r - 1)) (TT r) s (1 + j), ((1 + j : Nat) : Int))
theorem s_best_ahead (hK : Kc c) (hq : c.q = true) {a : Addr} {S R s r : Nat} (hR : Rows st a S R) (hS : S ≤ 100) (h1 : 1 ≤ s) (h2 : s ≤ S) (hr : 2 ≤ r) (hr2 : r ≤ R) (hR2 : R ≤ 12)
    (h : ∀ x st', Le st st' → 1 ≤ x → x ≤ s → x + TF (r - 1) (s - x) + TF r (x - 1) = TF r s → Q (.int (x : Nat)) st') : CF c (k + 1) A_best_ahead [.ref a, .int s, .int r] ρ st Q X := by
  obtain ⟨bs, hb1, hb2, hb3, hb4⟩ := hR.ex
  obtain ⟨b, hb⟩ : ∃ b, bs[r - 2]? = some b := ⟨_, List.getElem?_eq_getElem (by omega)⟩
  obtain ⟨b', hb'⟩ : ∃ b, bs[r - 1]? = some b := ⟨_, List.getElem?_eq_getElem (by omega)⟩
  have gb := hb3 _ _ hb
  have gb' := hb3 _ _ hb'
  rw [show r - 2 + 1 = r - 1 by omega] at gb
  rw [show r - 1 + 1 = r by omega] at gb'
  refine CallW.fn (Facts.fn_best_ahead hK) rfl ?_
  ((refine WPS.cons ?_); (repeat' (first | (with_reducible refine WPEs.nil ?_) | ((with_reducible refine WPs.asg ?_ ?_ ?_); (case refine_2 => rfl); (case refine_3 => intros; rfl)) | ((with_reducible refine WPE.lst ?_ ?_); (case refine_2 => decide)) | fail)))
  intro cs hcs
  (repeat' (first | (with_reducible first | refine WPE.cint ?_ | refine WPE.bin ?_ | refine Mine.W2.addI ?_ | refine nxt_next ?_ | refine WPS.cons ?_ | refine WPEs.nil ?_) | ((with_reducible refine WPEs.cons ?_ ?_); (case refine_2 => intros; rfl)) | ((with_reducible refine WPs.for ‹_› ?_ ?_ ?_); (case refine_2 => rfl); (case refine_3 => intros; rfl)) | ((with_reducible refine c_range ‹_› ?_ ?_ ?_); (case refine_1 => rfl); (case refine_3 => intros; rfl)) | ((with_reducible refine' WPE.nm ?_ ?_ ?_ ?_); (case refine'_2 => rfl); (case refine'_4 => decide); (case refine'_5 => decide)) | fail))
  refine WL.range2 ⟨_, Src.up 1 s rfl (by omega) (by omega), ?_⟩
  refine FOR.inv (fun i ρ₁ st₁ => ρ₁ = ([("rows", .ref a), ("steps", .int s), ("room", .int r), ("costs", .ref cs)] : Loc) ∧ Le st st₁ ∧ get st₁ cs = some (.list ((candP r s i).map pairV))) ⟨rfl, Le.alloc hcs, get_head⟩ ?_ ?_
  · rintro i u ρ₁ st₁ hu ⟨rfl, hle, hr'⟩
    obtain ⟨hi, rfl⟩ := upTo_get hu
    ((refine WPS.cons ?_); (repeat' (first | ((with_reducible refine WPs.expr ?_ ?_); (case refine_2 => intros; rfl)) | ((with_reducible refine' WPE.nm ?_ ?_ ?_ ?_); (case refine'_2 => rfl); (case refine'_4 => decide); (case refine'_5 => decide)) | ((with_reducible refine WPE.mAppend ?_ ?_ ?_); (case refine_2 => rfl); (case refine_3 => intros; exact ⟨_, rfl⟩)) | fail)))
    refine ⟨_, _, rfl, hr', ?_⟩
    (repeat' (first | (with_reducible first | refine WPE.cint ?_ | refine WPE.bin ?_ | refine Mine.W2.subI ?_) | ((with_reducible refine WPEs.cons ?_ ?_); (case refine_2 => intros; rfl)) | (with_reducible refine WPE.sub ?_) | ((with_reducible refine WPE.tup ?_ ?_); (case refine_2 => decide)) | ((with_reducible refine' WPE.nm ?_ ?_ ?_ ?_); (case refine'_2 => rfl); (case refine'_4 => decide); (case refine'_5 => decide)) | fail))
    refine W2.subList (hle _ _ hb1) rfl (by simp; omega) (seqIndex_pos (by omega) (by simp; omega)) (v := .ref b) (by rw [List.getElem?_map, show ((r : Int) - 2).toNat = r - 2 by omega, hb]; rfl) ?_
    (repeat' (first | (with_reducible first | refine WPE.bin ?_ | refine Mine.W2.subI ?_) | ((with_reducible refine' WPE.nm ?_ ?_ ?_ ?_); (case refine'_2 => rfl); (case refine'_4 => decide); (case refine'_5 => decide)) | fail))
    refine W2.subList (hle _ _ gb) rfl (by rw [rowV_len]; omega) (seqIndex_pos (by omega) (by rw [rowV_len]; omega)) (rowV_get (by omega)) ?_
    (repeat' (first | (with_reducible first | refine WPE.cint ?_ | refine WPE.bin ?_ | refine Mine.W2.addI ?_ | refine Mine.W2.subI ?_ | refine WPE.sub ?_) | ((with_reducible refine' WPE.nm ?_ ?_ ?_ ?_); (case refine'_2 => rfl); (case refine'_4 => decide); (case refine'_5 => decide)) | fail))
    refine W2.subList (hle _ _ hb1) rfl (by simp; omega) (seqIndex_pos (by omega) (by simp; omega)) (v := .ref b') (by rw [List.getElem?_map, show ((r : Int) - 1).toNat = r - 1 by omega, hb']; rfl) ?_
    (repeat' (first | (with_reducible first | refine WPE.cint ?_ | refine WPE.bin ?_ | refine Mine.W2.subI ?_) | ((with_reducible refine' WPE.nm ?_ ?_ ?_ ?_); (case refine'_2 => rfl); (case refine'_4 => decide); (case refine'_5 => decide)) | fail))
    refine W2.subList (hle _ _ gb') rfl (by rw [rowV_len]; omega) (seqIndex_pos (by omega) (by rw [rowV_len]; omega)) (rowV_get (by omega)) ?_
    (repeat' (first | (with_reducible first | refine Mine.W2.addI ?_ | refine WPEs.nil ?_) | ((with_reducible refine WPEs.cons ?_ ?_); (case refine_2 => intros; rfl)) | ((with_reducible refine' WPE.nm ?_ ?_ ?_ ?_); (case refine'_2 => rfl); (case refine'_4 => decide); (case refine'_5 => decide)) | fail))
    refine WL.append hr' (by simp [candP]; omega) ?_
    (repeat' (first | (with_reducible first | refine nxt_next ?_ | refine WPS.nil ?_) | fail))
    refine lp_next ⟨_, .cons rfl (.cons rfl (.cons rfl (.cons rfl .nil))), Src.up 1 s rfl (by omega) (by omega), rfl, hle.upd hcs, ?_⟩
    rw [get_upd_self hr']
    unfold candP
    rw [List.range_succ, List.map_append, List.map_append]
    simp only [List.map_cons, List.map_nil, pairV, candV]
    rw [show ((s : Int) - ((1 + i : Nat) : Int)).toNat = s - (1 + i) by omega, show (((1 + i : Nat) : Int) - 1).toNat = 1 + i - 1 by omega]
  · rintro ρ₁ st₁ ⟨rfl, hle, hr'⟩
    rw [upTo_len] at hr'
    (repeat' (first | (with_reducible first | refine nxt_next ?_ | refine WPS.cons ?_ | refine WPEs.nil ?_ | refine WPs.ret ?_) | ((with_reducible refine WPEs.cons ?_ ?_); (case refine_2 => intros; rfl)) | ((with_reducible refine c_min ‹_› ?_ ?_ ?_); (case refine_1 => rfl); (case refine_3 => intros; rfl)) | (with_reducible refine WPE.sub ?_) | ((with_reducible refine' WPE.nm ?_ ?_ ?_ ?_); (case refine'_2 => rfl); (case refine'_4 => decide); (case refine'_5 => decide)) | fail))
    have hx : ∀ y ∈ candP r s s, ∃ x : Nat, 1 ≤ x ∧ x ≤ s ∧ y = (candV (TT (r - 1)) (TT r) s x, (x : Int)) := by
      intro y hy
      obtain ⟨j, hj, rfl⟩ := List.mem_map.mp hy
      have := List.mem_range.mp hj
      exact ⟨1 + j, by omega, by omega, rfl⟩
    have hx' : ∀ x : Nat, 1 ≤ x → x ≤ s → (candV (TT (r - 1)) (TT r) s x, (x : Int)) ∈ candP r s s := by
      intro x q1 q2
      refine List.mem_map.mpr ⟨x - 1, List.mem_range.mpr (by omega), ?_⟩
      rw [show 1 + (x - 1) = x by omega]
    obtain ⟨p, ps, e⟩ : ∃ p ps, candP r s s = p :: ps := by
      cases q : candP r s s with
      | nil => have := congrArg List.length q; simp [candP] at this; omega
      | cons p ps => exact ⟨p, ps, rfl⟩
    rw [e] at hr' hx hx'
    refine WL.minPairs hq hr' ?_
    obtain ⟨x, q1, q2, q3⟩ := hx _ bestP_mem
    have hup := up_all (r - 1) (by omega) (by omega)
    rw [show r - 1 + 1 = r by omega] at hup
    obtain ⟨hlow, a₀, p1, p2, p3⟩ := hup s h1 (by omega)
    have e1 := bestP_le (hx' a₀ p1 p2)
    have e2 := hlow x q1 q2
    rw [q3] at e1 ⊢
    simp only [pairV]
    (repeat' (first | (with_reducible first | refine WPE.cint ?_ | refine nxt_ret ?_) | ((with_reducible refine' Mine.W2.tupAt ?_ ?_ ?_ ?_); (case refine'_2 => rfl); (case refine'_3 => rfl); (case refine'_4 => rfl)) | fail))
    refine h x st₁ hle q1 q2 ?_
    unfold TF
    simp only [candV] at e1
    omega
theorem s_by_one (hK : Kc c) (hq : c.q = true) {p s : Nat} (hs : s ≤ 100) (h : ∀ a st', Le st st' → get st' a = some (.list ((byOne p s).map deedV)) → get st a = none → Q (.ref a) st') : CF c (k + 1) A_by_one [.int p, .int s] ρ st Q X := by
  refine CallW.fn (Facts.fn_by_one hK) rfl ?_
  ((refine WPS.cons ?_); (repeat' (first | (with_reducible refine WPEs.nil ?_) | ((with_reducible refine WPs.asg ?_ ?_ ?_); (case refine_2 => rfl); (case refine_3 => intros; rfl)) | ((with_reducible refine WPE.lst ?_ ?_); (case refine_2 => decide)) | fail)))
  intro f0 hf0
  (repeat' (first | (with_reducible first | refine WPE.cint ?_ | refine WPE.un ?_ | refine W1.negI ?_ | refine nxt_next ?_ | refine WPS.cons ?_ | refine WPEs.nil ?_) | ((with_reducible refine WPEs.cons ?_ ?_); (case refine_2 => intros; rfl)) | ((with_reducible refine WPs.for ‹_› ?_ ?_ ?_); (case refine_2 => rfl); (case refine_3 => intros; rfl)) | ((with_reducible refine c_range ‹_› ?_ ?_ ?_); (case refine_1 => rfl); (case refine_3 => intros; rfl)) | ((with_reducible refine' WPE.nm ?_ ?_ ?_ ?_); (case refine'_2 => rfl); (case refine'_4 => decide); (case refine'_5 => decide)) | fail))
  refine WL.range3 (by decide) (by decide) ⟨_, Src.dn (by omega), ?_⟩
  refine FOR.inv (fun i ρ₁ st₁ => ∃ a l, ρ₁ = ([("place", .int p), ("steps", .int s), ("found", .ref a)] : Loc) ∧ Le st st₁ ∧ get st₁ a = some (.list (l.map deedV)) ∧ l.length ≤ 3 * i ∧ l ++ byOne p (s - i) = byOne p s ∧ i ≤ s) ⟨f0, [], rfl, Le.alloc hf0, get_head, by simp, rfl, Nat.zero_le _⟩ ?_ ?_
  · rintro i u ρ₁ st₁ hu ⟨a, l, rfl, hle, hg, hl, he, his⟩
    obtain ⟨hi, rfl⟩ := dnTo_get hu
    ((refine WPS.cons ?_); (repeat' (first | (with_reducible first | refine WPE.cstr ?_ | refine WPE.bin ?_ | refine WPEs.nil ?_) | ((with_reducible refine WPEs.cons ?_ ?_); (case refine_2 => intros; rfl)) | ((with_reducible refine WPs.asg ?_ ?_ ?_); (case refine_2 => rfl); (case refine_3 => intros; rfl)) | ((with_reducible refine WPE.tup ?_ ?_); (case refine_2 => decide)) | ((with_reducible refine WPE.lst ?_ ?_); (case refine_2 => decide)) | ((with_reducible refine' WPE.nm ?_ ?_ ?_ ?_); (case refine'_2 => rfl); (case refine'_4 => decide); (case refine'_5 => decide)) | fail)))
    intro b hb
    skip
    refine W2.addList ((Le.alloc hb) _ _ hg) get_head (small_ok' (by simp; omega)) ?_
    intro d hd
    (repeat' (first | (with_reducible first | refine nxt_next ?_ | refine WPS.nil ?_) | fail))
    refine lp_next ⟨_, .cons rfl (.cons rfl (.cons rfl .nil)), Src.dn (by omega), d, l ++ [.go (s - i), .meet, .take p], rfl, (hle.cons hb).cons hd, ?_, by simp; omega, ?_, hi⟩
    · rw [get_head, List.map_append]; rfl
    · obtain ⟨j, hj⟩ : ∃ j, s - i = j + 1 := ⟨s - i - 1, by omega⟩
      rw [← he, hj, show s - (i + 1) = j by omega]
      simp [byOne]
  · rintro ρ₁ st₁ ⟨a, l, rfl, hle, hg, hl, he, his⟩
    rw [dnTo_len] at hl he
    (repeat' (first | (with_reducible first | refine WPE.cstr ?_ | refine WPE.bin ?_ | refine nxt_next ?_ | refine WPS.cons ?_ | refine WPEs.nil ?_ | refine WPs.ret ?_) | ((with_reducible refine WPEs.cons ?_ ?_); (case refine_2 => intros; rfl)) | ((with_reducible refine WPE.tup ?_ ?_); (case refine_2 => decide)) | ((with_reducible refine WPE.lst ?_ ?_); (case refine_2 => decide)) | ((with_reducible refine' WPE.nm ?_ ?_ ?_ ?_); (case refine'_2 => rfl); (case refine'_4 => decide); (case refine'_5 => decide)) | fail))
    intro b hb
    skip
    refine W2.addList ((Le.alloc hb) _ _ hg) get_head (small_ok' (by simp; omega)) ?_
    intro d hd
    refine h d _ ((hle.cons hb).cons hd) ?_ ((hle.cons hb).none hd)
    rw [get_head, ← he, Nat.sub_self, List.map_append]; rfl
theorem Rows.le {st' : St} {a : Addr} {S n : Nat} (h : Rows st a S n) (hle : Le st st') : Rows st' a S n := by
  obtain ⟨bs, q1, q2, q3, q4⟩ := h.ex
  exact ⟨bs, hle _ _ q1, q2, fun i b hb => hle _ _ (q3 i b hb), q4⟩
theorem s_met_from (hK : Kc c) (hq : c.q = true) {a : Addr} {S R : Nat} (hS : S ≤ 100) (hR2 : R ≤ 12) : ∀ (r : Nat) {p s : Nat} {ρ : Loc} {st : St} {Q : V → St → Prop} {X : Xp}, Rows st a S R → 1 ≤ r → r ≤ R → s ≤ S →
    (∀ b l st', Le st st' → MF TF r p s l → get st' b = some (.list (l.map deedV)) → get st b = none → Q (.ref b) st') → CF c (k + 1 + r) A_met_from [.ref a, .int p, .int s, .int r] ρ st Q X
  | 0, p, s, ρ, st, Q, X, hR, h1, h2, hs, h => by omega
  | r + 1, p, s, ρ, st, Q, X, hR, h1, h2, hs, h => by
    refine CallW.fn (k := k + 1 + r) (Facts.fn_met_from hK) rfl ?_
    ((refine WPS.cons ?_); (repeat' (first | (with_reducible refine WPEs.nil ?_) | ((with_reducible refine WPs.asg ?_ ?_ ?_); (case refine_2 => rfl); (case refine_3 => intros; rfl)) | ((with_reducible refine WPE.lst ?_ ?_); (case refine_2 => decide)) | fail)))
    intro f0 hf0
    (repeat' (first | (with_reducible first | refine nxt_next ?_ | refine WPS.cons ?_) | fail))
    refine WPs.while (fun n ρ₁ st₁ => ∃ b l, ρ₁ = ([("rows", .ref a), ("place", .int p), ("steps", .int n), ("room", .int ((r + 1 : Nat) : Int)), ("found", .ref b)] : Loc) ∧ n ≤ s ∧ Le st st₁ ∧ get st b = none ∧ get st₁ b = some (.list (l.map deedV)) ∧ l.length + 5 * n ≤ 5 * s ∧ ∀ l', MF TF (r + 1) p n l' → MF TF (r + 1) p s (l ++ l')) s ⟨f0, [], rfl, Nat.le_refl _, Le.alloc hf0, hf0, get_head, by simp, fun l' q => q⟩ ?_
    rintro n ρ₁ st₁ ⟨b, l, rfl, hn, hle, hnb, hg, hl, hm⟩
    have fin : (n = 0 ∨ r = 0) → WPS c (k + 1 + r) S_met_from [("rows", .ref a), ("place", .int p), ("steps", .int n), ("room", .int ((r + 1 : Nat) : Int)), ("found", .ref b)] st₁ (B_met_from.drop 2) (fun fl ρ' st' => Q (retV fl) st') (fun C _ st' => X C ρ st') := by
      intro hz
      ((refine WPS.cons ?_); (repeat' (first | (with_reducible first | refine WPE.bin ?_ | refine WPEs.nil ?_ | refine WPs.ret ?_) | ((with_reducible refine WPEs.cons ?_ ?_); (case refine_2 => intros; rfl)) | ((with_reducible refine c_by_one ‹_› ?_ ?_ ?_); (case refine_1 => rfl); (case refine_3 => intros; rfl)) | ((with_reducible refine' WPE.nm ?_ ?_ ?_ ?_); (case refine'_2 => rfl); (case refine'_4 => decide); (case refine'_5 => decide)) | fail)))
      refine WL.le (s_by_one (k := k) hK hq (by omega) ?_) (by omega)
      intro d st₂ hle₂ hg₂ hn₂
      refine W2.addList (hle₂ _ _ hg) hg₂ (small_ok' (by simp [one_len]; omega)) ?_
      intro e he
      refine h e _ _ ((hle.trans hle₂).cons he) (hm _ (.one (by omega))) ?_ ((hle.trans hle₂).none he)
      rw [get_head, List.map_append]
    (repeat' (first | (with_reducible first | refine WPE.cint ?_ | refine Mine.W2.gtI ?_ | refine WPAll.and ?_ | refine WPB.op ?_) | ((with_reducible refine WPB.cmp ?_ ?_); (case refine_2 => rfl)) | ((with_reducible refine' WPE.nm ?_ ?_ ?_ ?_); (case refine'_2 => rfl); (case refine'_4 => decide); (case refine'_5 => decide)) | (with_reducible refine ⟨_, rfl, ?_⟩) | fail))
    refine cnd_cases (fun hb => ?_) (fun hb => ?_)
    · have hn0 : 0 < n := by simpa using hb
      (repeat' (first | (with_reducible first | refine WPE.cint ?_ | refine Mine.W2.gtI ?_ | refine WPAll.and ?_) | ((with_reducible refine WPB.cmp ?_ ?_); (case refine_2 => rfl)) | ((with_reducible refine' WPE.nm ?_ ?_ ?_ ?_); (case refine'_2 => rfl); (case refine'_4 => decide); (case refine'_5 => decide)) | (with_reducible refine ⟨_, rfl, ?_⟩) | fail))
      refine cnd_cases (fun hb => ?_) (fun hb => ?_)
      · have hr0 : 0 < r := by have := of_decide_eq_true hb; omega
        (repeat' (first | (with_reducible first | refine WPAll.andNil ?_ | refine cnd_t ?_ | refine WPS.cons ?_ | refine WPEs.nil ?_) | ((with_reducible refine WPEs.cons ?_ ?_); (case refine_2 => intros; rfl)) | ((with_reducible refine WPs.asg ?_ ?_ ?_); (case refine_2 => rfl); (case refine_3 => intros; rfl)) | ((with_reducible refine c_best_ahead ‹_› ?_ ?_ ?_); (case refine_1 => rfl); (case refine_3 => intros; rfl)) | ((with_reducible refine' WPE.nm ?_ ?_ ?_ ?_); (case refine'_2 => rfl); (case refine'_4 => decide); (case refine'_5 => decide)) | fail))
        refine WL.le (s_best_ahead (k := k) hK hq (hR.le hle) hS (by omega) (by omega) (by omega) h2 hR2 ?_) (by omega)
        intro x st₂ hle₂ hx1 hx2 hx3
        (repeat' (first | (with_reducible first | refine WPE.cstr ?_ | refine WPE.bin ?_ | refine Mine.W2.addI ?_ | refine nxt_next ?_ | refine WPS.cons ?_ | refine WPEs.nil ?_) | ((with_reducible refine WPEs.cons ?_ ?_); (case refine_2 => intros; rfl)) | ((with_reducible refine WPs.asg ?_ ?_ ?_); (case refine_2 => rfl); (case refine_3 => intros; rfl)) | ((with_reducible refine WPE.tup ?_ ?_); (case refine_2 => decide)) | ((with_reducible refine WPE.lst ?_ ?_); (case refine_2 => decide)) | ((with_reducible refine' WPE.nm ?_ ?_ ?_ ?_); (case refine'_2 => rfl); (case refine'_4 => decide); (case refine'_5 => decide)) | fail))
        intro d hd
        skip
        refine W2.addList ((Le.alloc hd) _ _ (hle₂ _ _ hg)) get_head (small_ok' (by simp; omega)) ?_
        intro e he
        (repeat' (first | (with_reducible first | refine WPE.cint ?_ | refine WPE.bin ?_ | refine Mine.W2.subI ?_ | refine WPEs.nil ?_) | ((with_reducible refine WPEs.cons ?_ ?_); (case refine_2 => intros; rfl)) | ((with_reducible refine c_met_from ‹_› ?_ ?_ ?_); (case refine_1 => rfl); (case refine_3 => intros; rfl)) | ((with_reducible refine' WPE.nm ?_ ?_ ?_ ?_); (case refine'_2 => rfl); (case refine'_4 => decide); (case refine'_5 => decide)) | fail))
        have L3 := ((hle.trans hle₂).cons (o := .list [.tup [.str "go", .int x], .tup [.str "keep"]]) hd).cons (o := .list (l.map deedV ++ [.tup [.str "go", .int x], .tup [.str "keep"]])) he
        rw [show ((r + 1 : Nat) : Int) - 1 = (r : Int) by omega, show (p : Int) + (x : Int) = ((p + x : Nat) : Int) by omega, show (n : Int) - (x : Int) = ((n - x : Nat) : Int) by omega]
        refine s_met_from hK hq hS hR2 r (hR.le L3) (by omega) (by omega) (by omega) ?_
        intro m lm st₃ hle₃ hmf hgm hnm
        have hlm := mf_len hmf
        refine W2.addList (hle₃ _ _ get_head) hgm (small_ok' (by simp; omega)) ?_
        intro g hg3
        (repeat' (first | (with_reducible first | refine WPE.cstr ?_ | refine WPE.bin ?_ | refine nxt_next ?_ | refine WPS.cons ?_ | refine WPEs.nil ?_) | ((with_reducible refine WPEs.cons ?_ ?_); (case refine_2 => intros; rfl)) | ((with_reducible refine WPs.asg ?_ ?_ ?_); (case refine_2 => rfl); (case refine_3 => intros; rfl)) | ((with_reducible refine WPE.tup ?_ ?_); (case refine_2 => decide)) | ((with_reducible refine WPE.lst ?_ ?_); (case refine_2 => decide)) | ((with_reducible refine' WPE.nm ?_ ?_ ?_ ?_); (case refine'_2 => rfl); (case refine'_4 => decide); (case refine'_5 => decide)) | fail))
        intro u hu
        skip
        refine W2.addList ((Le.alloc hu) _ _ get_head) get_head (small_ok' (by simp; omega)) ?_
        intro v hv
        (repeat' (first | (with_reducible first | refine WPE.cint ?_ | refine WPE.bin ?_ | refine Mine.W2.subI ?_ | refine nxt_next ?_ | refine WPS.cons ?_ | refine WPS.nil ?_) | ((with_reducible refine WPs.asg ?_ ?_ ?_); (case refine_2 => rfl); (case refine_3 => intros; rfl)) | ((with_reducible refine' WPE.nm ?_ ?_ ?_ ?_); (case refine'_2 => rfl); (case refine'_4 => decide); (case refine'_5 => decide)) | fail))
        have L4 := ((L3.trans hle₃).cons (o := .list (l.map deedV ++ [.tup [.str "go", .int x], .tup [.str "keep"]] ++ lm.map deedV)) hg3).cons (o := .list [.tup [.str "drop", .int ((p + x : Nat) : Int)], .tup [.str "take", .int p]]) hu
        rw [show (x : Int) - 1 = ((x - 1 : Nat) : Int) by omega]
        refine lp_next ⟨x - 1, _, by omega, .cons rfl (.cons rfl (.cons rfl (.cons rfl (.cons rfl .nil)))), v, l ++ (.go x :: .keep :: (lm ++ [.drop (p + x), .take p])), rfl, by omega, L4.cons hv, L4.none hv, ?_, by simp; omega, ?_⟩
        · rw [get_head]; simp [deedV]
        · intro l' hl'
          have := hm _ (.more (by omega) hx1 hx2 hx3 hmf hl')
          simpa using this
      · have hr0 : r = 0 := by have := of_decide_eq_false hb; omega
        exact fin (.inr hr0)
    · have hn0 : n = 0 := by have := of_decide_eq_false hb; omega
      exact fin (.inl hn0)
theorem s_plan (hK : Kc c) (hq : c.q = true) {S r : Nat} (hS : S ≤ 100) (h1 : 1 ≤ r) (h2 : r ≤ 12) (h : ∀ b l st', Le st st' → PlanOk TF S r l → get st' b = some (.list (l.map deedV)) → get st b = none → Q (.ref b) st') : CF c (k + 14) A_plan [.int S, .int r] ρ st Q X := by
  refine CallW.fn (k := k + 13) (Facts.fn_plan hK) rfl ?_
  ((refine WPS.cons ?_); (repeat' (first | (with_reducible refine WPEs.nil ?_) | ((with_reducible refine WPEs.cons ?_ ?_); (case refine_2 => intros; rfl)) | ((with_reducible refine WPs.asg ?_ ?_ ?_); (case refine_2 => rfl); (case refine_3 => intros; rfl)) | ((with_reducible refine c_table ‹_› ?_ ?_ ?_); (case refine_1 => rfl); (case refine_3 => intros; rfl)) | ((with_reducible refine' WPE.nm ?_ ?_ ?_ ?_); (case refine'_2 => rfl); (case refine'_4 => decide); (case refine'_5 => decide)) | fail)))
  refine s_table (k := k + 10) hK hq hS h1 h2 ?_
  intro a st₁ hle hR ha
  (repeat' (first | (with_reducible first | refine WPE.cint ?_ | refine Mine.W2.eqI ?_ | refine nxt_next ?_ | refine WPS.cons ?_ | refine WPs.ifs ?_) | ((with_reducible refine WPB.cmp ?_ ?_); (case refine_2 => rfl)) | ((with_reducible refine' WPE.nm ?_ ?_ ?_ ?_); (case refine'_2 => rfl); (case refine'_4 => decide); (case refine'_5 => decide)) | (with_reducible refine ⟨_, rfl, ?_⟩) | fail))
  refine cnd_cases (fun hb => ?_) (fun hb => ?_)
  · have h0 : S = 0 := by have := of_decide_eq_true hb; omega
    subst h0
    (repeat' (first | (with_reducible first | refine WPE.cstr ?_ | refine WPS.cons ?_ | refine WPEs.nil ?_ | refine WPs.ret ?_) | ((with_reducible refine WPEs.cons ?_ ?_); (case refine_2 => intros; rfl)) | ((with_reducible refine WPE.tup ?_ ?_); (case refine_2 => decide)) | ((with_reducible refine WPE.lst ?_ ?_); (case refine_2 => decide)) | fail))
    intro d hd
    (repeat' (first | (with_reducible refine nxt_ret ?_) | fail))
    exact h d [.meet] _ (hle.cons hd) (.inl ⟨rfl, rfl⟩) get_head (hle.none hd)
  · have h0 : S ≠ 0 := by have := of_decide_eq_false hb; omega
    (repeat' (first | (with_reducible first | refine WPE.cstr ?_ | refine WPE.bin ?_ | refine nxt_next ?_ | refine WPS.cons ?_ | refine WPS.nil ?_ | refine WPEs.nil ?_ | refine WPs.ret ?_) | ((with_reducible refine WPEs.cons ?_ ?_); (case refine_2 => intros; rfl)) | ((with_reducible refine WPE.tup ?_ ?_); (case refine_2 => decide)) | ((with_reducible refine WPE.lst ?_ ?_); (case refine_2 => decide)) | fail))
    intro d hd
    (repeat' (first | (with_reducible first | refine WPE.cint ?_ | refine WPEs.nil ?_) | ((with_reducible refine WPEs.cons ?_ ?_); (case refine_2 => intros; rfl)) | ((with_reducible refine c_met_from ‹_› ?_ ?_ ?_); (case refine_1 => rfl); (case refine_3 => intros; rfl)) | ((with_reducible refine' WPE.nm ?_ ?_ ?_ ?_); (case refine'_2 => rfl); (case refine'_4 => decide); (case refine'_5 => decide)) | fail))
    refine WL.le (s_met_from (k := k) (p := 0) hK hq hS h2 r (hR.le (Le.alloc hd)) h1 (Nat.le_refl _) (Nat.le_refl _) ?_) (by omega)
    intro m lm st₂ hle₂ hmf hgm hnm
    have hlm := mf_len hmf
    refine W2.addList (hle₂ _ _ get_head) hgm (small_ok' (by simp; omega)) ?_
    intro g hg
    exact h g (.keep :: lm) _ (((hle.cons hd).trans hle₂).cons hg) (.inr ⟨by omega, lm, hmf, rfl⟩) get_head (((hle.cons hd).trans hle₂).none hg)
end

section
variable {c : Cx} {k : Nat} {sc : Scope} {ρ : Loc} {st : St} {Q : V → St → Prop} {X : Xp}
noncomputable def deedOk : Dd → Prop
  | .take n => n ≤ 100
  | .drop n => n ≤ 100
  | .go n => 1 ≤ n ∧ n ≤ 100
  | _ => True
theorem s_is_deed (hK : Kc c) {d : Dd} (hd : deedOk d) (h : Q (.bool true) st) : CF c (k + 2) A_is_deed [deedV d] ρ st Q X := by
  refine CallW.fn (Facts.fn_is_deed hK) rfl ?_
  cases d with
  | keep =>
    simp only [deedV]
    ((refine WPS.cons ?_); (repeat' (first | (with_reducible first | refine WPAll.or ?_ | refine cnd_t ?_ | refine cnd_f ?_ | refine WPEs.nil ?_ | refine WPs.ifs ?_ | refine WPB.op ?_ | refine WPB.not ?_) | ((with_reducible refine WPEs.cons ?_ ?_); (case refine_2 => intros; rfl)) | ((with_reducible refine WPB.cmp ?_ ?_); (case refine_2 => rfl)) | ((with_reducible refine n_tuple ‹_› ?_ ?_); (case refine_1 => rfl)) | ((with_reducible refine c_isinstance ‹_› ?_ ?_ ?_); (case refine_1 => rfl); (case refine_3 => intros; rfl)) | ((with_reducible refine c_len ‹_› ?_ ?_ ?_); (case refine_1 => rfl); (case refine_3 => intros; rfl)) | ((with_reducible refine' WPE.nm ?_ ?_ ?_ ?_); (case refine'_2 => rfl); (case refine'_4 => decide); (case refine'_5 => decide)) | ((with_reducible refine WPB.val ?_ ?_); (case refine_2 => intros; rfl)) | ((with_reducible refine cnd_is true ?_ ?_); (case refine_1 => rfl)) | (with_reducible refine ⟨_, rfl, ?_⟩) | ((with_reducible refine' WL.isinstance ?_ ?_ ?_); (case refine'_2 => rfl); (case refine'_3 => rfl)) | fail)))
    refine WL.lenTup (by simp) ?_
    (repeat' (first | (with_reducible first | refine WPE.cint ?_ | refine WPE.cstr ?_ | refine Mine.W2.eqI ?_ | refine WPAll.or ?_ | refine WPAll.orNil ?_ | refine nxt_next ?_ | refine cnd_t ?_ | refine cnd_f ?_ | refine WPS.cons ?_ | refine WPS.nil ?_ | refine WPEs.nil ?_ | refine WPs.ifs ?_ | refine WPB.not ?_) | ((with_reducible refine WPEs.cons ?_ ?_); (case refine_2 => intros; rfl)) | ((with_reducible refine WPB.cmp ?_ ?_); (case refine_2 => rfl)) | ((with_reducible refine n_str ‹_› ?_ ?_); (case refine_1 => rfl)) | ((with_reducible refine c_isinstance ‹_› ?_ ?_ ?_); (case refine_1 => rfl); (case refine_3 => intros; rfl)) | (with_reducible refine WPE.sub ?_) | ((with_reducible refine WPE.tup ?_ ?_); (case refine_2 => decide)) | ((with_reducible refine' WPE.nm ?_ ?_ ?_ ?_); (case refine'_2 => rfl); (case refine'_4 => decide); (case refine'_5 => decide)) | ((with_reducible refine WPB.val ?_ ?_); (case refine_2 => intros; rfl)) | ((with_reducible refine cnd_is true ?_ ?_); (case refine_1 => rfl)) | ((with_reducible refine cnd_is false ?_ ?_); (case refine_1 => rfl)) | ((with_reducible refine' Mine.W2.tupAt ?_ ?_ ?_ ?_); (case refine'_2 => rfl); (case refine'_3 => rfl); (case refine'_4 => rfl)) | (with_reducible refine ⟨_, rfl, ?_⟩) | ((with_reducible refine' WL.isinstance ?_ ?_ ?_); (case refine'_2 => rfl); (case refine'_3 => rfl)) | fail))
    refine W2.inStrs (ys := ["keep", "meet"]) rfl ?_
    (repeat' (first | (with_reducible first | refine cnd_t ?_ | refine WPS.cons ?_ | refine WPEs.nil ?_ | refine WPs.ret ?_) | ((with_reducible refine WPEs.cons ?_ ?_); (case refine_2 => intros; rfl)) | ((with_reducible refine WPE.cmp ?_ ?_); (case refine_2 => rfl)) | ((with_reducible refine c_len ‹_› ?_ ?_ ?_); (case refine_1 => rfl); (case refine_3 => intros; rfl)) | ((with_reducible refine' WPE.nm ?_ ?_ ?_ ?_); (case refine'_2 => rfl); (case refine'_4 => decide); (case refine'_5 => decide)) | ((with_reducible refine cnd_is true ?_ ?_); (case refine_1 => rfl)) | (with_reducible refine ⟨_, rfl, ?_⟩) | fail))
    refine WL.lenTup (by simp) ?_
    (repeat' (first | (with_reducible first | refine WPE.cint ?_ | refine Mine.W2.eqI ?_ | refine nxt_ret ?_) | fail))
    exact h
  | meet =>
    simp only [deedV]
    ((refine WPS.cons ?_); (repeat' (first | (with_reducible first | refine WPAll.or ?_ | refine cnd_t ?_ | refine cnd_f ?_ | refine WPEs.nil ?_ | refine WPs.ifs ?_ | refine WPB.op ?_ | refine WPB.not ?_) | ((with_reducible refine WPEs.cons ?_ ?_); (case refine_2 => intros; rfl)) | ((with_reducible refine WPB.cmp ?_ ?_); (case refine_2 => rfl)) | ((with_reducible refine n_tuple ‹_› ?_ ?_); (case refine_1 => rfl)) | ((with_reducible refine c_isinstance ‹_› ?_ ?_ ?_); (case refine_1 => rfl); (case refine_3 => intros; rfl)) | ((with_reducible refine c_len ‹_› ?_ ?_ ?_); (case refine_1 => rfl); (case refine_3 => intros; rfl)) | ((with_reducible refine' WPE.nm ?_ ?_ ?_ ?_); (case refine'_2 => rfl); (case refine'_4 => decide); (case refine'_5 => decide)) | ((with_reducible refine WPB.val ?_ ?_); (case refine_2 => intros; rfl)) | ((with_reducible refine cnd_is true ?_ ?_); (case refine_1 => rfl)) | (with_reducible refine ⟨_, rfl, ?_⟩) | ((with_reducible refine' WL.isinstance ?_ ?_ ?_); (case refine'_2 => rfl); (case refine'_3 => rfl)) | fail)))
    refine WL.lenTup (by simp) ?_
    (repeat' (first | (with_reducible first | refine WPE.cint ?_ | refine WPE.cstr ?_ | refine Mine.W2.eqI ?_ | refine WPAll.or ?_ | refine WPAll.orNil ?_ | refine nxt_next ?_ | refine cnd_t ?_ | refine cnd_f ?_ | refine WPS.cons ?_ | refine WPS.nil ?_ | refine WPEs.nil ?_ | refine WPs.ifs ?_ | refine WPB.not ?_) | ((with_reducible refine WPEs.cons ?_ ?_); (case refine_2 => intros; rfl)) | ((with_reducible refine WPB.cmp ?_ ?_); (case refine_2 => rfl)) | ((with_reducible refine n_str ‹_› ?_ ?_); (case refine_1 => rfl)) | ((with_reducible refine c_isinstance ‹_› ?_ ?_ ?_); (case refine_1 => rfl); (case refine_3 => intros; rfl)) | (with_reducible refine WPE.sub ?_) | ((with_reducible refine WPE.tup ?_ ?_); (case refine_2 => decide)) | ((with_reducible refine' WPE.nm ?_ ?_ ?_ ?_); (case refine'_2 => rfl); (case refine'_4 => decide); (case refine'_5 => decide)) | ((with_reducible refine WPB.val ?_ ?_); (case refine_2 => intros; rfl)) | ((with_reducible refine cnd_is true ?_ ?_); (case refine_1 => rfl)) | ((with_reducible refine cnd_is false ?_ ?_); (case refine_1 => rfl)) | ((with_reducible refine' Mine.W2.tupAt ?_ ?_ ?_ ?_); (case refine'_2 => rfl); (case refine'_3 => rfl); (case refine'_4 => rfl)) | (with_reducible refine ⟨_, rfl, ?_⟩) | ((with_reducible refine' WL.isinstance ?_ ?_ ?_); (case refine'_2 => rfl); (case refine'_3 => rfl)) | fail))
    refine W2.inStrs (ys := ["keep", "meet"]) rfl ?_
    (repeat' (first | (with_reducible first | refine cnd_t ?_ | refine WPS.cons ?_ | refine WPEs.nil ?_ | refine WPs.ret ?_) | ((with_reducible refine WPEs.cons ?_ ?_); (case refine_2 => intros; rfl)) | ((with_reducible refine WPE.cmp ?_ ?_); (case refine_2 => rfl)) | ((with_reducible refine c_len ‹_› ?_ ?_ ?_); (case refine_1 => rfl); (case refine_3 => intros; rfl)) | ((with_reducible refine' WPE.nm ?_ ?_ ?_ ?_); (case refine'_2 => rfl); (case refine'_4 => decide); (case refine'_5 => decide)) | ((with_reducible refine cnd_is true ?_ ?_); (case refine_1 => rfl)) | (with_reducible refine ⟨_, rfl, ?_⟩) | fail))
    refine WL.lenTup (by simp) ?_
    (repeat' (first | (with_reducible first | refine WPE.cint ?_ | refine Mine.W2.eqI ?_ | refine nxt_ret ?_) | fail))
    exact h
  | take n =>
    simp only [deedV]
    ((refine WPS.cons ?_); (repeat' (first | (with_reducible first | refine WPAll.or ?_ | refine cnd_t ?_ | refine cnd_f ?_ | refine WPEs.nil ?_ | refine WPs.ifs ?_ | refine WPB.op ?_ | refine WPB.not ?_) | ((with_reducible refine WPEs.cons ?_ ?_); (case refine_2 => intros; rfl)) | ((with_reducible refine WPB.cmp ?_ ?_); (case refine_2 => rfl)) | ((with_reducible refine n_tuple ‹_› ?_ ?_); (case refine_1 => rfl)) | ((with_reducible refine c_isinstance ‹_› ?_ ?_ ?_); (case refine_1 => rfl); (case refine_3 => intros; rfl)) | ((with_reducible refine c_len ‹_› ?_ ?_ ?_); (case refine_1 => rfl); (case refine_3 => intros; rfl)) | ((with_reducible refine' WPE.nm ?_ ?_ ?_ ?_); (case refine'_2 => rfl); (case refine'_4 => decide); (case refine'_5 => decide)) | ((with_reducible refine WPB.val ?_ ?_); (case refine_2 => intros; rfl)) | ((with_reducible refine cnd_is true ?_ ?_); (case refine_1 => rfl)) | (with_reducible refine ⟨_, rfl, ?_⟩) | ((with_reducible refine' WL.isinstance ?_ ?_ ?_); (case refine'_2 => rfl); (case refine'_3 => rfl)) | fail)))
    refine WL.lenTup (by simp) ?_
    (repeat' (first | (with_reducible first | refine WPE.cint ?_ | refine WPE.cstr ?_ | refine Mine.W2.eqI ?_ | refine WPAll.or ?_ | refine WPAll.orNil ?_ | refine nxt_next ?_ | refine cnd_t ?_ | refine cnd_f ?_ | refine WPS.cons ?_ | refine WPS.nil ?_ | refine WPEs.nil ?_ | refine WPs.ifs ?_ | refine WPB.not ?_) | ((with_reducible refine WPEs.cons ?_ ?_); (case refine_2 => intros; rfl)) | ((with_reducible refine WPB.cmp ?_ ?_); (case refine_2 => rfl)) | ((with_reducible refine n_str ‹_› ?_ ?_); (case refine_1 => rfl)) | ((with_reducible refine c_isinstance ‹_› ?_ ?_ ?_); (case refine_1 => rfl); (case refine_3 => intros; rfl)) | (with_reducible refine WPE.sub ?_) | ((with_reducible refine WPE.tup ?_ ?_); (case refine_2 => decide)) | ((with_reducible refine' WPE.nm ?_ ?_ ?_ ?_); (case refine'_2 => rfl); (case refine'_4 => decide); (case refine'_5 => decide)) | ((with_reducible refine WPB.val ?_ ?_); (case refine_2 => intros; rfl)) | ((with_reducible refine cnd_is true ?_ ?_); (case refine_1 => rfl)) | ((with_reducible refine cnd_is false ?_ ?_); (case refine_1 => rfl)) | ((with_reducible refine' Mine.W2.tupAt ?_ ?_ ?_ ?_); (case refine'_2 => rfl); (case refine'_3 => rfl); (case refine'_4 => rfl)) | (with_reducible refine ⟨_, rfl, ?_⟩) | ((with_reducible refine' WL.isinstance ?_ ?_ ?_); (case refine'_2 => rfl); (case refine'_3 => rfl)) | fail))
    refine W2.inStrs (ys := ["keep", "meet"]) rfl ?_
    (repeat' (first | (with_reducible first | refine WPE.cint ?_ | refine WPE.cstr ?_ | refine nxt_next ?_ | refine cnd_f ?_ | refine WPS.cons ?_ | refine WPS.nil ?_ | refine WPEs.nil ?_ | refine WPs.ifs ?_) | ((with_reducible refine WPEs.cons ?_ ?_); (case refine_2 => intros; rfl)) | ((with_reducible refine WPB.cmp ?_ ?_); (case refine_2 => rfl)) | (with_reducible refine WPE.sub ?_) | ((with_reducible refine WPE.tup ?_ ?_); (case refine_2 => decide)) | ((with_reducible refine' WPE.nm ?_ ?_ ?_ ?_); (case refine'_2 => rfl); (case refine'_4 => decide); (case refine'_5 => decide)) | ((with_reducible refine cnd_is false ?_ ?_); (case refine_1 => rfl)) | ((with_reducible refine' Mine.W2.tupAt ?_ ?_ ?_ ?_); (case refine'_2 => rfl); (case refine'_3 => rfl); (case refine'_4 => rfl)) | (with_reducible refine ⟨_, rfl, ?_⟩) | fail))
    refine W2.inStrs (ys := ["take", "drop"]) rfl ?_
    (repeat' (first | (with_reducible first | refine WPE.and ?_ | refine cnd_t ?_ | refine WPS.cons ?_ | refine WPEs.nil ?_ | refine WPs.ret ?_) | ((with_reducible refine WPEs.cons ?_ ?_); (case refine_2 => intros; rfl)) | ((with_reducible refine WPE.cmp ?_ ?_); (case refine_2 => rfl)) | ((with_reducible refine c_len ‹_› ?_ ?_ ?_); (case refine_1 => rfl); (case refine_3 => intros; rfl)) | ((with_reducible refine' WPE.nm ?_ ?_ ?_ ?_); (case refine'_2 => rfl); (case refine'_4 => decide); (case refine'_5 => decide)) | ((with_reducible refine cnd_is true ?_ ?_); (case refine_1 => rfl)) | (with_reducible refine ⟨_, rfl, ?_⟩) | fail))
    refine WL.lenTup (by simp) ?_
    (repeat' (first | (with_reducible first | refine WPE.cint ?_ | refine WPE.opOne ?_ | refine Mine.W2.eqI ?_ | refine cnd_t ?_ | refine WPEs.nil ?_) | ((with_reducible refine WPEs.cons ?_ ?_); (case refine_2 => intros; rfl)) | ((with_reducible refine n_MOST ‹_› ?_ ?_); (case refine_1 => rfl)) | ((with_reducible refine c_between ‹_› ?_ ?_ ?_); (case refine_1 => rfl); (case refine_3 => intros; rfl)) | (with_reducible refine WPE.sub ?_) | ((with_reducible refine' WPE.nm ?_ ?_ ?_ ?_); (case refine'_2 => rfl); (case refine'_4 => decide); (case refine'_5 => decide)) | ((with_reducible refine cnd_is true ?_ ?_); (case refine_1 => rfl)) | ((with_reducible refine' Mine.W2.tupAt ?_ ?_ ?_ ?_); (case refine'_2 => rfl); (case refine'_3 => rfl); (case refine'_4 => rfl)) | (with_reducible refine ⟨_, rfl, ?_⟩) | fail))
    refine s_between hK (T := "int") rfl ?_
    rw [show btwV 0 100 (.int (n : Int)) = true by simp only [deedOk] at hd; simp [btwV]; omega]
    exact h
  | drop n =>
    simp only [deedV]
    ((refine WPS.cons ?_); (repeat' (first | (with_reducible first | refine WPAll.or ?_ | refine cnd_t ?_ | refine cnd_f ?_ | refine WPEs.nil ?_ | refine WPs.ifs ?_ | refine WPB.op ?_ | refine WPB.not ?_) | ((with_reducible refine WPEs.cons ?_ ?_); (case refine_2 => intros; rfl)) | ((with_reducible refine WPB.cmp ?_ ?_); (case refine_2 => rfl)) | ((with_reducible refine n_tuple ‹_› ?_ ?_); (case refine_1 => rfl)) | ((with_reducible refine c_isinstance ‹_› ?_ ?_ ?_); (case refine_1 => rfl); (case refine_3 => intros; rfl)) | ((with_reducible refine c_len ‹_› ?_ ?_ ?_); (case refine_1 => rfl); (case refine_3 => intros; rfl)) | ((with_reducible refine' WPE.nm ?_ ?_ ?_ ?_); (case refine'_2 => rfl); (case refine'_4 => decide); (case refine'_5 => decide)) | ((with_reducible refine WPB.val ?_ ?_); (case refine_2 => intros; rfl)) | ((with_reducible refine cnd_is true ?_ ?_); (case refine_1 => rfl)) | (with_reducible refine ⟨_, rfl, ?_⟩) | ((with_reducible refine' WL.isinstance ?_ ?_ ?_); (case refine'_2 => rfl); (case refine'_3 => rfl)) | fail)))
    refine WL.lenTup (by simp) ?_
    (repeat' (first | (with_reducible first | refine WPE.cint ?_ | refine WPE.cstr ?_ | refine Mine.W2.eqI ?_ | refine WPAll.or ?_ | refine WPAll.orNil ?_ | refine nxt_next ?_ | refine cnd_t ?_ | refine cnd_f ?_ | refine WPS.cons ?_ | refine WPS.nil ?_ | refine WPEs.nil ?_ | refine WPs.ifs ?_ | refine WPB.not ?_) | ((with_reducible refine WPEs.cons ?_ ?_); (case refine_2 => intros; rfl)) | ((with_reducible refine WPB.cmp ?_ ?_); (case refine_2 => rfl)) | ((with_reducible refine n_str ‹_› ?_ ?_); (case refine_1 => rfl)) | ((with_reducible refine c_isinstance ‹_› ?_ ?_ ?_); (case refine_1 => rfl); (case refine_3 => intros; rfl)) | (with_reducible refine WPE.sub ?_) | ((with_reducible refine WPE.tup ?_ ?_); (case refine_2 => decide)) | ((with_reducible refine' WPE.nm ?_ ?_ ?_ ?_); (case refine'_2 => rfl); (case refine'_4 => decide); (case refine'_5 => decide)) | ((with_reducible refine WPB.val ?_ ?_); (case refine_2 => intros; rfl)) | ((with_reducible refine cnd_is true ?_ ?_); (case refine_1 => rfl)) | ((with_reducible refine cnd_is false ?_ ?_); (case refine_1 => rfl)) | ((with_reducible refine' Mine.W2.tupAt ?_ ?_ ?_ ?_); (case refine'_2 => rfl); (case refine'_3 => rfl); (case refine'_4 => rfl)) | (with_reducible refine ⟨_, rfl, ?_⟩) | ((with_reducible refine' WL.isinstance ?_ ?_ ?_); (case refine'_2 => rfl); (case refine'_3 => rfl)) | fail))
    refine W2.inStrs (ys := ["keep", "meet"]) rfl ?_
    (repeat' (first | (with_reducible first | refine WPE.cint ?_ | refine WPE.cstr ?_ | refine nxt_next ?_ | refine cnd_f ?_ | refine WPS.cons ?_ | refine WPS.nil ?_ | refine WPEs.nil ?_ | refine WPs.ifs ?_) | ((with_reducible refine WPEs.cons ?_ ?_); (case refine_2 => intros; rfl)) | ((with_reducible refine WPB.cmp ?_ ?_); (case refine_2 => rfl)) | (with_reducible refine WPE.sub ?_) | ((with_reducible refine WPE.tup ?_ ?_); (case refine_2 => decide)) | ((with_reducible refine' WPE.nm ?_ ?_ ?_ ?_); (case refine'_2 => rfl); (case refine'_4 => decide); (case refine'_5 => decide)) | ((with_reducible refine cnd_is false ?_ ?_); (case refine_1 => rfl)) | ((with_reducible refine' Mine.W2.tupAt ?_ ?_ ?_ ?_); (case refine'_2 => rfl); (case refine'_3 => rfl); (case refine'_4 => rfl)) | (with_reducible refine ⟨_, rfl, ?_⟩) | fail))
    refine W2.inStrs (ys := ["take", "drop"]) rfl ?_
    (repeat' (first | (with_reducible first | refine WPE.and ?_ | refine cnd_t ?_ | refine WPS.cons ?_ | refine WPEs.nil ?_ | refine WPs.ret ?_) | ((with_reducible refine WPEs.cons ?_ ?_); (case refine_2 => intros; rfl)) | ((with_reducible refine WPE.cmp ?_ ?_); (case refine_2 => rfl)) | ((with_reducible refine c_len ‹_› ?_ ?_ ?_); (case refine_1 => rfl); (case refine_3 => intros; rfl)) | ((with_reducible refine' WPE.nm ?_ ?_ ?_ ?_); (case refine'_2 => rfl); (case refine'_4 => decide); (case refine'_5 => decide)) | ((with_reducible refine cnd_is true ?_ ?_); (case refine_1 => rfl)) | (with_reducible refine ⟨_, rfl, ?_⟩) | fail))
    refine WL.lenTup (by simp) ?_
    (repeat' (first | (with_reducible first | refine WPE.cint ?_ | refine WPE.opOne ?_ | refine Mine.W2.eqI ?_ | refine cnd_t ?_ | refine WPEs.nil ?_) | ((with_reducible refine WPEs.cons ?_ ?_); (case refine_2 => intros; rfl)) | ((with_reducible refine n_MOST ‹_› ?_ ?_); (case refine_1 => rfl)) | ((with_reducible refine c_between ‹_› ?_ ?_ ?_); (case refine_1 => rfl); (case refine_3 => intros; rfl)) | (with_reducible refine WPE.sub ?_) | ((with_reducible refine' WPE.nm ?_ ?_ ?_ ?_); (case refine'_2 => rfl); (case refine'_4 => decide); (case refine'_5 => decide)) | ((with_reducible refine cnd_is true ?_ ?_); (case refine_1 => rfl)) | ((with_reducible refine' Mine.W2.tupAt ?_ ?_ ?_ ?_); (case refine'_2 => rfl); (case refine'_3 => rfl); (case refine'_4 => rfl)) | (with_reducible refine ⟨_, rfl, ?_⟩) | fail))
    refine s_between hK (T := "int") rfl ?_
    rw [show btwV 0 100 (.int (n : Int)) = true by simp only [deedOk] at hd; simp [btwV]; omega]
    exact h
  | go n =>
    simp only [deedV]
    ((refine WPS.cons ?_); (repeat' (first | (with_reducible first | refine WPAll.or ?_ | refine cnd_t ?_ | refine cnd_f ?_ | refine WPEs.nil ?_ | refine WPs.ifs ?_ | refine WPB.op ?_ | refine WPB.not ?_) | ((with_reducible refine WPEs.cons ?_ ?_); (case refine_2 => intros; rfl)) | ((with_reducible refine WPB.cmp ?_ ?_); (case refine_2 => rfl)) | ((with_reducible refine n_tuple ‹_› ?_ ?_); (case refine_1 => rfl)) | ((with_reducible refine c_isinstance ‹_› ?_ ?_ ?_); (case refine_1 => rfl); (case refine_3 => intros; rfl)) | ((with_reducible refine c_len ‹_› ?_ ?_ ?_); (case refine_1 => rfl); (case refine_3 => intros; rfl)) | ((with_reducible refine' WPE.nm ?_ ?_ ?_ ?_); (case refine'_2 => rfl); (case refine'_4 => decide); (case refine'_5 => decide)) | ((with_reducible refine WPB.val ?_ ?_); (case refine_2 => intros; rfl)) | ((with_reducible refine cnd_is true ?_ ?_); (case refine_1 => rfl)) | (with_reducible refine ⟨_, rfl, ?_⟩) | ((with_reducible refine' WL.isinstance ?_ ?_ ?_); (case refine'_2 => rfl); (case refine'_3 => rfl)) | fail)))
    refine WL.lenTup (by simp) ?_
    (repeat' (first | (with_reducible first | refine WPE.cint ?_ | refine WPE.cstr ?_ | refine Mine.W2.eqI ?_ | refine WPAll.or ?_ | refine WPAll.orNil ?_ | refine nxt_next ?_ | refine cnd_t ?_ | refine cnd_f ?_ | refine WPS.cons ?_ | refine WPS.nil ?_ | refine WPEs.nil ?_ | refine WPs.ifs ?_ | refine WPB.not ?_) | ((with_reducible refine WPEs.cons ?_ ?_); (case refine_2 => intros; rfl)) | ((with_reducible refine WPB.cmp ?_ ?_); (case refine_2 => rfl)) | ((with_reducible refine n_str ‹_› ?_ ?_); (case refine_1 => rfl)) | ((with_reducible refine c_isinstance ‹_› ?_ ?_ ?_); (case refine_1 => rfl); (case refine_3 => intros; rfl)) | (with_reducible refine WPE.sub ?_) | ((with_reducible refine WPE.tup ?_ ?_); (case refine_2 => decide)) | ((with_reducible refine' WPE.nm ?_ ?_ ?_ ?_); (case refine'_2 => rfl); (case refine'_4 => decide); (case refine'_5 => decide)) | ((with_reducible refine WPB.val ?_ ?_); (case refine_2 => intros; rfl)) | ((with_reducible refine cnd_is true ?_ ?_); (case refine_1 => rfl)) | ((with_reducible refine cnd_is false ?_ ?_); (case refine_1 => rfl)) | ((with_reducible refine' Mine.W2.tupAt ?_ ?_ ?_ ?_); (case refine'_2 => rfl); (case refine'_3 => rfl); (case refine'_4 => rfl)) | (with_reducible refine ⟨_, rfl, ?_⟩) | ((with_reducible refine' WL.isinstance ?_ ?_ ?_); (case refine'_2 => rfl); (case refine'_3 => rfl)) | fail))
    refine W2.inStrs (ys := ["keep", "meet"]) rfl ?_
    (repeat' (first | (with_reducible first | refine WPE.cint ?_ | refine WPE.cstr ?_ | refine nxt_next ?_ | refine cnd_f ?_ | refine WPS.cons ?_ | refine WPS.nil ?_ | refine WPEs.nil ?_ | refine WPs.ifs ?_) | ((with_reducible refine WPEs.cons ?_ ?_); (case refine_2 => intros; rfl)) | ((with_reducible refine WPB.cmp ?_ ?_); (case refine_2 => rfl)) | (with_reducible refine WPE.sub ?_) | ((with_reducible refine WPE.tup ?_ ?_); (case refine_2 => decide)) | ((with_reducible refine' WPE.nm ?_ ?_ ?_ ?_); (case refine'_2 => rfl); (case refine'_4 => decide); (case refine'_5 => decide)) | ((with_reducible refine cnd_is false ?_ ?_); (case refine_1 => rfl)) | ((with_reducible refine' Mine.W2.tupAt ?_ ?_ ?_ ?_); (case refine'_2 => rfl); (case refine'_3 => rfl); (case refine'_4 => rfl)) | (with_reducible refine ⟨_, rfl, ?_⟩) | fail))
    refine W2.inStrs (ys := ["take", "drop"]) rfl ?_
    (repeat' (first | (with_reducible first | refine WPE.cint ?_ | refine WPE.cstr ?_ | refine WPE.and ?_ | refine Mine.W2.eqS ?_ | refine nxt_next ?_ | refine cnd_t ?_ | refine cnd_f ?_ | refine WPS.cons ?_ | refine WPS.nil ?_ | refine WPEs.nil ?_ | refine WPs.ret ?_) | ((with_reducible refine WPEs.cons ?_ ?_); (case refine_2 => intros; rfl)) | ((with_reducible refine WPE.cmp ?_ ?_); (case refine_2 => rfl)) | ((with_reducible refine c_len ‹_› ?_ ?_ ?_); (case refine_1 => rfl); (case refine_3 => intros; rfl)) | (with_reducible refine WPE.sub ?_) | ((with_reducible refine' WPE.nm ?_ ?_ ?_ ?_); (case refine'_2 => rfl); (case refine'_4 => decide); (case refine'_5 => decide)) | ((with_reducible refine cnd_is true ?_ ?_); (case refine_1 => rfl)) | ((with_reducible refine cnd_is false ?_ ?_); (case refine_1 => rfl)) | ((with_reducible refine' Mine.W2.tupAt ?_ ?_ ?_ ?_); (case refine'_2 => rfl); (case refine'_3 => rfl); (case refine'_4 => rfl)) | (with_reducible refine ⟨_, rfl, ?_⟩) | fail))
    refine WL.lenTup (by simp) ?_
    (repeat' (first | (with_reducible first | refine WPE.cint ?_ | refine WPE.opOne ?_ | refine Mine.W2.eqI ?_ | refine cnd_t ?_ | refine WPEs.nil ?_) | ((with_reducible refine WPEs.cons ?_ ?_); (case refine_2 => intros; rfl)) | ((with_reducible refine n_MOST ‹_› ?_ ?_); (case refine_1 => rfl)) | ((with_reducible refine c_between ‹_› ?_ ?_ ?_); (case refine_1 => rfl); (case refine_3 => intros; rfl)) | (with_reducible refine WPE.sub ?_) | ((with_reducible refine' WPE.nm ?_ ?_ ?_ ?_); (case refine'_2 => rfl); (case refine'_4 => decide); (case refine'_5 => decide)) | ((with_reducible refine cnd_is true ?_ ?_); (case refine_1 => rfl)) | ((with_reducible refine' Mine.W2.tupAt ?_ ?_ ?_ ?_); (case refine'_2 => rfl); (case refine'_3 => rfl); (case refine'_4 => rfl)) | (with_reducible refine ⟨_, rfl, ?_⟩) | fail))
    refine s_between hK (T := "int") rfl ?_
    rw [show btwV 1 100 (.int (n : Int)) = true by simp only [deedOk] at hd; simp [btwV]; omega]
    exact h
/-- an attribute of self -/
theorem selfA {name x' : Str} {p pos : Pos} {x C d : Addr} {fs : List (Str × V)} {u : V} (hρ : getL ρ x' = some (.ref x)) (hd : (x' == ("__debug__" : Str)) = false) (hn : (x' == ("__classdict__" : Str)) = false) (hi : get st x = some (.inst C d)) (ha : get st d = some (.attr fs)) (hc : ClsK c.K C name) (hu : getL fs name = some u) (hp : plainV u = true) (h : Q u st) : WPE c k sc ρ st (.Attribute (.Name x' p) name pos) Q X :=
  WPE.attr (WPE.nm hρ ⟨x, C, d, fs, u, rfl, hi, ha, hc, hu, hp, h⟩ hd hn)
noncomputable def sKv (fs : Int) (rs : List Ru) (ms : List Nat) : List (Int × V) := ms.map fun (m : Nat) => ((m : Int), V.int (stN fs rs m))
noncomputable def wantV : Nat → V
  | 0 => .none
  | n + 1 => .int (n : Int)
noncomputable def seenL (fs : Int) (rs : List Ru) (n : Nat) : List Int := (List.range n).map fun i => stN fs rs (rs.length - i)
noncomputable abbrev AW (ru sh se : Addr) (room pl sv dn : Int) (wn : V) : List (Str × V) := [("rules", .ref ru), ("room", .int room), ("place", .int pl), ("state", .int sv), ("done", .int dn), ("wanted", wn), ("shelf", .ref sh), ("seen", .ref se)]
/-- a walker as it lies -/
structure Wk (st : St) (x d ru sh se : Addr) (fs : Int) (rs : List Ru) (room : Nat) (g : Sg) : Prop where
  i : get st x = some (.inst A_Walker d)
  a : get st d = some (.attr (AW ru sh se room g.place (stN fs rs g.place) g.cost (wantV g.want)))
  r : get st ru = some (.list (rs.map Ru.v))
  k : get st sh = some (.dictI (sKv fs rs g.marks))
  s : get st se = some (.list ((seenL fs rs (rs.length + 1 - g.want)).map .int))
  ne : ru ≠ se
  sys : (sh == sysModules) = false
  pl : g.place ≤ rs.length
  ml : ∀ m ∈ g.marks, m ≤ rs.length
  wl : g.want ≤ rs.length + 1
  nd : g.marks.Nodup
  rl : g.marks.length ≤ room
theorem sKv_val : ∀ {fs : Int} {rs : List Ru} {ms : List Nat} {n : Nat}, valA (sKv fs rs ms) (n : Int) = if n ∈ ms then some (.int (stN fs rs n)) else none
  | fs, rs, [], n => rfl
  | fs, rs, m :: ms, n => by
    have ih := sKv_val (fs := fs) (rs := rs) (ms := ms) (n := n)
    unfold sKv valA at ih ⊢
    rw [List.map_cons, List.find?_cons]
    by_cases e : m = n
    · subst e; simp
    · have : ¬ (m : Int) = (n : Int) := by omega
      have e' : ¬ n = m := fun q => e q.symm
      simp only [this, decide_false, List.mem_cons, e', false_or]
      exact ih
theorem sKv_put {fs : Int} {rs : List Ru} {ms : List Nat} {n : Nat} (h : n ∉ ms) : putA (sKv fs rs ms) (n : Int) (.int (stN fs rs n)) = sKv fs rs (ms ++ [n]) := by
  unfold putA
  rw [if_neg]
  · simp [sKv]
  · unfold sKv
    simp
    intro x hx e
    exact h ((by omega : x = n) ▸ hx)
theorem sKv_del {fs : Int} {rs : List Ru} {ms : List Nat} {n : Nat} : delA (sKv fs rs ms) (n : Int) = sKv fs rs (ms.filter fun x => !decide (x = n)) := by
  unfold delA sKv
  rw [List.filter_map]
  congr 1
  refine List.filter_congr fun x _ => ?_
  simp only [Function.comp]
  by_cases e : x = n
  · subst e; simp
  · have : ¬ (x : Int) = (n : Int) := by omega
    simp [e, this]
theorem sKv_len {fs : Int} {rs : List Ru} {ms : List Nat} : (sKv fs rs ms).length = ms.length := by simp [sKv]
noncomputable def KeepBut (st st' : St) (as : List Addr) : Prop := ∀ a o, a ∉ as → get st a = some o → get st' a = some o
theorem KeepBut.refl {as : List Addr} : KeepBut st st as := fun _ _ _ h => h
theorem KeepBut.upd {st' : St} {as : List Addr} {x : Addr} {o : O} (h : KeepBut st st' as) (hx : x ∈ as) : KeepBut st (upd st' x o) as := fun a o' ha hg => (get_upd_ne fun e => ha (by rw [e]; exact hx)).trans (h a o' ha hg)
theorem KeepBut.le {st₀ st' : St} {as : List Addr} (h : KeepBut st st' as) (hle : Le st₀ st) (hn : ∀ a ∈ as, get st₀ a = none) : Le st₀ st' := fun a o hg => h a o (fun ha => by rw [hn a ha] at hg; cases hg) (hle a o hg)
theorem Wk.le {st' : St} {x d ru sh se : Addr} {fs : Int} {rs : List Ru} {room : Nat} {g : Sg} (W : Wk st x d ru sh se fs rs room g) (hle : Le st st') : Wk st' x d ru sh se fs rs room g :=
  { W with i := hle _ _ W.i, a := hle _ _ W.a, r := hle _ _ W.r, k := hle _ _ W.k, s := hle _ _ W.s }
theorem Wk.dn {x d ru sh se : Addr} {fs : Int} {rs : List Ru} {room : Nat} {g : Sg} (W : Wk st x d ru sh se fs rs room g) : x ≠ d ∧ ru ≠ d ∧ sh ≠ d ∧ se ≠ d ∧ x ≠ sh ∧ ru ≠ sh ∧ se ≠ sh ∧ x ≠ se ∧ x ≠ ru := by
  have i := W.i; have a := W.a; have r := W.r; have k := W.k; have s := W.s
  refine ⟨?_, ?_, ?_, ?_, ?_, ?_, ?_, ?_, ?_⟩ <;> (intro e; subst e; simp_all)
variable {x d ru sh se : Addr} {fs : Int} {rs : List Ru} {room : Nat} {g g' : Sg}
theorem s_keep_it (hK : Kc c) (hq : c.q = true) (W : Wk st x d ru sh se fs rs room g) (hr : room ≤ 1000) (hs : stp room rs.length g .keep = some g') (h : ∀ st', KeepBut st st' [d, sh, se] → Wk st' x d ru sh se fs rs room g' → Q .none st') : CF c (k + 1) A_Walker_keep_it [.ref x] ρ st Q X := by
  simp only [stp] at hs
  split at hs
  · rename_i hc
    obtain ⟨hc1, hc2⟩ := hc
    cases hs
    obtain ⟨n1, n2, n3, n4, n5, n6, n7, n8, n9⟩ := W.dn
    refine CallW.fn (Facts.fn_Walker_keep_it hK) rfl ?_
    ((refine WPS.cons ?_); (repeat' (first | (with_reducible refine WPs.ifs ?_) | ((with_reducible refine WPB.cmp ?_ ?_); (case refine_2 => rfl)) | fail)))
    refine selfA rfl (by decide) (by decide) W.i W.a (Facts.at_Walker_place hK) rfl rfl ?_
    refine selfA rfl (by decide) (by decide) W.i W.a (Facts.at_Walker_shelf hK) rfl rfl ?_
    refine W2.inDict W.sys W.k ?_
    rw [sKv_val, if_neg hc1]
    (repeat' (first | (with_reducible first | refine nxt_next ?_ | refine cnd_f ?_ | refine WPS.cons ?_ | refine WPS.nil ?_ | refine WPs.ifs ?_) | ((with_reducible refine WPEs.cons ?_ ?_); (case refine_2 => intros; rfl)) | ((with_reducible refine WPB.cmp ?_ ?_); (case refine_2 => rfl)) | ((with_reducible refine c_len ‹_› ?_ ?_ ?_); (case refine_1 => rfl); (case refine_3 => intros; rfl)) | ((with_reducible refine cnd_is false ?_ ?_); (case refine_1 => rfl)) | (with_reducible refine ⟨_, rfl, ?_⟩) | fail))
    refine selfA rfl (by decide) (by decide) W.i W.a (Facts.at_Walker_shelf hK) rfl rfl ?_
    (repeat' (first | (with_reducible refine WPEs.nil ?_) | fail))
    refine WL.lenDict W.sys W.k (by rw [sKv_len]; omega) ?_
    refine selfA rfl (by decide) (by decide) W.i W.a (Facts.at_Walker_room hK) rfl rfl ?_
    (repeat' (first | (with_reducible first | refine Mine.W2.eqI ?_ | refine ⟨_, rfl, ?_⟩) | fail))
    rw [sKv_len]
    refine cnd_is false (by simp; omega) ?_
    (repeat' (first | (with_reducible refine WPS.nil ?_) | ((fail_if_success (with_reducible show WPS _ _ _ _ _ _ _ _)); (first | (with_reducible first | refine nxt_next ?_ | refine cnd_f ?_) | fail)) | fail))
    refine WPS.cons ?_
    refine WPs.setItem ?_
    refine selfA rfl (by decide) (by decide) W.i W.a (Facts.at_Walker_state hK) rfl rfl ?_
    refine selfA rfl (by decide) (by decide) W.i W.a (Facts.at_Walker_shelf hK) rfl rfl ?_
    refine selfA rfl (by decide) (by decide) W.i W.a (Facts.at_Walker_place hK) rfl rfl ?_
    refine W3.putI W.k (by rw [sKv_len]; omega) ?_
    (repeat' (first | (with_reducible refine WPS.nil ?_) | ((fail_if_success (with_reducible show WPS _ _ _ _ _ _ _ _)); (first | (with_reducible refine nxt_next ?_) | fail)) | fail))
    rw [sKv_put hc1]
    refine h _ (KeepBut.refl.upd (by simp)) { W with i := (get_upd_ne n5).trans W.i, a := (get_upd_ne (Ne.symm n3)).trans W.a, r := (get_upd_ne n6).trans W.r, k := get_upd_self W.k, s := (get_upd_ne n7).trans W.s, ml := ?_, nd := ?_, rl := ?_ }
    · intro m hm
      rcases List.mem_append.mp hm with q | q
      · exact W.ml m q
      · simp at q; subst q; exact W.pl
    · rw [List.nodup_append]
      refine ⟨W.nd, by simp, ?_⟩
      intro a ha b hb e
      simp at hb
      subst hb
      exact hc1 (e ▸ ha)
    · simp; omega
  · cases hs
theorem s_meet_it (hK : Kc c) (hq : c.q = true) (W : Wk st x d ru sh se fs rs room g) (hr : rs.length ≤ 1000) (hs : stp room rs.length g .meet = some g') (h : ∀ st', KeepBut st st' [d, sh, se] → Wk st' x d ru sh se fs rs room g' → Q .none st') : CF c (k + 1) A_Walker_meet_it [.ref x] ρ st Q X := by
  simp only [stp] at hs
  split at hs
  · rename_i hc
    cases hs
    obtain ⟨n1, n2, n3, n4, n5, n6, n7, n8, n9⟩ := W.dn
    have hwv : wantV g.want = .int (g.place : Int) := by rw [hc]; rfl
    have A := W.a
    rw [hwv] at A
    have hpl := W.pl
    refine CallW.fn (Facts.fn_Walker_meet_it hK) rfl ?_
    ((refine WPS.cons ?_); (repeat' (first | (with_reducible first | refine WPAll.or ?_ | refine WPs.ifs ?_ | refine WPB.op ?_) | ((with_reducible refine WPB.cmp ?_ ?_); (case refine_2 => rfl)) | fail)))
    refine selfA rfl (by decide) (by decide) W.i A (Facts.at_Walker_wanted hK) rfl rfl ?_
    (repeat' (first | (with_reducible first | refine WPE.cnone ?_ | refine WPAll.or ?_ | refine cnd_f ?_) | ((with_reducible refine WPB.cmp ?_ ?_); (case refine_2 => rfl)) | ((with_reducible refine Mine.W2.isN ?_ ?_); (case refine_1 => rfl)) | ((with_reducible refine cnd_is false ?_ ?_); (case refine_1 => rfl)) | (with_reducible refine ⟨_, rfl, ?_⟩) | fail))
    refine selfA rfl (by decide) (by decide) W.i A (Facts.at_Walker_place hK) rfl rfl ?_
    refine selfA rfl (by decide) (by decide) W.i A (Facts.at_Walker_wanted hK) rfl rfl ?_
    (repeat' (first | (with_reducible first | refine Mine.W2.neI ?_ | refine ⟨_, rfl, ?_⟩) | fail))
    refine cnd_is false (by simp) ?_
    (repeat' (first | (with_reducible first | refine WPAll.orNil ?_ | refine nxt_next ?_ | refine cnd_f ?_ | refine WPS.cons ?_ | refine WPS.nil ?_) | ((with_reducible refine WPs.expr ?_ ?_); (case refine_2 => intros; rfl)) | ((with_reducible refine WPE.mAppend ?_ ?_ ?_); (case refine_2 => rfl); (case refine_3 => intros; exact ⟨_, rfl⟩)) | fail))
    refine selfA rfl (by decide) (by decide) W.i A (Facts.at_Walker_seen hK) rfl rfl ?_
    refine ⟨_, _, rfl, W.s, ?_⟩
    (repeat' (first | ((with_reducible refine WPEs.cons ?_ ?_); (case refine_2 => intros; rfl)) | fail))
    refine selfA rfl (by decide) (by decide) W.i A (Facts.at_Walker_state hK) rfl rfl ?_
    (repeat' (first | (with_reducible refine WPEs.nil ?_) | fail))
    refine WL.append W.s (by simp [seenL]; omega) ?_
    have A1 := (get_upd_ne (o := .list ((seenL fs rs (rs.length + 1 - g.want)).map .int ++ [.int (stN fs rs g.place)])) (Ne.symm n4)).trans A
    have I1 := (get_upd_ne (o := .list ((seenL fs rs (rs.length + 1 - g.want)).map .int ++ [.int (stN fs rs g.place)])) n8).trans W.i
    have S1 := get_upd_self (o := .list ((seenL fs rs (rs.length + 1 - g.want)).map .int ++ [.int (stN fs rs g.place)])) W.s
    have R1 := (get_upd_ne (o := .list ((seenL fs rs (rs.length + 1 - g.want)).map .int ++ [.int (stN fs rs g.place)])) W.ne).trans W.r
    have K1 := (get_upd_ne (o := .list ((seenL fs rs (rs.length + 1 - g.want)).map .int ++ [.int (stN fs rs g.place)])) (Ne.symm n7)).trans W.k
    have B1 := (KeepBut.refl (st := st) (as := [d, sh, se])).upd (x := se) (o := .list ((seenL fs rs (rs.length + 1 - g.want)).map .int ++ [.int (stN fs rs g.place)])) (by simp)
    have hsn : (seenL fs rs (rs.length + 1 - g.want)).map V.int ++ [.int (stN fs rs g.place)] = (seenL fs rs (rs.length + 1 - g.place)).map V.int := by
      rw [hc, show rs.length + 1 - g.place = (rs.length + 1 - (g.place + 1)) + 1 by omega]
      unfold seenL
      rw [List.range_succ, List.map_append, List.map_append]
      simp only [List.map_cons, List.map_nil]
      rw [show rs.length - (rs.length + 1 - (g.place + 1)) = g.place by omega]
    generalize upd st se (.list ((seenL fs rs (rs.length + 1 - g.want)).map .int ++ [.int (stN fs rs g.place)])) = st₁ at A1 I1 S1 R1 K1 B1 ⊢
    rw [hsn] at S1
    (repeat' (first | ((fail_if_success (with_reducible show WPS _ _ _ _ _ _ _ _)); (first | (with_reducible refine nxt_next ?_) | fail)) | fail))
    refine WPS.cons ?_
    refine WPs.setAttr ?_
    (repeat' (first | ((fail_if_success (with_reducible show WPS _ _ _ _ _ _ _ _)); (first | (with_reducible refine WPE.ife ?_) | ((with_reducible refine WPB.cmp ?_ ?_); (case refine_2 => rfl)) | fail)) | fail))
    refine selfA rfl (by decide) (by decide) I1 A1 (Facts.at_Walker_place hK) rfl rfl ?_
    (repeat' (first | ((fail_if_success (with_reducible show WPS _ _ _ _ _ _ _ _)); (first | (with_reducible first | refine WPE.cint ?_ | refine Mine.W2.eqI ?_ | refine ⟨_, rfl, ?_⟩) | fail)) | fail))
    by_cases hz : g.place = 0
    · refine cnd_is true (by simp [hz]) ?_
      (repeat' (first | ((fail_if_success (with_reducible show WPS _ _ _ _ _ _ _ _)); (first | (with_reducible first | refine WPE.cnone ?_ | refine cnd_t ?_) | ((with_reducible refine' WPE.nm ?_ ?_ ?_ ?_); (case refine'_2 => rfl); (case refine'_4 => decide); (case refine'_5 => decide)) | fail)) | fail))
      refine ⟨_, _, _, _, rfl, I1, A1, Facts.at_Walker_wanted hK, by simp, ?_⟩
      (repeat' (first | (with_reducible refine WPS.nil ?_) | ((fail_if_success (with_reducible show WPS _ _ _ _ _ _ _ _)); (first | (with_reducible refine nxt_next ?_) | fail)) | fail))
      refine h _ (B1.upd (by simp)) { W with i := (get_upd_ne n1).trans I1, a := ?_, r := (get_upd_ne n2).trans R1, k := (get_upd_ne n3).trans K1, s := (get_upd_ne n4).trans S1, wl := by dsimp; omega }
      rw [get_upd_self A1]
      dsimp only
      rw [hz]; rfl
    · refine cnd_is false (by simp [hz]) ?_
      (repeat' (first | ((fail_if_success (with_reducible show WPS _ _ _ _ _ _ _ _)); (first | (with_reducible first | refine WPE.bin ?_ | refine cnd_f ?_) | fail)) | fail))
      refine selfA rfl (by decide) (by decide) I1 A1 (Facts.at_Walker_place hK) rfl rfl ?_
      (repeat' (first | ((fail_if_success (with_reducible show WPS _ _ _ _ _ _ _ _)); (first | (with_reducible first | refine WPE.cint ?_ | refine Mine.W2.subI ?_) | ((with_reducible refine' WPE.nm ?_ ?_ ?_ ?_); (case refine'_2 => rfl); (case refine'_4 => decide); (case refine'_5 => decide)) | fail)) | fail))
      refine ⟨_, _, _, _, rfl, I1, A1, Facts.at_Walker_wanted hK, by simp, ?_⟩
      (repeat' (first | (with_reducible refine WPS.nil ?_) | ((fail_if_success (with_reducible show WPS _ _ _ _ _ _ _ _)); (first | (with_reducible refine nxt_next ?_) | fail)) | fail))
      refine h _ (B1.upd (by simp)) { W with i := (get_upd_ne n1).trans I1, a := ?_, r := (get_upd_ne n2).trans R1, k := (get_upd_ne n3).trans K1, s := (get_upd_ne n4).trans S1, wl := by dsimp; omega }
      rw [get_upd_self A1]
      dsimp only
      obtain ⟨j, hj⟩ : ∃ j, g.place = j + 1 := ⟨g.place - 1, by omega⟩
      rw [hj, show wantV (j + 1) = .int (j : Int) from rfl, show ((j + 1 : Nat) : Int) - 1 = (j : Int) by omega]
      rfl
  · cases hs
theorem s_handle (hK : Kc c) (hq : c.q = true) {n : Nat} {w : Str} {dd : Dd} (hw : (w = "take" ∧ dd = .take n) ∨ (w = "drop" ∧ dd = .drop n)) (W : Wk st x d ru sh se fs rs room g) (hr : room ≤ 1000) (hs : stp room rs.length g dd = some g') (h : ∀ st', KeepBut st st' [d, sh, se] → Wk st' x d ru sh se fs rs room g' → Q .none st') : CF c (k + 1) A_Walker_handle [.ref x, .str w, .int n] ρ st Q X := by
  have hml := W.rl
  obtain ⟨n1, n2, n3, n4, n5, n6, n7, n8, n9⟩ := W.dn
  refine CallW.fn (Facts.fn_Walker_handle hK) rfl ?_
  rcases hw with ⟨rfl, rfl⟩ | ⟨rfl, rfl⟩
  · simp only [stp] at hs
    split at hs
    · rename_i hc
      cases hs
      ((refine WPS.cons ?_); (repeat' (first | (with_reducible refine WPs.ifs ?_) | ((with_reducible refine WPB.cmp ?_ ?_); (case refine_2 => rfl)) | ((with_reducible refine' WPE.nm ?_ ?_ ?_ ?_); (case refine'_2 => rfl); (case refine'_4 => decide); (case refine'_5 => decide)) | fail)))
      refine selfA rfl (by decide) (by decide) W.i W.a (Facts.at_Walker_shelf hK) rfl rfl ?_
      refine W2.notInDict W.sys W.k ?_
      rw [sKv_val, if_pos hc]
      (repeat' (first | (with_reducible refine WPS.nil ?_) | ((fail_if_success (with_reducible show WPS _ _ _ _ _ _ _ _)); (first | (with_reducible first | refine nxt_next ?_ | refine cnd_f ?_) | ((with_reducible refine cnd_is false ?_ ?_); (case refine_1 => rfl)) | (with_reducible refine ⟨_, rfl, ?_⟩) | fail)) | fail))
      refine WPS.cons ?_
      (repeat' (first | ((fail_if_success (with_reducible show WPS _ _ _ _ _ _ _ _)); (first | (with_reducible first | refine WPE.cstr ?_ | refine Mine.W2.eqS ?_ | refine cnd_f ?_ | refine WPs.ifs ?_) | ((with_reducible refine WPB.cmp ?_ ?_); (case refine_2 => rfl)) | ((with_reducible refine' WPE.nm ?_ ?_ ?_ ?_); (case refine'_2 => rfl); (case refine'_4 => decide); (case refine'_5 => decide)) | ((with_reducible refine cnd_is false ?_ ?_); (case refine_1 => rfl)) | (with_reducible refine ⟨_, rfl, ?_⟩) | fail)) | fail))
      refine WPS.cons ?_
      refine WPs.setAttr ?_
      (repeat' (first | ((fail_if_success (with_reducible show WPS _ _ _ _ _ _ _ _)); (first | ((with_reducible refine' WPE.nm ?_ ?_ ?_ ?_); (case refine'_2 => rfl); (case refine'_4 => decide); (case refine'_5 => decide)) | fail)) | fail))
      refine ⟨_, _, _, _, rfl, W.i, W.a, Facts.at_Walker_place hK, by simp, ?_⟩
      have A1 := get_upd_self (o := .attr (setL (AW ru sh se room g.place (stN fs rs g.place) g.cost (wantV g.want)) "place" (.int (n : Int)))) W.a
      have I1 := (get_upd_ne (o := .attr (setL (AW ru sh se room g.place (stN fs rs g.place) g.cost (wantV g.want)) "place" (.int (n : Int)))) n1).trans W.i
      have R1 := (get_upd_ne (o := .attr (setL (AW ru sh se room g.place (stN fs rs g.place) g.cost (wantV g.want)) "place" (.int (n : Int)))) n2).trans W.r
      have K1 := (get_upd_ne (o := .attr (setL (AW ru sh se room g.place (stN fs rs g.place) g.cost (wantV g.want)) "place" (.int (n : Int)))) n3).trans W.k
      have S1 := (get_upd_ne (o := .attr (setL (AW ru sh se room g.place (stN fs rs g.place) g.cost (wantV g.want)) "place" (.int (n : Int)))) n4).trans W.s
      have B1 := (KeepBut.refl (st := st) (as := [d, sh, se])).upd (x := d) (o := .attr (setL (AW ru sh se room g.place (stN fs rs g.place) g.cost (wantV g.want)) "place" (.int (n : Int)))) (by simp)
      generalize upd st d (.attr (setL (AW ru sh se room g.place (stN fs rs g.place) g.cost (wantV g.want)) "place" (.int (n : Int)))) = st₁ at A1 I1 R1 K1 S1 B1
      (repeat' (first | ((fail_if_success (with_reducible show WPS _ _ _ _ _ _ _ _)); (first | (with_reducible refine nxt_next ?_) | fail)) | fail))
      refine WPS.cons ?_
      refine WPs.setAttr ?_
      (repeat' (first | ((fail_if_success (with_reducible show WPS _ _ _ _ _ _ _ _)); (first | (with_reducible refine WPE.sub ?_) | fail)) | fail))
      refine selfA rfl (by decide) (by decide) I1 A1 (Facts.at_Walker_shelf hK) rfl rfl ?_
      (repeat' (first | ((fail_if_success (with_reducible show WPS _ _ _ _ _ _ _ _)); (first | ((with_reducible refine' WPE.nm ?_ ?_ ?_ ?_); (case refine'_2 => rfl); (case refine'_4 => decide); (case refine'_5 => decide)) | fail)) | fail))
      refine W2.getI K1 rfl (by rw [sKv_val, if_pos hc]) ?_
      (repeat' (first | ((fail_if_success (with_reducible show WPS _ _ _ _ _ _ _ _)); (first | ((with_reducible refine' WPE.nm ?_ ?_ ?_ ?_); (case refine'_2 => rfl); (case refine'_4 => decide); (case refine'_5 => decide)) | fail)) | fail))
      refine ⟨_, _, _, _, rfl, I1, A1, Facts.at_Walker_state hK, Nat.le_of_ble_eq_true rfl, ?_⟩
      (repeat' (first | (with_reducible refine WPS.nil ?_) | ((fail_if_success (with_reducible show WPS _ _ _ _ _ _ _ _)); (first | (with_reducible refine nxt_next ?_) | fail)) | fail))
      exact h _ (B1.upd (by simp)) { W with i := (get_upd_ne n1).trans I1, a := get_upd_self A1, r := (get_upd_ne n2).trans R1, k := (get_upd_ne n3).trans K1, s := (get_upd_ne n4).trans S1, pl := W.ml n hc }
    · cases hs
  · simp only [stp] at hs
    split at hs
    · rename_i hc
      cases hs
      ((refine WPS.cons ?_); (repeat' (first | (with_reducible refine WPs.ifs ?_) | ((with_reducible refine WPB.cmp ?_ ?_); (case refine_2 => rfl)) | ((with_reducible refine' WPE.nm ?_ ?_ ?_ ?_); (case refine'_2 => rfl); (case refine'_4 => decide); (case refine'_5 => decide)) | fail)))
      refine selfA rfl (by decide) (by decide) W.i W.a (Facts.at_Walker_shelf hK) rfl rfl ?_
      refine W2.notInDict W.sys W.k ?_
      rw [sKv_val, if_pos hc]
      (repeat' (first | (with_reducible refine WPS.nil ?_) | ((fail_if_success (with_reducible show WPS _ _ _ _ _ _ _ _)); (first | (with_reducible first | refine nxt_next ?_ | refine cnd_f ?_) | ((with_reducible refine cnd_is false ?_ ?_); (case refine_1 => rfl)) | (with_reducible refine ⟨_, rfl, ?_⟩) | fail)) | fail))
      refine WPS.cons ?_
      (repeat' (first | ((fail_if_success (with_reducible show WPS _ _ _ _ _ _ _ _)); (first | (with_reducible first | refine WPE.cstr ?_ | refine Mine.W2.eqS ?_ | refine cnd_t ?_ | refine WPs.ifs ?_) | ((with_reducible refine WPB.cmp ?_ ?_); (case refine_2 => rfl)) | ((with_reducible refine' WPE.nm ?_ ?_ ?_ ?_); (case refine'_2 => rfl); (case refine'_4 => decide); (case refine'_5 => decide)) | ((with_reducible refine cnd_is true ?_ ?_); (case refine_1 => rfl)) | (with_reducible refine ⟨_, rfl, ?_⟩) | fail)) | fail))
      refine WPS.cons ?_
      refine WPs.expr ?_
      refine WPE.mPopD ?_
      refine selfA rfl (by decide) (by decide) W.i W.a (Facts.at_Walker_shelf hK) rfl rfl ?_
      refine ⟨_, _, rfl, W.k, ?_⟩
      (repeat' (first | ((fail_if_success (with_reducible show WPS _ _ _ _ _ _ _ _)); (first | (with_reducible refine WPEs.nil ?_) | ((with_reducible refine WPEs.cons ?_ ?_); (case refine_2 => intros; rfl)) | ((with_reducible refine' WPE.nm ?_ ?_ ?_ ?_); (case refine'_2 => rfl); (case refine'_4 => decide); (case refine'_5 => decide)) | fail)) | fail))
      refine WL.popI W.k (by rw [sKv_val, if_pos hc]) (by rw [sKv_len]; omega) ?_
      (repeat' (first | (with_reducible refine WPS.nil ?_) | ((fail_if_success (with_reducible show WPS _ _ _ _ _ _ _ _)); (first | (with_reducible refine nxt_next ?_) | fail)) | fail))
      rw [sKv_del]
      refine h _ (KeepBut.refl.upd (by simp)) { W with i := (get_upd_ne n5).trans W.i, a := (get_upd_ne (Ne.symm n3)).trans W.a, r := (get_upd_ne n6).trans W.r, k := get_upd_self W.k, s := (get_upd_ne n7).trans W.s, ml := fun m hm => W.ml m (List.mem_filter.mp hm).1, nd := W.nd.filter _, rl := Nat.le_trans (List.length_filter_le _ _) W.rl }
    · cases hs
end

section
variable {c : Cx} {k : Nat} {sc : Scope} {ρ : Loc} {st : St} {Q : V → St → Prop} {X : Xp} {x d ru sh se : Addr} {fs : Int} {rs : List Ru} {room : Nat} {g g' : Sg}
theorem s_go_on (hK : Kc c) (hq : c.q = true) {n : Nat} (W : Wk st x d ru sh se fs rs room g) (hf : 0 ≤ fs ∧ fs ≤ 999982) (hrs : ∀ r ∈ rs, r.Ok) (hl : rs.length ≤ 100) (hs : stp room rs.length g (.go n) = some g') (h : ∀ st', KeepBut st st' [d, sh, se] → Wk st' x d ru sh se fs rs room g' → Q .none st') : CF c (k + 2) A_Walker_go_on [.ref x, .int n] ρ st Q X := by
  simp only [stp] at hs
  split at hs
  · rename_i hc
    obtain ⟨hc1, hc2⟩ := hc
    cases hs
    obtain ⟨n1, n2, n3, n4, n5, n6, n7, n8, n9⟩ := W.dn
    refine CallW.fn (Facts.fn_Walker_go_on hK) rfl ?_
    ((refine WPS.cons ?_); (repeat' (first | (with_reducible first | refine WPE.bin ?_ | refine WPs.ifs ?_) | ((with_reducible refine WPB.cmp ?_ ?_); (case refine_2 => rfl)) | fail)))
    refine selfA rfl (by decide) (by decide) W.i W.a (Facts.at_Walker_place hK) rfl rfl ?_
    (repeat' (first | (with_reducible refine Mine.W2.addI ?_) | ((with_reducible refine WPEs.cons ?_ ?_); (case refine_2 => intros; rfl)) | ((with_reducible refine c_len ‹_› ?_ ?_ ?_); (case refine_1 => rfl); (case refine_3 => intros; rfl)) | ((with_reducible refine' WPE.nm ?_ ?_ ?_ ?_); (case refine'_2 => rfl); (case refine'_4 => decide); (case refine'_5 => decide)) | fail))
    refine selfA rfl (by decide) (by decide) W.i W.a (Facts.at_Walker_rules hK) rfl rfl ?_
    (repeat' (first | (with_reducible refine WPEs.nil ?_) | fail))
    refine WL.lenList W.r (by simp; omega) ?_
    (repeat' (first | (with_reducible first | refine Mine.W2.gtI ?_ | refine ⟨_, rfl, ?_⟩) | fail))
    refine cnd_is false (by simp; omega) ?_
    (repeat' (first | (with_reducible first | refine nxt_next ?_ | refine cnd_f ?_ | refine WPS.cons ?_ | refine WPS.nil ?_) | ((with_reducible refine WPs.for ‹_› ?_ ?_ ?_); (case refine_2 => rfl); (case refine_3 => intros; rfl)) | (with_reducible refine WPE.slice ?_) | fail))
    refine selfA rfl (by decide) (by decide) W.i W.a (Facts.at_Walker_rules hK) rfl rfl ?_
    (repeat' (first | (with_reducible refine WPO.so ?_) | fail))
    refine selfA rfl (by decide) (by decide) W.i W.a (Facts.at_Walker_place hK) rfl rfl ?_
    refine ⟨_, rfl, ?_⟩
    (repeat' (first | (with_reducible first | refine WPE.bin ?_ | refine WPO.so ?_) | fail))
    refine selfA rfl (by decide) (by decide) W.i W.a (Facts.at_Walker_place hK) rfl rfl ?_
    (repeat' (first | (with_reducible refine Mine.W2.addI ?_) | ((with_reducible refine' WPE.nm ?_ ?_ ?_ ?_); (case refine'_2 => rfl); (case refine'_4 => decide); (case refine'_5 => decide)) | (with_reducible refine ⟨_, rfl, ?_⟩) | fail))
    refine ⟨_, _, g.place, g.place + n, rfl, W.r, by simp; omega, ?_, ?_⟩
    · have := sb_run (n := (rs.map Ru.v).length) (x := g.place) (y := g.place + n) (by simp; omega) (by simp; omega)
      rw [← this]
      congr 2
    intro d0 hd0
    have nd0 : d0 ≠ d := fun e => by rw [e, W.a] at hd0; cases hd0
    have nx0 : d0 ≠ x := fun e => by rw [e, W.i] at hd0; cases hd0
    rw [show g.place + n - g.place = n by omega]
    refine ⟨_, .list get_head, ?_⟩
    refine FOR.inv (fun i ρ₁ st₁ => ρ₁ = ([("self", .ref x), ("many", .int n)] : Loc) ∧ KeepBut ((d0, .list (((rs.map Ru.v).drop g.place).take n)) :: st) st₁ [d] ∧ get st₁ d = some (.attr (AW ru sh se room g.place (stN fs rs (g.place + i)) g.cost (wantV g.want)))) ⟨rfl, KeepBut.refl, (Le.alloc hd0) _ _ W.a⟩ ?_ ?_
    · rintro i u ρ₁ st₁ hu ⟨rfl, kb, A1⟩
      have hin : i < n := by
        have := (List.getElem?_eq_some_iff.mp hu).1
        simp at this
        omega
      rw [List.getElem?_take_of_lt hin, List.getElem?_drop, List.getElem?_map] at hu
      obtain ⟨r, hr, rfl⟩ := Option.map_eq_some_iff.mp hu
      obtain ⟨s0, s1⟩ := stN_ok hf.1 hf.2 hrs (g.place + i)
      have I1 := kb x _ (by simp [n1]) ((Le.alloc hd0) _ _ W.i)
      have D1 := kb d0 _ (by simp [nd0]) get_head
      refine WPS.cons ?_
      refine WPs.setAttr ?_
      (repeat' (first | ((fail_if_success (with_reducible show WPS _ _ _ _ _ _ _ _)); (first | ((with_reducible refine WPEs.cons ?_ ?_); (case refine_2 => intros; rfl)) | ((with_reducible refine c_forth ‹_› ?_ ?_ ?_); (case refine_1 => rfl); (case refine_3 => intros; rfl)) | ((with_reducible refine' WPE.nm ?_ ?_ ?_ ?_); (case refine'_2 => rfl); (case refine'_4 => decide); (case refine'_5 => decide)) | fail)) | fail))
      refine selfA rfl (by decide) (by decide) I1 A1 (Facts.at_Walker_state hK) rfl rfl ?_
      (repeat' (first | ((fail_if_success (with_reducible show WPS _ _ _ _ _ _ _ _)); (first | (with_reducible refine WPEs.nil ?_) | fail)) | fail))
      refine s_forth hK (hrs r (List.mem_of_getElem? hr)) s0 s1 ?_
      (repeat' (first | ((fail_if_success (with_reducible show WPS _ _ _ _ _ _ _ _)); (first | ((with_reducible refine' WPE.nm ?_ ?_ ?_ ?_); (case refine'_2 => rfl); (case refine'_4 => decide); (case refine'_5 => decide)) | fail)) | fail))
      refine ⟨_, _, _, _, rfl, I1, A1, Facts.at_Walker_state hK, by simp, ?_⟩
      (repeat' (first | (with_reducible refine WPS.nil ?_) | ((fail_if_success (with_reducible show WPS _ _ _ _ _ _ _ _)); (first | (with_reducible refine nxt_next ?_) | fail)) | fail))
      refine lp_next ⟨_, .cons rfl (.cons rfl .nil), .list ((get_upd_ne nd0).trans D1), rfl, kb.upd (by simp), ?_⟩
      rw [get_upd_self A1, ← Nat.add_assoc, stN_succ hr]
      rfl
    · rintro ρ₁ st₁ ⟨rfl, kb, A1⟩
      rw [show (((rs.map Ru.v).drop g.place).take n).length = n by simp; omega] at A1
      have I1 := kb x _ (by simp [n1]) ((Le.alloc hd0) _ _ W.i)
      have R1 := kb ru _ (by simp [n2]) ((Le.alloc hd0) _ _ W.r)
      have K1 := kb sh _ (by simp [n3]) ((Le.alloc hd0) _ _ W.k)
      have S1 := kb se _ (by simp [n4]) ((Le.alloc hd0) _ _ W.s)
      have B1 : KeepBut st st₁ [d, sh, se] := fun a o ha hg => kb a o (fun q => ha (by simp at q; simp [q])) ((Le.alloc hd0) _ _ hg)
      (repeat' (first | ((fail_if_success (with_reducible show WPS _ _ _ _ _ _ _ _)); (first | (with_reducible refine nxt_next ?_) | fail)) | fail))
      refine WPS.cons ?_
      refine WPs.setAttr ?_
      (repeat' (first | ((fail_if_success (with_reducible show WPS _ _ _ _ _ _ _ _)); (first | (with_reducible refine WPE.bin ?_) | fail)) | fail))
      refine selfA rfl (by decide) (by decide) I1 A1 (Facts.at_Walker_place hK) rfl rfl ?_
      (repeat' (first | ((fail_if_success (with_reducible show WPS _ _ _ _ _ _ _ _)); (first | (with_reducible refine Mine.W2.addI ?_) | ((with_reducible refine' WPE.nm ?_ ?_ ?_ ?_); (case refine'_2 => rfl); (case refine'_4 => decide); (case refine'_5 => decide)) | fail)) | fail))
      refine ⟨_, _, _, _, rfl, I1, A1, Facts.at_Walker_place hK, by simp, ?_⟩
      have A2 : get (upd st₁ d (.attr (setL (AW ru sh se room g.place (stN fs rs (g.place + n)) g.cost (wantV g.want)) "place" (.int ((g.place : Int) + (n : Int)))))) d = some (.attr (AW ru sh se room ((g.place : Int) + (n : Int)) (stN fs rs (g.place + n)) g.cost (wantV g.want))) := get_upd_self A1
      have I2 := (get_upd_ne (o := .attr (setL (AW ru sh se room g.place (stN fs rs (g.place + n)) g.cost (wantV g.want)) "place" (.int ((g.place : Int) + (n : Int))))) n1).trans I1
      have R2 := (get_upd_ne (o := .attr (setL (AW ru sh se room g.place (stN fs rs (g.place + n)) g.cost (wantV g.want)) "place" (.int ((g.place : Int) + (n : Int))))) n2).trans R1
      have K2 := (get_upd_ne (o := .attr (setL (AW ru sh se room g.place (stN fs rs (g.place + n)) g.cost (wantV g.want)) "place" (.int ((g.place : Int) + (n : Int))))) n3).trans K1
      have S2 := (get_upd_ne (o := .attr (setL (AW ru sh se room g.place (stN fs rs (g.place + n)) g.cost (wantV g.want)) "place" (.int ((g.place : Int) + (n : Int))))) n4).trans S1
      have B2 := B1.upd (x := d) (o := .attr (setL (AW ru sh se room g.place (stN fs rs (g.place + n)) g.cost (wantV g.want)) "place" (.int ((g.place : Int) + (n : Int))))) (by simp)
      generalize upd st₁ d (.attr (setL (AW ru sh se room g.place (stN fs rs (g.place + n)) g.cost (wantV g.want)) "place" (.int ((g.place : Int) + (n : Int))))) = st₂ at A2 I2 R2 K2 S2 B2
      (repeat' (first | ((fail_if_success (with_reducible show WPS _ _ _ _ _ _ _ _)); (first | (with_reducible refine nxt_next ?_) | fail)) | fail))
      refine WPS.cons ?_
      refine WPs.setAttr ?_
      (repeat' (first | ((fail_if_success (with_reducible show WPS _ _ _ _ _ _ _ _)); (first | (with_reducible refine WPE.bin ?_) | fail)) | fail))
      refine selfA rfl (by decide) (by decide) I2 A2 (Facts.at_Walker_done hK) rfl rfl ?_
      (repeat' (first | ((fail_if_success (with_reducible show WPS _ _ _ _ _ _ _ _)); (first | (with_reducible refine Mine.W2.addI ?_) | ((with_reducible refine' WPE.nm ?_ ?_ ?_ ?_); (case refine'_2 => rfl); (case refine'_4 => decide); (case refine'_5 => decide)) | fail)) | fail))
      refine ⟨_, _, _, _, rfl, I2, A2, Facts.at_Walker_done hK, by simp, ?_⟩
      (repeat' (first | (with_reducible refine WPS.nil ?_) | ((fail_if_success (with_reducible show WPS _ _ _ _ _ _ _ _)); (first | (with_reducible refine nxt_next ?_) | fail)) | fail))
      refine h _ (B2.upd (by simp)) { W with i := (get_upd_ne n1).trans I2, a := ?_, r := (get_upd_ne n2).trans R2, k := (get_upd_ne n3).trans K2, s := (get_upd_ne n4).trans S2, pl := hc2 }
      rw [get_upd_self A2]
      dsimp only
      rw [show ((g.place + n : Nat) : Int) = (g.place : Int) + (n : Int) by omega, show ((g.cost + n : Nat) : Int) = (g.cost : Int) + (n : Int) by omega]
      rfl
  · cases hs
theorem s_do (hK : Kc c) (hq : c.q = true) {dd : Dd} (W : Wk st x d ru sh se fs rs room g) (hf : 0 ≤ fs ∧ fs ≤ 999982) (hrs : ∀ r ∈ rs, r.Ok) (hl : rs.length ≤ 100) (hr : room ≤ 1000) (hs : stp room rs.length g dd = some g') (h : ∀ st', KeepBut st st' [d, sh, se] → Wk st' x d ru sh se fs rs room g' → Q .none st') : CF c (k + 3) A_Walker_do [.ref x, deedV dd] ρ st Q X := by
  have hok : deedOk dd := by
    cases dd with
    | keep => trivial
    | meet => trivial
    | take n => simp only [stp] at hs; split at hs <;> cases hs; rename_i hc; have := W.ml n hc; show n ≤ 100; omega
    | drop n => simp only [stp] at hs; split at hs <;> cases hs; rename_i hc; have := W.ml n hc; show n ≤ 100; omega
    | go n => simp only [stp] at hs; split at hs <;> cases hs; rename_i hc; show 1 ≤ n ∧ n ≤ 100; omega
  refine CallW.fn (Facts.fn_Walker_do hK) rfl ?_
  ((refine WPS.cons ?_); (repeat' (first | (with_reducible first | refine WPEs.nil ?_ | refine WPs.ifs ?_ | refine WPB.not ?_) | ((with_reducible refine WPEs.cons ?_ ?_); (case refine_2 => intros; rfl)) | ((with_reducible refine c_is_deed ‹_› ?_ ?_ ?_); (case refine_1 => rfl); (case refine_3 => intros; rfl)) | ((with_reducible refine' WPE.nm ?_ ?_ ?_ ?_); (case refine'_2 => rfl); (case refine'_4 => decide); (case refine'_5 => decide)) | ((with_reducible refine WPB.val ?_ ?_); (case refine_2 => intros; rfl)) | fail)))
  refine s_is_deed hK hok ?_
  cases dd with
  | keep =>
    simp only [deedV]
    (repeat' (first | (with_reducible refine WPS.nil ?_) | ((fail_if_success (with_reducible show WPS _ _ _ _ _ _ _ _)); (first | (with_reducible first | refine nxt_next ?_ | refine cnd_t ?_ | refine cnd_f ?_ | refine ⟨_, rfl, ?_⟩) | fail)) | fail))
    refine WPS.cons ?_
    (repeat' (first | ((fail_if_success (with_reducible show WPS _ _ _ _ _ _ _ _)); (first | (with_reducible first | refine WPE.cint ?_ | refine WPE.cstr ?_ | refine Mine.W2.eqS ?_ | refine cnd_t ?_ | refine WPs.ifs ?_) | ((with_reducible refine WPB.cmp ?_ ?_); (case refine_2 => rfl)) | (with_reducible refine WPE.sub ?_) | ((with_reducible refine' WPE.nm ?_ ?_ ?_ ?_); (case refine'_2 => rfl); (case refine'_4 => decide); (case refine'_5 => decide)) | ((with_reducible refine cnd_is true ?_ ?_); (case refine_1 => rfl)) | ((with_reducible refine' Mine.W2.tupAt ?_ ?_ ?_ ?_); (case refine'_2 => rfl); (case refine'_3 => rfl); (case refine'_4 => rfl)) | (with_reducible refine ⟨_, rfl, ?_⟩) | fail)) | fail))
    refine WPS.cons ?_
    refine WPs.expr ?_
    refine WPE.methI ?_
    (repeat' (first | ((fail_if_success (with_reducible show WPS _ _ _ _ _ _ _ _)); (first | ((with_reducible refine' WPE.nm ?_ ?_ ?_ ?_); (case refine'_2 => rfl); (case refine'_4 => decide); (case refine'_5 => decide)) | fail)) | fail))
    refine ⟨_, _, _, _, _, rfl, W.i, W.a, rfl, Facts.me_Walker_keep_it hK, ?_⟩
    (repeat' (first | ((fail_if_success (with_reducible show WPS _ _ _ _ _ _ _ _)); (first | (with_reducible refine WPEs.nil ?_) | fail)) | fail))
    refine WL.le (s_keep_it (k := k) hK hq W hr hs ?_) (by omega)
    intro st' kb W'
    (repeat' (first | (with_reducible refine WPS.nil ?_) | ((fail_if_success (with_reducible show WPS _ _ _ _ _ _ _ _)); (first | (with_reducible refine nxt_next ?_) | fail)) | fail))
    exact h st' kb W'
  | go n =>
    simp only [deedV]
    (repeat' (first | (with_reducible refine WPS.nil ?_) | ((fail_if_success (with_reducible show WPS _ _ _ _ _ _ _ _)); (first | (with_reducible first | refine nxt_next ?_ | refine cnd_t ?_ | refine cnd_f ?_ | refine ⟨_, rfl, ?_⟩) | fail)) | fail))
    refine WPS.cons ?_
    (repeat' (first | ((fail_if_success (with_reducible show WPS _ _ _ _ _ _ _ _)); (first | (with_reducible first | refine WPE.cint ?_ | refine WPE.cstr ?_ | refine Mine.W2.eqS ?_ | refine cnd_f ?_ | refine WPs.ifs ?_) | ((with_reducible refine WPB.cmp ?_ ?_); (case refine_2 => rfl)) | (with_reducible refine WPE.sub ?_) | ((with_reducible refine' WPE.nm ?_ ?_ ?_ ?_); (case refine'_2 => rfl); (case refine'_4 => decide); (case refine'_5 => decide)) | ((with_reducible refine cnd_is false ?_ ?_); (case refine_1 => rfl)) | ((with_reducible refine' Mine.W2.tupAt ?_ ?_ ?_ ?_); (case refine'_2 => rfl); (case refine'_3 => rfl); (case refine'_4 => rfl)) | (with_reducible refine ⟨_, rfl, ?_⟩) | fail)) | fail))
    refine WPS.cons ?_
    (repeat' (first | ((fail_if_success (with_reducible show WPS _ _ _ _ _ _ _ _)); (first | (with_reducible first | refine WPE.cint ?_ | refine WPE.cstr ?_ | refine Mine.W2.eqS ?_ | refine cnd_t ?_ | refine WPs.ifs ?_) | ((with_reducible refine WPB.cmp ?_ ?_); (case refine_2 => rfl)) | (with_reducible refine WPE.sub ?_) | ((with_reducible refine' WPE.nm ?_ ?_ ?_ ?_); (case refine'_2 => rfl); (case refine'_4 => decide); (case refine'_5 => decide)) | ((with_reducible refine cnd_is true ?_ ?_); (case refine_1 => rfl)) | ((with_reducible refine' Mine.W2.tupAt ?_ ?_ ?_ ?_); (case refine'_2 => rfl); (case refine'_3 => rfl); (case refine'_4 => rfl)) | (with_reducible refine ⟨_, rfl, ?_⟩) | fail)) | fail))
    refine WPS.cons ?_
    refine WPs.expr ?_
    refine WPE.methI ?_
    (repeat' (first | ((fail_if_success (with_reducible show WPS _ _ _ _ _ _ _ _)); (first | ((with_reducible refine' WPE.nm ?_ ?_ ?_ ?_); (case refine'_2 => rfl); (case refine'_4 => decide); (case refine'_5 => decide)) | fail)) | fail))
    refine ⟨_, _, _, _, _, rfl, W.i, W.a, rfl, Facts.me_Walker_go_on hK, ?_⟩
    (repeat' (first | ((fail_if_success (with_reducible show WPS _ _ _ _ _ _ _ _)); (first | (with_reducible first | refine WPE.cint ?_ | refine WPEs.nil ?_) | ((with_reducible refine WPEs.cons ?_ ?_); (case refine_2 => intros; rfl)) | (with_reducible refine WPE.sub ?_) | ((with_reducible refine' WPE.nm ?_ ?_ ?_ ?_); (case refine'_2 => rfl); (case refine'_4 => decide); (case refine'_5 => decide)) | ((with_reducible refine' Mine.W2.tupAt ?_ ?_ ?_ ?_); (case refine'_2 => rfl); (case refine'_3 => rfl); (case refine'_4 => rfl)) | fail)) | fail))
    refine s_go_on hK hq W hf hrs hl hs ?_
    intro st' kb W'
    (repeat' (first | (with_reducible refine WPS.nil ?_) | ((fail_if_success (with_reducible show WPS _ _ _ _ _ _ _ _)); (first | (with_reducible refine nxt_next ?_) | fail)) | fail))
    exact h st' kb W'
  | meet =>
    simp only [deedV]
    (repeat' (first | (with_reducible refine WPS.nil ?_) | ((fail_if_success (with_reducible show WPS _ _ _ _ _ _ _ _)); (first | (with_reducible first | refine nxt_next ?_ | refine cnd_t ?_ | refine cnd_f ?_ | refine ⟨_, rfl, ?_⟩) | fail)) | fail))
    refine WPS.cons ?_
    (repeat' (first | ((fail_if_success (with_reducible show WPS _ _ _ _ _ _ _ _)); (first | (with_reducible first | refine WPE.cint ?_ | refine WPE.cstr ?_ | refine Mine.W2.eqS ?_ | refine cnd_f ?_ | refine WPs.ifs ?_) | ((with_reducible refine WPB.cmp ?_ ?_); (case refine_2 => rfl)) | (with_reducible refine WPE.sub ?_) | ((with_reducible refine' WPE.nm ?_ ?_ ?_ ?_); (case refine'_2 => rfl); (case refine'_4 => decide); (case refine'_5 => decide)) | ((with_reducible refine cnd_is false ?_ ?_); (case refine_1 => rfl)) | ((with_reducible refine' Mine.W2.tupAt ?_ ?_ ?_ ?_); (case refine'_2 => rfl); (case refine'_3 => rfl); (case refine'_4 => rfl)) | (with_reducible refine ⟨_, rfl, ?_⟩) | fail)) | fail))
    refine WPS.cons ?_
    (repeat' (first | ((fail_if_success (with_reducible show WPS _ _ _ _ _ _ _ _)); (first | (with_reducible first | refine WPE.cint ?_ | refine WPE.cstr ?_ | refine Mine.W2.eqS ?_ | refine cnd_f ?_ | refine WPs.ifs ?_) | ((with_reducible refine WPB.cmp ?_ ?_); (case refine_2 => rfl)) | (with_reducible refine WPE.sub ?_) | ((with_reducible refine' WPE.nm ?_ ?_ ?_ ?_); (case refine'_2 => rfl); (case refine'_4 => decide); (case refine'_5 => decide)) | ((with_reducible refine cnd_is false ?_ ?_); (case refine_1 => rfl)) | ((with_reducible refine' Mine.W2.tupAt ?_ ?_ ?_ ?_); (case refine'_2 => rfl); (case refine'_3 => rfl); (case refine'_4 => rfl)) | (with_reducible refine ⟨_, rfl, ?_⟩) | fail)) | fail))
    refine WPS.cons ?_
    (repeat' (first | ((fail_if_success (with_reducible show WPS _ _ _ _ _ _ _ _)); (first | (with_reducible first | refine WPE.cint ?_ | refine WPE.cstr ?_ | refine Mine.W2.eqS ?_ | refine cnd_t ?_ | refine WPs.ifs ?_) | ((with_reducible refine WPB.cmp ?_ ?_); (case refine_2 => rfl)) | (with_reducible refine WPE.sub ?_) | ((with_reducible refine' WPE.nm ?_ ?_ ?_ ?_); (case refine'_2 => rfl); (case refine'_4 => decide); (case refine'_5 => decide)) | ((with_reducible refine cnd_is true ?_ ?_); (case refine_1 => rfl)) | ((with_reducible refine' Mine.W2.tupAt ?_ ?_ ?_ ?_); (case refine'_2 => rfl); (case refine'_3 => rfl); (case refine'_4 => rfl)) | (with_reducible refine ⟨_, rfl, ?_⟩) | fail)) | fail))
    refine WPS.cons ?_
    refine WPs.expr ?_
    refine WPE.methI ?_
    (repeat' (first | ((fail_if_success (with_reducible show WPS _ _ _ _ _ _ _ _)); (first | ((with_reducible refine' WPE.nm ?_ ?_ ?_ ?_); (case refine'_2 => rfl); (case refine'_4 => decide); (case refine'_5 => decide)) | fail)) | fail))
    refine ⟨_, _, _, _, _, rfl, W.i, W.a, rfl, Facts.me_Walker_meet_it hK, ?_⟩
    (repeat' (first | ((fail_if_success (with_reducible show WPS _ _ _ _ _ _ _ _)); (first | (with_reducible refine WPEs.nil ?_) | fail)) | fail))
    refine WL.le (s_meet_it (k := k) hK hq W (by omega) hs ?_) (by omega)
    intro st' kb W'
    (repeat' (first | (with_reducible refine WPS.nil ?_) | ((fail_if_success (with_reducible show WPS _ _ _ _ _ _ _ _)); (first | (with_reducible refine nxt_next ?_) | fail)) | fail))
    exact h st' kb W'
  | take n =>
    simp only [deedV]
    (repeat' (first | (with_reducible refine WPS.nil ?_) | ((fail_if_success (with_reducible show WPS _ _ _ _ _ _ _ _)); (first | (with_reducible first | refine nxt_next ?_ | refine cnd_t ?_ | refine cnd_f ?_ | refine ⟨_, rfl, ?_⟩) | fail)) | fail))
    refine WPS.cons ?_
    (repeat' (first | ((fail_if_success (with_reducible show WPS _ _ _ _ _ _ _ _)); (first | (with_reducible first | refine WPE.cint ?_ | refine WPE.cstr ?_ | refine Mine.W2.eqS ?_ | refine cnd_f ?_ | refine WPs.ifs ?_) | ((with_reducible refine WPB.cmp ?_ ?_); (case refine_2 => rfl)) | (with_reducible refine WPE.sub ?_) | ((with_reducible refine' WPE.nm ?_ ?_ ?_ ?_); (case refine'_2 => rfl); (case refine'_4 => decide); (case refine'_5 => decide)) | ((with_reducible refine cnd_is false ?_ ?_); (case refine_1 => rfl)) | ((with_reducible refine' Mine.W2.tupAt ?_ ?_ ?_ ?_); (case refine'_2 => rfl); (case refine'_3 => rfl); (case refine'_4 => rfl)) | (with_reducible refine ⟨_, rfl, ?_⟩) | fail)) | fail))
    refine WPS.cons ?_
    (repeat' (first | ((fail_if_success (with_reducible show WPS _ _ _ _ _ _ _ _)); (first | (with_reducible first | refine WPE.cint ?_ | refine WPE.cstr ?_ | refine Mine.W2.eqS ?_ | refine cnd_f ?_ | refine WPs.ifs ?_) | ((with_reducible refine WPB.cmp ?_ ?_); (case refine_2 => rfl)) | (with_reducible refine WPE.sub ?_) | ((with_reducible refine' WPE.nm ?_ ?_ ?_ ?_); (case refine'_2 => rfl); (case refine'_4 => decide); (case refine'_5 => decide)) | ((with_reducible refine cnd_is false ?_ ?_); (case refine_1 => rfl)) | ((with_reducible refine' Mine.W2.tupAt ?_ ?_ ?_ ?_); (case refine'_2 => rfl); (case refine'_3 => rfl); (case refine'_4 => rfl)) | (with_reducible refine ⟨_, rfl, ?_⟩) | fail)) | fail))
    refine WPS.cons ?_
    (repeat' (first | ((fail_if_success (with_reducible show WPS _ _ _ _ _ _ _ _)); (first | (with_reducible first | refine WPE.cint ?_ | refine WPE.cstr ?_ | refine Mine.W2.eqS ?_ | refine cnd_f ?_ | refine WPs.ifs ?_) | ((with_reducible refine WPB.cmp ?_ ?_); (case refine_2 => rfl)) | (with_reducible refine WPE.sub ?_) | ((with_reducible refine' WPE.nm ?_ ?_ ?_ ?_); (case refine'_2 => rfl); (case refine'_4 => decide); (case refine'_5 => decide)) | ((with_reducible refine cnd_is false ?_ ?_); (case refine_1 => rfl)) | ((with_reducible refine' Mine.W2.tupAt ?_ ?_ ?_ ?_); (case refine'_2 => rfl); (case refine'_3 => rfl); (case refine'_4 => rfl)) | (with_reducible refine ⟨_, rfl, ?_⟩) | fail)) | fail))
    refine WPS.cons ?_
    refine WPs.expr ?_
    refine WPE.methI ?_
    (repeat' (first | ((fail_if_success (with_reducible show WPS _ _ _ _ _ _ _ _)); (first | ((with_reducible refine' WPE.nm ?_ ?_ ?_ ?_); (case refine'_2 => rfl); (case refine'_4 => decide); (case refine'_5 => decide)) | fail)) | fail))
    refine ⟨_, _, _, _, _, rfl, W.i, W.a, rfl, Facts.me_Walker_handle hK, ?_⟩
    (repeat' (first | ((fail_if_success (with_reducible show WPS _ _ _ _ _ _ _ _)); (first | (with_reducible first | refine WPE.cint ?_ | refine WPEs.nil ?_) | ((with_reducible refine WPEs.cons ?_ ?_); (case refine_2 => intros; rfl)) | (with_reducible refine WPE.sub ?_) | ((with_reducible refine' WPE.nm ?_ ?_ ?_ ?_); (case refine'_2 => rfl); (case refine'_4 => decide); (case refine'_5 => decide)) | ((with_reducible refine' Mine.W2.tupAt ?_ ?_ ?_ ?_); (case refine'_2 => rfl); (case refine'_3 => rfl); (case refine'_4 => rfl)) | fail)) | fail))
    refine WL.le (s_handle (k := k) hK hq (.inl ⟨rfl, rfl⟩) W hr hs ?_) (by omega)
    intro st' kb W'
    (repeat' (first | (with_reducible refine WPS.nil ?_) | ((fail_if_success (with_reducible show WPS _ _ _ _ _ _ _ _)); (first | (with_reducible refine nxt_next ?_) | fail)) | fail))
    exact h st' kb W'
  | drop n =>
    simp only [deedV]
    (repeat' (first | (with_reducible refine WPS.nil ?_) | ((fail_if_success (with_reducible show WPS _ _ _ _ _ _ _ _)); (first | (with_reducible first | refine nxt_next ?_ | refine cnd_t ?_ | refine cnd_f ?_ | refine ⟨_, rfl, ?_⟩) | fail)) | fail))
    refine WPS.cons ?_
    (repeat' (first | ((fail_if_success (with_reducible show WPS _ _ _ _ _ _ _ _)); (first | (with_reducible first | refine WPE.cint ?_ | refine WPE.cstr ?_ | refine Mine.W2.eqS ?_ | refine cnd_f ?_ | refine WPs.ifs ?_) | ((with_reducible refine WPB.cmp ?_ ?_); (case refine_2 => rfl)) | (with_reducible refine WPE.sub ?_) | ((with_reducible refine' WPE.nm ?_ ?_ ?_ ?_); (case refine'_2 => rfl); (case refine'_4 => decide); (case refine'_5 => decide)) | ((with_reducible refine cnd_is false ?_ ?_); (case refine_1 => rfl)) | ((with_reducible refine' Mine.W2.tupAt ?_ ?_ ?_ ?_); (case refine'_2 => rfl); (case refine'_3 => rfl); (case refine'_4 => rfl)) | (with_reducible refine ⟨_, rfl, ?_⟩) | fail)) | fail))
    refine WPS.cons ?_
    (repeat' (first | ((fail_if_success (with_reducible show WPS _ _ _ _ _ _ _ _)); (first | (with_reducible first | refine WPE.cint ?_ | refine WPE.cstr ?_ | refine Mine.W2.eqS ?_ | refine cnd_f ?_ | refine WPs.ifs ?_) | ((with_reducible refine WPB.cmp ?_ ?_); (case refine_2 => rfl)) | (with_reducible refine WPE.sub ?_) | ((with_reducible refine' WPE.nm ?_ ?_ ?_ ?_); (case refine'_2 => rfl); (case refine'_4 => decide); (case refine'_5 => decide)) | ((with_reducible refine cnd_is false ?_ ?_); (case refine_1 => rfl)) | ((with_reducible refine' Mine.W2.tupAt ?_ ?_ ?_ ?_); (case refine'_2 => rfl); (case refine'_3 => rfl); (case refine'_4 => rfl)) | (with_reducible refine ⟨_, rfl, ?_⟩) | fail)) | fail))
    refine WPS.cons ?_
    (repeat' (first | ((fail_if_success (with_reducible show WPS _ _ _ _ _ _ _ _)); (first | (with_reducible first | refine WPE.cint ?_ | refine WPE.cstr ?_ | refine Mine.W2.eqS ?_ | refine cnd_f ?_ | refine WPs.ifs ?_) | ((with_reducible refine WPB.cmp ?_ ?_); (case refine_2 => rfl)) | (with_reducible refine WPE.sub ?_) | ((with_reducible refine' WPE.nm ?_ ?_ ?_ ?_); (case refine'_2 => rfl); (case refine'_4 => decide); (case refine'_5 => decide)) | ((with_reducible refine cnd_is false ?_ ?_); (case refine_1 => rfl)) | ((with_reducible refine' Mine.W2.tupAt ?_ ?_ ?_ ?_); (case refine'_2 => rfl); (case refine'_3 => rfl); (case refine'_4 => rfl)) | (with_reducible refine ⟨_, rfl, ?_⟩) | fail)) | fail))
    refine WPS.cons ?_
    refine WPs.expr ?_
    refine WPE.methI ?_
    (repeat' (first | ((fail_if_success (with_reducible show WPS _ _ _ _ _ _ _ _)); (first | ((with_reducible refine' WPE.nm ?_ ?_ ?_ ?_); (case refine'_2 => rfl); (case refine'_4 => decide); (case refine'_5 => decide)) | fail)) | fail))
    refine ⟨_, _, _, _, _, rfl, W.i, W.a, rfl, Facts.me_Walker_handle hK, ?_⟩
    (repeat' (first | ((fail_if_success (with_reducible show WPS _ _ _ _ _ _ _ _)); (first | (with_reducible first | refine WPE.cint ?_ | refine WPEs.nil ?_) | ((with_reducible refine WPEs.cons ?_ ?_); (case refine_2 => intros; rfl)) | (with_reducible refine WPE.sub ?_) | ((with_reducible refine' WPE.nm ?_ ?_ ?_ ?_); (case refine'_2 => rfl); (case refine'_4 => decide); (case refine'_5 => decide)) | ((with_reducible refine' Mine.W2.tupAt ?_ ?_ ?_ ?_); (case refine'_2 => rfl); (case refine'_3 => rfl); (case refine'_4 => rfl)) | fail)) | fail))
    refine WL.le (s_handle (k := k) hK hq (.inr ⟨rfl, rfl⟩) W hr hs ?_) (by omega)
    intro st' kb W'
    (repeat' (first | (with_reducible refine WPS.nil ?_) | ((fail_if_success (with_reducible show WPS _ _ _ _ _ _ _ _)); (first | (with_reducible refine nxt_next ?_) | fail)) | fail))
    exact h st' kb W'
/-- all that is new -/
noncomputable def Fresh (st : St) (as : List Addr) : Prop := ∀ a ∈ as, get st a = none
theorem s_Walker (hK : Kc c) (hq : c.q = true) {ra : Addr} (hg : get st ra = some (.list (rs.map Ru.v))) (hf : 0 ≤ fs ∧ fs ≤ 999982) (hrs : ∀ r ∈ rs, r.Ok) (hl : rs.length ≤ 100) (h1 : 1 ≤ room) (h2 : room ≤ 12)
    (h : ∀ x d ru sh se st', Le st st' → Fresh st [x, d, ru, sh, se] → Wk st' x d ru sh se fs rs room ⟨0, [], rs.length + 1, 0⟩ → Q (.ref x) st') : CF c (k + 6) A_Walker [.int fs, .ref ra, .int room] ρ st Q X := by
  refine WL.make (k := k + 4) (Facts.mk_Walker hK) (Facts.fn_Walker_init hK) rfl ?_
  intro x d hx hd hxd
  have hle0 : Le st ((x, .inst A_Walker d) :: (d, .attr []) :: st) := (Le.alloc hd).cons (by rw [get_tail hxd]; exact hx)
  have hg0 := hle0 _ _ hg
  have I0 : get ((x, O.inst A_Walker d) :: (d, .attr []) :: st) x = some (.inst A_Walker d) := get_head
  have A0 : get ((x, O.inst A_Walker d) :: (d, .attr []) :: st) d = some (.attr []) := by rw [get_tail (Ne.symm hxd), get_head]
  generalize (x, O.inst A_Walker d) :: (d, .attr []) :: st = st₀ at hle0 hg0 I0 A0
  have hra : ra ≠ d := fun e => by rw [e, hd] at hg; cases hg
  refine WPS.cons ?_
  (repeat' (first | ((fail_if_success (with_reducible show WPS _ _ _ _ _ _ _ _)); (first | (with_reducible refine WPEs.nil ?_) | ((with_reducible refine WPEs.cons ?_ ?_); (case refine_2 => intros; rfl)) | ((with_reducible refine WPs.expr ?_ ?_); (case refine_2 => intros; rfl)) | ((with_reducible refine c_need_row ‹_› ?_ ?_ ?_); (case refine_1 => rfl); (case refine_3 => intros; rfl)) | ((with_reducible refine' WPE.nm ?_ ?_ ?_ ?_); (case refine'_2 => rfl); (case refine'_4 => decide); (case refine'_5 => decide)) | fail)) | fail))
  refine s_need_good hK hq hf.1 hf.2 hg0 (by simpa using hl) ?_ ?_ ?_
  · intro u hu
    obtain ⟨r, _, rfl⟩ := List.mem_map.mp hu
    exact r.el
  · intro u hu
    obtain ⟨r, hr, rfl⟩ := List.mem_map.mp hu
    exact Ru.is (hrs r hr)
  (repeat' (first | ((fail_if_success (with_reducible show WPS _ _ _ _ _ _ _ _)); (first | (with_reducible refine nxt_next ?_) | fail)) | fail))
  refine WPS.cons ?_
  (repeat' (first | ((fail_if_success (with_reducible show WPS _ _ _ _ _ _ _ _)); (first | (with_reducible first | refine WPE.cint ?_ | refine WPEs.nil ?_ | refine WPs.ifs ?_ | refine WPB.not ?_) | ((with_reducible refine WPEs.cons ?_ ?_); (case refine_2 => intros; rfl)) | ((with_reducible refine n_MOST_ROOM ‹_› ?_ ?_); (case refine_1 => rfl)) | ((with_reducible refine c_between ‹_› ?_ ?_ ?_); (case refine_1 => rfl); (case refine_3 => intros; rfl)) | ((with_reducible refine' WPE.nm ?_ ?_ ?_ ?_); (case refine'_2 => rfl); (case refine'_4 => decide); (case refine'_5 => decide)) | ((with_reducible refine WPB.val ?_ ?_); (case refine_2 => intros; rfl)) | fail)) | fail))
  refine WL.le (s_between (k := k) hK (T := "int") rfl ?_) (by omega)
  rw [show btwV 1 12 (.int (room : Int)) = true by simp [btwV]; omega]
  (repeat' (first | (with_reducible refine WPS.nil ?_) | ((fail_if_success (with_reducible show WPS _ _ _ _ _ _ _ _)); (first | (with_reducible first | refine nxt_next ?_ | refine cnd_t ?_ | refine cnd_f ?_ | refine ⟨_, rfl, ?_⟩) | fail)) | fail))
  refine WPS.cons ?_
  refine WPs.setAttr ?_
  (repeat' (first | ((fail_if_success (with_reducible show WPS _ _ _ _ _ _ _ _)); (first | (with_reducible refine WPEs.nil ?_) | ((with_reducible refine WPEs.cons ?_ ?_); (case refine_2 => intros; rfl)) | ((with_reducible refine c_list ‹_› ?_ ?_ ?_); (case refine_1 => rfl); (case refine_3 => intros; rfl)) | ((with_reducible refine' WPE.nm ?_ ?_ ?_ ?_); (case refine'_2 => rfl); (case refine'_4 => decide); (case refine'_5 => decide)) | fail)) | fail))
  refine WL.listOf hg0 (by simp; omega) ?_
  intro ru hru
  have nru : ru ≠ d := fun e => by rw [e, A0] at hru; cases hru
  have nxru : x ≠ ru := fun e => by rw [← e, I0] at hru; cases hru
  have fru : get st ru = none := hle0.none hru
  have I1 := (Le.alloc (o := .list (rs.map Ru.v)) hru) _ _ I0
  have A1 := (Le.alloc (o := .list (rs.map Ru.v)) hru) _ _ A0
  have R1 : get ((ru, O.list (rs.map Ru.v)) :: st₀) ru = some (.list (rs.map Ru.v)) := get_head
  have G1 := (Le.alloc (o := .list (rs.map Ru.v)) hru) _ _ hg0
  have L1 := hle0.cons (o := .list (rs.map Ru.v)) hru
  generalize (ru, O.list (rs.map Ru.v)) :: st₀ = st₁ at I1 A1 R1 G1 L1
  (repeat' (first | ((fail_if_success (with_reducible show WPS _ _ _ _ _ _ _ _)); (first | ((with_reducible refine' WPE.nm ?_ ?_ ?_ ?_); (case refine'_2 => rfl); (case refine'_4 => decide); (case refine'_5 => decide)) | fail)) | fail))
  refine ⟨_, _, _, _, rfl, I1, A1, Facts.at_Walker_rules hK, by simp, ?_⟩
  have step : ∀ {st₁ : St} {fs₁ fs₂ : List (Str × V)} (I1 : get st₁ x = some (.inst A_Walker d)) (A1 : get st₁ d = some (.attr fs₁)) (R1 : get st₁ ru = some (.list (rs.map Ru.v))) (G1 : get st₁ ra = some (.list (rs.map Ru.v))) (L1 : Le st st₁),
      get (upd st₁ d (.attr fs₂)) x = some (.inst A_Walker d) ∧ get (upd st₁ d (.attr fs₂)) d = some (.attr fs₂) ∧ get (upd st₁ d (.attr fs₂)) ru = some (.list (rs.map Ru.v)) ∧ get (upd st₁ d (.attr fs₂)) ra = some (.list (rs.map Ru.v)) ∧ Le st (upd st₁ d (.attr fs₂)) :=
    fun I1 A1 R1 G1 L1 => ⟨(get_upd_ne hxd).trans I1, get_upd_self A1, (get_upd_ne nru).trans R1, (get_upd_ne hra).trans G1, L1.upd hd⟩
  obtain ⟨I2, A2, R2, G2, L2⟩ := step (fs₂ := setL [] "rules" (.ref ru)) I1 A1 R1 G1 L1
  generalize upd st₁ d (.attr (setL [] "rules" (.ref ru))) = st₂ at I2 A2 R2 G2 L2
  (repeat' (first | ((fail_if_success (with_reducible show WPS _ _ _ _ _ _ _ _)); (first | (with_reducible refine nxt_next ?_) | fail)) | fail))
  refine WPS.cons ?_
  refine WPs.setAttr ?_
  (repeat' (first | ((fail_if_success (with_reducible show WPS _ _ _ _ _ _ _ _)); (first | ((with_reducible refine' WPE.nm ?_ ?_ ?_ ?_); (case refine'_2 => rfl); (case refine'_4 => decide); (case refine'_5 => decide)) | fail)) | fail))
  refine ⟨_, _, _, _, rfl, I2, A2, Facts.at_Walker_room hK, Nat.le_of_ble_eq_true rfl, ?_⟩
  obtain ⟨I3, A3, R3, G3, L3⟩ := step (fs₂ := setL (setL [] "rules" (.ref ru)) "room" (.int (room : Int))) I2 A2 R2 G2 L2
  generalize upd st₂ d (.attr (setL (setL [] "rules" (.ref ru)) "room" (.int (room : Int)))) = st₃ at I3 A3 R3 G3 L3
  (repeat' (first | ((fail_if_success (with_reducible show WPS _ _ _ _ _ _ _ _)); (first | (with_reducible refine nxt_next ?_) | fail)) | fail))
  refine WPS.cons ?_
  refine WPs.setAttr ?_
  (repeat' (first | ((fail_if_success (with_reducible show WPS _ _ _ _ _ _ _ _)); (first | (with_reducible refine WPE.cint ?_) | ((with_reducible refine' WPE.nm ?_ ?_ ?_ ?_); (case refine'_2 => rfl); (case refine'_4 => decide); (case refine'_5 => decide)) | fail)) | fail))
  refine ⟨_, _, _, _, rfl, I3, A3, Facts.at_Walker_place hK, Nat.le_of_ble_eq_true rfl, ?_⟩
  obtain ⟨I4, A4, R4, G4, L4⟩ := step (fs₂ := setL (setL (setL [] "rules" (.ref ru)) "room" (.int (room : Int))) "place" (.int 0)) I3 A3 R3 G3 L3
  generalize upd st₃ d (.attr (setL (setL (setL [] "rules" (.ref ru)) "room" (.int (room : Int))) "place" (.int 0))) = st₄ at I4 A4 R4 G4 L4
  (repeat' (first | ((fail_if_success (with_reducible show WPS _ _ _ _ _ _ _ _)); (first | (with_reducible refine nxt_next ?_) | fail)) | fail))
  refine WPS.cons ?_
  refine WPs.setAttr ?_
  (repeat' (first | ((fail_if_success (with_reducible show WPS _ _ _ _ _ _ _ _)); (first | ((with_reducible refine' WPE.nm ?_ ?_ ?_ ?_); (case refine'_2 => rfl); (case refine'_4 => decide); (case refine'_5 => decide)) | fail)) | fail))
  refine ⟨_, _, _, _, rfl, I4, A4, Facts.at_Walker_state hK, Nat.le_of_ble_eq_true rfl, ?_⟩
  obtain ⟨I5, A5, R5, G5, L5⟩ := step (fs₂ := setL (setL (setL (setL [] "rules" (.ref ru)) "room" (.int (room : Int))) "place" (.int 0)) "state" (.int fs)) I4 A4 R4 G4 L4
  generalize upd st₄ d (.attr (setL (setL (setL (setL [] "rules" (.ref ru)) "room" (.int (room : Int))) "place" (.int 0)) "state" (.int fs))) = st₅ at I5 A5 R5 G5 L5
  (repeat' (first | ((fail_if_success (with_reducible show WPS _ _ _ _ _ _ _ _)); (first | (with_reducible refine nxt_next ?_) | fail)) | fail))
  refine WPS.cons ?_
  refine WPs.setAttr ?_
  (repeat' (first | ((fail_if_success (with_reducible show WPS _ _ _ _ _ _ _ _)); (first | (with_reducible refine WPE.cint ?_) | ((with_reducible refine' WPE.nm ?_ ?_ ?_ ?_); (case refine'_2 => rfl); (case refine'_4 => decide); (case refine'_5 => decide)) | fail)) | fail))
  refine ⟨_, _, _, _, rfl, I5, A5, Facts.at_Walker_done hK, Nat.le_of_ble_eq_true rfl, ?_⟩
  obtain ⟨I6, A6, R6, G6, L6⟩ := step (fs₂ := setL (setL (setL (setL (setL [] "rules" (.ref ru)) "room" (.int (room : Int))) "place" (.int 0)) "state" (.int fs)) "done" (.int 0)) I5 A5 R5 G5 L5
  generalize upd st₅ d (.attr (setL (setL (setL (setL (setL [] "rules" (.ref ru)) "room" (.int (room : Int))) "place" (.int 0)) "state" (.int fs)) "done" (.int 0))) = st₆ at I6 A6 R6 G6 L6
  (repeat' (first | ((fail_if_success (with_reducible show WPS _ _ _ _ _ _ _ _)); (first | (with_reducible refine nxt_next ?_) | fail)) | fail))
  refine WPS.cons ?_
  refine WPs.setAttr ?_
  (repeat' (first | ((fail_if_success (with_reducible show WPS _ _ _ _ _ _ _ _)); (first | (with_reducible refine WPEs.nil ?_) | ((with_reducible refine WPEs.cons ?_ ?_); (case refine_2 => intros; rfl)) | ((with_reducible refine c_len ‹_› ?_ ?_ ?_); (case refine_1 => rfl); (case refine_3 => intros; rfl)) | ((with_reducible refine' WPE.nm ?_ ?_ ?_ ?_); (case refine'_2 => rfl); (case refine'_4 => decide); (case refine'_5 => decide)) | fail)) | fail))
  refine WL.lenList G6 (by simp; omega) ?_
  (repeat' (first | ((fail_if_success (with_reducible show WPS _ _ _ _ _ _ _ _)); (first | ((with_reducible refine' WPE.nm ?_ ?_ ?_ ?_); (case refine'_2 => rfl); (case refine'_4 => decide); (case refine'_5 => decide)) | fail)) | fail))
  refine ⟨_, _, _, _, rfl, I6, A6, Facts.at_Walker_wanted hK, Nat.le_of_ble_eq_true rfl, ?_⟩
  obtain ⟨I7, A7, R7, G7, L7⟩ := step (fs₂ := setL (setL (setL (setL (setL (setL [] "rules" (.ref ru)) "room" (.int (room : Int))) "place" (.int 0)) "state" (.int fs)) "done" (.int 0)) "wanted" (.int ((rs.map Ru.v).length : Int))) I6 A6 R6 G6 L6
  generalize upd st₆ d (.attr (setL (setL (setL (setL (setL (setL [] "rules" (.ref ru)) "room" (.int (room : Int))) "place" (.int 0)) "state" (.int fs)) "done" (.int 0)) "wanted" (.int ((rs.map Ru.v).length : Int)))) = st₇ at I7 A7 R7 G7 L7
  (repeat' (first | ((fail_if_success (with_reducible show WPS _ _ _ _ _ _ _ _)); (first | (with_reducible refine nxt_next ?_) | fail)) | fail))
  refine WPS.cons ?_
  refine WPs.setAttr ?_
  refine WPE.dict0 ?_
  intro sh hsh hsys
  have nsh : sh ≠ d := fun e => by rw [e, A7] at hsh; cases hsh
  have fsh : get st sh = none := L7.none hsh
  (repeat' (first | ((fail_if_success (with_reducible show WPS _ _ _ _ _ _ _ _)); (first | ((with_reducible refine' WPE.nm ?_ ?_ ?_ ?_); (case refine'_2 => rfl); (case refine'_4 => decide); (case refine'_5 => decide)) | fail)) | fail))
  refine ⟨_, _, _, _, rfl, (Le.alloc hsh) _ _ I7, (Le.alloc hsh) _ _ A7, Facts.at_Walker_shelf hK, Nat.le_of_ble_eq_true rfl, ?_⟩
  obtain ⟨I8, A8, R8, G8, L8⟩ := step (st₁ := (sh, .dictI []) :: st₇) (fs₂ := setL (setL (setL (setL (setL (setL (setL [] "rules" (.ref ru)) "room" (.int (room : Int))) "place" (.int 0)) "state" (.int fs)) "done" (.int 0)) "wanted" (.int ((rs.map Ru.v).length : Int))) "shelf" (.ref sh)) ((Le.alloc hsh) _ _ I7) ((Le.alloc hsh) _ _ A7) ((Le.alloc hsh) _ _ R7) ((Le.alloc hsh) _ _ G7) (L7.cons hsh)
  have K8 := (get_upd_ne (o := .attr (setL (setL (setL (setL (setL (setL (setL [] "rules" (.ref ru)) "room" (.int (room : Int))) "place" (.int 0)) "state" (.int fs)) "done" (.int 0)) "wanted" (.int ((rs.map Ru.v).length : Int))) "shelf" (.ref sh))) nsh).trans (get_head (st := st₇) (a := sh) (o := .dictI []))
  generalize upd ((sh, .dictI []) :: st₇) d (.attr (setL (setL (setL (setL (setL (setL (setL [] "rules" (.ref ru)) "room" (.int (room : Int))) "place" (.int 0)) "state" (.int fs)) "done" (.int 0)) "wanted" (.int ((rs.map Ru.v).length : Int))) "shelf" (.ref sh))) = st₈ at I8 A8 R8 G8 L8 K8
  (repeat' (first | ((fail_if_success (with_reducible show WPS _ _ _ _ _ _ _ _)); (first | (with_reducible refine nxt_next ?_) | fail)) | fail))
  refine WPS.cons ?_
  refine WPs.setAttr ?_
  (repeat' (first | ((fail_if_success (with_reducible show WPS _ _ _ _ _ _ _ _)); (first | (with_reducible refine WPEs.nil ?_) | ((with_reducible refine WPE.lst ?_ ?_); (case refine_2 => decide)) | fail)) | fail))
  intro se hse
  have nse : se ≠ d := fun e => by rw [e, A8] at hse; cases hse
  have fse : get st se = none := L8.none hse
  (repeat' (first | ((fail_if_success (with_reducible show WPS _ _ _ _ _ _ _ _)); (first | ((with_reducible refine' WPE.nm ?_ ?_ ?_ ?_); (case refine'_2 => rfl); (case refine'_4 => decide); (case refine'_5 => decide)) | fail)) | fail))
  refine ⟨_, _, _, _, rfl, (Le.alloc hse) _ _ I8, (Le.alloc hse) _ _ A8, Facts.at_Walker_seen hK, Nat.le_of_ble_eq_true rfl, ?_⟩
  (repeat' (first | (with_reducible refine WPS.nil ?_) | ((fail_if_success (with_reducible show WPS _ _ _ _ _ _ _ _)); (first | (with_reducible refine nxt_next ?_) | fail)) | fail))
  obtain ⟨I9, A9, R9, G9, L9⟩ := step (st₁ := (se, .list []) :: st₈) (fs₂ := setL (setL (setL (setL (setL (setL (setL (setL [] "rules" (.ref ru)) "room" (.int (room : Int))) "place" (.int 0)) "state" (.int fs)) "done" (.int 0)) "wanted" (.int ((rs.map Ru.v).length : Int))) "shelf" (.ref sh)) "seen" (.ref se)) ((Le.alloc hse) _ _ I8) ((Le.alloc hse) _ _ A8) ((Le.alloc hse) _ _ R8) ((Le.alloc hse) _ _ G8) (L8.cons hse)
  refine ⟨rfl, h x d ru sh se _ L9 ?_ ⟨I9, ?_, R9, ?_, ?_, ?_, hsys, Nat.zero_le _, by simp, Nat.le_refl _, .nil, by simp⟩⟩
  · intro a ha
    simp at ha
    rcases ha with rfl | rfl | rfl | rfl | rfl
    · exact hx
    · exact hd
    · exact fru
    · exact fsh
    · exact fse
  · rw [A9]
    simp only [List.length_map]
    rfl
  · exact (get_upd_ne nsh).trans ((Le.alloc hse) _ _ K8)
  · rw [get_upd_ne nse, get_head]
    dsimp only
    rw [Nat.sub_self]
    rfl
  · intro e
    rw [← e, R8] at hse; cases hse
theorem s_met (hK : Kc c) (hq : c.q = true) (W : Wk st x d ru sh se fs rs room g) (hl : rs.length ≤ 1000) (h : ∀ a, get st a = none → Q (.ref a) ((a, .list ((seenL fs rs (rs.length + 1 - g.want)).map .int)) :: st)) : CF c (k + 1) A_Walker_met [.ref x] ρ st Q X := by
  refine CallW.fn (Facts.fn_Walker_met hK) rfl ?_
  ((refine WPS.cons ?_); (repeat' (first | (with_reducible refine WPs.ret ?_) | ((with_reducible refine WPEs.cons ?_ ?_); (case refine_2 => intros; rfl)) | ((with_reducible refine c_list ‹_› ?_ ?_ ?_); (case refine_1 => rfl); (case refine_3 => intros; rfl)) | fail)))
  refine selfA rfl (by decide) (by decide) W.i W.a (Facts.at_Walker_seen hK) rfl rfl ?_
  (repeat' (first | (with_reducible refine WPEs.nil ?_) | fail))
  refine WL.listOf W.s (by simp [seenL]; omega) ?_
  intro a ha
  exact h a ha
noncomputable def keptV (fs : Int) (rs : List Ru) (ms : List Nat) : List V := ms.map fun (m : Nat) => V.tup [.int (m : Int), .int (stN fs rs m)]
theorem s_kept (hK : Kc c) (hq : c.q = true) (W : Wk st x d ru sh se fs rs room g) (hr : room < 64) (h : ∀ ms a st', Le st st' → ms.Perm g.marks → ms.Pairwise (· ≤ ·) → get st a = none → get st' a = some (.list (keptV fs rs ms)) → Q (.ref a) st') : CF c (k + 1) A_Walker_kept [.ref x] ρ st Q X := by
  have hrl := W.rl
  refine CallW.fn (Facts.fn_Walker_kept hK) rfl ?_
  ((refine WPS.cons ?_); (repeat' (first | (with_reducible refine WPs.ret ?_) | ((with_reducible refine WPEs.cons ?_ ?_); (case refine_2 => intros; rfl)) | ((with_reducible refine WPE.comp ‹_› ?_ ?_ ?_); (case refine_1 => rfl); (case refine_3 => intros; rfl)) | ((with_reducible refine c_sorted ‹_› ?_ ?_ ?_); (case refine_1 => rfl); (case refine_3 => intros; rfl)) | fail)))
  refine selfA rfl (by decide) (by decide) W.i W.a (Facts.at_Walker_shelf hK) rfl rfl ?_
  (repeat' (first | (with_reducible refine WPEs.nil ?_) | fail))
  refine WL.sortedDict hq W.sys W.k (by rw [sKv_len]; omega) ?_
  intro ns hp ho b hb
  have hks : (sKv fs rs g.marks).map (·.1) = g.marks.map fun (m : Nat) => (m : Int) := by simp [sKv, List.map_map, Function.comp_def]
  rw [hks] at hp
  obtain ⟨ms, rfl⟩ : ∃ ms : List Nat, ns = ms.map fun (m : Nat) => (m : Int) := by
    refine ⟨ns.map Int.toNat, ?_⟩
    have e : (ns.map Int.toNat).map (fun (m : Nat) => (m : Int)) = ns.map id := by
      rw [List.map_map]
      refine List.map_congr_left fun z hz => ?_
      obtain ⟨m, _, rfl⟩ := List.mem_map.mp (hp.mem_iff.mp hz)
      simp
    rw [e, List.map_id]
  have hp' : ms.Perm g.marks := by
    have := hp.map Int.toNat
    simpa [List.map_map, Function.comp_def] using this
  have ho' : ms.Pairwise (· ≤ ·) := (List.pairwise_map.mp ho).imp fun q => by omega
  have hlen := hp'.length_eq
  refine ⟨_, .list get_head, small_ok' (by simp; omega), ?_⟩
  have W1 := W.le (Le.alloc (o := .list ((ms.map fun (m : Nat) => (m : Int)).map V.int)) hb)
  refine COMP.pure (fun i => V.tup [.int ((ms.getD i 0 : Nat) : Int), .int (stN fs rs (ms.getD i 0))]) (.list get_head) ?_ ?_
  · intro i u hu
    rw [List.getElem?_map, List.getElem?_map] at hu
    obtain ⟨z, hz, rfl⟩ := Option.map_eq_some_iff.mp hu
    obtain ⟨m, hm, rfl⟩ := Option.map_eq_some_iff.mp hz
    have hmm : m ∈ g.marks := hp'.mem_iff.mp (List.mem_of_getElem? hm)
    (repeat' (first | ((with_reducible refine WPEs.cons ?_ ?_); (case refine_2 => intros; rfl)) | (with_reducible refine WPE.sub ?_) | ((with_reducible refine WPE.tup ?_ ?_); (case refine_2 => decide)) | ((with_reducible refine' WPE.nm ?_ ?_ ?_ ?_); (case refine'_2 => rfl); (case refine'_4 => decide); (case refine'_5 => decide)) | fail))
    refine selfA rfl (by decide) (by decide) W1.i W1.a (Facts.at_Walker_shelf hK) rfl rfl ?_
    (repeat' (first | ((with_reducible refine' WPE.nm ?_ ?_ ?_ ?_); (case refine'_2 => rfl); (case refine'_4 => decide); (case refine'_5 => decide)) | fail))
    refine W2.getI W1.k rfl (by rw [sKv_val, if_pos hmm]) ?_
    (repeat' (first | (with_reducible refine WPEs.nil ?_) | fail))
    refine ⟨?_, rfl⟩
    rw [List.getD_eq_getElem?_getD, hm]; rfl
  · intro a ha
    (repeat' (first | (with_reducible refine nxt_ret ?_) | fail))
    refine h ms a _ ((Le.alloc hb).cons ha) hp' ho' ((Le.alloc hb).none ha) ?_
    rw [get_head]
    congr 2
    unfold keptV
    rw [List.length_map, List.length_map]
    refine List.ext_getElem (by simp) fun i h1 h2 => ?_
    simp at h1
    simp [List.getD_eq_getElem?_getD, h1]
end

section
variable {c : Cx} {k : Nat} {sc : Scope} {ρ : Loc} {st : St} {Q : V → St → Prop} {X : Xp} {x d ru sh se : Addr} {fs : Int} {rs : List Ru} {room : Nat} {g g' : Sg}
theorem tri_T1 {s : Nat} (h : s ≤ 100) : TF 1 s = tri s := by
  unfold TF
  show T1.getD s 0 = tri s
  rw [T1_at h]
  have key : ∀ n, tri n * 2 = n * (n + 1) := by
    intro n
    induction n with
    | zero => rfl
    | succ n ih => rw [tri, Nat.add_mul, ih]; rw [show (n + 1) * (n + 1 + 1) = (n + 1) * 2 + n * (n + 1) by rw [Nat.mul_comm n, ← Nat.mul_add, Nat.add_comm 2]]
  have := key s
  omega
theorem TF_0 {r : Nat} (h1 : 1 ≤ r) (h2 : r ≤ 12) : TF r 0 = 0 := TT_hd r h1 h2
theorem Wk.off (W : Wk st x d ru sh se fs rs room g) {a : Addr} {vs : List V} (ha : get st a = some (.list vs)) (hn : a ≠ se) : a ∉ [d, sh, se] := by
  intro h
  simp at h
  rcases h with rfl | rfl | rfl
  · rw [W.a] at ha; cases ha
  · rw [W.k] at ha; cases ha
  · exact hn rfl
theorem s_walked (hK : Kc c) (hq : c.q = true) {ra da : Addr} {l : List Dd} {gf : Sg} (hg : get st ra = some (.list (rs.map Ru.v))) (hf : 0 ≤ fs ∧ fs ≤ 999982) (hrs : ∀ r ∈ rs, r.Ok) (hl : rs.length ≤ 100) (h1 : 1 ≤ room) (h2 : room ≤ 12) (hd : get st da = some (.list (l.map deedV))) (hrun : run room rs.length ⟨0, [], rs.length + 1, 0⟩ l = some gf)
    (h : ∀ x d ru sh se st', Le st st' → Fresh st [x, d, ru, sh, se] → Wk st' x d ru sh se fs rs room gf → Q (.ref x) st') : CF c (k + 7) A_walked [.int fs, .ref ra, .int room, .ref da] ρ st Q X := by
  refine CallW.fn (k := k + 6) (Facts.fn_walked hK) rfl ?_
  refine WPS.cons ?_
  (repeat' (first | ((fail_if_success (with_reducible show WPS _ _ _ _ _ _ _ _)); (first | (with_reducible refine WPEs.nil ?_) | ((with_reducible refine WPEs.cons ?_ ?_); (case refine_2 => intros; rfl)) | ((with_reducible refine WPs.asg ?_ ?_ ?_); (case refine_2 => rfl); (case refine_3 => intros; rfl)) | ((with_reducible refine c_Walker ‹_› ?_ ?_ ?_); (case refine_1 => rfl); (case refine_3 => intros; rfl)) | ((with_reducible refine' WPE.nm ?_ ?_ ?_ ?_); (case refine'_2 => rfl); (case refine'_4 => decide); (case refine'_5 => decide)) | fail)) | fail))
  refine s_Walker (k := k) hK hq hg hf hrs hl h1 h2 ?_
  intro x d ru sh se st₁ hle hfr W
  have hda : da ≠ se := fun e => by rw [e, hfr se (by simp)] at hd; cases hd
  (repeat' (first | ((fail_if_success (with_reducible show WPS _ _ _ _ _ _ _ _)); (first | (with_reducible refine nxt_next ?_) | fail)) | fail))
  refine WPS.cons ?_
  (repeat' (first | ((fail_if_success (with_reducible show WPS _ _ _ _ _ _ _ _)); (first | ((with_reducible refine WPs.for ‹_› ?_ ?_ ?_); (case refine_2 => rfl); (case refine_3 => intros; rfl)) | ((with_reducible refine' WPE.nm ?_ ?_ ?_ ?_); (case refine'_2 => rfl); (case refine'_4 => decide); (case refine'_5 => decide)) | fail)) | fail))
  refine ⟨_, .list (hle _ _ hd), ?_⟩
  refine FOR.inv (fun i ρ₁ st₂ => ρ₁ = ([("first", .int fs), ("rules", .ref ra), ("room", .int (room : Int)), ("deeds", .ref da), ("walker", .ref x)] : Loc) ∧ Le st st₂ ∧ ∃ g, run room rs.length g (l.drop i) = some gf ∧ Wk st₂ x d ru sh se fs rs room g) ⟨rfl, hle, _, hrun, W⟩ ?_ ?_
  · rintro i u ρ₁ st₂ hu ⟨rfl, hle₂, g, hr, Wg⟩
    rw [List.getElem?_map] at hu
    obtain ⟨dd, hdd, rfl⟩ := Option.map_eq_some_iff.mp hu
    have hil : i < l.length := (List.getElem?_eq_some_iff.mp hdd).1
    rw [List.drop_eq_getElem_cons hil, (List.getElem?_eq_some_iff.mp hdd).2] at hr
    cases hst : stp room rs.length g dd with
    | none => rw [run, hst] at hr; cases hr
    | some g' =>
      rw [run_cons hst] at hr
      refine WPS.cons ?_
      refine WPs.expr ?_
      refine WPE.methI ?_
      (repeat' (first | ((fail_if_success (with_reducible show WPS _ _ _ _ _ _ _ _)); (first | ((with_reducible refine' WPE.nm ?_ ?_ ?_ ?_); (case refine'_2 => rfl); (case refine'_4 => decide); (case refine'_5 => decide)) | fail)) | fail))
      refine ⟨_, _, _, _, _, rfl, Wg.i, Wg.a, rfl, Facts.me_Walker_do hK, ?_⟩
      (repeat' (first | ((fail_if_success (with_reducible show WPS _ _ _ _ _ _ _ _)); (first | (with_reducible refine WPEs.nil ?_) | ((with_reducible refine WPEs.cons ?_ ?_); (case refine_2 => intros; rfl)) | ((with_reducible refine' WPE.nm ?_ ?_ ?_ ?_); (case refine'_2 => rfl); (case refine'_4 => decide); (case refine'_5 => decide)) | fail)) | fail))
      refine WL.le (s_do (k := k) hK hq Wg hf hrs hl (by omega) hst ?_) (by omega)
      intro st₃ kb W'
      (repeat' (first | (with_reducible refine WPS.nil ?_) | ((fail_if_success (with_reducible show WPS _ _ _ _ _ _ _ _)); (first | (with_reducible refine nxt_next ?_) | fail)) | fail))
      have hle₃ := kb.le hle₂ (fun a ha => hfr a (by simp at ha ⊢; rcases ha with q | q | q <;> simp [q]))
      exact lp_next ⟨_, .cons rfl (.cons rfl (.cons rfl (.cons rfl (.cons rfl .nil)))), .list (hle₃ _ _ hd), rfl, hle₃, g', hr, W'⟩
  · rintro ρ₁ st₂ ⟨rfl, hle₂, g, hr, Wg⟩
    rw [List.length_map, List.drop_length] at hr
    obtain rfl : g = gf := Option.some.inj hr
    ((refine WPS.cons ?_); (repeat' (first | (with_reducible first | refine nxt_ret ?_ | refine WPs.ret ?_) | ((with_reducible refine' WPE.nm ?_ ?_ ?_ ?_); (case refine'_2 => rfl); (case refine'_4 => decide); (case refine'_5 => decide)) | fail)))
    exact h x d ru sh se st₂ hle₂ hfr Wg
end

section
variable {c : Cx} {k : Nat} {sc : Scope} {ρ : Loc} {st : St} {Q : V → St → Prop} {X : Xp} {x d ru sh se : Addr} {fs : Int} {rs : List Ru} {room : Nat} {g g' : Sg}
theorem s_backwards (hK : Kc c) (hq : c.q = true) {ra : Addr} (hg : get st ra = some (.list (rs.map Ru.v))) (hf : 0 ≤ fs ∧ fs ≤ 999982) (hrs : ∀ r ∈ rs, r.Ok) (hl : rs.length ≤ 100) (h1 : 1 ≤ room) (h2 : room ≤ 12)
    (h : ∀ a st', Le st st' → get st a = none → get st' a = some (.list ((seenL fs rs (rs.length + 1)).map .int)) → Q (.tup [.ref a, .int ((TF room rs.length : Nat) : Int)]) st') : CF c (k + 15) A_backwards [.int fs, .ref ra, .int room] ρ st Q X := by
  refine CallW.fn (k := k + 14) (Facts.fn_backwards hK) rfl ?_
  refine WPS.cons ?_
  (repeat' (first | ((fail_if_success (with_reducible show WPS _ _ _ _ _ _ _ _)); (first | (with_reducible refine WPEs.nil ?_) | ((with_reducible refine WPEs.cons ?_ ?_); (case refine_2 => intros; rfl)) | ((with_reducible refine WPs.asg ?_ ?_ ?_); (case refine_2 => rfl); (case refine_3 => intros; rfl)) | ((with_reducible refine c_Walker ‹_› ?_ ?_ ?_); (case refine_1 => rfl); (case refine_3 => intros; rfl)) | ((with_reducible refine' WPE.nm ?_ ?_ ?_ ?_); (case refine'_2 => rfl); (case refine'_4 => decide); (case refine'_5 => decide)) | fail)) | fail))
  refine WL.le (s_Walker (k := k) hK hq hg hf hrs hl h1 h2 ?_) (by omega)
  intro x d ru sh se st₁ hle hfr W
  (repeat' (first | ((fail_if_success (with_reducible show WPS _ _ _ _ _ _ _ _)); (first | (with_reducible refine nxt_next ?_) | fail)) | fail))
  refine WPS.cons ?_
  (repeat' (first | ((fail_if_success (with_reducible show WPS _ _ _ _ _ _ _ _)); (first | (with_reducible refine WPEs.nil ?_) | ((with_reducible refine WPEs.cons ?_ ?_); (case refine_2 => intros; rfl)) | ((with_reducible refine WPs.for ‹_› ?_ ?_ ?_); (case refine_2 => rfl); (case refine_3 => intros; rfl)) | ((with_reducible refine c_plan ‹_› ?_ ?_ ?_); (case refine_1 => rfl); (case refine_3 => intros; rfl)) | ((with_reducible refine c_len ‹_› ?_ ?_ ?_); (case refine_1 => rfl); (case refine_3 => intros; rfl)) | ((with_reducible refine' WPE.nm ?_ ?_ ?_ ?_); (case refine'_2 => rfl); (case refine'_4 => decide); (case refine'_5 => decide)) | fail)) | fail))
  refine WL.lenList (hle _ _ hg) (by simp; omega) ?_
  rw [List.length_map]
  (repeat' (first | ((fail_if_success (with_reducible show WPS _ _ _ _ _ _ _ _)); (first | (with_reducible refine WPEs.nil ?_) | ((with_reducible refine WPEs.cons ?_ ?_); (case refine_2 => intros; rfl)) | ((with_reducible refine' WPE.nm ?_ ?_ ?_ ?_); (case refine'_2 => rfl); (case refine'_4 => decide); (case refine'_5 => decide)) | fail)) | fail))
  refine s_plan (k := k) hK hq hl h1 h2 ?_
  intro pa l st₂ hle₂ hp hgp hnp
  obtain ⟨mm, hrun⟩ := plan_run (fun s hs => tri_T1 (by omega)) (fun q q1 q2 => TF_0 q1 (by omega)) h1 hp
  refine ⟨_, .list hgp, ?_⟩
  have W2 := W.le hle₂
  have hpa : pa ≠ se := fun e => by rw [e, W.s] at hnp; cases hnp
  refine FOR.inv (fun i ρ₁ st₃ => ρ₁ = ([("first", .int fs), ("rules", .ref ra), ("room", .int (room : Int)), ("walker", .ref x)] : Loc) ∧ Le st st₃ ∧ get st₃ pa = some (.list (l.map deedV)) ∧ ∃ g, run room rs.length g (l.drop i) = some ⟨0, mm, 0, TF room rs.length⟩ ∧ Wk st₃ x d ru sh se fs rs room g) ⟨rfl, hle.trans hle₂, hgp, _, hrun, W2⟩ ?_ ?_
  · rintro i u ρ₁ st₃ hu ⟨rfl, hle₃, hgp₃, g, hr, Wg⟩
    rw [List.getElem?_map] at hu
    obtain ⟨dd, hdd, rfl⟩ := Option.map_eq_some_iff.mp hu
    have hil : i < l.length := (List.getElem?_eq_some_iff.mp hdd).1
    rw [List.drop_eq_getElem_cons hil, (List.getElem?_eq_some_iff.mp hdd).2] at hr
    cases hst : stp room rs.length g dd with
    | none => rw [run, hst] at hr; cases hr
    | some g' =>
      rw [run_cons hst] at hr
      refine WPS.cons ?_
      refine WPs.expr ?_
      refine WPE.methI ?_
      (repeat' (first | ((fail_if_success (with_reducible show WPS _ _ _ _ _ _ _ _)); (first | ((with_reducible refine' WPE.nm ?_ ?_ ?_ ?_); (case refine'_2 => rfl); (case refine'_4 => decide); (case refine'_5 => decide)) | fail)) | fail))
      refine ⟨_, _, _, _, _, rfl, Wg.i, Wg.a, rfl, Facts.me_Walker_do hK, ?_⟩
      (repeat' (first | ((fail_if_success (with_reducible show WPS _ _ _ _ _ _ _ _)); (first | (with_reducible refine WPEs.nil ?_) | ((with_reducible refine WPEs.cons ?_ ?_); (case refine_2 => intros; rfl)) | ((with_reducible refine' WPE.nm ?_ ?_ ?_ ?_); (case refine'_2 => rfl); (case refine'_4 => decide); (case refine'_5 => decide)) | fail)) | fail))
      refine WL.le (s_do (k := k) hK hq Wg hf hrs hl (by omega) hst ?_) (by omega)
      intro st₄ kb W'
      (repeat' (first | (with_reducible refine WPS.nil ?_) | ((fail_if_success (with_reducible show WPS _ _ _ _ _ _ _ _)); (first | (with_reducible refine nxt_next ?_) | fail)) | fail))
      have hle₄ := kb.le hle₃ (fun a ha => hfr a (by simp at ha ⊢; rcases ha with q | q | q <;> simp [q]))
      have hgp₄ := kb pa _ (Wg.off hgp₃ hpa) hgp₃
      exact lp_next ⟨_, .cons rfl (.cons rfl (.cons rfl (.cons rfl .nil))), .list hgp₄, rfl, hle₄, hgp₄, g', hr, W'⟩
  · rintro ρ₁ st₃ ⟨rfl, hle₃, hgp₃, g, hr, Wg⟩
    rw [List.length_map, List.drop_length] at hr
    obtain rfl : g = ⟨0, mm, 0, TF room rs.length⟩ := (Option.some.inj hr)
    (repeat' (first | ((fail_if_success (with_reducible show WPS _ _ _ _ _ _ _ _)); (first | (with_reducible refine nxt_next ?_) | fail)) | fail))
    refine WPS.cons ?_
    (repeat' (first | ((fail_if_success (with_reducible show WPS _ _ _ _ _ _ _ _)); (first | (with_reducible refine WPs.ret ?_) | ((with_reducible refine WPEs.cons ?_ ?_); (case refine_2 => intros; rfl)) | ((with_reducible refine WPE.tup ?_ ?_); (case refine_2 => decide)) | fail)) | fail))
    refine WPE.methI ?_
    (repeat' (first | ((fail_if_success (with_reducible show WPS _ _ _ _ _ _ _ _)); (first | ((with_reducible refine' WPE.nm ?_ ?_ ?_ ?_); (case refine'_2 => rfl); (case refine'_4 => decide); (case refine'_5 => decide)) | fail)) | fail))
    refine ⟨_, _, _, _, _, rfl, Wg.i, Wg.a, rfl, Facts.me_Walker_met hK, ?_⟩
    (repeat' (first | ((fail_if_success (with_reducible show WPS _ _ _ _ _ _ _ _)); (first | (with_reducible refine WPEs.nil ?_) | fail)) | fail))
    refine WL.le (s_met (k := k) hK hq Wg (by omega) ?_) (by omega)
    intro a ha
    (repeat' (first | ((fail_if_success (with_reducible show WPS _ _ _ _ _ _ _ _)); (first | ((with_reducible refine WPEs.cons ?_ ?_); (case refine_2 => intros; rfl)) | fail)) | fail))
    have W5 := Wg.le (Le.alloc (o := .list ((seenL fs rs (rs.length + 1 - 0)).map .int)) ha)
    refine selfA rfl (by decide) (by decide) W5.i W5.a (Facts.at_Walker_done hK) rfl rfl ?_
    (repeat' (first | ((fail_if_success (with_reducible show WPS _ _ _ _ _ _ _ _)); (first | (with_reducible first | refine nxt_ret ?_ | refine WPEs.nil ?_) | fail)) | fail))
    exact h a _ (hle₃.cons ha) (hle₃.none ha) get_head
end

section
variable {c : Cx} {k : Nat} {sc : Scope} {ρ : Loc} {st : St} {Q : V → St → Prop} {X : Xp} {x d ru sh se : Addr} {fs : Int} {rs : List Ru} {room : Nat} {g g' : Sg}
noncomputable abbrev dueD (ns : List Int) (n : Int) : PyData := .tuple [.list (ns.map .int), .int n]
theorem due_dat {a : Addr} {ns : List Int} {n : Int} (h : get st a = some (.list (ns.map .int))) : Dat st (.tup [.ref a, .int n]) (dueD ns n) := .tup (.cons (.list h Dats.ints) (.cons (.int n) .nil))
theorem due_lay {ns : List Int} {n : Int} : (dueD ns n).canLay0 = true := by
  have h1 := SeqAt.canLay_of_shaped (shaped_ints (ns := ns))
  unfold dueD
  rw [PyData.canLay0, PyData.canLayAll0, h1]
  rfl
theorem due_depth {ns : List Int} {n : Int} : (dueD ns n).depth ≤ 5 := by
  have h1 := depth_ints (ns := ns)
  unfold dueD
  simp only [PyData.depth, PyData.depthAll]
  omega
theorem due_shaped {ns : List Int} {n : Int} : SeqAt.shaped (dueD ns n) = true := by
  have h1 := due_lay (ns := ns) (n := n)
  have h2 := due_depth (ns := ns) (n := n)
  unfold SeqAt.shaped
  rw [h1]
  simp
  omega
theorem eq_due {a b : Addr} {ns : List Int} {n : Int} (ha : get st a = some (.list (ns.map .int))) (hb : get st b = some (.list (ns.map .int))) (h : Q (.bool true) st) : W2 c k (compareOp .Eq) (.tup [.ref a, .int n]) (.tup [.ref b, .int n]) ρ st Q X := by
  refine W2.eq (due_dat ha) (due_dat hb) due_shaped due_shaped ?_
  rw [SeqAt.eqv_refl _ due_lay]
  exact h
theorem ne_due {a b : Addr} {ns : List Int} {n : Int} (ha : get st a = some (.list (ns.map .int))) (hb : get st b = some (.list (ns.map .int))) (h : Q (.bool false) st) : W2 c k (compareOp .NotEq) (.tup [.ref a, .int n]) (.tup [.ref b, .int n]) ρ st Q X := by
  refine W2.ne (due_dat ha) (due_dat hb) due_shaped due_shaped ?_
  rw [SeqAt.eqv_refl _ due_lay]
  exact h
theorem eq_dues {l l' a b a' b' : Addr} {ns : List Int} {n : Int} (hl : get st l = some (.list [.tup [.ref a, .int n], .tup [.ref b, .int n]])) (hl' : get st l' = some (.list [.tup [.ref a', .int n], .tup [.ref b', .int n]])) (ha : get st a = some (.list (ns.map .int))) (hb : get st b = some (.list (ns.map .int))) (ha' : get st a' = some (.list (ns.map .int))) (hb' : get st b' = some (.list (ns.map .int))) (h : Q (.bool true) st) : W2 c k (compareOp .Eq) (.ref l) (.ref l') ρ st Q X := by
  have hlay : (PyData.list [dueD ns n, dueD ns n]).canLay0 = true := by rw [PyData.canLay0, PyData.canLayAll0, PyData.canLayAll0, due_lay]; rfl
  have hsh : SeqAt.shaped (.list [dueD ns n, dueD ns n]) = true := by
    have h2 := due_depth (ns := ns) (n := n)
    unfold SeqAt.shaped
    rw [hlay, PyData.depth, PyData.depthAll, PyData.depthAll, PyData.depthAll]
    simp
    omega
  refine W2.eq (.list hl (.cons (due_dat ha) (.cons (due_dat hb) .nil))) (.list hl' (.cons (due_dat ha') (.cons (due_dat hb') .nil))) hsh hsh ?_
  rw [SeqAt.eqv_refl _ hlay]
  exact h
theorem seen_rev : (stL fs rs (rs.length + 1)).reverse = seenL fs rs (rs.length + 1) := by
  unfold stL seenL
  refine List.ext_getElem (by simp) fun i h1 h2 => ?_
  simp
theorem s_by_deeds (hK : Kc c) (hq : c.q = true) {ra dl : Addr} (hg : get st ra = some (.list (rs.map Ru.v))) (hf : 0 ≤ fs ∧ fs ≤ 999982) (hrs : ∀ r ∈ rs, r.Ok) (hl : rs.length ≤ 100) (h1 : 1 ≤ room) (h2 : room ≤ 12) (hdl : get st dl = some (.list ((seenL fs rs (rs.length + 1)).map .int)))
    (h : ∀ st', Q (.bool true) st') : CF c (k + 15) A_law_by_deeds [.int fs, .ref ra, .int room, .tup [.ref dl, .int ((TF room rs.length : Nat) : Int)]] ρ st Q X := by
  refine CallW.fn (k := k + 14) (Facts.fn_law_by_deeds hK) rfl ?_
  refine WPS.cons ?_
  (repeat' (first | ((fail_if_success (with_reducible show WPS _ _ _ _ _ _ _ _)); (first | (with_reducible refine WPEs.nil ?_) | ((with_reducible refine WPEs.cons ?_ ?_); (case refine_2 => intros; rfl)) | ((with_reducible refine WPs.asg ?_ ?_ ?_); (case refine_2 => rfl); (case refine_3 => intros; rfl)) | ((with_reducible refine c_Walker ‹_› ?_ ?_ ?_); (case refine_1 => rfl); (case refine_3 => intros; rfl)) | ((with_reducible refine c_list ‹_› ?_ ?_ ?_); (case refine_1 => rfl); (case refine_3 => intros; rfl)) | ((with_reducible refine' WPE.nm ?_ ?_ ?_ ?_); (case refine'_2 => rfl); (case refine'_4 => decide); (case refine'_5 => decide)) | fail)) | fail))
  refine WL.listOf hg (by simp; omega) ?_
  intro b1 hb1
  (repeat' (first | ((fail_if_success (with_reducible show WPS _ _ _ _ _ _ _ _)); (first | (with_reducible refine WPEs.nil ?_) | ((with_reducible refine WPEs.cons ?_ ?_); (case refine_2 => intros; rfl)) | ((with_reducible refine' WPE.nm ?_ ?_ ?_ ?_); (case refine'_2 => rfl); (case refine'_4 => decide); (case refine'_5 => decide)) | fail)) | fail))
  refine WL.le (s_Walker (k := k) hK hq get_head hf hrs hl h1 h2 ?_) (by omega)
  intro x d ru sh se st₁ hle hfr W
  have hle1 := (Le.alloc (o := .list (rs.map Ru.v)) hb1).trans hle
  (repeat' (first | ((fail_if_success (with_reducible show WPS _ _ _ _ _ _ _ _)); (first | (with_reducible refine nxt_next ?_) | fail)) | fail))
  refine WPS.cons ?_
  (repeat' (first | ((fail_if_success (with_reducible show WPS _ _ _ _ _ _ _ _)); (first | (with_reducible refine WPEs.nil ?_) | ((with_reducible refine WPEs.cons ?_ ?_); (case refine_2 => intros; rfl)) | ((with_reducible refine WPs.asg ?_ ?_ ?_); (case refine_2 => rfl); (case refine_3 => intros; rfl)) | ((with_reducible refine c_plan ‹_› ?_ ?_ ?_); (case refine_1 => rfl); (case refine_3 => intros; rfl)) | ((with_reducible refine c_len ‹_› ?_ ?_ ?_); (case refine_1 => rfl); (case refine_3 => intros; rfl)) | ((with_reducible refine' WPE.nm ?_ ?_ ?_ ?_); (case refine'_2 => rfl); (case refine'_4 => decide); (case refine'_5 => decide)) | fail)) | fail))
  refine WL.lenList (hle1 _ _ hg) (by simp; omega) ?_
  rw [List.length_map]
  (repeat' (first | ((fail_if_success (with_reducible show WPS _ _ _ _ _ _ _ _)); (first | (with_reducible refine WPEs.nil ?_) | ((with_reducible refine WPEs.cons ?_ ?_); (case refine_2 => intros; rfl)) | ((with_reducible refine' WPE.nm ?_ ?_ ?_ ?_); (case refine'_2 => rfl); (case refine'_4 => decide); (case refine'_5 => decide)) | fail)) | fail))
  refine s_plan (k := k) hK hq hl h1 h2 ?_
  intro pa l st₂ hle₂ hp hgp hnp
  have hpl := plan_len hp
  obtain ⟨mm, hrun⟩ := plan_run (fun s hs => tri_T1 (by omega)) (fun q q1 q2 => TF_0 q1 (by omega)) h1 hp
  have W2 := W.le hle₂
  have hpa : pa ≠ se := fun e => by rw [e, W.s] at hnp; cases hnp
  have hfr' : Fresh st [d, sh, se] := fun a ha => (Le.alloc hb1).none (hfr a (by simp at ha ⊢; rcases ha with q | q | q <;> simp [q]))
  (repeat' (first | ((fail_if_success (with_reducible show WPS _ _ _ _ _ _ _ _)); (first | (with_reducible refine nxt_next ?_) | fail)) | fail))
  refine WPS.cons ?_
  (repeat' (first | ((fail_if_success (with_reducible show WPS _ _ _ _ _ _ _ _)); (first | ((with_reducible refine WPs.for ‹_› ?_ ?_ ?_); (case refine_2 => rfl); (case refine_3 => intros; rfl)) | ((with_reducible refine' WPE.nm ?_ ?_ ?_ ?_); (case refine'_2 => rfl); (case refine'_4 => decide); (case refine'_5 => decide)) | fail)) | fail))
  refine ⟨_, .list hgp, ?_⟩
  refine FOR.inv (fun i ρ₁ st₃ => ρ₁ = ([("_law_first", .int fs), ("_law_rules", .ref ra), ("_law_room", .int (room : Int)), ("_law_due", .tup [.ref dl, .int ((TF room rs.length : Nat) : Int)]), ("_law_walker", .ref x), ("_law_deeds", .ref pa)] : Loc) ∧ Le st st₃ ∧ get st₃ pa = some (.list (l.map deedV)) ∧ ∃ g, run room rs.length g (l.drop i) = some ⟨0, mm, 0, TF room rs.length⟩ ∧ Wk st₃ x d ru sh se fs rs room g) ⟨rfl, hle1.trans hle₂, hgp, _, hrun, W2⟩ ?_ ?_
  · rintro i u ρ₁ st₃ hu ⟨rfl, hle₃, hgp₃, g, hr, Wg⟩
    rw [List.getElem?_map] at hu
    obtain ⟨dd, hdd, rfl⟩ := Option.map_eq_some_iff.mp hu
    have hil : i < l.length := (List.getElem?_eq_some_iff.mp hdd).1
    rw [List.drop_eq_getElem_cons hil, (List.getElem?_eq_some_iff.mp hdd).2] at hr
    cases hst : stp room rs.length g dd with
    | none => rw [run, hst] at hr; cases hr
    | some g' =>
      rw [run_cons hst] at hr
      refine WPS.cons ?_
      (repeat' (first | ((fail_if_success (with_reducible show WPS _ _ _ _ _ _ _ _)); (first | (with_reducible first | refine WPAll.or ?_ | refine WPs.ifs ?_ | refine WPB.op ?_) | ((with_reducible refine WPB.cmp ?_ ?_); (case refine_2 => rfl)) | fail)) | fail))
      refine WPE.methI ?_
      (repeat' (first | ((fail_if_success (with_reducible show WPS _ _ _ _ _ _ _ _)); (first | ((with_reducible refine' WPE.nm ?_ ?_ ?_ ?_); (case refine'_2 => rfl); (case refine'_4 => decide); (case refine'_5 => decide)) | fail)) | fail))
      refine ⟨_, _, _, _, _, rfl, Wg.i, Wg.a, rfl, Facts.me_Walker_do hK, ?_⟩
      (repeat' (first | ((fail_if_success (with_reducible show WPS _ _ _ _ _ _ _ _)); (first | (with_reducible refine WPEs.nil ?_) | ((with_reducible refine WPEs.cons ?_ ?_); (case refine_2 => intros; rfl)) | ((with_reducible refine' WPE.nm ?_ ?_ ?_ ?_); (case refine'_2 => rfl); (case refine'_4 => decide); (case refine'_5 => decide)) | fail)) | fail))
      refine WL.le (s_do (k := k) hK hq Wg hf hrs hl (by omega) hst ?_) (by omega)
      intro st₄ kb W'
      have hle₄ := kb.le hle₃ hfr'
      have hgp₄ := kb pa _ (Wg.off hgp₃ hpa) hgp₃
      (repeat' (first | ((fail_if_success (with_reducible show WPS _ _ _ _ _ _ _ _)); (first | (with_reducible first | refine WPE.cnone ?_ | refine WPAll.or ?_ | refine cnd_f ?_) | ((with_reducible refine WPEs.cons ?_ ?_); (case refine_2 => intros; rfl)) | ((with_reducible refine WPB.cmp ?_ ?_); (case refine_2 => rfl)) | ((with_reducible refine Mine.W2.isNotN ?_ ?_); (case refine_1 => rfl)) | ((with_reducible refine c_len ‹_› ?_ ?_ ?_); (case refine_1 => rfl); (case refine_3 => intros; rfl)) | ((with_reducible refine cnd_is false ?_ ?_); (case refine_1 => rfl)) | (with_reducible refine ⟨_, rfl, ?_⟩) | fail)) | fail))
      refine WPE.methI ?_
      (repeat' (first | ((fail_if_success (with_reducible show WPS _ _ _ _ _ _ _ _)); (first | ((with_reducible refine' WPE.nm ?_ ?_ ?_ ?_); (case refine'_2 => rfl); (case refine'_4 => decide); (case refine'_5 => decide)) | fail)) | fail))
      refine ⟨_, _, _, _, _, rfl, W'.i, W'.a, rfl, Facts.me_Walker_kept hK, ?_⟩
      (repeat' (first | ((fail_if_success (with_reducible show WPS _ _ _ _ _ _ _ _)); (first | (with_reducible refine WPEs.nil ?_) | fail)) | fail))
      refine WL.le (s_kept (k := k) hK hq W' (by omega) ?_) (by omega)
      intro ms ka st₅ hle₅ hpm _ _ hka
      have hml := hpm.length_eq
      have hrl := W'.rl
      (repeat' (first | ((fail_if_success (with_reducible show WPS _ _ _ _ _ _ _ _)); (first | (with_reducible refine WPEs.nil ?_) | fail)) | fail))
      refine WL.lenList hka (by simp [keptV]; omega) ?_
      (repeat' (first | ((fail_if_success (with_reducible show WPS _ _ _ _ _ _ _ _)); (first | (with_reducible refine Mine.W2.gtI ?_) | ((with_reducible refine' WPE.nm ?_ ?_ ?_ ?_); (case refine'_2 => rfl); (case refine'_4 => decide); (case refine'_5 => decide)) | (with_reducible refine ⟨_, rfl, ?_⟩) | fail)) | fail))
      refine cnd_is false (by simp [keptV]; omega) ?_
      have W5 := W'.le hle₅
      (repeat' (first | (with_reducible refine WPS.nil ?_) | ((fail_if_success (with_reducible show WPS _ _ _ _ _ _ _ _)); (first | (with_reducible first | refine WPAll.orNil ?_ | refine nxt_next ?_ | refine cnd_f ?_) | fail)) | fail))
      refine WPS.cons ?_
      (repeat' (first | ((fail_if_success (with_reducible show WPS _ _ _ _ _ _ _ _)); (first | (with_reducible first | refine WPE.bin ?_ | refine WPs.ifs ?_) | ((with_reducible refine WPEs.cons ?_ ?_); (case refine_2 => intros; rfl)) | ((with_reducible refine WPB.cmp ?_ ?_); (case refine_2 => rfl)) | ((with_reducible refine c_len ‹_› ?_ ?_ ?_); (case refine_1 => rfl); (case refine_3 => intros; rfl)) | fail)) | fail))
      refine WPE.methI ?_
      (repeat' (first | ((fail_if_success (with_reducible show WPS _ _ _ _ _ _ _ _)); (first | ((with_reducible refine' WPE.nm ?_ ?_ ?_ ?_); (case refine'_2 => rfl); (case refine'_4 => decide); (case refine'_5 => decide)) | fail)) | fail))
      refine ⟨_, _, _, _, _, rfl, W5.i, W5.a, rfl, Facts.me_Walker_met hK, ?_⟩
      (repeat' (first | ((fail_if_success (with_reducible show WPS _ _ _ _ _ _ _ _)); (first | (with_reducible refine WPEs.nil ?_) | fail)) | fail))
      refine WL.le (s_met (k := k) hK hq W5 (by omega) ?_) (by omega)
      intro ma hma
      (repeat' (first | ((fail_if_success (with_reducible show WPS _ _ _ _ _ _ _ _)); (first | (with_reducible refine WPEs.nil ?_) | fail)) | fail))
      refine WL.lenList get_head (by simp [seenL]; omega) ?_
      have W6 := W5.le (Le.alloc (o := .list ((seenL fs rs (rs.length + 1 - g'.want)).map .int)) hma)
      have hle₆ := (hle₄.trans hle₅).cons (o := .list ((seenL fs rs (rs.length + 1 - g'.want)).map .int)) hma
      have hgp₆ := (Le.alloc (o := .list ((seenL fs rs (rs.length + 1 - g'.want)).map .int)) hma) _ _ (hle₅ _ _ hgp₄)
      have hwl := W5.wl
      generalize (ma, O.list ((seenL fs rs (rs.length + 1 - g'.want)).map .int)) :: st₅ = st₆ at W6 hle₆ hgp₆ ⊢
      have hpv : plainV (wantV g'.want) = true := by cases g'.want <;> rfl
      have fin : ∀ (i' : Int), i' = (g'.want : Int) - 1 → (((List.map V.int (seenL fs rs (rs.length + 1 - g'.want))).length : Int) + i' != ((rs.map Ru.v).length : Int)) = false := by
        intro i' e
        simp [seenL]
        omega
      (repeat' (first | ((fail_if_success (with_reducible show WPS _ _ _ _ _ _ _ _)); (first | (with_reducible refine WPE.ife ?_) | ((with_reducible refine WPB.cmp ?_ ?_); (case refine_2 => rfl)) | fail)) | fail))
      refine selfA rfl (by decide) (by decide) W6.i W6.a (Facts.at_Walker_wanted hK) rfl hpv ?_
      by_cases hw : g'.want = 0
      · rw [show wantV g'.want = .none by rw [hw]; rfl]
        (repeat' (first | ((fail_if_success (with_reducible show WPS _ _ _ _ _ _ _ _)); (first | (with_reducible first | refine WPE.cint ?_ | refine WPE.cnone ?_ | refine WPE.un ?_ | refine Mine.W2.addI ?_ | refine W1.negI ?_ | refine cnd_t ?_ | refine WPEs.nil ?_) | ((with_reducible refine WPEs.cons ?_ ?_); (case refine_2 => intros; rfl)) | ((with_reducible refine Mine.W2.isN ?_ ?_); (case refine_1 => rfl)) | ((with_reducible refine c_len ‹_› ?_ ?_ ?_); (case refine_1 => rfl); (case refine_3 => intros; rfl)) | ((with_reducible refine' WPE.nm ?_ ?_ ?_ ?_); (case refine'_2 => rfl); (case refine'_4 => decide); (case refine'_5 => decide)) | ((with_reducible refine cnd_is true ?_ ?_); (case refine_1 => rfl)) | (with_reducible refine ⟨_, rfl, ?_⟩) | fail)) | fail))
        refine WL.lenList (hle₆ _ _ hg) (by simp; omega) ?_
        (repeat' (first | ((fail_if_success (with_reducible show WPS _ _ _ _ _ _ _ _)); (first | (with_reducible first | refine Mine.W2.neI ?_ | refine ⟨_, rfl, ?_⟩) | fail)) | fail))
        refine cnd_is false (fin (-1) (by rw [hw]; rfl)) ?_
        (repeat' (first | (with_reducible refine WPS.nil ?_) | ((fail_if_success (with_reducible show WPS _ _ _ _ _ _ _ _)); (first | (with_reducible first | refine nxt_next ?_ | refine cnd_f ?_) | fail)) | fail))
        exact lp_next ⟨_, .cons rfl (.cons rfl (.cons rfl (.cons rfl (.cons rfl (.cons rfl .nil))))), .list hgp₆, rfl, hle₆, hgp₆, g', hr, W6⟩
      · obtain ⟨w, hw'⟩ : ∃ w, g'.want = w + 1 := ⟨g'.want - 1, by omega⟩
        have hwv : wantV g'.want = .int (w : Int) := by rw [hw']; rfl
        rw [hwv]
        (repeat' (first | ((fail_if_success (with_reducible show WPS _ _ _ _ _ _ _ _)); (first | (with_reducible first | refine WPE.cnone ?_ | refine cnd_f ?_) | ((with_reducible refine Mine.W2.isN ?_ ?_); (case refine_1 => rfl)) | ((with_reducible refine cnd_is false ?_ ?_); (case refine_1 => rfl)) | (with_reducible refine ⟨_, rfl, ?_⟩) | fail)) | fail))
        refine selfA rfl (by decide) (by decide) W6.i W6.a (Facts.at_Walker_wanted hK) rfl hpv ?_
        rw [hwv]
        (repeat' (first | ((fail_if_success (with_reducible show WPS _ _ _ _ _ _ _ _)); (first | (with_reducible first | refine Mine.W2.addI ?_ | refine WPEs.nil ?_) | ((with_reducible refine WPEs.cons ?_ ?_); (case refine_2 => intros; rfl)) | ((with_reducible refine c_len ‹_› ?_ ?_ ?_); (case refine_1 => rfl); (case refine_3 => intros; rfl)) | ((with_reducible refine' WPE.nm ?_ ?_ ?_ ?_); (case refine'_2 => rfl); (case refine'_4 => decide); (case refine'_5 => decide)) | fail)) | fail))
        refine WL.lenList (hle₆ _ _ hg) (by simp; omega) ?_
        (repeat' (first | ((fail_if_success (with_reducible show WPS _ _ _ _ _ _ _ _)); (first | (with_reducible first | refine Mine.W2.neI ?_ | refine ⟨_, rfl, ?_⟩) | fail)) | fail))
        refine cnd_is false (fin (w : Int) (by rw [hw']; omega)) ?_
        (repeat' (first | (with_reducible refine WPS.nil ?_) | ((fail_if_success (with_reducible show WPS _ _ _ _ _ _ _ _)); (first | (with_reducible first | refine nxt_next ?_ | refine cnd_f ?_) | fail)) | fail))
        exact lp_next ⟨_, .cons rfl (.cons rfl (.cons rfl (.cons rfl (.cons rfl (.cons rfl .nil))))), .list hgp₆, rfl, hle₆, hgp₆, g', hr, W6⟩
  · rintro ρ₁ st₃ ⟨rfl, hle₃, hgp₃, g, hr, Wg⟩
    rw [List.length_map, List.drop_length] at hr
    obtain rfl : g = ⟨0, mm, 0, TF room rs.length⟩ := (Option.some.inj hr)
    (repeat' (first | ((fail_if_success (with_reducible show WPS _ _ _ _ _ _ _ _)); (first | (with_reducible refine nxt_next ?_) | fail)) | fail))
    refine WPS.cons ?_
    (repeat' (first | ((fail_if_success (with_reducible show WPS _ _ _ _ _ _ _ _)); (first | (with_reducible refine WPEs.nil ?_) | ((with_reducible refine WPEs.cons ?_ ?_); (case refine_2 => intros; rfl)) | ((with_reducible refine WPs.asg ?_ ?_ ?_); (case refine_2 => rfl); (case refine_3 => intros; rfl)) | ((with_reducible refine c_walked ‹_› ?_ ?_ ?_); (case refine_1 => rfl); (case refine_3 => intros; rfl)) | ((with_reducible refine c_list ‹_› ?_ ?_ ?_); (case refine_1 => rfl); (case refine_3 => intros; rfl)) | ((with_reducible refine' WPE.nm ?_ ?_ ?_ ?_); (case refine'_2 => rfl); (case refine'_4 => decide); (case refine'_5 => decide)) | fail)) | fail))
    refine WL.listOf (hle₃ _ _ hg) (by simp; omega) ?_
    intro b2 hb2
    (repeat' (first | ((fail_if_success (with_reducible show WPS _ _ _ _ _ _ _ _)); (first | (with_reducible refine WPEs.nil ?_) | ((with_reducible refine WPEs.cons ?_ ?_); (case refine_2 => intros; rfl)) | ((with_reducible refine c_list ‹_› ?_ ?_ ?_); (case refine_1 => rfl); (case refine_3 => intros; rfl)) | ((with_reducible refine' WPE.nm ?_ ?_ ?_ ?_); (case refine'_2 => rfl); (case refine'_4 => decide); (case refine'_5 => decide)) | fail)) | fail))
    refine WL.listOf ((Le.alloc hb2) _ _ hgp₃) (by simp; omega) ?_
    intro b3 hb3
    have L3 := (Le.alloc (o := .list (rs.map Ru.v)) hb2).cons (o := .list (l.map deedV)) hb3
    (repeat' (first | ((fail_if_success (with_reducible show WPS _ _ _ _ _ _ _ _)); (first | (with_reducible refine WPEs.nil ?_) | fail)) | fail))
    refine WL.le (s_walked (k := k) hK hq ((Le.alloc hb3) _ _ get_head) hf hrs hl h1 h2 get_head hrun ?_) (by omega)
    intro x' d' ru' sh' se' st₄ hle₄ hfr4 W4
    have L4 := L3.trans hle₄
    have V4 := Wg.le L4
    (repeat' (first | ((fail_if_success (with_reducible show WPS _ _ _ _ _ _ _ _)); (first | (with_reducible refine nxt_next ?_) | fail)) | fail))
    refine WPS.cons ?_
    (repeat' (first | ((fail_if_success (with_reducible show WPS _ _ _ _ _ _ _ _)); (first | ((with_reducible refine WPEs.cons ?_ ?_); (case refine_2 => intros; rfl)) | ((with_reducible refine WPs.asg ?_ ?_ ?_); (case refine_2 => rfl); (case refine_3 => intros; rfl)) | ((with_reducible refine WPE.tup ?_ ?_); (case refine_2 => decide)) | ((with_reducible refine WPE.lst ?_ ?_); (case refine_2 => decide)) | fail)) | fail))
    refine WPE.methI ?_
    (repeat' (first | ((fail_if_success (with_reducible show WPS _ _ _ _ _ _ _ _)); (first | ((with_reducible refine' WPE.nm ?_ ?_ ?_ ?_); (case refine'_2 => rfl); (case refine'_4 => decide); (case refine'_5 => decide)) | fail)) | fail))
    refine ⟨_, _, _, _, _, rfl, V4.i, V4.a, rfl, Facts.me_Walker_met hK, ?_⟩
    (repeat' (first | ((fail_if_success (with_reducible show WPS _ _ _ _ _ _ _ _)); (first | (with_reducible refine WPEs.nil ?_) | fail)) | fail))
    refine WL.le (s_met (k := k) hK hq V4 (by omega) ?_) (by omega)
    intro m1 hm1
    have V5 := V4.le (Le.alloc (o := .list ((seenL fs rs (rs.length + 1 - 0)).map .int)) hm1)
    have W5 := W4.le (Le.alloc (o := .list ((seenL fs rs (rs.length + 1 - 0)).map .int)) hm1)
    have G1 : get ((m1, O.list ((seenL fs rs (rs.length + 1 - 0)).map .int)) :: st₄) m1 = some (.list ((seenL fs rs (rs.length + 1)).map .int)) := get_head
    have D1 := (Le.alloc (o := .list ((seenL fs rs (rs.length + 1 - 0)).map .int)) hm1) _ _ (L4 _ _ (hle₃ _ _ hdl))
    generalize (m1, O.list ((seenL fs rs (rs.length + 1 - 0)).map .int)) :: st₄ = st₅ at V5 W5 G1 D1
    (repeat' (first | ((fail_if_success (with_reducible show WPS _ _ _ _ _ _ _ _)); (first | ((with_reducible refine WPEs.cons ?_ ?_); (case refine_2 => intros; rfl)) | fail)) | fail))
    refine selfA rfl (by decide) (by decide) V5.i V5.a (Facts.at_Walker_done hK) rfl rfl ?_
    (repeat' (first | ((fail_if_success (with_reducible show WPS _ _ _ _ _ _ _ _)); (first | (with_reducible refine WPEs.nil ?_) | ((with_reducible refine WPEs.cons ?_ ?_); (case refine_2 => intros; rfl)) | ((with_reducible refine WPE.tup ?_ ?_); (case refine_2 => decide)) | fail)) | fail))
    refine WPE.methI ?_
    (repeat' (first | ((fail_if_success (with_reducible show WPS _ _ _ _ _ _ _ _)); (first | ((with_reducible refine' WPE.nm ?_ ?_ ?_ ?_); (case refine'_2 => rfl); (case refine'_4 => decide); (case refine'_5 => decide)) | fail)) | fail))
    refine ⟨_, _, _, _, _, rfl, W5.i, W5.a, rfl, Facts.me_Walker_met hK, ?_⟩
    (repeat' (first | ((fail_if_success (with_reducible show WPS _ _ _ _ _ _ _ _)); (first | (with_reducible refine WPEs.nil ?_) | fail)) | fail))
    refine WL.le (s_met (k := k) hK hq W5 (by omega) ?_) (by omega)
    intro m2 hm2
    have V6 := V5.le (Le.alloc (o := .list ((seenL fs rs (rs.length + 1 - 0)).map .int)) hm2)
    have W6 := W5.le (Le.alloc (o := .list ((seenL fs rs (rs.length + 1 - 0)).map .int)) hm2)
    have G2 : get ((m2, O.list ((seenL fs rs (rs.length + 1 - 0)).map .int)) :: st₅) m2 = some (.list ((seenL fs rs (rs.length + 1)).map .int)) := get_head
    have G1 := (Le.alloc (o := .list ((seenL fs rs (rs.length + 1 - 0)).map .int)) hm2) _ _ G1
    have D1 := (Le.alloc (o := .list ((seenL fs rs (rs.length + 1 - 0)).map .int)) hm2) _ _ D1
    generalize (m2, O.list ((seenL fs rs (rs.length + 1 - 0)).map .int)) :: st₅ = st₆ at V6 W6 G1 G2 D1
    (repeat' (first | ((fail_if_success (with_reducible show WPS _ _ _ _ _ _ _ _)); (first | ((with_reducible refine WPEs.cons ?_ ?_); (case refine_2 => intros; rfl)) | fail)) | fail))
    refine selfA rfl (by decide) (by decide) W6.i W6.a (Facts.at_Walker_done hK) rfl rfl ?_
    (repeat' (first | ((fail_if_success (with_reducible show WPS _ _ _ _ _ _ _ _)); (first | (with_reducible refine WPEs.nil ?_) | fail)) | fail))
    intro fl hfl
    (repeat' (first | ((fail_if_success (with_reducible show WPS _ _ _ _ _ _ _ _)); (first | (with_reducible refine nxt_next ?_) | fail)) | fail))
    refine WPS.cons ?_
    (repeat' (first | ((fail_if_success (with_reducible show WPS _ _ _ _ _ _ _ _)); (first | (with_reducible first | refine WPE.and ?_ | refine WPEs.nil ?_ | refine WPs.ret ?_) | ((with_reducible refine WPEs.cons ?_ ?_); (case refine_2 => intros; rfl)) | ((with_reducible refine WPE.cmp ?_ ?_); (case refine_2 => rfl)) | ((with_reducible refine WPE.lst ?_ ?_); (case refine_2 => decide)) | ((with_reducible refine' WPE.nm ?_ ?_ ?_ ?_); (case refine'_2 => rfl); (case refine'_4 => decide); (case refine'_5 => decide)) | fail)) | fail))
    intro du hdu
    have L6 := (Le.alloc (o := .list [.tup [.ref m1, .int ((TF room rs.length : Nat) : Int)], .tup [.ref m2, .int ((TF room rs.length : Nat) : Int)]]) hfl).cons (o := .list [.tup [.ref dl, .int ((TF room rs.length : Nat) : Int)], .tup [.ref dl, .int ((TF room rs.length : Nat) : Int)]]) hdu
    refine eq_dues ((Le.alloc hdu) _ _ get_head) get_head (L6 _ _ G1) (L6 _ _ G2) (L6 _ _ D1) (L6 _ _ D1) ?_
    have V7 := V6.le L6
    have W7 := W6.le L6
    (repeat' (first | ((fail_if_success (with_reducible show WPS _ _ _ _ _ _ _ _)); (first | (with_reducible first | refine WPE.and ?_ | refine cnd_t ?_) | ((with_reducible refine WPE.cmp ?_ ?_); (case refine_2 => rfl)) | (with_reducible refine ⟨_, rfl, ?_⟩) | fail)) | fail))
    refine selfA rfl (by decide) (by decide) V7.i V7.a (Facts.at_Walker_wanted hK) rfl rfl ?_
    (repeat' (first | ((fail_if_success (with_reducible show WPS _ _ _ _ _ _ _ _)); (first | (with_reducible first | refine WPE.cnone ?_ | refine WPE.opOne ?_ | refine cnd_t ?_) | ((with_reducible refine WPE.cmp ?_ ?_); (case refine_2 => rfl)) | ((with_reducible refine Mine.W2.isN ?_ ?_); (case refine_1 => rfl)) | ((with_reducible refine cnd_is true ?_ ?_); (case refine_1 => rfl)) | (with_reducible refine ⟨_, rfl, ?_⟩) | fail)) | fail))
    refine selfA rfl (by decide) (by decide) W7.i W7.a (Facts.at_Walker_wanted hK) rfl rfl ?_
    (repeat' (first | ((fail_if_success (with_reducible show WPS _ _ _ _ _ _ _ _)); (first | (with_reducible first | refine WPE.cnone ?_ | refine nxt_ret ?_) | ((with_reducible refine Mine.W2.isN ?_ ?_); (case refine_1 => rfl)) | fail)) | fail))
    exact h _
noncomputable abbrev LS (c : Cx) : Scope := S_law
noncomputable abbrev LB (c : Cx) (n : Nat) : List Stmt := B_law.drop n
noncomputable abbrev TR : Fl → Loc → St → Prop := fun fl _ _ => retV fl = .bool true
theorem self_rules {rs : List Ru} : ∀ u ∈ rs.map Ru.v, selfV u = true := by
  intro u hu
  obtain ⟨r, _, rfl⟩ := List.mem_map.mp hu
  cases r <;> rfl
theorem rest6 (hK : Kc c) (hq : c.q = true) {ra : Addr} {ρ₁ : Loc} (hg : get st ra = some (.list (rs.map Ru.v))) (hf : 0 ≤ fs ∧ fs ≤ 999982) (hrs : ∀ r ∈ rs, r.Ok) (hl : rs.length ≤ 100) (h1 : 1 ≤ room) (h2 : room ≤ 12) (hs : Sub [("_law_first", .int fs), ("_law_rules", .ref ra), ("_law_room", .int (room : Int))] ρ₁) : WPS c 20 (LS c) ρ₁ st (LB c 6) TR X := by
  refine WPS.locs ?_ hs
  refine WPS.cons ?_
  (repeat' (first | ((fail_if_success (with_reducible show WPS _ _ _ _ _ _ _ _)); (first | (with_reducible refine WPEs.nil ?_) | ((with_reducible refine WPEs.cons ?_ ?_); (case refine_2 => intros; rfl)) | ((with_reducible refine WPs.asg ?_ ?_ ?_); (case refine_2 => rfl); (case refine_3 => intros; rfl)) | ((with_reducible refine c_law_states ‹_› ?_ ?_ ?_); (case refine_1 => rfl); (case refine_3 => intros; rfl)) | ((with_reducible refine' WPE.nm ?_ ?_ ?_ ?_); (case refine'_2 => rfl); (case refine'_4 => decide); (case refine'_5 => decide)) | fail)) | fail))
  refine WL.le (s_law_states (k := 10) hK hq hf.1 hf.2 hrs (by omega) hg ?_) (by omega)
  intro nl st₁ hle₁ _ hnl
  (repeat' (first | ((fail_if_success (with_reducible show WPS _ _ _ _ _ _ _ _)); (first | (with_reducible refine nxt_next ?_) | fail)) | fail))
  refine WPS.cons ?_
  (repeat' (first | ((fail_if_success (with_reducible show WPS _ _ _ _ _ _ _ _)); (first | (with_reducible refine WPEs.nil ?_) | ((with_reducible refine WPEs.cons ?_ ?_); (case refine_2 => intros; rfl)) | ((with_reducible refine WPs.asg ?_ ?_ ?_); (case refine_2 => rfl); (case refine_3 => intros; rfl)) | ((with_reducible refine c_list ‹_› ?_ ?_ ?_); (case refine_1 => rfl); (case refine_3 => intros; rfl)) | ((with_reducible refine' WPE.nm ?_ ?_ ?_ ?_); (case refine'_2 => rfl); (case refine'_4 => decide); (case refine'_5 => decide)) | fail)) | fail))
  refine WL.listOf (hle₁ _ _ hg) (by simp; omega) ?_
  intro hd hhd
  have G2 : get ((hd, O.list (rs.map Ru.v)) :: st₁) hd = some (.list (rs.map Ru.v)) := get_head
  have N2 := (Le.alloc (o := .list (rs.map Ru.v)) hhd) _ _ hnl
  have R2 := (Le.alloc (o := .list (rs.map Ru.v)) hhd) _ _ (hle₁ _ _ hg)
  have nhr : hd ≠ ra := fun e => by rw [e, hle₁ _ _ hg] at hhd; cases hhd
  generalize (hd, O.list (rs.map Ru.v)) :: st₁ = st₂ at G2 N2 R2
  (repeat' (first | ((fail_if_success (with_reducible show WPS _ _ _ _ _ _ _ _)); (first | (with_reducible refine nxt_next ?_) | fail)) | fail))
  refine WPS.cons ?_
  (repeat' (first | ((fail_if_success (with_reducible show WPS _ _ _ _ _ _ _ _)); (first | (with_reducible refine WPEs.nil ?_) | ((with_reducible refine WPEs.cons ?_ ?_); (case refine_2 => intros; rfl)) | ((with_reducible refine WPs.asg ?_ ?_ ?_); (case refine_2 => rfl); (case refine_3 => intros; rfl)) | ((with_reducible refine c_backwards ‹_› ?_ ?_ ?_); (case refine_1 => rfl); (case refine_3 => intros; rfl)) | ((with_reducible refine' WPE.nm ?_ ?_ ?_ ?_); (case refine'_2 => rfl); (case refine'_4 => decide); (case refine'_5 => decide)) | fail)) | fail))
  refine s_backwards (k := 5) hK hq G2 hf hrs hl h1 h2 ?_
  intro fa st₃ hle₃ nfa hfa
  have G3 := hle₃ _ _ G2
  have N3 := hle₃ _ _ N2
  have R3 := hle₃ _ _ R2
  (repeat' (first | ((fail_if_success (with_reducible show WPS _ _ _ _ _ _ _ _)); (first | (with_reducible refine nxt_next ?_) | fail)) | fail))
  refine WPS.cons ?_
  (repeat' (first | ((fail_if_success (with_reducible show WPS _ _ _ _ _ _ _ _)); (first | (with_reducible first | refine WPAll.or ?_ | refine cnd_t ?_ | refine cnd_f ?_ | refine WPEs.nil ?_ | refine WPs.ifs ?_ | refine WPB.op ?_ | refine WPB.not ?_) | ((with_reducible refine WPEs.cons ?_ ?_); (case refine_2 => intros; rfl)) | ((with_reducible refine WPB.cmp ?_ ?_); (case refine_2 => rfl)) | ((with_reducible refine n_tuple ‹_› ?_ ?_); (case refine_1 => rfl)) | ((with_reducible refine c_isinstance ‹_› ?_ ?_ ?_); (case refine_1 => rfl); (case refine_3 => intros; rfl)) | ((with_reducible refine c_len ‹_› ?_ ?_ ?_); (case refine_1 => rfl); (case refine_3 => intros; rfl)) | ((with_reducible refine' WPE.nm ?_ ?_ ?_ ?_); (case refine'_2 => rfl); (case refine'_4 => decide); (case refine'_5 => decide)) | ((with_reducible refine WPB.val ?_ ?_); (case refine_2 => intros; rfl)) | ((with_reducible refine cnd_is true ?_ ?_); (case refine_1 => rfl)) | (with_reducible refine ⟨_, rfl, ?_⟩) | ((with_reducible refine' WL.isinstance ?_ ?_ ?_); (case refine'_2 => rfl); (case refine'_3 => rfl)) | fail)) | fail))
  refine WL.lenTup (by simp) ?_
  (repeat' (first | ((fail_if_success (with_reducible show WPS _ _ _ _ _ _ _ _)); (first | (with_reducible first | refine WPE.cint ?_ | refine Mine.W2.neI ?_ | refine WPAll.or ?_ | refine cnd_f ?_ | refine WPEs.nil ?_ | refine WPB.not ?_) | ((with_reducible refine WPEs.cons ?_ ?_); (case refine_2 => intros; rfl)) | ((with_reducible refine n_list ‹_› ?_ ?_); (case refine_1 => rfl)) | ((with_reducible refine c_isinstance ‹_› ?_ ?_ ?_); (case refine_1 => rfl); (case refine_3 => intros; rfl)) | (with_reducible refine WPE.sub ?_) | ((with_reducible refine' WPE.nm ?_ ?_ ?_ ?_); (case refine'_2 => rfl); (case refine'_4 => decide); (case refine'_5 => decide)) | ((with_reducible refine WPB.val ?_ ?_); (case refine_2 => intros; rfl)) | ((with_reducible refine cnd_is false ?_ ?_); (case refine_1 => rfl)) | ((with_reducible refine' Mine.W2.tupAt ?_ ?_ ?_ ?_); (case refine'_2 => rfl); (case refine'_3 => rfl); (case refine'_4 => rfl)) | (with_reducible refine ⟨_, rfl, ?_⟩) | fail)) | fail))
  refine WL.isinstance (T := "list") (by simp [typV, hfa]) rfl ?_
  (repeat' (first | ((fail_if_success (with_reducible show WPS _ _ _ _ _ _ _ _)); (first | (with_reducible first | refine WPAll.or ?_ | refine cnd_t ?_ | refine cnd_f ?_) | ((with_reducible refine WPB.cmp ?_ ?_); (case refine_2 => rfl)) | ((with_reducible refine' WPE.nm ?_ ?_ ?_ ?_); (case refine'_2 => rfl); (case refine'_4 => decide); (case refine'_5 => decide)) | ((with_reducible refine cnd_is true ?_ ?_); (case refine_1 => rfl)) | (with_reducible refine ⟨_, rfl, ?_⟩) | fail)) | fail))
  refine W2.neSelfL G3 R3 self_rules ?_
  (repeat' (first | (with_reducible refine WPS.nil ?_) | ((fail_if_success (with_reducible show WPS _ _ _ _ _ _ _ _)); (first | (with_reducible first | refine WPAll.orNil ?_ | refine nxt_next ?_ | refine cnd_f ?_ | refine ⟨_, rfl, ?_⟩) | fail)) | fail))
  refine WPS.cons ?_
  (repeat' (first | ((fail_if_success (with_reducible show WPS _ _ _ _ _ _ _ _)); (first | (with_reducible refine WPEs.nil ?_) | ((with_reducible refine WPEs.cons ?_ ?_); (case refine_2 => intros; rfl)) | ((with_reducible refine WPs.asg ?_ ?_ ?_); (case refine_2 => rfl); (case refine_3 => intros; rfl)) | ((with_reducible refine c_list ‹_› ?_ ?_ ?_); (case refine_1 => rfl); (case refine_3 => intros; rfl)) | ((with_reducible refine c_reversed ‹_› ?_ ?_ ?_); (case refine_1 => rfl); (case refine_3 => intros; rfl)) | ((with_reducible refine WPE.tup ?_ ?_); (case refine_2 => decide)) | ((with_reducible refine' WPE.nm ?_ ?_ ?_ ?_); (case refine'_2 => rfl); (case refine'_4 => decide); (case refine'_5 => decide)) | fail)) | fail))
  refine WL.reversed N3 ?_
  intro rv hrv
  (repeat' (first | ((fail_if_success (with_reducible show WPS _ _ _ _ _ _ _ _)); (first | (with_reducible refine WPEs.nil ?_) | fail)) | fail))
  refine WL.listRev hq get_head ((Le.alloc hrv) _ _ N3) (by simp [stL_len]; omega) ?_
  intro dl st₄ kp4 ndl gdl
  have up : ∀ {b o}, get st₃ b = some o → get st₄ b = some o := fun {b o} q => kp4 b o (fun e => by rw [e] at q; rw [q] at hrv; cases hrv) ((Le.alloc hrv) _ _ q)
  rw [← List.map_reverse, seen_rev] at gdl
  have G4 := up G3
  have R4 := up R3
  have F4 := up hfa
  have nfd : fa ≠ dl := fun e => by rw [← e, (Le.alloc hrv) _ _ hfa] at ndl; cases ndl
  have nhd : hd ≠ dl := fun e => by rw [← e, (Le.alloc hrv) _ _ G3] at ndl; cases ndl
  have nfr : fa ≠ ra := fun e => by rw [e, R2] at nfa; cases nfa
  have nfh : hd ≠ fa := fun e => by rw [← e, G2] at nfa; cases nfa
  (repeat' (first | ((fail_if_success (with_reducible show WPS _ _ _ _ _ _ _ _)); (first | (with_reducible refine WPEs.nil ?_) | ((with_reducible refine WPEs.cons ?_ ?_); (case refine_2 => intros; rfl)) | ((with_reducible refine c_least ‹_› ?_ ?_ ?_); (case refine_1 => rfl); (case refine_3 => intros; rfl)) | ((with_reducible refine c_len ‹_› ?_ ?_ ?_); (case refine_1 => rfl); (case refine_3 => intros; rfl)) | ((with_reducible refine' WPE.nm ?_ ?_ ?_ ?_); (case refine'_2 => rfl); (case refine'_4 => decide); (case refine'_5 => decide)) | fail)) | fail))
  refine WL.lenList R4 (by simp; omega) ?_
  rw [List.length_map]
  (repeat' (first | ((fail_if_success (with_reducible show WPS _ _ _ _ _ _ _ _)); (first | (with_reducible refine WPEs.nil ?_) | ((with_reducible refine WPEs.cons ?_ ?_); (case refine_2 => intros; rfl)) | ((with_reducible refine' WPE.nm ?_ ?_ ?_ ?_); (case refine'_2 => rfl); (case refine'_4 => decide); (case refine'_5 => decide)) | fail)) | fail))
  refine s_least (k := 16) hK hq hl h1 h2 ?_
  intro st₅ hle₅
  have G5 := hle₅ _ _ G4
  have R5 := hle₅ _ _ R4
  have F5 := hle₅ _ _ F4
  have D5 := hle₅ _ _ gdl
  (repeat' (first | ((fail_if_success (with_reducible show WPS _ _ _ _ _ _ _ _)); (first | (with_reducible first | refine nxt_next ?_ | refine WPEs.nil ?_) | fail)) | fail))
  refine WPS.cons ?_
  (repeat' (first | ((fail_if_success (with_reducible show WPS _ _ _ _ _ _ _ _)); (first | (with_reducible first | refine WPAll.or ?_ | refine WPs.ifs ?_ | refine WPB.op ?_) | ((with_reducible refine WPB.cmp ?_ ?_); (case refine_2 => rfl)) | ((with_reducible refine' WPE.nm ?_ ?_ ?_ ?_); (case refine'_2 => rfl); (case refine'_4 => decide); (case refine'_5 => decide)) | fail)) | fail))
  refine ne_due (n := ((TF room rs.length : Nat) : Int)) F5 D5 ?_
  (repeat' (first | ((fail_if_success (with_reducible show WPS _ _ _ _ _ _ _ _)); (first | (with_reducible first | refine WPE.cint ?_ | refine WPAll.or ?_ | refine cnd_f ?_ | refine WPB.not ?_) | ((with_reducible refine WPEs.cons ?_ ?_); (case refine_2 => intros; rfl)) | ((with_reducible refine WPE.comp ‹_› ?_ ?_ ?_); (case refine_1 => rfl); (case refine_3 => intros; rfl)) | ((with_reducible refine c_all ‹_› ?_ ?_ ?_); (case refine_1 => rfl); (case refine_3 => intros; rfl)) | (with_reducible refine WPE.sub ?_) | ((with_reducible refine' WPE.nm ?_ ?_ ?_ ?_); (case refine'_2 => rfl); (case refine'_4 => decide); (case refine'_5 => decide)) | ((with_reducible refine WPB.val ?_ ?_); (case refine_2 => intros; rfl)) | ((with_reducible refine' Mine.W2.tupAt ?_ ?_ ?_ ?_); (case refine'_2 => rfl); (case refine'_3 => rfl); (case refine'_4 => rfl)) | (with_reducible refine ⟨_, rfl, ?_⟩) | fail)) | fail))
  refine ⟨_, .list F5, small_ok' (by simp [seenL]; omega), ?_⟩
  refine COMP.pure (fun _ => V.bool true) (.list F5) ?_ ?_
  · intro j u hu
    rw [List.getElem?_map] at hu
    obtain ⟨z, hz, rfl⟩ := Option.map_eq_some_iff.mp hu
    (repeat' (first | (with_reducible refine WPEs.nil ?_) | ((with_reducible refine WPEs.cons ?_ ?_); (case refine_2 => intros; rfl)) | ((with_reducible refine c_law_whole ‹_› ?_ ?_ ?_); (case refine_1 => rfl); (case refine_3 => intros; rfl)) | ((with_reducible refine' WPE.nm ?_ ?_ ?_ ?_); (case refine'_2 => rfl); (case refine'_4 => decide); (case refine'_5 => decide)) | fail))
    exact s_whole hK ⟨rfl, rfl⟩
  intro bl hbl
  (repeat' (first | ((fail_if_success (with_reducible show WPS _ _ _ _ _ _ _ _)); (first | (with_reducible refine WPEs.nil ?_) | fail)) | fail))
  refine WL.allBools (bs := (List.range ((seenL fs rs (rs.length + 1)).map V.int).length).map fun _ => true) hq (by rw [get_head, List.map_map]; rfl) ?_
  (repeat' (first | ((fail_if_success (with_reducible show WPS _ _ _ _ _ _ _ _)); (first | (with_reducible refine ⟨_, rfl, ?_⟩) | fail)) | fail))
  refine cnd_is true (by simp) ?_
  (repeat' (first | ((fail_if_success (with_reducible show WPS _ _ _ _ _ _ _ _)); (first | (with_reducible first | refine WPE.cint ?_ | refine WPAll.or ?_ | refine cnd_t ?_ | refine cnd_f ?_ | refine WPEs.nil ?_ | refine WPB.not ?_) | ((with_reducible refine WPEs.cons ?_ ?_); (case refine_2 => intros; rfl)) | ((with_reducible refine c_law_whole ‹_› ?_ ?_ ?_); (case refine_1 => rfl); (case refine_3 => intros; rfl)) | (with_reducible refine WPE.sub ?_) | ((with_reducible refine' WPE.nm ?_ ?_ ?_ ?_); (case refine'_2 => rfl); (case refine'_4 => decide); (case refine'_5 => decide)) | ((with_reducible refine WPB.val ?_ ?_); (case refine_2 => intros; rfl)) | ((with_reducible refine' Mine.W2.tupAt ?_ ?_ ?_ ?_); (case refine'_2 => rfl); (case refine'_3 => rfl); (case refine'_4 => rfl)) | fail)) | fail))
  refine s_whole hK ?_
  have up6 : ∀ {b o}, get st₅ b = some o → get ((bl, O.list ((List.range ((seenL fs rs (rs.length + 1)).map V.int).length).map fun _ => V.bool true)) :: st₅) b = some o := fun q => (Le.alloc hbl) _ _ q
  have G6 := up6 G5
  have R6 := up6 R5
  have F6 := up6 F5
  have D6 := up6 D5
  generalize (bl, O.list ((List.range ((seenL fs rs (rs.length + 1)).map V.int).length).map fun _ => V.bool true)) :: st₅ = st₆ at G6 R6 F6 D6
  (repeat' (first | (with_reducible refine WPS.nil ?_) | ((fail_if_success (with_reducible show WPS _ _ _ _ _ _ _ _)); (first | (with_reducible first | refine WPAll.orNil ?_ | refine nxt_next ?_ | refine cnd_t ?_ | refine cnd_f ?_ | refine ⟨_, rfl, ?_⟩) | fail)) | fail))
  refine WPS.cons ?_
  (repeat' (first | ((fail_if_success (with_reducible show WPS _ _ _ _ _ _ _ _)); (first | (with_reducible refine WPE.cint ?_) | ((with_reducible refine WPs.expr ?_ ?_); (case refine_2 => intros; rfl)) | (with_reducible refine WPE.sub ?_) | ((with_reducible refine' WPE.nm ?_ ?_ ?_ ?_); (case refine'_2 => rfl); (case refine'_4 => decide); (case refine'_5 => decide)) | ((with_reducible refine WPE.mClear ?_ ?_ ?_); (case refine_2 => rfl); (case refine_3 => intros; exact ⟨_, rfl⟩)) | ((with_reducible refine' Mine.W2.tupAt ?_ ?_ ?_ ?_); (case refine'_2 => rfl); (case refine'_3 => rfl); (case refine'_4 => rfl)) | fail)) | fail))
  refine ⟨_, _, rfl, F6, ?_⟩
  (repeat' (first | ((fail_if_success (with_reducible show WPS _ _ _ _ _ _ _ _)); (first | (with_reducible refine WPEs.nil ?_) | fail)) | fail))
  refine WL.clear F6 (by simp [seenL]; omega) ?_
  have G7 := (get_upd_ne (o := .list []) nfh).trans G6
  have R7 := (get_upd_ne (o := .list []) (Ne.symm nfr)).trans R6
  have D7 := (get_upd_ne (o := .list []) (Ne.symm nfd)).trans D6
  generalize upd st₆ fa (.list []) = st₇ at G7 R7 D7
  (repeat' (first | ((fail_if_success (with_reducible show WPS _ _ _ _ _ _ _ _)); (first | (with_reducible refine nxt_next ?_) | fail)) | fail))
  refine WPS.cons ?_
  (repeat' (first | ((fail_if_success (with_reducible show WPS _ _ _ _ _ _ _ _)); (first | ((with_reducible refine WPs.expr ?_ ?_); (case refine_2 => intros; rfl)) | ((with_reducible refine' WPE.nm ?_ ?_ ?_ ?_); (case refine'_2 => rfl); (case refine'_4 => decide); (case refine'_5 => decide)) | ((with_reducible refine WPE.mClear ?_ ?_ ?_); (case refine_2 => rfl); (case refine_3 => intros; exact ⟨_, rfl⟩)) | fail)) | fail))
  refine ⟨_, _, rfl, G7, ?_⟩
  (repeat' (first | ((fail_if_success (with_reducible show WPS _ _ _ _ _ _ _ _)); (first | (with_reducible refine WPEs.nil ?_) | fail)) | fail))
  refine WL.clear G7 (by simp; omega) ?_
  have R8 := (get_upd_ne (o := .list []) (Ne.symm nhr)).trans R7
  have D8 := (get_upd_ne (o := .list []) (Ne.symm nhd)).trans D7
  generalize upd st₇ hd (.list []) = st₈ at R8 D8
  (repeat' (first | ((fail_if_success (with_reducible show WPS _ _ _ _ _ _ _ _)); (first | (with_reducible refine nxt_next ?_) | fail)) | fail))
  refine WPS.cons ?_
  (repeat' (first | ((fail_if_success (with_reducible show WPS _ _ _ _ _ _ _ _)); (first | (with_reducible first | refine WPE.and ?_ | refine WPEs.nil ?_ | refine WPs.ret ?_) | ((with_reducible refine WPEs.cons ?_ ?_); (case refine_2 => intros; rfl)) | ((with_reducible refine WPE.cmp ?_ ?_); (case refine_2 => rfl)) | ((with_reducible refine c_backwards ‹_› ?_ ?_ ?_); (case refine_1 => rfl); (case refine_3 => intros; rfl)) | ((with_reducible refine c_list ‹_› ?_ ?_ ?_); (case refine_1 => rfl); (case refine_3 => intros; rfl)) | ((with_reducible refine' WPE.nm ?_ ?_ ?_ ?_); (case refine'_2 => rfl); (case refine'_4 => decide); (case refine'_5 => decide)) | fail)) | fail))
  refine WL.listOf R8 (by simp; omega) ?_
  intro b9 hb9
  (repeat' (first | ((fail_if_success (with_reducible show WPS _ _ _ _ _ _ _ _)); (first | (with_reducible refine WPEs.nil ?_) | ((with_reducible refine WPEs.cons ?_ ?_); (case refine_2 => intros; rfl)) | ((with_reducible refine' WPE.nm ?_ ?_ ?_ ?_); (case refine'_2 => rfl); (case refine'_4 => decide); (case refine'_5 => decide)) | fail)) | fail))
  refine s_backwards (k := 5) hK hq get_head hf hrs hl h1 h2 ?_
  intro fb st₉ hle₉ _ hfb
  have D9 := hle₉ _ _ ((Le.alloc hb9) _ _ D8)
  have R9 := hle₉ _ _ ((Le.alloc hb9) _ _ R8)
  (repeat' (first | ((fail_if_success (with_reducible show WPS _ _ _ _ _ _ _ _)); (first | ((with_reducible refine' WPE.nm ?_ ?_ ?_ ?_); (case refine'_2 => rfl); (case refine'_4 => decide); (case refine'_5 => decide)) | fail)) | fail))
  refine eq_due hfb D9 ?_
  (repeat' (first | ((fail_if_success (with_reducible show WPS _ _ _ _ _ _ _ _)); (first | (with_reducible first | refine WPE.opOne ?_ | refine cnd_t ?_ | refine WPEs.nil ?_) | ((with_reducible refine WPEs.cons ?_ ?_); (case refine_2 => intros; rfl)) | ((with_reducible refine c_law_by_deeds ‹_› ?_ ?_ ?_); (case refine_1 => rfl); (case refine_3 => intros; rfl)) | ((with_reducible refine' WPE.nm ?_ ?_ ?_ ?_); (case refine'_2 => rfl); (case refine'_4 => decide); (case refine'_5 => decide)) | (with_reducible refine ⟨_, rfl, ?_⟩) | fail)) | fail))
  refine s_by_deeds (k := 5) hK hq R9 hf hrs hl h1 h2 D9 ?_
  intro st'
  (repeat' (first | ((fail_if_success (with_reducible show WPS _ _ _ _ _ _ _ _)); (first | (with_reducible refine nxt_ret ?_) | fail)) | fail))
  rfl
theorem law_ok (hK : Kc c) (hq : c.q = true) {ns : List Int} (hl : ns.length < 1000) : WPS c 20 (S_law) [("_law_script", .scr ns)] [] B_law (fun fl _ _ => retV fl = .bool true) X := by
  have nat_of : ∀ {i b : Int}, 0 ≤ i → i < b → ∃ n : Nat, i = n ∧ (n : Int) < b := fun {i b} h0 h1 => ⟨i.toNat, by omega, by omega⟩
  have r3 : ∀ (st : St) (ρ₁ : Loc) (cell : Int) (m : Nat), m ≤ 100 → Sub [("_law_script", .scr ns), ("_law_cell", .int cell), ("_law_most", .int (m : Int))] ρ₁ → WPS c 20 (LS c) ρ₁ st (LB c 3) TR X := by
    intro st ρ₁ cell m hm hs
    refine WPS.locs ?_ hs
    refine WPS.cons ?_
    refine WPs.unpack hq rfl rfl ?_
    (repeat' (first | ((fail_if_success (with_reducible show WPS _ _ _ _ _ _ _ _)); (first | (with_reducible first | refine WPE.cint ?_ | refine WPEs.nil ?_) | ((with_reducible refine WPEs.cons ?_ ?_); (case refine_2 => intros; rfl)) | ((with_reducible refine c_law_row ‹_› ?_ ?_ ?_); (case refine_1 => rfl); (case refine_3 => intros; rfl)) | ((with_reducible refine' WPE.nm ?_ ?_ ?_ ?_); (case refine'_2 => rfl); (case refine'_4 => decide); (case refine'_5 => decide)) | fail)) | fail))
    refine WL.le (s_row (k := 10) (a := 3) (m := m) hK hq (by decide) hm hl ?_) (by omega)
    intro fs rs d st₁ h0 h1 hr hrl hle hn hg
    refine ⟨_, rfl, rfl, ?_⟩
    (repeat' (first | ((fail_if_success (with_reducible show WPS _ _ _ _ _ _ _ _)); (first | (with_reducible refine nxt_next ?_) | fail)) | fail))
    refine WPS.cons ?_
    (repeat' (first | ((fail_if_success (with_reducible show WPS _ _ _ _ _ _ _ _)); (first | (with_reducible first | refine WPE.cint ?_ | refine WPE.bin ?_ | refine WPEs.nil ?_) | ((with_reducible refine WPEs.cons ?_ ?_); (case refine_2 => intros; rfl)) | ((with_reducible refine WPs.asg ?_ ?_ ?_); (case refine_2 => rfl); (case refine_3 => intros; rfl)) | ((with_reducible refine c_law_cell_at ‹_› ?_ ?_ ?_); (case refine_1 => rfl); (case refine_3 => intros; rfl)) | ((with_reducible refine' WPE.nm ?_ ?_ ?_ ?_); (case refine'_2 => rfl); (case refine'_4 => decide); (case refine'_5 => decide)) | fail)) | fail))
    refine s_cell_at hK (by decide) hl ?_
    (repeat' (first | ((fail_if_success (with_reducible show WPS _ _ _ _ _ _ _ _)); (first | (with_reducible refine WPE.cint ?_) | fail)) | fail))
    refine W2.modI (by decide) ?_
    obtain ⟨r, hr1, hr2⟩ := nat_of (fmod_lt (a := cellV ns 1) (b := 5) (by decide)).1 (fmod_lt (a := cellV ns 1) (b := 5) (by decide)).2
    rw [hr1]
    refine W2.addI ?_
    rw [show (1 : Int) + (r : Int) = ((1 + r : Nat) : Int) by omega]
    (repeat' (first | ((fail_if_success (with_reducible show WPS _ _ _ _ _ _ _ _)); (first | (with_reducible refine nxt_next ?_) | fail)) | fail))
    refine WPS.cons ?_
    (repeat' (first | ((fail_if_success (with_reducible show WPS _ _ _ _ _ _ _ _)); (first | (with_reducible first | refine WPE.cint ?_ | refine WPE.bin ?_ | refine WPs.ifs ?_) | ((with_reducible refine WPB.cmp ?_ ?_); (case refine_2 => rfl)) | ((with_reducible refine' WPE.nm ?_ ?_ ?_ ?_); (case refine'_2 => rfl); (case refine'_4 => decide); (case refine'_5 => decide)) | fail)) | fail))
    refine W2.modI (by decide) ?_
    (repeat' (first | ((fail_if_success (with_reducible show WPS _ _ _ _ _ _ _ _)); (first | (with_reducible first | refine WPE.cint ?_ | refine Mine.W2.eqI ?_ | refine ⟨_, rfl, ?_⟩) | fail)) | fail))
    refine cnd_cases (fun hb => ?_) (fun hb => ?_)
    · ((refine WPS.cons ?_); (repeat' (first | (with_reducible first | refine WPE.cint ?_ | refine WPE.bin ?_ | refine WPEs.nil ?_) | ((with_reducible refine WPEs.cons ?_ ?_); (case refine_2 => intros; rfl)) | ((with_reducible refine WPs.asg ?_ ?_ ?_); (case refine_2 => rfl); (case refine_3 => intros; rfl)) | ((with_reducible refine c_law_cell_at ‹_› ?_ ?_ ?_); (case refine_1 => rfl); (case refine_3 => intros; rfl)) | ((with_reducible refine' WPE.nm ?_ ?_ ?_ ?_); (case refine'_2 => rfl); (case refine'_4 => decide); (case refine'_5 => decide)) | fail)))
      refine s_cell_at hK (by decide) hl ?_
      (repeat' (first | ((fail_if_success (with_reducible show WPS _ _ _ _ _ _ _ _)); (first | (with_reducible refine WPE.cint ?_) | fail)) | fail))
      refine W2.modI (by decide) ?_
      obtain ⟨r', hr', hr''⟩ := nat_of (fmod_lt (a := cellV ns 1) (b := 12) (by decide)).1 (fmod_lt (a := cellV ns 1) (b := 12) (by decide)).2
      rw [hr']
      refine W2.addI ?_
      rw [show (1 : Int) + (r' : Int) = ((1 + r' : Nat) : Int) by omega]
      (repeat' (first | (with_reducible refine WPS.nil ?_) | ((fail_if_success (with_reducible show WPS _ _ _ _ _ _ _ _)); (first | (with_reducible refine nxt_next ?_) | fail)) | fail))
      exact rest6 (room := 1 + r') hK hq hg ⟨h0, h1⟩ hr (by omega) (by omega) (by omega) (Sub.of (by intro p hp; simp at hp; rcases hp with rfl | rfl | rfl <;> rfl))
    · (repeat' (first | (with_reducible refine WPS.nil ?_) | ((fail_if_success (with_reducible show WPS _ _ _ _ _ _ _ _)); (first | (with_reducible refine nxt_next ?_) | fail)) | fail))
      exact rest6 (room := 1 + r) hK hq hg ⟨h0, h1⟩ hr (by omega) (by omega) (by omega) (Sub.of (by intro p hp; simp at hp; rcases hp with rfl | rfl | rfl <;> rfl))
  ((refine WPS.cons ?_); (repeat' (first | (with_reducible first | refine WPE.cint ?_ | refine WPEs.nil ?_) | ((with_reducible refine WPEs.cons ?_ ?_); (case refine_2 => intros; rfl)) | ((with_reducible refine WPs.asg ?_ ?_ ?_); (case refine_2 => rfl); (case refine_3 => intros; rfl)) | ((with_reducible refine c_law_cell_at ‹_› ?_ ?_ ?_); (case refine_1 => rfl); (case refine_3 => intros; rfl)) | ((with_reducible refine' WPE.nm ?_ ?_ ?_ ?_); (case refine'_2 => rfl); (case refine'_4 => decide); (case refine'_5 => decide)) | fail)))
  refine s_cell_at hK (by decide) hl ?_
  (repeat' (first | ((fail_if_success (with_reducible show WPS _ _ _ _ _ _ _ _)); (first | (with_reducible refine nxt_next ?_) | fail)) | fail))
  refine WPS.cons ?_
  (repeat' (first | ((fail_if_success (with_reducible show WPS _ _ _ _ _ _ _ _)); (first | (with_reducible first | refine WPE.cint ?_ | refine nxt_next ?_) | ((with_reducible refine WPs.asg ?_ ?_ ?_); (case refine_2 => rfl); (case refine_3 => intros; rfl)) | fail)) | fail))
  refine WPS.cons ?_
  (repeat' (first | ((fail_if_success (with_reducible show WPS _ _ _ _ _ _ _ _)); (first | (with_reducible first | refine WPE.cint ?_ | refine WPE.bin ?_ | refine WPs.ifs ?_) | ((with_reducible refine WPB.cmp ?_ ?_); (case refine_2 => rfl)) | ((with_reducible refine' WPE.nm ?_ ?_ ?_ ?_); (case refine'_2 => rfl); (case refine'_4 => decide); (case refine'_5 => decide)) | fail)) | fail))
  refine W2.modI (by decide) ?_
  (repeat' (first | ((fail_if_success (with_reducible show WPS _ _ _ _ _ _ _ _)); (first | (with_reducible first | refine WPE.cint ?_ | refine Mine.W2.eqI ?_ | refine ⟨_, rfl, ?_⟩) | fail)) | fail))
  refine cnd_cases (fun hb => ?_) (fun hb => ?_)
  · refine WPS.cons ?_
    (repeat' (first | (with_reducible refine WPS.nil ?_) | ((fail_if_success (with_reducible show WPS _ _ _ _ _ _ _ _)); (first | (with_reducible first | refine WPE.cint ?_ | refine nxt_next ?_) | ((with_reducible refine WPs.asg ?_ ?_ ?_); (case refine_2 => rfl); (case refine_3 => intros; rfl)) | fail)) | fail))
    exact r3 _ _ _ 100 (by decide) (Sub.of (by intro p hp; simp at hp; rcases hp with rfl | rfl | rfl <;> rfl))
  · (repeat' (first | (with_reducible refine WPS.nil ?_) | ((fail_if_success (with_reducible show WPS _ _ _ _ _ _ _ _)); (first | (with_reducible refine nxt_next ?_) | fail)) | fail))
    exact r3 _ _ _ 20 (by decide) (Sub.of (by intro p hp; simp at hp; rcases hp with rfl | rfl | rfl <;> rfl))
end

end Mine
noncomputable def Mine.top.tw16900427199656544559 : Unit := ()
noncomputable def Mine.top.tw18186074749648716422 : Unit := ()
noncomputable def Mine.top.tw8237333600419904120 : Unit := ()
noncomputable def Mine.top.tw10915162052029792233 : Unit := ()
noncomputable def Mine.top.tw13177472732611162249 : Unit := ()
noncomputable def Mine.top.tw7205523548520102528 : Unit := ()
noncomputable def Mine.top.tw12415523145999629524 : Unit := ()
noncomputable def Mine.top.tw15569959144833144457 : Unit := ()
noncomputable def Mine.top.tw14168018189251442112 : Unit := ()
noncomputable def Mine.top.tw14372152842798730730 : Unit := ()
noncomputable def Mine.top.tw14263998999751124003 : Unit := ()
noncomputable def Mine.top.tw12080426169559351053 : Unit := ()
noncomputable def Mine.top.tw4498253355057717688 : Unit := ()
noncomputable def Mine.top.tw16541100652227675460 : Unit := ()
noncomputable def Mine.top.tw53344730913325255 : Unit := ()
noncomputable def Mine.top.tw5915399644114372684 : Unit := ()
noncomputable def Mine.top.tw14399976873020721970 : Unit := ()
noncomputable def Mine.top.tw16713831800681072344 : Unit := ()
noncomputable def Mine.top.tw11141966352661209427 : Unit := ()
noncomputable def Mine.top.tw8973803690348224638 : Unit := ()
noncomputable def Mine.top.tw8443935842833279946 : Unit := ()
noncomputable def Mine.top.tw6930518751129746686 : Unit := ()
noncomputable def Mine.top.tw13370750898655102155 : Unit := ()
noncomputable def Mine.top.tw2007660962349395123 : Unit := ()
noncomputable def Mine.top.tw16878204669230926818 : Unit := ()
noncomputable def Mine.top.tw16082718784150747160 : Unit := ()
noncomputable def Mine.top.tw2243170655852947205 : Unit := ()
noncomputable def Mine.top.tw18064794426631996164 : Unit := ()
noncomputable def Mine.top.tw7600245330811189008 : Unit := ()
noncomputable def Mine.top.tw649594095290182367 : Unit := ()
noncomputable def Mine.top.tw2812155379371279736 : Unit := ()
noncomputable def Mine.top.tw11470252648414753811 : Unit := ()
noncomputable def Mine.top.tw9503340733035011235 : Unit := ()
noncomputable def Mine.top.tw8265191368974092141 : Unit := ()
noncomputable def Mine.top.tw23087011456773342 : Unit := ()
noncomputable def Mine.top.tw7458633546980236471 : Unit := ()
noncomputable def Mine.top.tw5278709424875269971 : Unit := ()
noncomputable def Mine.top.tw1638113669730673903 : Unit := ()
noncomputable def Mine.top.tw5581607755468803823 : Unit := ()
noncomputable def Mine.top.tw12535971307161669396 : Unit := ()
noncomputable def Mine.top.tw146815374380898660 : Unit := ()
noncomputable def Mine.top.tw7162032833190943030 : Unit := ()
noncomputable def Mine.top.tw607988649233969195 : Unit := ()
noncomputable def Mine.top.tw16123964013534891561 : Unit := ()
noncomputable def Mine.top.tw2834867161891130308 : Unit := ()
noncomputable def Mine.top.tw11520865232209809239 : Unit := ()
noncomputable def Mine.top.tw16273406610938067001 : Unit := ()
noncomputable def Mine.top.tw651121207185731931 : Unit := ()
noncomputable def Mine.top.tw7673058066778466091 : Unit := ()
noncomputable def Mine.top.tw14597223018079223185 : Unit := ()
noncomputable def Mine.top.tw11960245374511038805 : Unit := ()
noncomputable def Mine.top.tw6333448901615975916 : Unit := ()
noncomputable def Mine.top.tw11624971203582042403 : Unit := ()
noncomputable def Mine.top.tw11219769389204665010 : Unit := ()
noncomputable def Mine.top.tw1142415686869020238 : Unit := ()
noncomputable def Mine.top.tw13345470168829271861 : Unit := ()
noncomputable def Mine.top.tw7198060816514059695 : Unit := ()
noncomputable def Mine.top.tw16325430554902658873 : Unit := ()
noncomputable def Mine.top.tw968817249337777631 : Unit := ()
noncomputable def Mine.top.tw1149218181149386328 : Unit := ()
noncomputable def Mine.top.tw16172636075833099725 : Unit := ()
noncomputable def Mine.top.tw14762295962024373759 : Unit := ()
noncomputable def Mine.top.tw9378254376102152143 : Unit := ()
noncomputable def Mine.top.tw6211089042160764376 : Unit := ()
noncomputable def Mine.top.tw2462062305354472974 : Unit := ()
noncomputable def Mine.top.tw8184561461823581802 : Unit := ()
noncomputable def Mine.top.tw877433047237710547 : Unit := ()
noncomputable def Mine.top.tw370947364307004932 : Unit := ()
noncomputable def Mine.top.tw3422688185749166683 : Unit := ()
noncomputable def Mine.top.tw9335426496214029073 : Unit := ()
noncomputable def Mine.top.tw8633578818532117116 : Unit := ()
noncomputable def Mine.top.tw1088946173253831356 : Unit := ()
noncomputable def Mine.top.tw16598799759364053327 : Unit := ()
noncomputable def Mine.top.tw9063741608606530840 : Unit := ()
noncomputable def Mine.top.tw16174758807025615021 : Unit := ()
noncomputable def Mine.top.tw10864713392326063847 : Unit := ()
noncomputable def Mine.top.tw728428047077509346 : Unit := ()
noncomputable def Mine.top.tw14282377253939248939 : Unit := ()
noncomputable def Mine.top.tw13044034144603486326 : Unit := ()
noncomputable def Mine.top.tw12958502747184954254 : Unit := ()
noncomputable def Mine.top.tw10448899703829047738 : Unit := ()
noncomputable def Mine.top.tw14142502885225118848 : Unit := ()
noncomputable def Mine.top.tw1585457916280141200 : Unit := ()
noncomputable def Mine.top.tw13889484949932952446 : Unit := ()
noncomputable def Mine.top.tw18371284783138465269 : Unit := ()
noncomputable def Mine.top.tw5969682004907312646 : Unit := ()
noncomputable def Mine.top.tw3340622214548324434 : Unit := ()
noncomputable def Mine.top.tw6883741973766446791 : Unit := ()
noncomputable def Mine.top.tw15988258018655671626 : Unit := ()
noncomputable def Mine.top.tw9953747333497923681 : Unit := ()
noncomputable def Mine.top.tw6189045185395380447 : Unit := ()
noncomputable def Mine.top.tw12718909917080609646 : Unit := ()
set_option Elab.async true in
set_option maxHeartbeats 8000000 in
theorem Mine.top : PySem.Challenge.rw_uf040029_08.Holds := by
  w_on; o_law; k_head; (case hw => w_witness2)
  intro w s₀ s₁ mg mb G Y fa o pm cd doc dV kV ho hd' hcd hD hmg hg args vals as hpre hlay hrd hwl hlo
  have KX := kIn_of Y
  have T := G.T
  refine Mine.useK KX ?_ (fun kf => ?_)
  · exact {
      fn_between := ⟨⟨_, _, rfl, rfl, rfl, rfl, rfl, rfl, rfl, rfl, fun xs h => by obtain ⟨x0, ys0, e0, h0⟩ := Mine.len1 h; subst e0; obtain ⟨x1, ys1, e1, h1⟩ := Mine.len1 h0; subst e1; obtain ⟨x2, ys2, e2, h2⟩ := Mine.len1 h1; subst e2; have e := Mine.len0 h2; subst e; rfl⟩, by rfl, rfl, rfl, rfl, by decide⟩
      g_between := rfl
      k_between := rfl
      fn_is_state := ⟨⟨_, _, rfl, rfl, rfl, rfl, rfl, rfl, rfl, rfl, fun xs h => by obtain ⟨x0, ys0, e0, h0⟩ := Mine.len1 h; subst e0; have e := Mine.len0 h0; subst e; rfl⟩, by rfl, rfl, rfl, rfl, by decide⟩
      g_is_state := rfl
      k_is_state := rfl
      fn_is_rule := ⟨⟨_, _, rfl, rfl, rfl, rfl, rfl, rfl, rfl, rfl, fun xs h => by obtain ⟨x0, ys0, e0, h0⟩ := Mine.len1 h; subst e0; have e := Mine.len0 h0; subst e; rfl⟩, by rfl, rfl, rfl, rfl, by decide⟩
      g_is_rule := rfl
      k_is_rule := rfl
      fn_forth := ⟨⟨_, _, rfl, rfl, rfl, rfl, rfl, rfl, rfl, rfl, fun xs h => by obtain ⟨x0, ys0, e0, h0⟩ := Mine.len1 h; subst e0; obtain ⟨x1, ys1, e1, h1⟩ := Mine.len1 h0; subst e1; have e := Mine.len0 h1; subst e; rfl⟩, by rfl, rfl, rfl, rfl, by decide⟩
      g_forth := rfl
      k_forth := rfl
      fn_need_row := ⟨⟨_, _, rfl, rfl, rfl, rfl, rfl, rfl, rfl, rfl, fun xs h => by obtain ⟨x0, ys0, e0, h0⟩ := Mine.len1 h; subst e0; obtain ⟨x1, ys1, e1, h1⟩ := Mine.len1 h0; subst e1; have e := Mine.len0 h1; subst e; rfl⟩, by rfl, rfl, rfl, rfl, by decide⟩
      g_need_row := rfl
      k_need_row := rfl
      fn_need_counts := ⟨⟨_, _, rfl, rfl, rfl, rfl, rfl, rfl, rfl, rfl, fun xs h => by obtain ⟨x0, ys0, e0, h0⟩ := Mine.len1 h; subst e0; obtain ⟨x1, ys1, e1, h1⟩ := Mine.len1 h0; subst e1; have e := Mine.len0 h1; subst e; rfl⟩, by rfl, rfl, rfl, rfl, by decide⟩
      g_need_counts := rfl
      k_need_counts := rfl
      fn_row_above := ⟨⟨_, _, rfl, rfl, rfl, rfl, rfl, rfl, rfl, rfl, fun xs h => by obtain ⟨x0, ys0, e0, h0⟩ := Mine.len1 h; subst e0; obtain ⟨x1, ys1, e1, h1⟩ := Mine.len1 h0; subst e1; have e := Mine.len0 h1; subst e; rfl⟩, by rfl, rfl, rfl, rfl, by decide⟩
      g_row_above := rfl
      k_row_above := rfl
      fn_table := ⟨⟨_, _, rfl, rfl, rfl, rfl, rfl, rfl, rfl, rfl, fun xs h => by obtain ⟨x0, ys0, e0, h0⟩ := Mine.len1 h; subst e0; obtain ⟨x1, ys1, e1, h1⟩ := Mine.len1 h0; subst e1; have e := Mine.len0 h1; subst e; rfl⟩, by rfl, rfl, rfl, rfl, by decide⟩
      g_table := rfl
      k_table := rfl
      fn_least := ⟨⟨_, _, rfl, rfl, rfl, rfl, rfl, rfl, rfl, rfl, fun xs h => by obtain ⟨x0, ys0, e0, h0⟩ := Mine.len1 h; subst e0; obtain ⟨x1, ys1, e1, h1⟩ := Mine.len1 h0; subst e1; have e := Mine.len0 h1; subst e; rfl⟩, by rfl, rfl, rfl, rfl, by decide⟩
      g_least := rfl
      k_least := rfl
      fn_best_ahead := ⟨⟨_, _, rfl, rfl, rfl, rfl, rfl, rfl, rfl, rfl, fun xs h => by obtain ⟨x0, ys0, e0, h0⟩ := Mine.len1 h; subst e0; obtain ⟨x1, ys1, e1, h1⟩ := Mine.len1 h0; subst e1; obtain ⟨x2, ys2, e2, h2⟩ := Mine.len1 h1; subst e2; have e := Mine.len0 h2; subst e; rfl⟩, by rfl, rfl, rfl, rfl, by decide⟩
      g_best_ahead := rfl
      k_best_ahead := rfl
      fn_by_one := ⟨⟨_, _, rfl, rfl, rfl, rfl, rfl, rfl, rfl, rfl, fun xs h => by obtain ⟨x0, ys0, e0, h0⟩ := Mine.len1 h; subst e0; obtain ⟨x1, ys1, e1, h1⟩ := Mine.len1 h0; subst e1; have e := Mine.len0 h1; subst e; rfl⟩, by rfl, rfl, rfl, rfl, by decide⟩
      g_by_one := rfl
      k_by_one := rfl
      fn_met_from := ⟨⟨_, _, rfl, rfl, rfl, rfl, rfl, rfl, rfl, rfl, fun xs h => by obtain ⟨x0, ys0, e0, h0⟩ := Mine.len1 h; subst e0; obtain ⟨x1, ys1, e1, h1⟩ := Mine.len1 h0; subst e1; obtain ⟨x2, ys2, e2, h2⟩ := Mine.len1 h1; subst e2; obtain ⟨x3, ys3, e3, h3⟩ := Mine.len1 h2; subst e3; have e := Mine.len0 h3; subst e; rfl⟩, by rfl, rfl, rfl, rfl, by decide⟩
      g_met_from := rfl
      k_met_from := rfl
      fn_plan := ⟨⟨_, _, rfl, rfl, rfl, rfl, rfl, rfl, rfl, rfl, fun xs h => by obtain ⟨x0, ys0, e0, h0⟩ := Mine.len1 h; subst e0; obtain ⟨x1, ys1, e1, h1⟩ := Mine.len1 h0; subst e1; have e := Mine.len0 h1; subst e; rfl⟩, by rfl, rfl, rfl, rfl, by decide⟩
      g_plan := rfl
      k_plan := rfl
      fn_is_deed := ⟨⟨_, _, rfl, rfl, rfl, rfl, rfl, rfl, rfl, rfl, fun xs h => by obtain ⟨x0, ys0, e0, h0⟩ := Mine.len1 h; subst e0; have e := Mine.len0 h0; subst e; rfl⟩, by rfl, rfl, rfl, rfl, by decide⟩
      g_is_deed := rfl
      k_is_deed := rfl
      fn_walked := ⟨⟨_, _, rfl, rfl, rfl, rfl, rfl, rfl, rfl, rfl, fun xs h => by obtain ⟨x0, ys0, e0, h0⟩ := Mine.len1 h; subst e0; obtain ⟨x1, ys1, e1, h1⟩ := Mine.len1 h0; subst e1; obtain ⟨x2, ys2, e2, h2⟩ := Mine.len1 h1; subst e2; obtain ⟨x3, ys3, e3, h3⟩ := Mine.len1 h2; subst e3; have e := Mine.len0 h3; subst e; rfl⟩, by rfl, rfl, rfl, rfl, by decide⟩
      g_walked := rfl
      k_walked := rfl
      fn_backwards := ⟨⟨_, _, rfl, rfl, rfl, rfl, rfl, rfl, rfl, rfl, fun xs h => by obtain ⟨x0, ys0, e0, h0⟩ := Mine.len1 h; subst e0; obtain ⟨x1, ys1, e1, h1⟩ := Mine.len1 h0; subst e1; obtain ⟨x2, ys2, e2, h2⟩ := Mine.len1 h1; subst e2; have e := Mine.len0 h2; subst e; rfl⟩, by rfl, rfl, rfl, rfl, by decide⟩
      g_backwards := rfl
      k_backwards := rfl
      fn_law_cell_at := ⟨⟨_, _, rfl, rfl, rfl, rfl, rfl, rfl, rfl, rfl, fun xs h => by obtain ⟨x0, ys0, e0, h0⟩ := Mine.len1 h; subst e0; obtain ⟨x1, ys1, e1, h1⟩ := Mine.len1 h0; subst e1; have e := Mine.len0 h1; subst e; rfl⟩, by rfl, rfl, rfl, rfl, by decide⟩
      g_law_cell_at := rfl
      k_law_cell_at := rfl
      fn_law_number := ⟨⟨_, _, rfl, rfl, rfl, rfl, rfl, rfl, rfl, rfl, fun xs h => by obtain ⟨x0, ys0, e0, h0⟩ := Mine.len1 h; subst e0; obtain ⟨x1, ys1, e1, h1⟩ := Mine.len1 h0; subst e1; have e := Mine.len0 h1; subst e; rfl⟩, by rfl, rfl, rfl, rfl, by decide⟩
      g_law_number := rfl
      k_law_number := rfl
      fn_law_whole := ⟨⟨_, _, rfl, rfl, rfl, rfl, rfl, rfl, rfl, rfl, fun xs h => by obtain ⟨x0, ys0, e0, h0⟩ := Mine.len1 h; subst e0; have e := Mine.len0 h0; subst e; rfl⟩, by rfl, rfl, rfl, rfl, by decide⟩
      g_law_whole := rfl
      k_law_whole := rfl
      fn_law_rule := ⟨⟨_, _, rfl, rfl, rfl, rfl, rfl, rfl, rfl, rfl, fun xs h => by obtain ⟨x0, ys0, e0, h0⟩ := Mine.len1 h; subst e0; have e := Mine.len0 h0; subst e; rfl⟩, by rfl, rfl, rfl, rfl, by decide⟩
      g_law_rule := rfl
      k_law_rule := rfl
      fn_law_forth := ⟨⟨_, _, rfl, rfl, rfl, rfl, rfl, rfl, rfl, rfl, fun xs h => by obtain ⟨x0, ys0, e0, h0⟩ := Mine.len1 h; subst e0; obtain ⟨x1, ys1, e1, h1⟩ := Mine.len1 h0; subst e1; have e := Mine.len0 h1; subst e; rfl⟩, by rfl, rfl, rfl, rfl, by decide⟩
      g_law_forth := rfl
      k_law_forth := rfl
      fn_law_row := ⟨⟨_, _, rfl, rfl, rfl, rfl, rfl, rfl, rfl, rfl, fun xs h => by obtain ⟨x0, ys0, e0, h0⟩ := Mine.len1 h; subst e0; obtain ⟨x1, ys1, e1, h1⟩ := Mine.len1 h0; subst e1; obtain ⟨x2, ys2, e2, h2⟩ := Mine.len1 h1; subst e2; have e := Mine.len0 h2; subst e; rfl⟩, by rfl, rfl, rfl, rfl, by decide⟩
      g_law_row := rfl
      k_law_row := rfl
      fn_law_states := ⟨⟨_, _, rfl, rfl, rfl, rfl, rfl, rfl, rfl, rfl, fun xs h => by obtain ⟨x0, ys0, e0, h0⟩ := Mine.len1 h; subst e0; obtain ⟨x1, ys1, e1, h1⟩ := Mine.len1 h0; subst e1; have e := Mine.len0 h1; subst e; rfl⟩, by rfl, rfl, rfl, rfl, by decide⟩
      g_law_states := rfl
      k_law_states := rfl
      fn_law_by_deeds := ⟨⟨_, _, rfl, rfl, rfl, rfl, rfl, rfl, rfl, rfl, fun xs h => by obtain ⟨x0, ys0, e0, h0⟩ := Mine.len1 h; subst e0; obtain ⟨x1, ys1, e1, h1⟩ := Mine.len1 h0; subst e1; obtain ⟨x2, ys2, e2, h2⟩ := Mine.len1 h1; subst e2; obtain ⟨x3, ys3, e3, h3⟩ := Mine.len1 h2; subst e3; have e := Mine.len0 h3; subst e; rfl⟩, by rfl, rfl, rfl, rfl, by decide⟩
      g_law_by_deeds := rfl
      k_law_by_deeds := rfl
      fn_law := ⟨⟨_, _, rfl, rfl, rfl, rfl, rfl, rfl, rfl, rfl, fun xs h => by obtain ⟨x0, ys0, e0, h0⟩ := Mine.len1 h; subst e0; have e := Mine.len0 h0; subst e; rfl⟩, by rfl, rfl, rfl, rfl, by decide⟩
      g_law := rfl
      k_law := rfl
      fn_Walker_init := ⟨⟨_, _, rfl, rfl, rfl, rfl, rfl, rfl, rfl, rfl, fun xs h => by obtain ⟨x0, ys0, e0, h0⟩ := Mine.len1 h; subst e0; obtain ⟨x1, ys1, e1, h1⟩ := Mine.len1 h0; subst e1; obtain ⟨x2, ys2, e2, h2⟩ := Mine.len1 h1; subst e2; obtain ⟨x3, ys3, e3, h3⟩ := Mine.len1 h2; subst e3; have e := Mine.len0 h3; subst e; rfl⟩, by rfl, rfl, rfl, rfl, by decide⟩
      mk_Walker := ⟨by kernel_rfl, by kernel_rfl, by kernel_rfl⟩
      fn_Walker_kept := ⟨⟨_, _, rfl, rfl, rfl, rfl, rfl, rfl, rfl, rfl, fun xs h => by obtain ⟨x0, ys0, e0, h0⟩ := Mine.len1 h; subst e0; have e := Mine.len0 h0; subst e; rfl⟩, by rfl, rfl, rfl, rfl, by decide⟩
      me_Walker_kept := ⟨by kernel_rfl, by kernel_rfl, by kernel_rfl, by kernel_rfl⟩
      fn_Walker_met := ⟨⟨_, _, rfl, rfl, rfl, rfl, rfl, rfl, rfl, rfl, fun xs h => by obtain ⟨x0, ys0, e0, h0⟩ := Mine.len1 h; subst e0; have e := Mine.len0 h0; subst e; rfl⟩, by rfl, rfl, rfl, rfl, by decide⟩
      me_Walker_met := ⟨by kernel_rfl, by kernel_rfl, by kernel_rfl, by kernel_rfl⟩
      fn_Walker_do := ⟨⟨_, _, rfl, rfl, rfl, rfl, rfl, rfl, rfl, rfl, fun xs h => by obtain ⟨x0, ys0, e0, h0⟩ := Mine.len1 h; subst e0; obtain ⟨x1, ys1, e1, h1⟩ := Mine.len1 h0; subst e1; have e := Mine.len0 h1; subst e; rfl⟩, by rfl, rfl, rfl, rfl, by decide⟩
      me_Walker_do := ⟨by kernel_rfl, by kernel_rfl, by kernel_rfl, by kernel_rfl⟩
      fn_Walker_keep_it := ⟨⟨_, _, rfl, rfl, rfl, rfl, rfl, rfl, rfl, rfl, fun xs h => by obtain ⟨x0, ys0, e0, h0⟩ := Mine.len1 h; subst e0; have e := Mine.len0 h0; subst e; rfl⟩, by rfl, rfl, rfl, rfl, by decide⟩
      me_Walker_keep_it := ⟨by kernel_rfl, by kernel_rfl, by kernel_rfl, by kernel_rfl⟩
      fn_Walker_handle := ⟨⟨_, _, rfl, rfl, rfl, rfl, rfl, rfl, rfl, rfl, fun xs h => by obtain ⟨x0, ys0, e0, h0⟩ := Mine.len1 h; subst e0; obtain ⟨x1, ys1, e1, h1⟩ := Mine.len1 h0; subst e1; obtain ⟨x2, ys2, e2, h2⟩ := Mine.len1 h1; subst e2; have e := Mine.len0 h2; subst e; rfl⟩, by rfl, rfl, rfl, rfl, by decide⟩
      me_Walker_handle := ⟨by kernel_rfl, by kernel_rfl, by kernel_rfl, by kernel_rfl⟩
      fn_Walker_go_on := ⟨⟨_, _, rfl, rfl, rfl, rfl, rfl, rfl, rfl, rfl, fun xs h => by obtain ⟨x0, ys0, e0, h0⟩ := Mine.len1 h; subst e0; obtain ⟨x1, ys1, e1, h1⟩ := Mine.len1 h0; subst e1; have e := Mine.len0 h1; subst e; rfl⟩, by rfl, rfl, rfl, rfl, by decide⟩
      me_Walker_go_on := ⟨by kernel_rfl, by kernel_rfl, by kernel_rfl, by kernel_rfl⟩
      fn_Walker_meet_it := ⟨⟨_, _, rfl, rfl, rfl, rfl, rfl, rfl, rfl, rfl, fun xs h => by obtain ⟨x0, ys0, e0, h0⟩ := Mine.len1 h; subst e0; have e := Mine.len0 h0; subst e; rfl⟩, by rfl, rfl, rfl, rfl, by decide⟩
      me_Walker_meet_it := ⟨by kernel_rfl, by kernel_rfl, by kernel_rfl, by kernel_rfl⟩
      at_Walker_done := ⟨by kernel_rfl, by kernel_rfl, by kernel_rfl, by kernel_rfl, by kernel_rfl, by kernel_rfl⟩
      at_Walker_place := ⟨by kernel_rfl, by kernel_rfl, by kernel_rfl, by kernel_rfl, by kernel_rfl, by kernel_rfl⟩
      at_Walker_room := ⟨by kernel_rfl, by kernel_rfl, by kernel_rfl, by kernel_rfl, by kernel_rfl, by kernel_rfl⟩
      at_Walker_rules := ⟨by kernel_rfl, by kernel_rfl, by kernel_rfl, by kernel_rfl, by kernel_rfl, by kernel_rfl⟩
      at_Walker_seen := ⟨by kernel_rfl, by kernel_rfl, by kernel_rfl, by kernel_rfl, by kernel_rfl, by kernel_rfl⟩
      at_Walker_shelf := ⟨by kernel_rfl, by kernel_rfl, by kernel_rfl, by kernel_rfl, by kernel_rfl, by kernel_rfl⟩
      at_Walker_state := ⟨by kernel_rfl, by kernel_rfl, by kernel_rfl, by kernel_rfl, by kernel_rfl, by kernel_rfl⟩
      at_Walker_wanted := ⟨by kernel_rfl, by kernel_rfl, by kernel_rfl, by kernel_rfl, by kernel_rfl, by kernel_rfl⟩
      g_MarkError := rfl
      k_MarkError := by kernel_rfl
      g_BadCount := rfl
      k_BadCount := by kernel_rfl
      g_BadRule := rfl
      k_BadRule := by kernel_rfl
      g_BadDeed := rfl
      k_BadDeed := by kernel_rfl
      g_Full := rfl
      k_Full := by kernel_rfl
      g_Twice := rfl
      k_Twice := by kernel_rfl
      g_NotKept := rfl
      k_NotKept := by kernel_rfl
      g_AtEnd := rfl
      k_AtEnd := by kernel_rfl
      g_NotWanted := rfl
      k_NotWanted := by kernel_rfl
      g_Walker := rfl
      k_Walker := by kernel_rfl
      ex_BadCount := by kernel_rfl
      ek_BadCount := ⟨by kernel_rfl, by kernel_rfl, by kernel_rfl, by kernel_rfl, by kernel_rfl, by kernel_rfl, by kernel_rfl, by kernel_rfl⟩
      em_BadCount := by kernel_rfl
      kit_BadCount := ⟨by kernel_rfl, by kernel_rfl, by kernel_rfl, by kernel_rfl, by kernel_rfl, by kernel_rfl, by kernel_rfl, by kernel_rfl, by kernel_rfl⟩
      ex_BadRule := by kernel_rfl
      ek_BadRule := ⟨by kernel_rfl, by kernel_rfl, by kernel_rfl, by kernel_rfl, by kernel_rfl, by kernel_rfl, by kernel_rfl, by kernel_rfl⟩
      em_BadRule := by kernel_rfl
      kit_BadRule := ⟨by kernel_rfl, by kernel_rfl, by kernel_rfl, by kernel_rfl, by kernel_rfl, by kernel_rfl, by kernel_rfl, by kernel_rfl, by kernel_rfl⟩
      ex_BadDeed := by kernel_rfl
      ek_BadDeed := ⟨by kernel_rfl, by kernel_rfl, by kernel_rfl, by kernel_rfl, by kernel_rfl, by kernel_rfl, by kernel_rfl, by kernel_rfl⟩
      em_BadDeed := by kernel_rfl
      kit_BadDeed := ⟨by kernel_rfl, by kernel_rfl, by kernel_rfl, by kernel_rfl, by kernel_rfl, by kernel_rfl, by kernel_rfl, by kernel_rfl, by kernel_rfl⟩
      ex_Full := by kernel_rfl
      ek_Full := ⟨by kernel_rfl, by kernel_rfl, by kernel_rfl, by kernel_rfl, by kernel_rfl, by kernel_rfl, by kernel_rfl, by kernel_rfl⟩
      em_Full := by kernel_rfl
      kit_Full := ⟨by kernel_rfl, by kernel_rfl, by kernel_rfl, by kernel_rfl, by kernel_rfl, by kernel_rfl, by kernel_rfl, by kernel_rfl, by kernel_rfl⟩
      ex_Twice := by kernel_rfl
      ek_Twice := ⟨by kernel_rfl, by kernel_rfl, by kernel_rfl, by kernel_rfl, by kernel_rfl, by kernel_rfl, by kernel_rfl, by kernel_rfl⟩
      em_Twice := by kernel_rfl
      kit_Twice := ⟨by kernel_rfl, by kernel_rfl, by kernel_rfl, by kernel_rfl, by kernel_rfl, by kernel_rfl, by kernel_rfl, by kernel_rfl, by kernel_rfl⟩
      ex_NotKept := by kernel_rfl
      ek_NotKept := ⟨by kernel_rfl, by kernel_rfl, by kernel_rfl, by kernel_rfl, by kernel_rfl, by kernel_rfl, by kernel_rfl, by kernel_rfl⟩
      em_NotKept := by kernel_rfl
      kit_NotKept := ⟨by kernel_rfl, by kernel_rfl, by kernel_rfl, by kernel_rfl, by kernel_rfl, by kernel_rfl, by kernel_rfl, by kernel_rfl, by kernel_rfl⟩
      ex_AtEnd := by kernel_rfl
      ek_AtEnd := ⟨by kernel_rfl, by kernel_rfl, by kernel_rfl, by kernel_rfl, by kernel_rfl, by kernel_rfl, by kernel_rfl, by kernel_rfl⟩
      em_AtEnd := by kernel_rfl
      kit_AtEnd := ⟨by kernel_rfl, by kernel_rfl, by kernel_rfl, by kernel_rfl, by kernel_rfl, by kernel_rfl, by kernel_rfl, by kernel_rfl, by kernel_rfl⟩
      ex_NotWanted := by kernel_rfl
      ek_NotWanted := ⟨by kernel_rfl, by kernel_rfl, by kernel_rfl, by kernel_rfl, by kernel_rfl, by kernel_rfl, by kernel_rfl, by kernel_rfl⟩
      em_NotWanted := by kernel_rfl
      kit_NotWanted := ⟨by kernel_rfl, by kernel_rfl, by kernel_rfl, by kernel_rfl, by kernel_rfl, by kernel_rfl, by kernel_rfl, by kernel_rfl, by kernel_rfl⟩
      g_ROUND := ⟨_, rfl⟩
      g_MOST_RULES := ⟨_, rfl⟩
      g_MOST_STEPS := ⟨_, rfl⟩
      g_MOST_ROOM := ⟨_, rfl⟩
      g_MOST := ⟨_, rfl⟩
      g_isinstance := rfl
      g_len := rfl
      g_min := rfl
      g_sorted := rfl
      g_all := rfl
      g_list := rfl
      g_int := rfl
      g_str := rfl
      g_tuple := rfl
      g_range := rfl
      g_reversed := rfl
      g_bool := rfl
      g_ValueError := rfl}
  have e1 : mg "law" = some (.ref 358) := mg_of KX T.g kf.g_law
  have e2 : fa = 358 := by
    have := hmg
    rw [show mg _ = some (Value.ref 358) from e1] at this
    cases this; rfl
  subst e2
  clear ho hd' hcd hD hmg
  wrow_args hpre hlay hrd hwl hlo
  rename_i ns _ _ _ _ _ _ _ l vals _ hL _ _ _ hI _ hn _
  refine enter_call (codeAny_mono ?_ (fun _ _ g => GoodW.toG g))
  refine Mine.enterLaw (c := { prog := _, w := w, K := _, p := _, loose := _, mean := _, mg := mg, mb := mb, base := s₁.heap, s₀ := s₁, q := true }) (k := 20) kf.fn_law rfl rfl KX T (by decide) hL hI (by refine Mine.law_ok ?_ ?_ ?_; exact kf; rfl; omega) ?_
  intro L m h' tk F
  refine goodW_bool F hg (raisesW_false ?_) ?_
  · wrow_none_raised
  · wrow_post
theorem PySem.Challenge.cw_uf040029_08_holds : PySem.Challenge.rw_uf040029_08.Holds :=
  Mine.top
