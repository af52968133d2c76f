import PyProof.Rows.All
import Wide.All
import OpenK.AllK
import Wide.FinOn
import KE.KStateDown
import KE.SortData
import KE.SortKeyHeap
import KE.KDictKeyed
import KE.KExcSuper
import KE.KExcRaise
import PyProof.ReprReads
import Lean
import HandS.ForMost
import HandS.ForExc
import HandS.More
import HandS.Walk
import HandS.Flow
import HandS.TryMany
import HandS.ExcInit
import HandS.ExcField
import HandS.IsInst
import HandS.Strs
import HandS.SortInts
import HandS.SortKw
import HandS.SetFor
import HandS.Conv
import HandS.Defaults
import HandS.AnyAll
import HandS.EndTab
import HandS.Head0
import HandS.Head1
import HandS.Head2
import HandS.HeadHook4
import HandS.HeadWalk
import HandS.Nested
import HandS.NestedK
import HandS.Deep
import HandS.DeepEq
import HandS.Zip
import HandS.NoneIn
import HandS.DictTup
import HandS.ListItems
import HandS.ExcValue
import KE.KDictSum
import KE.KDictList
import HandS.Small
import HandS.FStr
import HandS.TupAny
import PySem.Challenge.RW_heapgame_k95_whole_power_cuts
set_option Elab.async false
set_option linter.all false
set_option maxRecDepth 100000
set_option maxHeartbeats 4100000
/-! Hg: the base of the walk: what never changes (tuples, locked lists), how heaps grow, data. -/
namespace Hg
open PySem PySem.Spec PyProof.Rows L2

/-! ### what never changes -/
/-- the tuples and the locked things of H -/
def imm (H : Hp) : Hp := fun b => match H b with
  | some (.tup xs) => some (.tup xs)
  | some (.frz o u) => some (.frz o u)
  | _ => none
theorem imm_le {H : Hp} {b : Addr} {o : HO} (h : imm H b = some o) : H b = some o := by
  unfold imm at h
  split at h
  · rename_i e
    rw [e, ← h]
  · rename_i e
    rw [e, ← h]
  · cases h
theorem imm_tup {H : Hp} {b : Addr} {xs : List V} (h : H b = some (.tup xs)) : imm H b = some (.tup xs) := by
  unfold imm
  rw [h]
theorem imm_frz {H : Hp} {b : Addr} {o : Obj} {u : HO} (h : H b = some (.frz o u)) : imm H b = some (.frz o u) := by
  unfold imm
  rw [h]
def isImm : HO → Bool
  | .tup _ => true
  | .frz _ _ => true
  | _ => false
theorem imm_some {H : Hp} {b : Addr} {o : HO} (h : imm H b = some o) : isImm o = true := by
  unfold imm at h
  split at h
  · cases h; rfl
  · cases h; rfl
  · cases h
theorem imm_of {H : Hp} {b : Addr} {o : HO} (h : H b = some o) (i : isImm o = true) : imm H b = some o := by
  cases o with
  | tup xs => exact imm_tup h
  | frz q u => exact imm_frz h
  | _ => cases i

/-! ### heaps that grow: F is what may change -/
def isTbl : HO → Bool
  | .tbl _ => true
  | _ => false
structure ExF (F : Addr → Prop) (H H' : Hp) : Prop where
  keep : ∀ b o, H b = some o → ¬ F b → isTbl o = false → H' b = some o
  live : ∀ b, H' b = none → H b = none
  tab : ∀ P ps, H P = some (.tbl ps) → TriplesOk ps.toList → ∃ qs, H' P = some (.tbl qs) ∧ TriplesOk qs.toList
  imm : ∀ b o, imm H b = some o → H' b = some o
def NoF : Addr → Prop := fun _ => False
abbrev Ex : Hp → Hp → Prop := ExF NoF
section
variable {F G : Addr → Prop} {H H1 H2 H3 : Hp} {p b : Addr} {o : HO}
theorem ExF.refl (F : Addr → Prop) (H : Hp) : ExF F H H := ⟨fun _ _ h _ _ => h, fun _ h => h, fun _ ps h t => ⟨ps, h, t⟩, fun _ _ h => imm_le h⟩
theorem ExF.immI (e : ExF F H H1) {b : Addr} {o : HO} (h : Hg.imm H b = some o) : Hg.imm H1 b = some o := imm_of (e.imm b o h) (imm_some h)
theorem ExF.trans (e : ExF F H1 H2) (f : ExF F H2 H3) : ExF F H1 H3 :=
  ⟨fun b o h n t => f.keep b o (e.keep b o h n t) n t, fun b h => e.live b (f.live b h), fun P ps h t => by
    obtain ⟨qs, h2, t2⟩ := e.tab P ps h t
    exact f.tab P qs h2 t2, fun b o h => f.imm b o (e.immI h)⟩
theorem ExF.mono (e : ExF F H1 H2) (h : ∀ b, F b → G b) : ExF G H1 H2 := ⟨fun b o k n t => e.keep b o k (fun z => n (h b z)) t, e.live, e.tab, e.imm⟩
theorem ExF.of (e : Ex H1 H2) : ExF F H1 H2 := e.mono fun _ z => z.elim
theorem Ex.refl (H : Hp) : Ex H H := ExF.refl _ H
theorem Ex.at (e : Ex H H1) {b : Addr} {o : HO} (h : H b = some o) (t : isTbl o = false := by rfl) : H1 b = some o := e.keep b o h (fun z => z) t
theorem ExF.at (e : ExF F H H1) {b : Addr} {o : HO} (h : H b = some o) (n : ¬ F b) (t : isTbl o = false := by rfl) : H1 b = some o := e.keep b o h n t
theorem ExF.gone (e : ExF F H H1) {b : Addr} (h : H1 b = none) : H b = none := e.live b h
theorem ExF.ne (e : ExF F H H1) (h : H b = some o) (n : H1 p = none) : p ≠ b := fun z => by
  have q := e.live p n
  rw [z, h] at q
  cases q
/-- a thing that was not there ahead, or may change, is laid or changed -/
theorem ExF.upd (e : ExF F H H1) (h : H p = none ∨ (F p ∧ (∃ u, H p = some u ∧ isImm u = false ∧ isTbl u = false))) : ExF F H (upd H1 p o) where
  keep := fun b u k n t => by
    have hb : b ≠ p := fun z => by
      rw [z] at k n
      rcases h with h | h
      · rw [h] at k
        cases k
      · exact n h.1
    rw [upd_ne hb]
    exact e.keep b u k n t
  live := fun b k => by
    by_cases hb : b = p
    · rw [hb, upd_same] at k
      cases k
    · rw [upd_ne hb] at k
      exact e.live b k
  tab := fun P ps k t => by
    have hb : P ≠ p := fun z => by
      rw [z] at k
      rcases h with h | ⟨_, u, h, _, h2⟩
      · rw [h] at k
        cases k
      · rw [h] at k
        cases k
        cases h2
    rw [upd_ne hb]
    exact e.tab P ps k t
  imm := fun b u k => by
    have hb : b ≠ p := fun z => by
      rw [z] at k
      have k2 := imm_le k
      rcases h with h | ⟨_, v, h, h1, _⟩
      · rw [h] at k2
        cases k2
      · rw [h] at k2
        cases k2
        rw [imm_some k] at h1
        cases h1
    rw [upd_ne hb]
    exact e.imm b u k
theorem Ex.upd (e : ExF F H H1) (h : H p = none) : ExF F H (L2.upd H1 p o) := ExF.upd e (.inl h)
theorem Ex.new (h : H p = none) : ExF F H (L2.upd H p o) := Ex.upd (ExF.refl _ H) h
/-- only p differs, p was not there ahead -/
theorem ExF.but (e : ExF F H H1) (h : H p = none) (k : ∀ b, b ≠ p → H2 b = H1 b) (l : H2 p ≠ none) : ExF F H H2 := by
  cases q : H2 p with
  | none => exact absurd q l
  | some u =>
    have z : H2 = L2.upd H1 p u := by
      funext b
      by_cases hb : b = p
      · rw [hb, upd_same, q]
      · rw [upd_ne hb, k b hb]
    rw [z]
    exact Ex.upd e h
end

/-! ### data -/
/-- H grows to H', for what is told of data -/
def Le (H H' : Hp) : Prop := ∀ b o, H b = some o → H' b = some o
theorem Rd.le {H H' : Hp} {a : Addr} {u : HO} (h : Le H H') (r : Rd H a u) : Rd H' a u := by
  rcases r with r | ⟨o, r⟩
  · exact .inl (h _ _ r)
  · exact .inr ⟨o, h _ _ r⟩
theorem SqL.le {K : PySem.W.Frag} {H H' : Hp} {a : Addr} {xs : List V} (h : Le H H') (r : SqL K H a xs) : SqL K H' a xs := r.imp (Rd.le h) id
theorem SqT.le {K : PySem.W.Frag} {H H' : Hp} {a : Addr} {xs : List V} (h : Le H H') (r : SqT K H a xs) : SqT K H' a xs := r.imp (Rd.le h) id
mutual
theorem Dp.le {K : PySem.W.Frag} {H H' : Hp} (h : Le H H') : ∀ {v : V} {d : PyData}, Dp K H v d → Dp K H' v d
  | _, _, .non => .non
  | _, _, .bl b => .bl b
  | _, _, .int i => .int i
  | _, _, .str x => .str x
  | _, _, .lst hs ha => .lst (SqL.le h hs) (DpAll.le h ha)
  | _, _, .tup hs ha => .tup (SqT.le h hs) (DpAll.le h ha)
theorem DpAll.le {K : PySem.W.Frag} {H H' : Hp} (h : Le H H') : ∀ {vs : List V} {ds : List PyData}, DpAll K H vs ds → DpAll K H' vs ds
  | _, _, .nil => .nil
  | _, _, .cons hd ht => .cons (Dp.le h hd) (DpAll.le h ht)
end
/-- data that never changes -/
abbrev DI (K : PySem.W.Frag) (H : Hp) (v : V) (d : PyData) : Prop := Dp K (imm H) v d
abbrev DIs (K : PySem.W.Frag) (H : Hp) (vs : List V) (ds : List PyData) : Prop := DpAll K (imm H) vs ds
section
variable {K : PySem.W.Frag} {F : Addr → Prop} {H H1 H2 : Hp} {v : V} {d : PyData} {vs ws : List V} {ds es : List PyData} {a p : Addr} {xs : List V}
theorem ExF.leI (e : ExF F H H1) : Le (Hg.imm H) (Hg.imm H1) := fun _ _ h => e.immI h
theorem leI (H : Hp) : Le (imm H) H := fun _ _ h => imm_le h
theorem DI.ex (h : DI K H v d) (e : ExF F H H1) : DI K H1 v d := Dp.le e.leI h
theorem DIs.ex (h : DIs K H vs ds) (e : ExF F H H1) : DIs K H1 vs ds := DpAll.le e.leI h
theorem DI.dp (h : DI K H v d) : Dp K H v d := Dp.le (leI H) h
theorem DpAll.length : ∀ {vs : List V} {ds : List PyData}, DpAll K H vs ds → vs.length = ds.length
  | _, _, .nil => rfl
  | _, _, .cons _ t => congrArg Nat.succ (DpAll.length t)
theorem DpAll.append : ∀ {vs : List V} {ds : List PyData}, DpAll K H vs ds → DpAll K H ws es → DpAll K H (vs ++ ws) (ds ++ es)
  | _, _, .nil, h => h
  | _, _, .cons a t, h => .cons a (DpAll.append t h)
theorem DpAll.one (h : Dp K H v d) : DpAll K H [v] [d] := .cons h .nil
theorem DpAll.get : ∀ {vs : List V} {ds : List PyData} {i : Nat}, DpAll K H vs ds → vs[i]? = some v → ∃ d, ds[i]? = some d ∧ Dp K H v d
  | _, _, _, .nil, e => by simp at e
  | _, _, 0, .cons a _, e => by
    simp at e
    subst e
    exact ⟨_, rfl, a⟩
  | _, _, i + 1, .cons _ t, e => by
    obtain ⟨d, h1, h2⟩ := DpAll.get (i := i) t (by simpa using e)
    exact ⟨d, by simpa using h1, h2⟩
theorem DpAll.at_ : ∀ {vs : List V} {ds : List PyData} {i : Nat}, DpAll K H vs ds → ds[i]? = some d → ∃ v, vs[i]? = some v ∧ Dp K H v d
  | _, _, _, .nil, e => by simp at e
  | _, _, 0, .cons a _, e => by
    simp at e
    subst e
    exact ⟨_, rfl, a⟩
  | _, _, i + 1, .cons _ t, e => by
    obtain ⟨d, h1, h2⟩ := DpAll.at_ (i := i) t (by simpa using e)
    exact ⟨d, by simpa using h1, h2⟩
theorem DpAll.split : ∀ {ds : List PyData} {vs : List V}, DpAll K H vs (ds ++ es) → ∃ v1 v2, vs = v1 ++ v2 ∧ DpAll K H v1 ds ∧ DpAll K H v2 es
  | [], vs, h => ⟨[], vs, rfl, .nil, h⟩
  | d :: ds, _, .cons (v := v) (vs := vs) a t => by
    obtain ⟨v1, v2, e, h1, h2⟩ := DpAll.split (ds := ds) t
    exact ⟨v :: v1, v2, by rw [e]; rfl, .cons a h1, h2⟩
theorem DpAll.drop : ∀ {vs : List V} {ds : List PyData} (n : Nat), DpAll K H vs ds → DpAll K H (vs.drop n) (ds.drop n)
  | _, _, 0, h => h
  | _, _, _ + 1, .nil => .nil
  | _, _, n + 1, .cons _ t => DpAll.drop n t
theorem DpAll.take : ∀ {vs : List V} {ds : List PyData} (n : Nat), DpAll K H vs ds → DpAll K H (vs.take n) (ds.take n)
  | _, _, 0, _ => .nil
  | _, _, _ + 1, .nil => .nil
  | _, _, n + 1, .cons a t => .cons a (DpAll.take n t)
theorem DpAll.set : ∀ {vs : List V} {ds : List PyData} (n : Nat), DpAll K H vs ds → Dp K H v d → DpAll K H (vs.set n v) (ds.set n d)
  | _, _, _, .nil, _ => .nil
  | _, _, 0, .cons _ t, h => .cons h t
  | _, _, n + 1, .cons a t, h => .cons a (DpAll.set n t h)
theorem DpAll.dropLast : ∀ {vs : List V} {ds : List PyData}, DpAll K H vs ds → DpAll K H vs.dropLast ds.dropLast
  | _, _, .nil => .nil
  | _, _, .cons _ .nil => .nil
  | _, _, .cons a (.cons b t) => .cons a (DpAll.dropLast (.cons b t))
theorem DpAll.ints : ∀ ns : List Int, DpAll K H (ns.map V.int) (ns.map PyData.int)
  | [] => .nil
  | _ :: r => .cons (.int _) (DpAll.ints r)
theorem DpAll.ints_inv : ∀ {ns : List Int} {vs : List V}, DpAll K H vs (ns.map PyData.int) → vs = ns.map V.int
  | [], _, h => by cases h; rfl
  | n :: r, _, h => by
    cases h with
    | cons a t =>
      cases a
      rw [DpAll.ints_inv t] <;> rfl
/-- a tuple just laid -/
theorem DI.tupOf (h : H p = some (.tup xs)) (a : DIs K H xs ds) : DI K H (.ref p) (.tuple ds) := .tup (.inl (.inl (imm_tup h))) a
theorem DI.lstOf {o : Obj} (h : H p = some (.frz o (.lst xs))) (a : DIs K H xs ds) : DI K H (.ref p) (.list ds) := .lst (.inl (.inr ⟨o, imm_frz h⟩)) a
theorem DI.int_inv {i : Int} (h : Dp K H v (.int i)) : v = .int i := by cases h; rfl
theorem DI.str_inv {x : Str} (h : Dp K H v (.str x)) : v = .str x := by cases h; rfl
theorem DI.non_inv (h : Dp K H v .none) : v = .non := by cases h; rfl
theorem DI.bl_inv {b : Bool} (h : Dp K H v (.bool b)) : v = .bl b := by cases h; rfl
theorem DI.lst_inv (h : Dp K H v (.list ds)) : ∃ a xs, v = .ref a ∧ SqL K H a xs ∧ DpAll K H xs ds := by
  cases h with
  | lst hs ha => exact ⟨_, _, rfl, hs, ha⟩
theorem DI.tup_inv (h : Dp K H v (.tuple ds)) : ∃ a xs, v = .ref a ∧ SqT K H a xs ∧ DpAll K H xs ds := by
  cases h with
  | tup hs ha => exact ⟨_, _, rfl, hs, ha⟩
end
end Hg
namespace Hg
open PySem PySem.Spec PyProof.Rows L2
/-! ### a list is locked for good: data from then on -/
/-- the list that e gives is locked -/
def tFrz (K : PySem.W.Frag) (t : TE) : TE := fun σ H Q => t σ H fun v H1 => ∃ (p : Addr) (xs : List V) (ds : List PyData), v = .ref p ∧ H1 p = some (.lst xs) ∧ DIs K H1 xs ds ∧
  ∀ H2, (∀ b, b ≠ p → H2 b = H1 b) → H2 p ≠ none → DI K H2 (.ref p) (.list ds) → Q (.ref p) H2
theorem imm_le_upd {H : Hp} {p : Addr} {u o : HO} (h : H p = some u) (i : isImm u = false) : Le (imm H) (imm (upd H p o)) := fun b v k => by
  have hb : b ≠ p := fun z => by
    rw [z] at k
    have k2 := imm_le k
    rw [h] at k2
    cases k2
    rw [imm_some k] at i
    cases i
  refine imm_of ?_ (imm_some k)
  rw [upd_ne hb]
  exact imm_le k
section
variable {X : Cx} {e : Expr} {t : TE}
theorem pe_frz (h : PE X e t) : PE X e (tFrz X.K t) := by
  (refine ⟨fun pins s σ H Q I hq => ?_⟩)
  refine thn (h.run pins s σ H _ I hq) fun u s1 ⟨v, H1, I1, r, q⟩ => ?_
  obtain ⟨p, xs, ds, ev, hp, hd, k⟩ := q
  subst ev
  obtain ⟨o, I2⟩ := I1.lock hp trivial
  refine ⟨.ref p, _, I2, r, k _ (fun b hb => upd_ne hb) (by rw [upd_same]; intro z; cases z) (DI.lstOf (o := o) upd_same (DpAll.le (imm_le_upd hp rfl) hd))⟩
end

/-! ### operators on data -/
/-- xs + ys of lists that are read: a new list -/
def rCatR (K : PySem.W.Frag) : R2 := fun x y H Q => ∃ (l b : Addr) (xs zs : List V), x = .ref l ∧ y = .ref b ∧ SqL K H l xs ∧ SqL K H b zs ∧ xs.length + zs.length ≤ sizeLine ∧ ∀ p, H p = none → Q (.ref p) (upd H p (.lst (xs ++ zs)))
theorem op_catR {X : Cx} : OpR X (binaryOp .Add) (rCatR X.K) := by
  (intro pins s σ H x y v u Q I rx ry h)
  obtain ⟨l, b, xs, zs, rfl, rfl, hl, hb, hz, q⟩ := h
  cases rx
  cases ry
  obtain ⟨us, r1, p1, _⟩ := I.list hl
  (obtain ⟨ws, r2, p2, _⟩ := I.list hb)
  obtain ⟨⟨c1, d1, t1, sl1⟩, n1, g1, e1, _, k1⟩ := p1
  obtain ⟨⟨c2, d2, t2, sl2⟩, n2, g2, e2, _, k2⟩ := p2
  dsimp only at e1 k1 e2 k2
  subst e1 k1 e2 k2
  have hsz : us.toArray.size + ws.toArray.size ≤ sizeLine := by
    (rw [List.size_toArray, List.size_toArray, ← r1.length, ← r2.length])
    exact hz
  refine concat_meets ⟨_, g1, rfl⟩ ⟨_, g2, rfl⟩ noFill_list_add seq_list_add F.slot_list_add F.entry_list_add (F.args_list_add_2 _ _) (list_addW l b us.toArray ws.toArray n1 n2 d1 d2 sl1 sl2 hsz) ⟨g1, g2, ?_⟩
  have ea : us.toArray ++ ws.toArray = (us ++ ws).toArray := by simp
  rw [ea]
  exact ⟨.ref _, _, I.lnew (t' := s.toks) (r1.append r2) (by rw [List.length_append]; exact hz), rfl, q _ I.fresh⟩
section
variable {X : Cx}
theorem Dp.readsD {pins : List (Addr × Obj)} {σ : L2.St} {H : Hp} {s : Shared} (I : Inv X pins σ H s) {d : PyData} {v : V} {u : Value} (h : DI X.K H v d) (r : RelV v u) : ∃ as, Reads s.heap u d as := Dp.reads I d v u h.dp r
/-- x < y of data -/
def rLtD (K : PySem.W.Frag) : R2 := fun x y H Q => ∃ (d e : PyData), DI K H x d ∧ DI K H y e ∧ PySem.W.alike d e = true ∧ d ≠ .none ∧ d.depth ≤ 60 ∧ Q (.bl (PySem.W.dataLt d e)) H
theorem op_ltD {k : Nat} (hr : Room k X.A) : OpR X (compareOp .Lt) (rLtD X.K) := by
  (intro pins s σ H x y v u Q I rx ry h)
  obtain ⟨d, e, hd, he, ha, hn, hz, q⟩ := h
  obtain ⟨as, r1⟩ := Dp.readsD I hd rx
  obtain ⟨bs, r2⟩ := Dp.readsD I he ry
  refine PySem.W.rcLt_alike d e X.A s v u as bs r1 r2 ha hn ?_ X.prog X.w X.xe _ ⟨.bl _, H, I, rfl, q⟩
  have h1 := hr.units
  have h2 : min d.depth e.depth ≤ d.depth := Nat.min_le_left _ _
  omega
/-! ### sorted of data -/
/-- the rank of a datum -/
def leD : PyData → PyData → Bool := PySem.W.dataLe false fun d => d
def rSortD (K : PySem.W.Frag) : List V → Hp → VK → Prop := fun vs H Q => ∃ (a : Addr) (xs : List V) (ds : List PyData), vs = [.ref a] ∧ SqL K H a xs ∧ DIs K H xs ds ∧ PySem.W.AllAlike ds ∧ PySem.W.Sortable ds ∧ (∀ d ∈ ds, d.depth ≤ 60) ∧
  ∀ (p : Addr) (ys : List V), H p = none → DIs K H ys (ds.mergeSort leD) → Q (.ref p) (upd H p (.lst ys))
theorem each_of {K : PySem.W.Frag} {H : Hp} : ∀ {xs : List V} {ds : List PyData} {us : List Value}, DIs K H xs ds → Vals xs us →
    PySem.W.EachIs (fun (u : Value) (b : V × PyData) => RelV b.1 u ∧ DI K H b.1 b.2) us (xs.zip ds)
  | _, _, _, .nil, .nil => .nil
  | _, _, _, .cons a t, .cons r q => .cons ⟨r, a⟩ (each_of t q)
theorem of_each {K : PySem.W.Frag} {H : Hp} : ∀ {us : List Value} {bs : List (V × PyData)}, PySem.W.EachIs (fun (u : Value) (b : V × PyData) => RelV b.1 u ∧ DI K H b.1 b.2) us bs →
    Vals (bs.map (·.1)) us ∧ DIs K H (bs.map (·.1)) (bs.map (·.2))
  | _, _, .nil => ⟨.nil, .nil⟩
  | _, _, .cons h t => ⟨.cons h.1 (of_each t).1, .cons h.2 (of_each t).2⟩
theorem zip_snd {xs : List V} {ds : List PyData} (h : xs.length = ds.length) : (xs.zip ds).map (·.2) = ds := by
  induction xs generalizing ds with
  | nil => cases ds with
    | nil => rfl
    | cons _ _ => cases h
  | cons x xs ih => cases ds with
    | nil => cases h
    | cons d ds =>
      show d :: (xs.zip ds).map (·.2) = d :: ds
      rw [ih (Nat.succ.inj h)]
theorem cr_sortD {k : Nat} (hr : Room k X.A) : CallR X (.builtin "sorted") (rSortD X.K) := by
  (intro pins s σ H vs us Q I r h)
  obtain ⟨a, xs, ds, rfl, hs, hd, hal, hk, hz, q⟩ := h
  obtain ⟨its, rv, pl, hl⟩ := I.list hs
  rw [Vals.ref1 r]
  have hlen : xs.length = ds.length := DpAll.length hd
  have em : (xs.zip ds).map (fun b : V × PyData => b.2) = ds := zip_snd hlen
  have hb : (xs.zip ds).length ≤ sizeLine := by
    rw [List.length_zip, ← hlen, Nat.min_self]
    exact hl
  refine PySem.W.sorted_data (R := fun (u : Value) (b : V × PyData) => RelV b.1 u ∧ DI X.K H b.1 b.2) (enc := fun b : V × PyData => b.2) pl.isList (each_of hd rv) ?_ (by rw [em]; exact hal) (by rw [em]; exact hk) hb (fun b hb => ?_) fun out ho he => ?_
  · exact (each_of hd rv).mono fun u b h => Dp.readsD I h.2 h.1
  · have h1 := hr.un
    have h2 := hz b.2 (by rw [← em]; exact List.mem_map_of_mem hb)
    omega
  · obtain ⟨h1, h2⟩ := of_each he
    have e2 : ((xs.zip ds).mergeSort (PySem.W.dataLe false fun b : V × PyData => b.2)).map (fun b : V × PyData => b.2) = ds.mergeSort leD := by
      rw [PySem.W.sort_maps (r := PySem.W.dataLe false fun b : V × PyData => b.2) (s := leD) (fun b : V × PyData => b.2) (fun _ _ _ _ => rfl), em]
    rw [e2] at h2
    (obtain ⟨ep, he'⟩ := PyProof.Rows.sortedAll_at s.heap its out.toArray)
    refine ⟨.ref _, upd H (s.heap.objs.size + 1) (.lst _), I.laid (t' := s.toks) (fun _ _ => PyProof.Rows.sortedAll_old) (Nat.le_succ _) ⟨?_, out, ep, h1, he'⟩, rfl, q _ _ (I.hok.fresh (Nat.le_succ _)) h2⟩
    rw [List.length_map, List.length_mergeSort]
    exact hb
end
end Hg
namespace Hg
open PySem PySem.Spec PyProof.Rows L2
/-! ### loops over data -/
section
variable {K : PySem.W.Frag} {F : Addr → Prop} {H H0 : Hp} {a : Addr} {α : Type} {enc : α → PyData} {l : List α}
theorem get_split {l : List α} {i : Nat} (h : i < l.length) : l = l.take i ++ l[i] :: l.drop (i + 1) := by
  rw [← List.drop_eq_getElem_cons h, List.take_append_drop]
/-- a loop over l, item by item: Pv tells of the part that is through -/
theorem for_l {J : It} {G : Hp → Prop} {Y : Nat → Hp → V → Hp → Prop} (l : List α) (w : Walk J l.length G Y) {g : TG} {tb : TS} {D : Ends} {σ : L2.St} {H : Hp} (Pv : List α → L2.St → Hp → Prop) (h0 : Pv [] σ H) (hG : ∀ pre σ H, Pv pre σ H → G H)
    (hs : ∀ pre x post v σ H H', l = pre ++ x :: post → Pv pre σ H → Y pre.length H v H' → g v σ H' fun σ2 H2 => tb { D with nx := Pv (pre ++ [x]), ct := Pv (pre ++ [x]), bk := D.nx } σ2 H2) (hd : ∀ σ H, Pv l σ H → D.nx σ H) :
    ∃ W : Nat → Nat → L2.St → Hp → Prop, (∃ m0, W 0 m0 σ H) ∧ ∀ i m σ H, W i m σ H →
      (J.stop i H ∧ D.nx σ H) ∨ (J.go i H ∧ ∃ N : L2.St → Hp → Prop, (∀ σ' H', N σ' H' → ∃ m', m' < m ∧ W (i + 1) m' σ' H') ∧ ∀ x H', J.yld i H x H' → g x σ H' fun σ2 H2 => tb { D with nx := N, ct := N, bk := D.nx } σ2 H2) := by
  refine for_it w (fun i σ H => Pv (l.take i) σ H) (by rw [List.take_zero]; exact h0) (fun i σ H _ p => hG _ σ H p) (fun i v σ H H' hi p y => ?_) fun σ H p => hd σ H (by rw [List.take_length] at p; exact p)
  have e1 : (l.take i).length = i := by rw [List.length_take]; omega
  have e2 : l.take (i + 1) = l.take i ++ [l[i]] := List.take_succ_eq_append_getElem hi
  have q := hs (l.take i) l[i] (l.drop (i + 1)) v σ H H' (get_split hi) p (by rw [e1]; exact y)
  rw [← e2] at q
  exact q
/-- a comprehension over l -/
theorem lc_l {J : It} {G : Hp → Prop} {Y : Nat → Hp → V → Hp → Prop} (l : List α) (w : Walk J l.length G Y) {g : TG} {tt : TT} {te : TE} {vs : List Nat} {σ : L2.St} {H1 : Hp} {D : Addr} {Qd : Hp → Prop} (Pv : List α → Hp → Prop) (h0 : Pv [] (upd H1 D (.lst []))) (hG : ∀ pre H, Pv pre H → G H)
    (hs : ∀ pre x post v H H', l = pre ++ x :: post → Pv pre H → Y pre.length H v H' → g v (wipe σ vs) H' fun σ2 H2 => wipe σ2 vs = wipe σ vs ∧ tt σ2 H2 fun b H3 =>
      if b = true then te σ2 H3 fun y H4 => ∃ acc, H4 D = some (.lst acc) ∧ acc.length < sizeLine ∧ Pv (pre ++ [x]) (upd H4 D (.lst (acc ++ [y]))) else Pv (pre ++ [x]) H3) (hd : ∀ H, Pv l H → Qd H) :
    ∃ W : Nat → Nat → Hp → Prop, (∃ m0, W 0 m0 (upd H1 D (.lst []))) ∧ ∀ i m H, W i m H →
      (J.stop i H ∧ Qd H) ∨ (J.go i H ∧ ∃ Nx : Hp → Prop, (∀ H', Nx H' → ∃ m1, m1 < m ∧ W (i + 1) m1 H') ∧ ∀ x H', J.yld i H x H' → g x (wipe σ vs) H' fun σ2 H2 => wipe σ2 vs = wipe σ vs ∧ tt σ2 H2 fun b H3 =>
        if b = true then te σ2 H3 fun y H4 => ∃ av, H4 D = some (.lst av) ∧ av.length < sizeLine ∧ Nx (upd H4 D (.lst (av ++ [y]))) else Nx H3) := by
  refine lc_it w (fun i H => Pv (l.take i) H) (by rw [List.take_zero]; exact h0) (fun i H _ p => hG _ H p) (fun i v H H' hi p y => ?_) fun H p => hd H (by rw [List.take_length] at p; exact p)
  have e1 : (l.take i).length = i := by rw [List.length_take]; omega
  have e2 : l.take (i + 1) = l.take i ++ [l[i]] := List.take_succ_eq_append_getElem hi
  have q := hs (l.take i) l[i] (l.drop (i + 1)) v H H' (get_split hi) p (by rw [e1]; exact y)
  rw [← e2] at q
  exact q
/-- the turns of a list of data -/
def YD (K : PySem.W.Frag) (H0 : Hp) (l : List PyData) : Nat → Hp → V → Hp → Prop := fun i H v H' => H' = H ∧ ∃ d, l[i]? = some d ∧ DI K H0 v d
theorem walk_data {xs : List V} {ds : List PyData} {n : Nat} (hs : SqL K (imm H0) a xs) (hd : DIs K H0 xs ds) (hn : ds.length = n) : Walk (Itl K a) n (fun H => Le (imm H0) H) (YD K H0 ds) where
  goes := fun i H hi hG => by
    have hx : i < xs.length := by rw [DpAll.length hd, hn]; exact hi
    exact ⟨xs, xs[i], SqL.le hG hs, List.getElem?_eq_getElem hx⟩
  stops := fun H hG => ⟨xs, SqL.le hG hs, by rw [DpAll.length hd, hn]; exact Nat.le_refl _⟩
  yields := fun i H x H' hi hG y => by
    obtain ⟨e, y⟩ := y
    refine ⟨e, ?_⟩
    exact DpAll.get hd (y xs (SqL.le hG hs))
theorem Le.of (e : ExF F H0 H) : Le (imm H0) H := fun b o h => e.imm b o h
/-- for x in l, l data: each turn's value is data too -/
theorem for_d (hl : DI K H0 (.ref a) (.list (l.map enc))) {g : TG} {tb : TS} {D : Ends} {σ : L2.St} {H : Hp} (Pv : List α → L2.St → Hp → Prop) (h0 : Pv [] σ H) (hG : ∀ pre σ H, Pv pre σ H → Le (imm H0) H)
    (hs : ∀ pre x post v σ H, l = pre ++ x :: post → Pv pre σ H → DI K H0 v (enc x) → g v σ H fun σ2 H2 => tb { D with nx := Pv (pre ++ [x]), ct := Pv (pre ++ [x]), bk := D.nx } σ2 H2) (hd : ∀ σ H, Pv l σ H → D.nx σ H) :
    ∃ W : Nat → Nat → L2.St → Hp → Prop, (∃ m0, W 0 m0 σ H) ∧ ∀ i m σ H, W i m σ H →
      ((Itl K a).stop i H ∧ D.nx σ H) ∨ ((Itl K a).go i H ∧ ∃ N : L2.St → Hp → Prop, (∀ σ' H', N σ' H' → ∃ m', m' < m ∧ W (i + 1) m' σ' H') ∧ ∀ x H', (Itl K a).yld i H x H' → g x σ H' fun σ2 H2 => tb { D with nx := N, ct := N, bk := D.nx } σ2 H2) := by
  obtain ⟨a', xs, e, hs', hd'⟩ := DI.lst_inv hl
  cases e
  refine for_l l (walk_data hs' hd' (by rw [List.length_map])) Pv h0 hG (fun pre x post v σ H H' el p y => ?_) hd
  obtain ⟨rfl, d, e1, e2⟩ := y
  have e3 : (l.map enc)[pre.length]? = some (enc x) := by rw [el]; simp
  rw [e3] at e1
  cases e1
  exact hs pre x post v σ _ el p e2
theorem lc_d (hl : DI K H0 (.ref a) (.list (l.map enc))) {g : TG} {tt : TT} {te : TE} {vs : List Nat} {σ : L2.St} {H1 : Hp} {D : Addr} {Qd : Hp → Prop} (Pv : List α → Hp → Prop) (h0 : Pv [] (upd H1 D (.lst []))) (hG : ∀ pre H, Pv pre H → Le (imm H0) H)
    (hs : ∀ pre x post v H, l = pre ++ x :: post → Pv pre H → DI K H0 v (enc x) → g v (wipe σ vs) H fun σ2 H2 => wipe σ2 vs = wipe σ vs ∧ tt σ2 H2 fun b H3 =>
      if b = true then te σ2 H3 fun y H4 => ∃ acc, H4 D = some (.lst acc) ∧ acc.length < sizeLine ∧ Pv (pre ++ [x]) (upd H4 D (.lst (acc ++ [y]))) else Pv (pre ++ [x]) H3) (hd : ∀ H, Pv l H → Qd H) :
    ∃ W : Nat → Nat → Hp → Prop, (∃ m0, W 0 m0 (upd H1 D (.lst []))) ∧ ∀ i m H, W i m H →
      ((Itl K a).stop i H ∧ Qd H) ∨ ((Itl K a).go i H ∧ ∃ Nx : Hp → Prop, (∀ H', Nx H' → ∃ m1, m1 < m ∧ W (i + 1) m1 H') ∧ ∀ x H', (Itl K a).yld i H x H' → g x (wipe σ vs) H' fun σ2 H2 => wipe σ2 vs = wipe σ vs ∧ tt σ2 H2 fun b H3 =>
        if b = true then te σ2 H3 fun y H4 => ∃ av, H4 D = some (.lst av) ∧ av.length < sizeLine ∧ Nx (upd H4 D (.lst (av ++ [y]))) else Nx H3) := by
  obtain ⟨a', xs, e, hs', hd'⟩ := DI.lst_inv hl
  cases e
  refine lc_l l (walk_data hs' hd' (by rw [List.length_map])) Pv h0 hG (fun pre x post v H H' el p y => ?_) hd
  obtain ⟨rfl, d, e1, e2⟩ := y
  have e3 : (l.map enc)[pre.length]? = some (enc x) := by rw [el]; simp
  rw [e3] at e1
  cases e1
  exact hs pre x post v _ el p e2
end
/-- the invariant of a comprehension over data whose elements are data: [f x for x in l if ..] -/
structure Col (K : PySem.W.Frag) (F : Addr → Prop) (H1 : Hp) (D : Addr) (ds : List PyData) (n : Nat) (H : Hp) : Prop where
  ex : ExF F H1 H
  at_ : ∃ acc, H D = some (.lst acc) ∧ DIs K H acc ds
  sz : ds.length ≤ n
section
variable {K : PySem.W.Frag} {F : Addr → Prop} {H1 H H2 : Hp} {D : Addr} {ds : List PyData} {n : Nat} {d : PyData} {y : V}
theorem Col.start (h : H1 D = none) : Col K F H1 D [] 0 (upd H1 D (.lst [])) := ⟨ExF.of (Ex.new h), ⟨[], upd_same, .nil⟩, Nat.le_refl _⟩
theorem DIs.updL {vs acc acc' : List V} (h : DIs K H vs ds) (hp : H D = some (.lst acc)) : DIs K (upd H D (.lst acc')) vs ds := DpAll.le (imm_le_upd hp rfl) h
/-- behind an element -/
theorem Col.add (c : Col K F H1 D ds n H) (hn : H1 D = none) (e : ExF F H H2) (hF : ¬ F D) (hy : DI K H2 y d) (hz : n < sizeLine) : ∃ acc, H2 D = some (.lst acc) ∧ acc.length < sizeLine ∧ Col K F H1 D (ds ++ [d]) (n + 1) (upd H2 D (.lst (acc ++ [y]))) := by
  obtain ⟨acc, ha, hd⟩ := c.at_
  have h2 := e.at ha hF
  have hl : acc.length = ds.length := DpAll.length hd
  refine ⟨acc, h2, by have := c.sz; omega, (c.ex.trans e).upd (.inl hn), ⟨_, upd_same, DIs.updL (DpAll.append (DIs.ex hd e) (.cons hy .nil)) h2⟩, by have := c.sz; rw [List.length_append]; simp; omega⟩
theorem Col.skip (c : Col K F H1 D ds n H) (e : ExF F H H2) (hF : ¬ F D) : Col K F H1 D ds (n + 1) H2 := by
  obtain ⟨acc, ha, hd⟩ := c.at_
  exact ⟨c.ex.trans e, ⟨acc, e.at ha hF, DIs.ex hd e⟩, Nat.le_succ_of_le c.sz⟩
end
end Hg
namespace Hg
open PySem PySem.Spec PyProof.Rows L2
/-! ### defs, methods and classes in bundles; all may let exceptions out (L2.CX) -/
section
variable (P : Program) (w : World) (K : PySem.W.Frag) (mg : Str → Option Value) (base : Heap)
/-- the def x of the module keeps sp at level k -/
def Cl (k : Nat) (x : Str) (sp : Sp) : Prop := ∃ (f : Addr) (fd : FuncData) (ps : List Str), FnOk P w K mg base (L2.CX P w) k f fd ps sp ∧ mg x = some (.ref f) ∧ PySem.W.keepIn K (.ref f) = true ∧ Binds K fd ps []
/-- the method m of the class at C -/
def Mt (k : Nat) (C : Addr) (m : Str) (sp : Sp) : Prop := ∃ (f : Addr) (fd : FuncData) (ps : List Str), FnOk P w K mg base (L2.CX P w) k f fd ps sp ∧ Meth K C m f ∧ Cls K C ∧ Binds K fd ps []
/-- the class x, at C, is made by an __init__ that keeps sp -/
def Mr (k : Nat) (x : Str) (C : Addr) (sp : Sp) : Prop := ∃ (f : Addr) (fd : FuncData) (ps : List Str), FnOk P w K mg base (L2.CX P w) k f fd ps sp ∧ mg x = some (.ref C) ∧ Mk K C f ∧ Binds K fd ps []
end
section
variable {P : Program} {w : World} {K : PySem.W.Frag} {mg : Str → Option Value} {base : Heap}
theorem Cl.mono {j k : Nat} {x : Str} {sp : Sp} (c : Cl P w K mg base j x sp) (h : j ≤ k) : Cl P w K mg base k x sp := by
  obtain ⟨f, fd, ps, F, r⟩ := c
  exact ⟨f, fd, ps, F.mono h, r⟩
theorem Mt.mono {j k : Nat} {C : Addr} {x : Str} {sp : Sp} (c : Mt P w K mg base j C x sp) (h : j ≤ k) : Mt P w K mg base k C x sp := by
  obtain ⟨f, fd, ps, F, r⟩ := c
  exact ⟨f, fd, ps, F.mono h, r⟩
end
section
variable {X : Cx} {W : WX} {j k : Nat} {sp : Sp} {C : Addr} {x m : Str} {e o : Expr} {es : List Expr} {t : TA} {ta : TE} {p pos apos : Pos}
theorem pe_cl (c : Cl X.prog X.w X.K X.mg X.base k x sp) (hr : Room j X.A) (tk : Takes X W) (ha : PA X (e :: es) t) (hk : k ≤ j := by decide) (hg : Gl X x := by rfl) (hdb : (x == ("__debug__" : Str)) = false := by decide)
    (he : starEach (e :: es) X.env = (false, eval e X.env) :: starEach es X.env := by rfl) (hpl : (backTo pos (starEach es X.env)).any (·.1) = false := by rfl) : PE X (.Call (.Name x p) (e :: es) [] pos) (tCallS sp (WE W) t) := by
  obtain ⟨f, fd, ps, F, hm, hkp, hb⟩ := c
  exact pe_callS F (hr.mono hk) hg hm hkp hb (fun σ => passAt tk σ) ha hdb he hpl
/-- o.m(e, ..): what leaves it is wished for at the caller's slots -/
def tMS (C : Addr) (m : Str) (sp : Sp) (W : WX) (ta : TE) (t : TA) : TE := fun σ H Q => ta σ H fun x H1 => ∃ (a dx : Addr) (fs : List (Str × V)), x = .ref a ∧ H1 a = some (.ins C dx fs) ∧ fs.lookup m = none ∧ t σ H1 fun vs H2 => sp (x :: vs) H2 Q (WE W σ)
theorem pe_mt {pl : Sem Bool} (c : Mt X.prog X.w X.K X.mg X.base k C m sp) (hr : Room j X.A) (tk : Takes X W) (ho : PE X o ta) (ha : PA X (e :: es) t) (hk : k ≤ j := by decide)
    (hst : starEach (e :: es) X.env = (false, eval e X.env) :: starEach es X.env := by rfl) (hpl : (backTo pos (starEach es X.env)).any (·.1) = false := by rfl)
    (ht : eval (.Call (.Attribute o m apos) (e :: es) [] pos) X.env = (do
      let ov ← eval o X.env
      standAt apos.atName
      let fr ← holding [ov] (getMethod ov m pl)
      callWith pos fr.1 fr.2 (backTo pos (starEach (e :: es) X.env)) (backToKw pos (keywordEach [] X.env))) := by rfl) :
    PE X (.Call (.Attribute o m apos) (e :: es) [] pos) (tMS C m sp W ta t) := by
  obtain ⟨f, fd, ps, F, hm, cl, hb⟩ := c
  constructor
  intro pins s σ H Q I h
  refine PySem.W.methodCall_KW (pl := pl) ?_ ht
  refine thn (ho.run pins s σ H _ I h) ?_
  rintro u s1 ⟨x, H1, I1, rx, a, dx, fs, rfl, ea, l, q⟩
  cases rx
  refine getmeth_ok I1 ea cl hm l (PySem.W.callWith_K (first := [.ref a]) (h₀ := X.base) I.ok.mod.kin hm.kp ?_ hst hpl)
  refine thn (ha.run pos pins s1 σ H1 _ I1 q) ?_
  rintro us s2 ⟨vs, H2, I2, r, q2⟩
  exact ⟨I2.kIn, run_fnS (E := WE W) (us := .ref a :: us) (vs := .ref a :: vs) F (hr.mono hk) hb (passAt tk σ) I2 (.cons rfl r) q2⟩
theorem pe_mt0 {pl : Sem Bool} (c : Mt X.prog X.w X.K X.mg X.base k C m sp) (hr : Room j X.A) (tk : Takes X W) (ho : PE X o ta) (hk : k ≤ j := by decide)
    (ht : eval
      (.Call (.Attribute o m apos) [] [] pos) X.env = (do
      let ov ← eval o X.env
      standAt apos.atName
      let fr ← holding [ov] (getMethod ov m pl)
      callWith pos fr.1 fr.2 (backTo pos (starEach [] X.env)) (backToKw pos (keywordEach [] X.env))) := by rfl) :
    PE X (.Call (.Attribute o m apos) [] [] pos) (tMS C m sp W ta tNil) := by
  obtain ⟨f, fd, ps, F, hm, cl, hb⟩ := c
  constructor
  intro pins s σ H Q I h
  refine PySem.W.methodCall_KW (pl := pl) ?_ ht
  refine thn (ho.run pins s σ H _ I h) ?_
  rintro u s1 ⟨x, H1, I1, rx, a, dx, fs, rfl, ea, l, q⟩
  cases rx
  refine getmeth_ok I1 ea cl hm l ?_
  exact PySem.W.callWith_K0 (first := [.ref a]) I1.kIn hm.kp (run_fnS (E := WE W) (us := [.ref a]) (vs := [.ref a]) F (hr.mono hk) hb (passAt tk σ) I1 (.cons rfl .nil) q)
theorem pe_mr (c : Mr X.prog X.w X.K X.mg X.base k x C sp) (hr : Room j X.A) (ha : PA X (e :: es) t) (hk : k + 1 ≤ j := by decide) (hg : Gl X x := by rfl) (hdb : (x == ("__debug__" : Str)) = false := by decide)
    (he : starEach (e :: es) X.env = (false, eval e X.env) :: starEach es X.env := by rfl) (hpl : (backTo pos (starEach es X.env)).any (·.1) = false := by rfl) : PE X (.Call (.Name x p) (e :: es) [] pos) (tMake C sp [] E0 t) := by
  obtain ⟨f, fd, ps, F, hm, M, hb⟩ := c
  exact pe_make M F (hr.mono hk) hg hm hb .nil passL ha hdb he hpl
theorem pe_mr0 (c : Mr X.prog X.w X.K X.mg X.base k x C sp) (hr : Room j X.A) (hk : k + 1 ≤ j := by decide) (hg : Gl X x := by rfl) (hdb : (x == ("__debug__" : Str)) = false := by decide) : PE X (.Call (.Name x p) [] [] pos) (tMake C sp [] E0 tNil) := by
  obtain ⟨f, fd, ps, F, hm, M, hb⟩ := c
  exact pe_make0 M F (hr.mono hk) hg hm hb .nil passL hdb
end
/-! ### a def's body -/
section
variable {P : Program} {w : World} {K : PySem.W.Frag} {mg : Str → Option Value} {base : Heap}
/-- the body's context -/
abbrev bx (P : Program) (w : World) (K : PySem.W.Frag) (mg : Str → Option Value) (base : Heap) (N : List Str) (qual : Str) (scope : Scope) (f : Addr) (cd : Value) (A : Around) (outer : List Env) (s : Shared) (H : Hp) (E : XK) : Cx :=
  cxOf (L2.CX P w) P w K mg base N qual scope f cd A outer s H E
/-- what a def's body lets out -/
theorem tk0 {N : List Str} {qual : Str} {scope : Scope} {f : Addr} {cd : Value} {A : Around} {outer : List Env} {s : Shared} {H : Hp} {E : XK} : Takes (bx P w K mg base N qual scope f cd A outer s H E) (fun cls d _ H' => E cls d H') := takes_of rfl rfl rfl rfl
theorem ps0 {N : List Str} {qual : Str} {scope : Scope} {f : Addr} {cd : Value} {A : Around} {outer : List Env} {s : Shared} {H : Hp} {E : XK} :
    PassesOwn (model (bx P w K mg base N qual scope f cd A outer s H E).prog (bx P w K mg base N qual scope f cd A outer s H E).w) (bx P w K mg base N qual scope f cd A outer s H E).A (bx P w K mg base N qual scope f cd A outer s H E).env (bx P w K mg base N qual scope f cd A outer s H E).xe := passes_of rfl
end
end Hg
/-! the text by places, and the facts that the head tells (printed by gen_head.py) -/
namespace Hg
open PySem PySem.Spec PyProof.Rows L2
def top (i : Nat) : Stmt := PySem.Challenge.pw_heapgame_k95_whole_power_cuts.main.body.getD i (.Pass ⟨0, 0, 0, 0⟩)
abbrev s_is_layout : Stmt := top 15
abbrev s_live_cells : Stmt := top 16
abbrev s_gaps : Stmt := top 17
abbrev s_fits : Stmt := top 18
abbrev s_with_block : Stmt := top 19
abbrev s_without : Stmt := top 20
abbrev s_placed : Stmt := top 22
abbrev s_relocated : Stmt := top 23
abbrev s_is_relocation : Stmt := top 24
abbrev s_cost : Stmt := top 25
abbrev s_positions : Stmt := top 27
abbrev s_requestable : Stmt := top 28
abbrev s_starts_within : Stmt := top 29
abbrev s_relocations : Stmt := top 30
abbrev s_replies : Stmt := top 31
abbrev s_reply_key : Stmt := top 32
abbrev s_after_reply : Stmt := top 33
abbrev s_canonical : Stmt := top 37
abbrev s_relocation_map : Stmt := top 38
abbrev s_slide_left : Stmt := top 40
abbrev s_lesser : Stmt := top 41
abbrev s_put_block : Stmt := top 42
abbrev s_put_room : Stmt := top 43
abbrev s_cheapest_room : Stmt := top 44
abbrev s_places : Stmt := top 46
abbrev s_first_place : Stmt := top 47
abbrev s_place_block : Stmt := top 48
abbrev s_target_of : Stmt := top 50
abbrev s_policy_heap : Stmt := top 57
abbrev s_contract_heap : Stmt := top 58
abbrev s_replay : Stmt := top 59
abbrev s_wide : Stmt := top 63
abbrev s_value_octets : Stmt := top 64
abbrev s_record_of : Stmt := top 65
abbrev s_value_read : Stmt := top 66
abbrev s_numbers_read : Stmt := top 67
abbrev s_event_read : Stmt := top 68
abbrev s_recovered : Stmt := top 69
abbrev s_opened : Stmt := top 72
abbrev s_law_cell : Stmt := top 74
abbrev s_law_row : Stmt := top 75
abbrev s_law_box : Stmt := top 76
abbrev s_law_draw : Stmt := top 77
abbrev s_law_same : Stmt := top 78
abbrev s_law_value : Stmt := top 79
abbrev s_law_deed : Stmt := top 80
abbrev s_law_change : Stmt := top 81
abbrev s_law_heap : Stmt := top 82
abbrev s_law_journal : Stmt := top 83
abbrev s_law : Stmt := top 84
abbrev s_OutOfMemory_init : Stmt := inClass (top 3) 0
abbrev s_NotAllowed_init : Stmt := inClass (top 4) 0
abbrev s_NoRoom_init : Stmt := inClass (top 5) 0
abbrev s_NoSuchObject_init : Stmt := inClass (top 6) 0
abbrev s_NoSuchField_init : Stmt := inClass (top 7) 0
abbrev s_StillUsed_init : Stmt := inClass (top 8) 0
abbrev s_PowerCut_init : Stmt := inClass (top 11) 0
abbrev s_Contract_init : Stmt := inClass (top 14) 0
abbrev s_Options_init : Stmt := inClass (top 34) 0
abbrev s_Options_forced : Stmt := inClass (top 34) 1
abbrev s_Game_init : Stmt := inClass (top 35) 0
abbrev s_Game_rank : Stmt := inClass (top 35) 1
abbrev s_Game_winner : Stmt := inClass (top 35) 2
abbrev s_Game_is_higher : Stmt := inClass (top 35) 3
abbrev s_Game_manager_reply : Stmt := inClass (top 35) 4
abbrev s_Store_init : Stmt := inClass (top 51) 0
abbrev s_Store_copy : Stmt := inClass (top 51) 1
abbrev s_Store_numbers : Stmt := inClass (top 51) 2
abbrev s_Store_fields : Stmt := inClass (top 51) 3
abbrev s_Store_make : Stmt := inClass (top 51) 4
abbrev s_Store_read : Stmt := inClass (top 51) 5
abbrev s_Store_write : Stmt := inClass (top 51) 6
abbrev s_Store_is_referenced : Stmt := inClass (top 51) 7
abbrev s_Store_release : Stmt := inClass (top 51) 8
abbrev s_Store_add_root : Stmt := inClass (top 51) 9
abbrev s_Store_remove_root : Stmt := inClass (top 51) 10
abbrev s_Store_reachable : Stmt := inClass (top 51) 11
abbrev s_Store_collect : Stmt := inClass (top 51) 12
abbrev s_PolicyManager_init : Stmt := inClass (top 53) 0
abbrev s_PolicyManager_place : Stmt := inClass (top 53) 1
abbrev s_StrategyManager_init : Stmt := inClass (top 54) 0
abbrev s_StrategyManager_place : Stmt := inClass (top 54) 1
abbrev s_State_init : Stmt := inClass (top 55) 0
abbrev s_State_copy : Stmt := inClass (top 55) 1
abbrev s_ManagedHeap_init : Stmt := inClass (top 56) 0
abbrev s_ManagedHeap_layout : Stmt := inClass (top 56) 1
abbrev s_ManagedHeap_number_at : Stmt := inClass (top 56) 2
abbrev s_ManagedHeap_word : Stmt := inClass (top 56) 6
abbrev s_ManagedHeap_words : Stmt := inClass (top 56) 7
abbrev s_ManagedHeap_relocate : Stmt := inClass (top 56) 8
abbrev s_ManagedHeap_moving : Stmt := inClass (top 56) 9
abbrev s_ManagedHeap_do_allocate : Stmt := inClass (top 56) 10
abbrev s_ManagedHeap_do_release : Stmt := inClass (top 56) 11
abbrev s_ManagedHeap_do_collect : Stmt := inClass (top 56) 12
abbrev s_ManagedHeap_do_compact : Stmt := inClass (top 56) 13
abbrev s_ManagedHeap_do_make_room : Stmt := inClass (top 56) 14
abbrev s_ManagedHeap_do_slide : Stmt := inClass (top 56) 15
abbrev s_ManagedHeap_perform : Stmt := inClass (top 56) 16
abbrev s_ManagedHeap_change : Stmt := inClass (top 56) 17
abbrev s_ManagedHeap_log : Stmt := inClass (top 56) 28
abbrev s_Device_init : Stmt := inClass (top 70) 0
abbrev s_Device_append : Stmt := inClass (top 70) 1
abbrev s_JournaledHeap_init : Stmt := inClass (top 71) 0
abbrev s_JournaledHeap_change : Stmt := inClass (top 71) 1
def mkF (x : Str) (st : Stmt) : He.DefD := ⟨(x, none), x, x, defArgs st, defBody st, defScope st, [], []⟩
def mkM (C m q : Str) (st : Stmt) : He.DefD := ⟨(C, some m), m, q, defArgs st, defBody st, defScope st, [], []⟩
def dPlace : He.DefD := ⟨("place_block", none), "place_block", "place_block", defArgs s_place_block, defBody s_place_block, defScope s_place_block, [.int 0], []⟩
def fnF_1 : List He.DefD := [mkF "is_layout" s_is_layout, mkF "live_cells" s_live_cells, mkF "gaps" s_gaps, mkF "fits" s_fits, mkF "with_block" s_with_block, mkF "without" s_without, mkF "placed" s_placed, mkF "relocated" s_relocated, mkF "is_relocation" s_is_relocation, mkF "cost" s_cost, mkF "positions" s_positions, mkF "requestable" s_requestable, mkF "starts_within" s_starts_within, mkF "relocations" s_relocations, mkF "replies" s_replies, mkF "reply_key" s_reply_key, mkF "after_reply" s_after_reply, mkF "canonical" s_canonical, mkF "relocation_map" s_relocation_map, mkF "slide_left" s_slide_left, mkF "lesser" s_lesser, mkF "put_block" s_put_block, mkF "put_room" s_put_room, mkF "cheapest_room" s_cheapest_room, mkF "places" s_places, mkF "first_place" s_first_place, mkF "target_of" s_target_of, mkF "policy_heap" s_policy_heap, mkF "contract_heap" s_contract_heap, mkF "replay" s_replay]
def fnF_2 : List He.DefD := [mkF "wide" s_wide, mkF "value_octets" s_value_octets, mkF "record_of" s_record_of, mkF "value_read" s_value_read, mkF "numbers_read" s_numbers_read, mkF "event_read" s_event_read, mkF "recovered" s_recovered, mkF "opened" s_opened, mkF "_law_cell" s_law_cell, mkF "_law_row" s_law_row, mkF "_law_box" s_law_box, mkF "_law_draw" s_law_draw, mkF "_law_same" s_law_same, mkF "_law_value" s_law_value, mkF "_law_deed" s_law_deed, mkF "_law_change" s_law_change, mkF "_law_heap" s_law_heap, mkF "_law_journal" s_law_journal, mkF "law" s_law]
def fnF : List He.DefD := fnF_1 ++ (fnF_2)
def fnM_1 : List He.DefD := [mkM "Contract" "__init__" "Contract.__init__" s_Contract_init, mkM "Options" "__init__" "Options.__init__" s_Options_init, mkM "Options" "forced" "Options.forced" s_Options_forced, mkM "Game" "__init__" "Game.__init__" s_Game_init, mkM "Game" "rank" "Game.rank" s_Game_rank, mkM "Game" "winner" "Game.winner" s_Game_winner, mkM "Game" "is_higher" "Game.is_higher" s_Game_is_higher, mkM "Game" "manager_reply" "Game.manager_reply" s_Game_manager_reply, mkM "Store" "__init__" "Store.__init__" s_Store_init, mkM "Store" "copy" "Store.copy" s_Store_copy, mkM "Store" "numbers" "Store.numbers" s_Store_numbers, mkM "Store" "fields" "Store.fields" s_Store_fields, mkM "Store" "make" "Store.make" s_Store_make, mkM "Store" "read" "Store.read" s_Store_read, mkM "Store" "write" "Store.write" s_Store_write, mkM "Store" "is_referenced" "Store.is_referenced" s_Store_is_referenced, mkM "Store" "release" "Store.release" s_Store_release, mkM "Store" "add_root" "Store.add_root" s_Store_add_root, mkM "Store" "remove_root" "Store.remove_root" s_Store_remove_root, mkM "Store" "reachable" "Store.reachable" s_Store_reachable, mkM "Store" "collect" "Store.collect" s_Store_collect, mkM "PolicyManager" "__init__" "PolicyManager.__init__" s_PolicyManager_init, mkM "PolicyManager" "place" "PolicyManager.place" s_PolicyManager_place, mkM "StrategyManager" "__init__" "StrategyManager.__init__" s_StrategyManager_init, mkM "StrategyManager" "place" "StrategyManager.place" s_StrategyManager_place, mkM "State" "__init__" "State.__init__" s_State_init, mkM "State" "copy" "State.copy" s_State_copy, mkM "ManagedHeap" "__init__" "ManagedHeap.__init__" s_ManagedHeap_init, mkM "ManagedHeap" "layout" "ManagedHeap.layout" s_ManagedHeap_layout, mkM "ManagedHeap" "number_at" "ManagedHeap.number_at" s_ManagedHeap_number_at]
def fnM_2 : List He.DefD := [mkM "ManagedHeap" "word" "ManagedHeap.word" s_ManagedHeap_word, mkM "ManagedHeap" "words" "ManagedHeap.words" s_ManagedHeap_words, mkM "ManagedHeap" "relocate" "ManagedHeap.relocate" s_ManagedHeap_relocate, mkM "ManagedHeap" "moving" "ManagedHeap.moving" s_ManagedHeap_moving, mkM "ManagedHeap" "do_allocate" "ManagedHeap.do_allocate" s_ManagedHeap_do_allocate, mkM "ManagedHeap" "do_release" "ManagedHeap.do_release" s_ManagedHeap_do_release, mkM "ManagedHeap" "do_collect" "ManagedHeap.do_collect" s_ManagedHeap_do_collect, mkM "ManagedHeap" "do_compact" "ManagedHeap.do_compact" s_ManagedHeap_do_compact, mkM "ManagedHeap" "do_make_room" "ManagedHeap.do_make_room" s_ManagedHeap_do_make_room, mkM "ManagedHeap" "do_slide" "ManagedHeap.do_slide" s_ManagedHeap_do_slide, mkM "ManagedHeap" "perform" "ManagedHeap.perform" s_ManagedHeap_perform, mkM "ManagedHeap" "change" "ManagedHeap.change" s_ManagedHeap_change, mkM "ManagedHeap" "log" "ManagedHeap.log" s_ManagedHeap_log, mkM "Device" "__init__" "Device.__init__" s_Device_init, mkM "Device" "append" "Device.append" s_Device_append, mkM "JournaledHeap" "__init__" "JournaledHeap.__init__" s_JournaledHeap_init, mkM "JournaledHeap" "change" "JournaledHeap.change" s_JournaledHeap_change]
def fnM : List He.DefD := fnM_1 ++ (fnM_2)
def fn : List He.DefD := dPlace :: (fnF ++ fnM)
def globs_1 : List Str := ["is_layout", "live_cells", "gaps", "fits", "with_block", "without", "placed", "relocated", "is_relocation", "cost", "positions", "requestable", "starts_within", "relocations", "replies", "reply_key", "after_reply", "canonical", "relocation_map", "slide_left", "lesser", "put_block", "put_room", "cheapest_room", "places", "first_place", "place_block", "target_of", "policy_heap", "contract_heap"]
def globs_2 : List Str := ["replay", "wide", "value_octets", "record_of", "value_read", "numbers_read", "event_read", "recovered", "opened", "_law_cell", "_law_row", "_law_box", "_law_draw", "_law_same", "_law_value", "_law_deed", "_law_change", "_law_heap", "_law_journal", "law", "HeapgameError", "OutOfMemory", "NotAllowed", "NoRoom", "NoSuchObject", "NoSuchField", "StillUsed", "StrategyDecides", "Loses", "PowerCut"]
def globs_3 : List Str := ["ShutError", "Contract", "Options", "Game", "Store", "PolicyManager", "StrategyManager", "State", "ManagedHeap", "Device", "JournaledHeap", "WORDS"]
def globs : List Str := globs_1 ++ (globs_2 ++ (globs_3))
def frees : List Str := ["all", "any", "dict", "enumerate", "int", "isinstance", "len", "list", "range", "repr", "set", "sorted", "sum", "super", "tuple", "zip"]
def clsL : List Str := ["Contract", "Options", "Game", "Store", "PolicyManager", "StrategyManager", "State", "ManagedHeap", "Device", "JournaledHeap"]
def noatL : List (Str × Str) := [("Contract", "size"), ("Contract", "limit"), ("Contract", "lengths"), ("Contract", "budget"), ("Options", "released"), ("Options", "answered"), ("Game", "contract"), ("Game", "ranks"), ("Store", "objects"), ("Store", "roots"), ("Store", "next_number"), ("PolicyManager", "size"), ("PolicyManager", "policy"), ("PolicyManager", "strategy"), ("StrategyManager", "game"), ("StrategyManager", "size"), ("StrategyManager", "strategy"), ("State", "store"), ("State", "starts"), ("State", "cursor"), ("ManagedHeap", "manager"), ("ManagedHeap", "state"), ("ManagedHeap", "earlier"), ("ManagedHeap", "events"), ("Device", "octets"), ("Device", "power"), ("JournaledHeap", "heap"), ("JournaledHeap", "device"), ("JournaledHeap", "shut")]
def methL_1 : List (Str × Str) := [("Options", "forced"), ("Game", "rank"), ("Game", "winner"), ("Game", "is_higher"), ("Game", "manager_reply"), ("Store", "copy"), ("Store", "numbers"), ("Store", "fields"), ("Store", "make"), ("Store", "read"), ("Store", "write"), ("Store", "is_referenced"), ("Store", "release"), ("Store", "add_root"), ("Store", "remove_root"), ("Store", "reachable"), ("Store", "collect"), ("PolicyManager", "place"), ("StrategyManager", "place"), ("State", "copy"), ("ManagedHeap", "layout"), ("ManagedHeap", "number_at"), ("ManagedHeap", "word"), ("ManagedHeap", "words"), ("ManagedHeap", "relocate"), ("ManagedHeap", "moving"), ("ManagedHeap", "do_allocate"), ("ManagedHeap", "do_release"), ("ManagedHeap", "do_collect"), ("ManagedHeap", "do_compact")]
def methL_2 : List (Str × Str) := [("ManagedHeap", "do_make_room"), ("ManagedHeap", "do_slide"), ("ManagedHeap", "perform"), ("ManagedHeap", "change"), ("ManagedHeap", "log"), ("Device", "append"), ("JournaledHeap", "change")]
def methL : List (Str × Str) := methL_1 ++ (methL_2)
def excL : List Str := ["HeapgameError", "OutOfMemory", "NotAllowed", "NoRoom", "NoSuchObject", "NoSuchField", "StillUsed", "StrategyDecides", "Loses", "PowerCut", "ShutError"]
def exiL : List (Str × List Str) := [("OutOfMemory", ["length"]), ("NotAllowed", ["length"]), ("NoRoom", ["length"]), ("NoSuchObject", ["number"]), ("NoSuchField", ["index"]), ("StillUsed", ["number", "reason"]), ("PowerCut", ["written"])]
def exiS : List (Str × Stmt) := [("OutOfMemory", s_OutOfMemory_init), ("NotAllowed", s_NotAllowed_init), ("NoRoom", s_NoRoom_init), ("NoSuchObject", s_NoSuchObject_init), ("NoSuchField", s_NoSuchField_init), ("StillUsed", s_StillUsed_init), ("PowerCut", s_PowerCut_init)]
def wordL : List Str := ["allocate", "write", "release", "addRoot", "removeRoot", "collect", "compact", "makeRoom", "slide"]
def names1 : List Str := ["_wall", "HeapgameError", "OutOfMemory", "NotAllowed", "NoRoom", "NoSuchObject", "NoSuchField", "StillUsed", "StrategyDecides", "Loses", "PowerCut", "ShutError", "Contract", "is_layout", "live_cells", "gaps", "fits", "with_block", "without", "placed", "relocated", "is_relocation", "cost", "positions", "requestable"]
def names2 : List Str := ["starts_within", "relocations", "replies", "reply_key", "after_reply", "Options", "Game", "canonical", "relocation_map", "slide_left", "lesser", "put_block", "put_room", "cheapest_room", "places", "first_place", "place_block", "target_of", "Store", "PolicyManager", "StrategyManager", "State", "ManagedHeap", "policy_heap", "contract_heap"]
def names3 : List Str := ["replay", "WORDS", "MARK", "wide", "value_octets", "record_of", "value_read", "numbers_read", "event_read", "recovered", "Device", "JournaledHeap", "opened", "_law_cell", "_law_row", "_law_box", "_law_draw", "_law_same", "_law_value", "_law_deed", "_law_change", "_law_heap", "_law_journal"]
def names : List Str := names1 ++ (names2 ++ names3)
end Hg
namespace Hg
open PySem PySem.Spec PyProof.Rows L2
/-! ### facts of the head -/
def fa : List He.Fa := globs.map .glo ++ (frees.map .free ++ ([.int "MARK" 170] ++ (clsL.map .cls ++ (noatL.map (fun p => .noat p.1 p.2) ++ (methL.map (fun p => .meth p.1 p.2) ++ clsL.map .mkr)))))
/-- an own exception's class object -/
def oexB (K : PySem.W.Frag) (C : Addr) : Bool := (match K.lookup C with
  | some ⟨.type t, _, .cls cd, sl⟩ => (match cd.mro, sl.toList with
    | .ref D :: bm, [_, _, _, _, some (.builtin n), _] => decide (t = "type") && (decide (D = C) && (decide (n = "ValueError.__new__") && (cd.hasDict && (!cd.hasDel && PySem.HandSPX.refsVE bm))))
    | _, _ => false)
  | _ => false) && (decide (PySem.W.findIn K (.ref C) "__setattr__" = some (some (.builtin "object.__setattr__"))) && (decide (PySem.W.subIn K (.ref C) (.type "BaseException") = some true) && (decide (PySem.W.typeIn K (.ref C) = some (.type "type")) && PySem.W.keepIn K (.ref C))))
theorem oexB_ok {K : PySem.W.Frag} {C : Addr} (h : oexB K C = true) : OexC K C := by
  obtain ⟨h1, h⟩ := He.ba h
  obtain ⟨h2, h⟩ := He.ba h
  obtain ⟨h3, h⟩ := He.ba h
  obtain ⟨h4, h5⟩ := He.ba h
  refine ⟨?_, of_decide_eq_true h2, of_decide_eq_true h3, of_decide_eq_true h4, h5⟩
  split at h1
  · rename_i t dd cd sl ho
    split at h1
    · rename_i D bm k0 k1 k2 k3 n k5 hm hs
      simp only [Bool.and_eq_true, decide_eq_true_eq, Bool.not_eq_true'] at h1
      obtain ⟨rfl, rfl, rfl, hd, hdel, hr⟩ := h1
      obtain ⟨nm, bs, mro, ns, qn, hdd, sn, sub, ab, col, del⟩ := cd
      dsimp only at hm hd hdel
      subst hm hd hdel
      have hsl : sl = #[k0, k1, k2, k3, some (.builtin "ValueError.__new__"), k5] := by
        obtain ⟨l⟩ := sl
        simp only at hs
        rw [hs]
      subst hsl
      exact ⟨nm, qn, ns, bs, bm, sn, sub, ab, col, dd, k0, k1, k2, k3, k5, ho, hr⟩
    · cases h1
  · cases h1
end Hg
namespace Hg
open PySem PySem.Spec PyProof.Rows L2 NdefX
/-! ### an own exception's __init__: super().__init__(text), then its fields -/
/-- what the written part says of it -/
structure IniD (P : Program) (K : PySem.W.Frag) (C f : Addr) (st : Stmt) (q : Str) : Prop where
  fn : ∃ (oc : Value) (od : Option Addr) (nm : Str) (doc pm ct : Value) (an : Option Addr) (cda cell : Addr) (osl : Array (Option Value)) (vs : Array Value) (file : Str) (tf : Tok) (oc1 oc2 : Value) (od1 od2 : Option Addr) (sl1 sl2 : Array (Option Value)) (cd : ClassData),
    K.lookup f = some ⟨oc, od, .func (PySem.W.fnX nm q (defArgs st) (defBody st) (defScope st) [(("__class__" : Str), cell)] .none .none doc pm an (.ref cda) ct), osl⟩ ∧ PySem.W.codeIn K (.ref cda) q = true ∧
    K.lookup cda = some ⟨oc1, od1, .fields vs, sl1⟩ ∧ vs[2]? = some (.str file tf) ∧ ((P.main.file : Str) == file) = true ∧ K.lookup cell = some ⟨oc2, od2, .cell (some (.ref C)), sl2⟩ ∧ PySem.W.clsIn K C = some cd
  fnd : PySem.W.findIn K (.ref C) "__init__" = some (some (.ref f))
  typ : PySem.W.typeIn K (.ref f) = some (.type "function")
  self : PySem.W.mroIn K C (.ref C) = some true
  sup : PySem.W.ks_superIn K C C "__init__" = some (some (.builtin "ValueError.__init__"))
  sub : PySem.W.subIn K (.ref C) (.type "ValueError") = some true
  opq : PySem.W.nsIn K cStatics "thirdparty.any" = some none
section
variable {P : Program} {w : World} {K : PySem.W.Frag} {mg : Str → Option Value} {base : Heap} {A : Around} {E : Value → Shared → Prop} {X : Cx} {pins : List (Addr × Obj)} {σ : L2.St} {H : Hp} {s : Shared} {a C u : Addr}
/-- the bound ValueError.__init__ called -/
theorem call_mw {rest : List Value} {Q : Value → Shared → Prop} (T : OexC X.K C) (I : Inv X pins σ H s) (e : H a = some (exo a C none)) (hu : s.heap.get? u = some (PySem.W.kxs_mw "ValueError.__init__" a)) (hl : rest.length ≤ sizeLine) (h : ∀ s', Inv X pins σ H s' → Q .none s') :
    wpAny (model X.prog X.w) A (call (.ref u) rest) Q E s := by
  obtain ⟨nm, q, N, bs, bm, sn, sub, ab, col, dd, k0, k1, k2, k3, k5, hC, hbm⟩ := T.cls
  (obtain ⟨t1, ho⟩ := exo_at I.hok e)
  obtain ⟨hp, g, d, t, os⟩ := s
  have fin : ∀ h', (∀ b o, b ≠ a → hp.get? b = some o → h'.get? b = some o) → ∀ t2 : Addr, h'.get? a = some (PySem.HandSPX.excO C t2) → Q .none ⟨h', g, d, t, os⟩ := fun h' k t2 hx => by
    (have J := I.write (t' := t) (x := a) (e := a) (o := exo a C none) (by rw [e]; exact True.intro) (.inl rfl) k ⟨_, hx⟩ (exo_ok hx))
    have eu : (upd H a (exo a C none)) = H := by
      funext b
      by_cases hb : b = a
      · rw [hb, upd_same, e]
      · rw [upd_ne hb]
    rw [eu] at J
    exact h _ J
  (refine wpAny_call (codeAny_of_tree ?_))
  (show wpAny _ A.in1 (callAny (.ref u) ⟨rest, []⟩) _ _ _)
  simp only [callAny]
  (refine wpAny_bind (wpAny_load hu ?_))
  simp only [PySem.W.kxs_mw, show (Value.type "method-wrapper" == Value.type "method" || Value.type "method-wrapper" == Value.type "builtin_function_or_method" || Value.type "method-wrapper" == Value.type "method-wrapper") = true by decide, if_true]
  (refine PySem.W.KFB.if_so (by decide) ?_)
  refine wpAny_bind (PySem.W.check_bound_init F.excBase_ValueError.toExcCallFacts (I.kIn _ _ hC) ho rfl ?_)
  (refine wpAny_bind (wpAny_pure (wpAny_pure ?_)))
  refine ⟨plainId_quiet F.excBase_ValueError.init.plain _, codeAny_builtin F.excBase_ValueError.initEntry ?_⟩
  exact PySem.W.exc_init_tree (cls := .ref C) (dv := none) (c2 := .none) (c3 := .none) (b4 := .bool false) ho hl fun h' k hx _ => fin h' k _ hx
end
section
variable {P : Program} {w : World} {K : PySem.W.Frag} {mg : Str → Option Value} {base : Heap} {C f : Addr} {st : Stmt} {q : Str}
/-- the def's record -/
abbrev iniF (q : Str) (st : Stmt) (cell cda : Addr) : NF := ⟨"__init__", q, defArgs st, defBody st, defScope st, [(("__class__" : Str), cell)], cda⟩
/-- THE RULE for such an __init__; sp: self is being made -/
theorem exc_fn {N ps : List Str} {k : Nat} {sp : Sp} {p0 p1 p2 p3 p4 : Pos} {fs : Expr} {rest : List Stmt} {ar : Arg} (D : IniD P K C f st q) (T : OexC K C) (S : NScope N ps [("__class__" : Str)] (defScope st)) (hb : defBody st = .Expr (.Call (.Attribute (.Call (.Name "super" p0) [] [] p1) "__init__" p2) [fs] [] p3) p4 :: rest)
    (har : ((defArgs st).posonlyargs ++ (defArgs st).args).head? = some ar) (hps : ps.head? = some ar.arg) (hks : (defScope st).names.lookup ("super" : Str) = some .globalImplicit) (htop : (P.main.scope.names.lookup ("super" : Str)).isSome = false) (hmg : mg "super" = none)
    (hbind : ∀ (doc pm ct : Value) (an : Option Addr) (cell cda : Addr) (nm : Str) (us : List Value), us.length = ps.length → bindArgs (PySem.W.fnX nm q (defArgs st) (defBody st) (defScope st) [(("__class__" : Str), cell)] .none .none doc pm an (.ref cda) ct) ⟨us, []⟩ = pure (ps.zip us))
    (hin : ∀ (cell cda L : Addr), interactive (envF (iniF q st cell cda) f L) = false) (hsw : ∀ (cell cda L : Addr), swapsWith (.Call (.Attribute (.Call (.Name "super" p0) [] [] p1) "__init__" p2) [fs] [] p3) none p4.line (envF (iniF q st cell cda) f L) = pure false)
    (hex : ∀ env : Env, starEach [fs] env = (false, eval fs env) :: starEach [] env)
    (hst : ∀ env : Env, eval (.Call (.Attribute (.Call (.Name "super" p0) [] [] p1) "__init__" p2) [fs] [] p3) env = (do
      let ov ← attributeBase (.Call (.Name "super" p0) [] [] p1) "__init__" env (eval (.Call (.Name "super" p0) [] [] p1) env)
      standAt p2.atName
      let (f, first) ← holding [ov] (getMethod ov "__init__" (plainOf (.Call (.Name "super" p0) [] [] p1) env))
      callWith p3 f first (backTo p3 (starEach [fs] env)) []))
    (len : ∀ us H Q E, sp us H Q E → us.length = ps.length)
    (hbody : ∀ (cell cda : Addr) (A : Around) (outer : List Env) (s : Shared) (H : Hp) (vs : List V) (Q : VK) (E : XK), Room k (A.deeper (envF (iniF q st cell cda) f s.heap.objs.size)) → sp vs H Q E →
      ∃ (te : TA) (tr : TS) (a : Addr) (ws : List V), vs = .ref a :: ws ∧ H a = some (exo a C none) ∧ PA (ncx (L2.CX P w) P w K mg base N (iniF q st cell cda) f A outer s H E) [fs] te ∧ PSs (ncx (L2.CX P w) P w K mg base N (iniF q st cell cda) f A outer s H E) rest tr ∧
        te (startF N vs [none]) H (fun vs2 H1 => vs2.length ≤ 1000 ∧ H1 = H) ∧ tr { nx := fun _ H' => Q .non H', rt := Q } (startF N vs [none]) H) :
    ∃ fd, FnOk P w K mg base (L2.CX P w) (k + 1) f fd ps sp ∧ Binds K fd ps [] := by
  obtain ⟨oc, od, nm, doc, pm, ct, an, cda, cell, osl, vs2, file, tf, oc1, oc2, od1, od2, sl1, sl2, cdd, lk, hcd, lcd, hvs, hfile, lcell, hcls⟩ := D.fn
  refine ⟨PySem.W.fnX nm q (defArgs st) (defBody st) (defScope st) [(("__class__" : Str), cell)] .none .none doc pm an (.ref cda) ct, ⟨len, fun A outer s H args us vs Q E hr e0 hbd r hsp => ?_⟩, ?_⟩
  · have hl := len _ _ _ _ hsp
    (have lim : s.heap.NoLimit := e0.mod.nolimit.keeps fun b o e => (e0.bs b o e).1)
    (have KX : K.In s.heap := e0.mod.kin.keeps fun b o e => (e0.bs b o e).1)
    have hK : ∀ {b : Addr} {o : Obj}, K.lookup b = some o → s.heap.get? b = some o ∧ H b = none := fun e => e0.bs _ _ (e0.mod.kin _ _ e)
    refine codeAny_call_function hr.depth (hK lk).1 rfl S.co S.gen rfl (PySem.W.codeRec_of KX hcd) (hbd _ _ _ _ ?_)
    refine wpAny_newFunctionEnv S.nocell (fun ⟨n, _⟩ hy => S.par n (List.of_mem_zip hy).1) (fun h₁ hns hsb => ⟨lim.fresh _ hsb, ?_⟩) S.kind
    (have kp : ∀ b o, s.heap.get? b = some o → h₁.get? b = some o := fun b o e => hsb.extBut b o (Nat.ne_of_lt (Heap.lt_size e)) (Heap.get?_push_of_some _ e))
    have hcell : ∀ y c, ([(("__class__" : Str), cell)] : List (Str × Addr)).lookup y = some c → c = cell ∧ y = ("__class__" : Str) := fun y c e => by
      rw [List.lookup_cons] at e
      cases z : (y == ("__class__" : Str)) with
      | true =>
        rw [z] at e
        exact ⟨(Option.some.inj e).symm, beq_iff_eq.mp z⟩
      | false =>
        rw [z] at e
        cases e
    have Ca : CellsAt (iniF q st cell cda).cl [("__class__" : Str)] [none] s.heap H := ⟨rfl, fun y c e => by
        obtain ⟨rfl, _⟩ := hcell y c e
        exact ⟨(hK lcell).2, _, _, (hK lcell).1, rfl⟩, fun x y c e1 e2 => by rw [(hcell x c e1).2, (hcell y c e2).2], fun i y e => by
        cases i with
        | zero =>
          have e2 : y = ("__class__" : Str) := (Option.some.inj e).symm
          subst e2
          exact ⟨cell, by first | rfl | simp, fun v z => by cases z⟩
        | succ i => cases e⟩
    obtain ⟨te, tr, a, ws, ev, ha, hte, htr, q1, q2⟩ := hbody cell cda A outer s H vs Q E (hr.deeper _) hsp
    have I : Inv (ncx (L2.CX P w) P w K mg base N (iniF q st cell cda) f A outer s H E) [] (startF N vs [none]) H { s with heap := h₁, toks := s.toks + (ps.zip us).length } := inv_startN S hr.hd e0 hl r Ca hns kp
    have body : _root_.PySem.wpAt (model P w) (A.deeper (envF (iniF q st cell cda) f s.heap.objs.size)) (.func (defBody st) (envF (iniF q st cell cda) f s.heap.objs.size)) (execs (defBody st) (envF (iniF q st cell cda) f s.heap.objs.size))
        (SP (ncx (L2.CX P w) P w K mg base N (iniF q st cell cda) f A outer s H E) [] { nx := fun _ H' => Q .non H', rt := Q }) (ncx (L2.CX P w) P w K mg base N (iniF q st cell cda) f A outer s H E).xe { s with heap := h₁, toks := s.toks + (ps.zip us).length } := by
      obtain ⟨X, hX⟩ : ∃ X, X = ncx (L2.CX P w) P w K mg base N (iniF q st cell cda) f A outer s H E := ⟨_, rfl⟩
      have KI := I.kIn
      have hselfv : us.head? = some (.ref a) := by
        rw [ev] at r
        cases r with
        | cons r1 _ =>
          have e : _ = Value.ref a := r1
          rw [e]
          rfl
      obtain ⟨m, hns1, _⟩ := I.loc
      obtain ⟨t0, hoe⟩ := exo_at I.hok ha
      rw [hb]
      refine ks_wpAt_execs_cons (ks_wpAt_Expr_any (ks_wpAt_MethodCall ?_ (hst _)) (hin _ _ _) (hsw _ _ _))
      refine ks_wpAt_super_base (f := f) (cc := cda) hks (S.frk _ (List.mem_singleton.mpr rfl)) (by decide) rfl (kp _ _ (hK lk).1) rfl har rfl (kp _ _ (hK lcd).1) rfl hvs hfile htop ?_
      obtain ⟨mb, hnb, hbb⟩ := I.mod.blt
      refine PySem.W.ks_loadName_global S.kind hks (PySem.Calls.loadGlobal_builtin (I.mod.glob.keeps I.bk) hmg (hnb.keeps I.bk) ((hbb _ (by decide +kernel)).trans PyProof.Rows.Boot.«super») ⟨rfl, ?_⟩)
      have hlook : (ps.zip us).reverse.lookup ar.arg = some (.ref a) := by
        have e1 : ps[0]? = some ar.arg := by rw [← List.head?_eq_getElem?]; exact hps
        have e2 : us[0]? = some (.ref a) := by rw [← List.head?_eq_getElem?]; exact hselfv
        have ndP : ps.Nodup := by
          have q := S.nd.sublist (List.take_sublist (ps.length + ([("__class__" : Str)] : List Str).length) N)
          rw [S.pre] at q
          (exact (List.nodup_append.mp q).1)
        exact zip_look ndP e1 e2
      have hpar : (defScope st).names.lookup ar.arg = some .local := S.par _ (List.mem_of_getElem? (i := 0) (by rw [← List.head?_eq_getElem?]; exact hps))
      refine wpAny_loadName_free S.kind (S.frk _ (List.mem_singleton.mpr rfl)) (by first | rfl | simp) ⟨_, kp _ _ (hK lcell).1, rfl⟩ ?_
      refine wpAny_loadName_local S.kind hpar hns hlook ?_
      obtain ⟨oD, hD1, hD2⟩ : ∃ oD, h₁.get? C = some oD ∧ oD.data = .cls cdd := by
        have hcls := hcls
        unfold PySem.W.clsIn at hcls
        split at hcls
        · rename_i c d cd' sl ho
          cases hcls
          exact ⟨_, kp _ _ (hK ho).1, rfl⟩
        · cases hcls
      have Ins : PySem.W.InstAt h₁ a ({ cls := .ref C, dict := none, data := .fields #[.ref t0, .none, .none, .none, .bool false, .none] } : Obj) C none := ⟨hoe, rfl, rfl, trivial⟩
      (refine ks_wpAny_isType_cls hD1 hD2 ⟨rfl, ?_⟩)
      refine ks_wpAny_call_super hD1 hD2 hoe rfl (fun c e => by cases e) (PySem.W.looks_mroIn KI D.self) (fun h' e k => ?_)
      have I2 : Inv (ncx (L2.CX P w) P w K mg base N (iniF q st cell cda) f A outer s H E) [] (startF N vs [none]) H { s with heap := h', toks := s.toks + (ps.zip us).length } := I.kept (t' := s.toks + (ps.zip us).length) k
      have KI2 : K.In h' := KI.keeps k
      have Ins2 : PySem.W.InstAt h' a ({ cls := .ref C, dict := none, data := .fields #[.ref t0, .none, .none, .none, .bool false, .none] } : Obj) C none := ⟨k _ _ hoe, rfl, rfl, trivial⟩
      have hsup := D.sup
      unfold PySem.W.ks_superIn at hsup
      rw [hcls] at hsup
      refine PySem.W.kxs_getMethod PySem.W.kxs_ValueError e (PySem.W.looks_opaque KI2 D.opq) (l₀ := cdd.mro) (fun A Q E s k q => wpAny_bind ((PySem.W.looks_clsIn KI2 hcls) A _ E s k (wpAny_pure q))) rfl KI2 hsup (Ins2.type.andThen (PySem.W.looks_subIn KI2 D.sub)) (PySem.W.ks_ne KI2 Ins2 hcls) (by decide) ?_
      have I3 : Inv (ncx (L2.CX P w) P w K mg base N (iniF q st cell cda) f A outer s H E) [] (startF N vs [none]) H { s with heap := h'.push (PySem.W.kxs_mw "ValueError.__init__" a), toks := s.toks + (ps.zip us).length + 1 } := I2.kept (t' := s.toks + (ps.zip us).length + 1) (fun b o e => Heap.get?_push_of_some _ e)
      have I4 : Inv (ncx (L2.CX P w) P w K mg base N (iniF q st cell cda) f A outer s H E) [(h'.objs.size, PySem.W.kxs_mw "ValueError.__init__" a)] (startF N vs [none]) H { s with heap := h'.push (PySem.W.kxs_mw "ValueError.__init__" a), toks := s.toks + (ps.zip us).length + 1 } := I3.pins_of fun p hp => by
        rw [List.mem_singleton.mp hp]
        refine ⟨Heap.get?_push_at rfl rfl, I2.hok.fresh (Nat.le_refl _), fun z => ?_, I2.nofs (Nat.le_refl _), fun v z => by cases z⟩
        exact Nat.lt_irrefl _ (z ▸ I2.lt)
      show wpAny _ _ (callWith p3 (.ref h'.objs.size) [] (backTo p3 (starEach [fs] _)) []) _ _ _
      have run := hte.run p3 _ _ _ _ _ I4 q1
      rw [hex] at run ⊢
      refine PySem.W.kxs_callWith (i := "ValueError.__init__") (x := a) rfl (PySem.Calls.evalArgs_plain (thn run fun us3 s3 ⟨vs3, H3, I5, r3, q3⟩ => ?_))
      obtain ⟨hz3, rfl⟩ := q3
      have hu3 := (I5.pin _ (List.mem_append_right _ (List.mem_singleton.mpr rfl))).1
      refine ⟨hu3, ?_⟩
      show wpAny _ _ (call (.ref h'.objs.size) ([] ++ us3) []) _ _ _
      refine call_mw T I5 ha hu3 (by rw [List.nil_append, ← r3.length, sizeLine_eq]; omega) fun s4 I6 => ?_
      exact _root_.PySem.wpAt_of_wpAny (htr.run [] s4 _ _ _ (I6.pins_of fun p hp => absurd hp (by simp)) q2)
    refine ks_codeAny_funcAt (_root_.PySem.wpAt_mono body (fun fl s' hs => ?_) fun e s' hs => hs)
    have fin : ∀ {σ' : L2.St} {H' : Hp} {v : V} {u : Value}, Inv (ncx (L2.CX P w) P w K mg base N (iniF q st cell cda) f A outer s H E) [] σ' H' s' → L2.RelV v u → Q v H' → CE outer P w H s Q u s' :=
      (fun {σ' H' v u} J rv q => ⟨v, H', J.os, J.bare, J.base, J.hok, rv, q⟩)
    cases fl with
    | ret u =>
      (obtain ⟨v, σ', H', J, rv, q⟩ := hs)
      exact fin J rv q
    | next =>
      obtain ⟨σ', H', J, q⟩ := hs
      (exact fin (v := V.non) (u := Value.none) J rfl q)
    | brk =>
      obtain ⟨_, _, _, q⟩ := hs
      exact False.elim q
    | cont =>
      obtain ⟨_, _, _, q⟩ := hs
      exact False.elim q
  · intro s us hX hl
    rw [List.append_nil] at hl ⊢
    exact .of_eq (hbind doc pm ct an cell cda nm us hl)
end
end Hg
namespace Hg
open PySem PySem.Spec PyProof.Rows L2 NdefX
def FmtOk (v : V) : Prop := (∃ y : Str, v = .str y ∧ y.length ≤ 100) ∨ ∃ i : Int, v = .int i ∧ i.natAbs.log2 < 1920
theorem tFmt_ok {te : TE} {σ : L2.St} {H : Hp} {Q : VK} {v : V} (h : FmtOk v) (q : te σ H fun x H1 => x = v ∧ ∀ y : Str, y.length ≤ 1921 → Q (.str y) H1) (m : ∀ (R S : VK), (∀ x H, R x H → S x H) → te σ H R → te σ H S) : tFmt te σ H Q := by
  refine m _ _ (fun x H1 hx => ?_) q
  obtain ⟨rfl, hx⟩ := hx
  rcases h with ⟨y, rfl, hy⟩ | ⟨i, rfl, hi⟩
  · exact .inl ⟨y, rfl, by rw [sizeLine_eq]; omega, hx y (by omega)⟩
  · exact .inr ⟨i, rfl, hi, hx _ (int_text_len_1921 hi)⟩
def spE1 (C : Addr) (fld : Str) : Sp := fun vs H Q _ => ∃ (a : Addr) (v : V), vs = [.ref a, v] ∧ H a = some (exo a C none) ∧ FmtOk v ∧ ∀ dx, H dx = none → dx ≠ a → Q .non (upd (upd H dx (exd dx [(fld, v)])) a (exo a C (some dx)))
def spE2 (C : Addr) (f1 f2 : Str) : Sp := fun vs H Q _ => ∃ (a : Addr) (v1 v2 : V), vs = [.ref a, v1, v2] ∧ H a = some (exo a C none) ∧ FmtOk v1 ∧ FmtOk v2 ∧ ∀ dx, H dx = none → dx ≠ a → Q .non (upd (upd (upd H dx (exd dx [(f1, v1)])) a (exo a C (some dx))) dx (exd dx [(f2, v2), (f1, v1)]))
theorem app_le {a b : Str} {m n : Nat} (ha : a.length ≤ m) (hb : b.length ≤ n) : (a ++ b).length ≤ m + n := by
  rw [Str.length_append]
  omega
theorem sz_le {n m : Nat} (h : n ≤ m) (k : m ≤ 10000) : n ≤ sizeLine := by
  rw [sizeLine_eq]
  omega
section
variable {w : World} {K : PySem.W.Frag} {mg : Str → Option Value} {base : Heap} {C f : Addr}
theorem ini_OutOfMemory {q : Str} {P : Program} (D : IniD P K C f s_OutOfMemory_init q) (T : OexC K C) (hn1 : PySem.W.findIn K (.ref C) "length" = some none) (htop : (P.main.scope.names.lookup ("super" : Str)).isSome = false) (hmg : mg "super" = none) :
    ∃ fd, FnOk P w K mg base (L2.CX P w) 1 f fd ["self", "length"] (spE1 C "length") ∧ Binds K fd ["self", "length"] [] := by
  refine exc_fn (N := ["self", "length", "__class__"]) (k := 0) D T (nscope_by (by decide +kernel)) (by rfl) rfl rfl (by decide +kernel) htop hmg (fun _ _ _ _ _ _ _ us hl => match us, hl with | [_, _], _ => rfl) (fun _ _ _ => rfl) (fun _ _ _ => rfl) (fun _ => rfl) (fun _ => rfl) (fun vs H Q E ⟨a, v1, e, _⟩ => by rw [e]; rfl) fun cell cda A outer s H vs Q E hr ⟨a, v1, e, ha, h1, hq⟩ => ?_
  subst e
  refine ⟨_, _, a, [v1], rfl, ha, pa_cons (pe_joined (.cons pe_str (.cons (pe_fmt (pv 1)) (.cons pe_str .nil)))) pa_nil, pss_one (ps_ost (pv 0) (pv 1)), ?_, ?_⟩
  · refine ⟨_, rfl, sz_le (app_le (Nat.le_refl 0 : Str.empty.length ≤ 0) (by decide +kernel : _ ≤ 100)) (by decide), ?_⟩
    refine tFmt_ok h1 ⟨v1, rfl, rfl, fun y1 hy1 => ?_⟩ fun R S k h => by
      obtain ⟨x, e, q⟩ := h
      exact ⟨x, e, k _ _ q⟩
    refine ⟨y1, rfl, sz_le (app_le (app_le (Nat.le_refl 0 : Str.empty.length ≤ 0) (by decide +kernel : _ ≤ 100)) hy1) (by decide), ?_⟩
    refine ⟨_, rfl, sz_le (app_le (app_le (app_le (Nat.le_refl 0 : Str.empty.length ≤ 0) (by decide +kernel : _ ≤ 100)) hy1) (by decide +kernel : _ ≤ 100)) (by decide), ?_⟩
    exact ⟨by simp, rfl⟩
  · exact ⟨_, rfl, _, rfl, a, C, rfl, T, hn1, .inl ⟨ha, hq⟩⟩
theorem ini_NotAllowed {q : Str} {P : Program} (D : IniD P K C f s_NotAllowed_init q) (T : OexC K C) (hn1 : PySem.W.findIn K (.ref C) "length" = some none) (htop : (P.main.scope.names.lookup ("super" : Str)).isSome = false) (hmg : mg "super" = none) :
    ∃ fd, FnOk P w K mg base (L2.CX P w) 1 f fd ["self", "length"] (spE1 C "length") ∧ Binds K fd ["self", "length"] [] := by
  refine exc_fn (N := ["self", "length", "__class__"]) (k := 0) D T (nscope_by (by decide +kernel)) (by rfl) rfl rfl (by decide +kernel) htop hmg (fun _ _ _ _ _ _ _ us hl => match us, hl with | [_, _], _ => rfl) (fun _ _ _ => rfl) (fun _ _ _ => rfl) (fun _ => rfl) (fun _ => rfl) (fun vs H Q E ⟨a, v1, e, _⟩ => by rw [e]; rfl) fun cell cda A outer s H vs Q E hr ⟨a, v1, e, ha, h1, hq⟩ => ?_
  subst e
  refine ⟨_, _, a, [v1], rfl, ha, pa_cons (pe_joined (.cons pe_str (.cons (pe_fmt (pv 1)) (.cons pe_str .nil)))) pa_nil, pss_one (ps_ost (pv 0) (pv 1)), ?_, ?_⟩
  · refine ⟨_, rfl, sz_le (app_le (Nat.le_refl 0 : Str.empty.length ≤ 0) (by decide +kernel : _ ≤ 100)) (by decide), ?_⟩
    refine tFmt_ok h1 ⟨v1, rfl, rfl, fun y1 hy1 => ?_⟩ fun R S k h => by
      obtain ⟨x, e, q⟩ := h
      exact ⟨x, e, k _ _ q⟩
    refine ⟨y1, rfl, sz_le (app_le (app_le (Nat.le_refl 0 : Str.empty.length ≤ 0) (by decide +kernel : _ ≤ 100)) hy1) (by decide), ?_⟩
    refine ⟨_, rfl, sz_le (app_le (app_le (app_le (Nat.le_refl 0 : Str.empty.length ≤ 0) (by decide +kernel : _ ≤ 100)) hy1) (by decide +kernel : _ ≤ 100)) (by decide), ?_⟩
    exact ⟨by simp, rfl⟩
  · exact ⟨_, rfl, _, rfl, a, C, rfl, T, hn1, .inl ⟨ha, hq⟩⟩
theorem ini_NoRoom {q : Str} {P : Program} (D : IniD P K C f s_NoRoom_init q) (T : OexC K C) (hn1 : PySem.W.findIn K (.ref C) "length" = some none) (htop : (P.main.scope.names.lookup ("super" : Str)).isSome = false) (hmg : mg "super" = none) :
    ∃ fd, FnOk P w K mg base (L2.CX P w) 1 f fd ["self", "length"] (spE1 C "length") ∧ Binds K fd ["self", "length"] [] := by
  refine exc_fn (N := ["self", "length", "__class__"]) (k := 0) D T (nscope_by (by decide +kernel)) (by rfl) rfl rfl (by decide +kernel) htop hmg (fun _ _ _ _ _ _ _ us hl => match us, hl with | [_, _], _ => rfl) (fun _ _ _ => rfl) (fun _ _ _ => rfl) (fun _ => rfl) (fun _ => rfl) (fun vs H Q E ⟨a, v1, e, _⟩ => by rw [e]; rfl) fun cell cda A outer s H vs Q E hr ⟨a, v1, e, ha, h1, hq⟩ => ?_
  subst e
  refine ⟨_, _, a, [v1], rfl, ha, pa_cons (pe_joined (.cons pe_str (.cons (pe_fmt (pv 1)) .nil))) pa_nil, pss_one (ps_ost (pv 0) (pv 1)), ?_, ?_⟩
  · refine ⟨_, rfl, sz_le (app_le (Nat.le_refl 0 : Str.empty.length ≤ 0) (by decide +kernel : _ ≤ 100)) (by decide), ?_⟩
    refine tFmt_ok h1 ⟨v1, rfl, rfl, fun y1 hy1 => ?_⟩ fun R S k h => by
      obtain ⟨x, e, q⟩ := h
      exact ⟨x, e, k _ _ q⟩
    refine ⟨y1, rfl, sz_le (app_le (app_le (Nat.le_refl 0 : Str.empty.length ≤ 0) (by decide +kernel : _ ≤ 100)) hy1) (by decide), ?_⟩
    exact ⟨by simp, rfl⟩
  · exact ⟨_, rfl, _, rfl, a, C, rfl, T, hn1, .inl ⟨ha, hq⟩⟩
theorem ini_NoSuchObject {q : Str} {P : Program} (D : IniD P K C f s_NoSuchObject_init q) (T : OexC K C) (hn1 : PySem.W.findIn K (.ref C) "number" = some none) (htop : (P.main.scope.names.lookup ("super" : Str)).isSome = false) (hmg : mg "super" = none) :
    ∃ fd, FnOk P w K mg base (L2.CX P w) 1 f fd ["self", "number"] (spE1 C "number") ∧ Binds K fd ["self", "number"] [] := by
  refine exc_fn (N := ["self", "number", "__class__"]) (k := 0) D T (nscope_by (by decide +kernel)) (by rfl) rfl rfl (by decide +kernel) htop hmg (fun _ _ _ _ _ _ _ us hl => match us, hl with | [_, _], _ => rfl) (fun _ _ _ => rfl) (fun _ _ _ => rfl) (fun _ => rfl) (fun _ => rfl) (fun vs H Q E ⟨a, v1, e, _⟩ => by rw [e]; rfl) fun cell cda A outer s H vs Q E hr ⟨a, v1, e, ha, h1, hq⟩ => ?_
  subst e
  refine ⟨_, _, a, [v1], rfl, ha, pa_cons (pe_joined (.cons pe_str (.cons (pe_fmt (pv 1)) .nil))) pa_nil, pss_one (ps_ost (pv 0) (pv 1)), ?_, ?_⟩
  · refine ⟨_, rfl, sz_le (app_le (Nat.le_refl 0 : Str.empty.length ≤ 0) (by decide +kernel : _ ≤ 100)) (by decide), ?_⟩
    refine tFmt_ok h1 ⟨v1, rfl, rfl, fun y1 hy1 => ?_⟩ fun R S k h => by
      obtain ⟨x, e, q⟩ := h
      exact ⟨x, e, k _ _ q⟩
    refine ⟨y1, rfl, sz_le (app_le (app_le (Nat.le_refl 0 : Str.empty.length ≤ 0) (by decide +kernel : _ ≤ 100)) hy1) (by decide), ?_⟩
    exact ⟨by simp, rfl⟩
  · exact ⟨_, rfl, _, rfl, a, C, rfl, T, hn1, .inl ⟨ha, hq⟩⟩
theorem ini_NoSuchField {q : Str} {P : Program} (D : IniD P K C f s_NoSuchField_init q) (T : OexC K C) (hn1 : PySem.W.findIn K (.ref C) "index" = some none) (htop : (P.main.scope.names.lookup ("super" : Str)).isSome = false) (hmg : mg "super" = none) :
    ∃ fd, FnOk P w K mg base (L2.CX P w) 1 f fd ["self", "index"] (spE1 C "index") ∧ Binds K fd ["self", "index"] [] := by
  refine exc_fn (N := ["self", "index", "__class__"]) (k := 0) D T (nscope_by (by decide +kernel)) (by rfl) rfl rfl (by decide +kernel) htop hmg (fun _ _ _ _ _ _ _ us hl => match us, hl with | [_, _], _ => rfl) (fun _ _ _ => rfl) (fun _ _ _ => rfl) (fun _ => rfl) (fun _ => rfl) (fun vs H Q E ⟨a, v1, e, _⟩ => by rw [e]; rfl) fun cell cda A outer s H vs Q E hr ⟨a, v1, e, ha, h1, hq⟩ => ?_
  subst e
  refine ⟨_, _, a, [v1], rfl, ha, pa_cons (pe_joined (.cons pe_str (.cons (pe_fmt (pv 1)) .nil))) pa_nil, pss_one (ps_ost (pv 0) (pv 1)), ?_, ?_⟩
  · refine ⟨_, rfl, sz_le (app_le (Nat.le_refl 0 : Str.empty.length ≤ 0) (by decide +kernel : _ ≤ 100)) (by decide), ?_⟩
    refine tFmt_ok h1 ⟨v1, rfl, rfl, fun y1 hy1 => ?_⟩ fun R S k h => by
      obtain ⟨x, e, q⟩ := h
      exact ⟨x, e, k _ _ q⟩
    refine ⟨y1, rfl, sz_le (app_le (app_le (Nat.le_refl 0 : Str.empty.length ≤ 0) (by decide +kernel : _ ≤ 100)) hy1) (by decide), ?_⟩
    exact ⟨by simp, rfl⟩
  · exact ⟨_, rfl, _, rfl, a, C, rfl, T, hn1, .inl ⟨ha, hq⟩⟩
theorem ini_StillUsed {q : Str} {P : Program} (D : IniD P K C f s_StillUsed_init q) (T : OexC K C) (hn1 : PySem.W.findIn K (.ref C) "number" = some none) (hn2 : PySem.W.findIn K (.ref C) "reason" = some none) (htop : (P.main.scope.names.lookup ("super" : Str)).isSome = false) (hmg : mg "super" = none) :
    ∃ fd, FnOk P w K mg base (L2.CX P w) 1 f fd ["self", "number", "reason"] (spE2 C "number" "reason") ∧ Binds K fd ["self", "number", "reason"] [] := by
  refine exc_fn (N := ["self", "number", "reason", "__class__"]) (k := 0) D T (nscope_by (by decide +kernel)) (by rfl) rfl rfl (by decide +kernel) htop hmg (fun _ _ _ _ _ _ _ us hl => match us, hl with | [_, _, _], _ => rfl) (fun _ _ _ => rfl) (fun _ _ _ => rfl) (fun _ => rfl) (fun _ => rfl) (fun vs H Q E ⟨a, v1, v2, e, _⟩ => by rw [e]; rfl) fun cell cda A outer s H vs Q E hr ⟨a, v1, v2, e, ha, h1, h2, hq⟩ => ?_
  subst e
  refine ⟨_, _, a, [v1, v2], rfl, ha, pa_cons (pe_joined (.cons pe_str (.cons (pe_fmt (pv 1)) (.cons pe_str (.cons (pe_fmt (pv 2)) .nil))))) pa_nil, pss_cons (ps_ost (pv 0) (pv 1)) (pss_one (ps_ost (pv 0) (pv 2))), ?_, ?_⟩
  · refine ⟨_, rfl, sz_le (app_le (Nat.le_refl 0 : Str.empty.length ≤ 0) (by decide +kernel : _ ≤ 100)) (by decide), ?_⟩
    refine tFmt_ok h1 ⟨v1, rfl, rfl, fun y1 hy1 => ?_⟩ fun R S k h => by
      obtain ⟨x, e, q⟩ := h
      exact ⟨x, e, k _ _ q⟩
    refine ⟨y1, rfl, sz_le (app_le (app_le (Nat.le_refl 0 : Str.empty.length ≤ 0) (by decide +kernel : _ ≤ 100)) hy1) (by decide), ?_⟩
    refine ⟨_, rfl, sz_le (app_le (app_le (app_le (Nat.le_refl 0 : Str.empty.length ≤ 0) (by decide +kernel : _ ≤ 100)) hy1) (by decide +kernel : _ ≤ 100)) (by decide), ?_⟩
    refine tFmt_ok h2 ⟨v2, rfl, rfl, fun y2 hy2 => ?_⟩ fun R S k h => by
      obtain ⟨x, e, q⟩ := h
      exact ⟨x, e, k _ _ q⟩
    refine ⟨y2, rfl, sz_le (app_le (app_le (app_le (app_le (Nat.le_refl 0 : Str.empty.length ≤ 0) (by decide +kernel : _ ≤ 100)) hy1) (by decide +kernel : _ ≤ 100)) hy2) (by decide), ?_⟩
    exact ⟨by simp, rfl⟩
  · refine ⟨_, rfl, _, rfl, a, C, rfl, T, hn1, .inl ⟨ha, fun dx nx ne => ⟨_, rfl, _, rfl, a, C, rfl, T, hn2, .inr ⟨dx, _, upd_same, ?_, (by show (1 : Nat) ≤ 900; decide), hq dx nx ne⟩⟩⟩⟩
    rw [upd_ne ne, upd_same]
theorem ini_PowerCut {q : Str} {P : Program} (D : IniD P K C f s_PowerCut_init q) (T : OexC K C) (hn1 : PySem.W.findIn K (.ref C) "written" = some none) (htop : (P.main.scope.names.lookup ("super" : Str)).isSome = false) (hmg : mg "super" = none) :
    ∃ fd, FnOk P w K mg base (L2.CX P w) 1 f fd ["self", "written"] (spE1 C "written") ∧ Binds K fd ["self", "written"] [] := by
  refine exc_fn (N := ["self", "written", "__class__"]) (k := 0) D T (nscope_by (by decide +kernel)) (by rfl) rfl rfl (by decide +kernel) htop hmg (fun _ _ _ _ _ _ _ us hl => match us, hl with | [_, _], _ => rfl) (fun _ _ _ => rfl) (fun _ _ _ => rfl) (fun _ => rfl) (fun _ => rfl) (fun vs H Q E ⟨a, v1, e, _⟩ => by rw [e]; rfl) fun cell cda A outer s H vs Q E hr ⟨a, v1, e, ha, h1, hq⟩ => ?_
  subst e
  refine ⟨_, _, a, [v1], rfl, ha, pa_cons (pe_joined (.cons pe_str (.cons (pe_fmt (pv 1)) (.cons pe_str .nil)))) pa_nil, pss_one (ps_ost (pv 0) (pv 1)), ?_, ?_⟩
  · refine ⟨_, rfl, sz_le (app_le (Nat.le_refl 0 : Str.empty.length ≤ 0) (by decide +kernel : _ ≤ 100)) (by decide), ?_⟩
    refine tFmt_ok h1 ⟨v1, rfl, rfl, fun y1 hy1 => ?_⟩ fun R S k h => by
      obtain ⟨x, e, q⟩ := h
      exact ⟨x, e, k _ _ q⟩
    refine ⟨y1, rfl, sz_le (app_le (app_le (Nat.le_refl 0 : Str.empty.length ≤ 0) (by decide +kernel : _ ≤ 100)) hy1) (by decide), ?_⟩
    refine ⟨_, rfl, sz_le (app_le (app_le (app_le (Nat.le_refl 0 : Str.empty.length ≤ 0) (by decide +kernel : _ ≤ 100)) hy1) (by decide +kernel : _ ≤ 100)) (by decide), ?_⟩
    exact ⟨by simp, rfl⟩
  · exact ⟨_, rfl, _, rfl, a, C, rfl, T, hn1, .inl ⟨ha, hq⟩⟩
end
end Hg
namespace Hg
open PySem PySem.Spec PyProof.Rows L2
/-! ### an except suite that ends by a bare raise -/
section
variable {X : Cx}
variable {pins : List (Addr × Obj)} {σ : L2.St} {H : Hp} {s : Shared}
/-- some untracked objects are hidden -/
theorem inv_hide (I : Inv X pins σ H s) (l : Addr → Bool) (h0 : ∀ b, l b = true → X.s_0.heap.get? b = none) (hH : ∀ b, l b = true → H b = none) (hL : l X.env.locals = false) (hc : ∀ b o, l b = true → s.heap.get? b = some o → ∀ v, o.data ≠ .cell v)
    (hp : ∀ p ∈ X.pn ++ pins, l p.1 = false) : ∃ G : Heap, Inv X pins σ H { s with heap := G } ∧ (∀ b, l b = false → G.get? b = s.heap.get? b) ∧ ∀ b, l b = true → G.get? b = none := by
  obtain ⟨G, g1, g2⟩ := restrict s.heap fun b => !l b
  have k1 : ∀ b, l b = false → G.get? b = s.heap.get? b := fun b hb => g1 b (by simp [hb])
  have k2 : ∀ b, l b = true → G.get? b = none := fun b hb => g2 b (by simp [hb])
  have no : ∀ {b : Addr} {o : Obj}, X.s_0.heap.get? b = some o → l b = false := fun {b o} e => by
    cases q : l b with
    | false => rfl
    | true =>
      rw [h0 b q] at e
      cases e
  have nH : ∀ {b : Addr} {o : HO}, H b = some o → l b = false := fun {b o} e => by
    cases q : l b with
    | false => rfl
    | true =>
      rw [hH b q] at e
      cases e
  have nC : ∀ {c : Addr} {v : Option Value}, s.heap.IsCell c v → G.IsCell c v := fun {c v} ⟨o, ho, hd⟩ => by
    refine ⟨o, ?_, hd⟩
    cases q : l c with
    | false => rw [k1 c q]; exact ho
    | true => exact absurd hd (hc c o q ho v)
  refine ⟨G, ⟨I.ok, I.os, I.bare, ⟨fun b o z n hf hx => ?_, fun b o z n hf hx => ?_, I.base.free, fun b o z hx => ?_, I.base.tups, I.base.frzs, I.base.tbls⟩, ?_, fun x c e => ?_, I.free, I.freeC, fun p hm => ?_, fun b o z => ?_, I.len⟩, k1, k2⟩
  · rw [k1 b (no z)]
    exact I.base.keep b o z n hf hx
  · rw [k1 b (no z)]
    exact I.base.slot b o z n hf hx
  · rw [k1 b (no z)]
    exact I.base.there b o z hx
  · obtain ⟨m, hn, hl⟩ := I.loc
    refine ⟨m, hn.at fun o y => (k1 _ hL).trans y, fun i x v e1 e2 e3 => ?_⟩
    obtain ⟨u, r, q⟩ := hl i x v e1 e2 e3
    refine ⟨u, r, ?_⟩
    rcases q with q | ⟨q, c, e, hu⟩
    · exact .inl q
    · exact .inr ⟨q, c, e, nC hu⟩
  · (obtain ⟨v, z⟩ := I.cell x c e)
    exact ⟨v, nC z⟩
  · obtain ⟨h1, h2⟩ := I.pin p hm
    exact ⟨(k1 _ (hp p hm)).trans h1, h2⟩
  · exact (I.hok b o z).stay (fun c v hc y => by
      have hcl : l c = false := by
        rcases hc with hc | hc
        · rw [hc]
          exact nH z
        · exact nH hc
      rw [k1 c hcl]
      exact y) (fun c hc => hc) fun c xs hc => hc
end
section
variable {X : Cx} {x : Str} {c : Value} {body : List Stmt} {s₁ : Stmt} {np pos pos' rp : Pos} {tb : WX → TS} {t1 : TS} {Wout : WX}
/-- what the clause wishes -/
def wAgain (K : PySem.W.Frag) (c : Value) (t1 : TS) (Wout : WX) : WX := fun cls d σ H =>
  ∃ b, PySem.W.exmOne K cls c = some b ∧ (b = true → t1 { nx := fun σ2 H2 => Wout cls d σ2 H2, rt := fun _ _ => False } σ H) ∧ (b = false → Wout cls d σ H)
theorem ps_try_again (hs : X.stack = X.env :: X.outer) (hf : X.env.frame = some X.env.locals) (hx0 : X.ex = []) (hc : Names X x c) (hpa : ∀ hd : Option Value, PassesOwnAt (model X.prog X.w) (X.A.mark hd) X.A X.env X.xe) (takes : Takes X Wout)
    (hb : ∀ (W : WX) (pn : List (Addr × Obj)) (xe : Value → Shared → Prop), Takes (X.tr pn xe) W → PassesOwn (model X.prog X.w) X.A X.env xe → PSs (X.tr pn xe) body (tb W))
    (hs1 : ∀ (a : Addr) (oe : Obj) (pn : List (Addr × Obj)), PS (X.suite a ((a, oe) :: pn)) s₁ t1) :
    PS X (.Try body [.ExceptHandler (some (.Name x np)) none [s₁, .Raise none none rp] pos'] [] [] pos) (fun D σ H => tb (wAgain X.K c t1 Wout) D σ H) := by
  refine ⟨fun pins s σ H D I h => ?_⟩
  have okX := I.ok
  have hstk : X.A.frames = some (X.env :: X.outer) := by rw [okX.frames, hs]
  refine wpAny_Try_except ?_
  refine wpAny_mono ((hb (wAgain X.K c t1 Wout) (X.pn ++ pins) (fun e s₁ => wpAny (model X.prog X.w) X.A (noteFrame e X.env) (fun _ s₂ => wpAny (model X.prog X.w) X.A (setFlight e none) (fun _ s₃ =>
    wpAny (model X.prog X.w) X.A (handleBy e X.env [.ExceptHandler (some (.Name x np)) none [_, .Raise none none rp] pos']) (SP X pins D) X.xe s₃) X.xe s₂) X.xe s₁) (fun u sx inair => ?_) PassesOwn.looking).run [] s σ H D (I.toTry _) h) (fun f s1 hend => ?_) (fun e s1 ha0 => ha0)
  · obtain ⟨ea, Gr, sB, pq, τ, Hb, kl, dd, rfl, Jt, gnd, uw, air, fre, eos, gns, b, hkl, hys, hns⟩ := inair
    have Jb : Inv X pins τ Hb sB := Jt.ofTry okX
    have air' : Sky Gr (X.env :: X.outer) ea (Zc kl dd) X.env.locals sx.heap := by rw [← hs]; exact air
    show wpAny (model X.prog X.w) X.A (noteFrame (.ref ea) X.env) _ _ _
    refine Sky.land Zc.steady hstk hf air' fun g3 fly3 uw3 => ?_
    have Jc : Inv X pins τ Hb { sx with heap := g3 } := Jb.landed gnd fly3.1 (uw.trans uw3) eos gns
    obtain ⟨ox3, vx3, ha3, zc3, dt3⟩ := fly3.there
    have offFr : ∀ {h : Heap} {b : Addr} {o : Obj} {vx0 : Array Value}, h.FunFrames Gr (X.env :: X.outer) → h.get? b = some o → o.data = .fields vx0 → b ∉ frs (X.env :: X.outer) := fun {h b o vx0} ff e dd hm => by
      obtain ⟨_, ob', eq', hnf⟩ := ff.mem hm
      rw [e] at eq'; cases eq'
      exact hnf _ dd
    have nLF : ∀ {b : Addr}, b ∉ frs (X.env :: X.outer) → b ≠ X.env.locals ∧ b ∉ X.fs := fun {b} n => ⟨fun z => n (List.mem_filterMap.mpr ⟨X.env, List.mem_cons_self, by rw [hf, z]⟩), fun hm => by
      obtain ⟨e, ha0, q⟩ := List.mem_filterMap.mp hm
      exact n (List.mem_filterMap.mpr ⟨e, List.mem_cons_of_mem _ ha0, q⟩)⟩
    have offA := offFr fly3.2.2.1 ha3 dt3
    obtain ⟨offL, offF⟩ := nLF offA
    have Sa := Jc.suite ha3 dt3 fre offL offF
    (refine wpAny_handleBy_cons (codeAny_handlers_test ?_) (by intro q; cases q))
    have Lt : PySem.W.Looks (model X.prog X.w) g3 (typeOf (.ref ea)) kl := fun A Q E s k q => wpAny_typeOf_ref (k _ _ ha3) (by rw [zc3.1]; exact q)
    have Lx := PySem.W.exm_one (M := model X.prog X.w) (Jc.kIn) Lt hkl
    have tst : ∀ {Q : Value → Shared → Prop} {E : Value → Shared → Prop}, Q c { sx with heap := g3 } → wpAny (model X.prog X.w) (X.A.mark (some (.ref ea))) (eval (.Name x np) X.env) Q E { sx with heap := g3 } := fun {Q E} q => by
      obtain ⟨glb, dbg, hm | ⟨hm, hv, nnm⟩⟩ := hc
      · exact ld_glob (X := X.suite ea ((ea, ox3) :: (X.pn ++ pins))) Sa glb hm q dbg
      · exact ld_blt (X := X.suite ea ((ea, ox3) :: (X.pn ++ pins))) Sa glb hm hv q nnm dbg
    refine tst (Lx.here ?_)
    cases b with
    | true =>
      (refine codeAny_handlers_suite ?_)
      refine HandSPX.lands_againZ fly3 fun g4 fly4 uw4 => ?_
      have Jd : Inv X pins τ Hb { sx with heap := g4 } := Jb.landed gnd fly4.1 ((uw.trans uw3).trans uw4) eos gns
      obtain ⟨k1, k2, k3, ox4, vx4, TB, otb, ts, ha4, zc4, dt4, fld1, hnT, hTe, hT, hdT, h3'⟩ := id fly4
      have Sb := Jd.suite ha4 dt4 fre offL offF
      have nfT := offFr k3 hT hdT
      obtain ⟨nLT, nFT⟩ := nLF nfT
      have hokB := Jb.inGround gnd
      have nTH : Hb TB = none := by
        cases q : Hb TB with
        | none => rfl
        | some o =>
          have q1 := (hokB TB o q).lt
          cases q2 : Hb TB with
          | none => rw [q] at q2; cases q2
          | some o2 => exact absurd (hokB.gone hnT) (by rw [q]; simp)
      have S5 : Inv (X.suite ea ((ea, ox4) :: (X.pn ++ pins))) [(TB, otb)] τ Hb { sx with heap := g4 } := Sb.pins_of fun p hp => by
        rw [List.mem_singleton.mp hp]
        exact ⟨hT, nTH, nLT, nFT, fun v z => by rw [hdT] at z; cases z⟩
      have s0 : ∀ {b : Addr}, b ∉ frs (X.env :: X.outer) → Gr.get? b = none → X.s_0.heap.get? b = none := fun {b} n e => by
        cases q : X.s_0.heap.get? b with
        | none => rfl
        | some o =>
          obtain ⟨ob', q1⟩ := Jb.base.there b o q (by rw [hx0]; simp)
          rw [gnd b ob' q1 (by rw [hs]; exact n)] at e
          cases e
      have pinNe : ∀ {b : Addr}, b ∉ frs (X.env :: X.outer) → Gr.get? b = none → ∀ p ∈ X.pn ++ pins, p.1 ≠ b := fun {b} n e p hp z => by
        have q := (Jb.pin p hp).1
        rw [z] at q
        rw [gnd b _ q (by rw [hs]; exact n)] at e
        cases e
      refine wpAny_mono (Q := fun _ _ => False) (E := X.xe) ?_ (fun _ _ z => z.elim) (fun e6 s6 z => hpa (some (.ref ea)) e6 s6 z)
      refine wpAny_execs_cons (wpAny_mono ((hs1 ea ox4 (X.pn ++ pins)).run _ _ _ Hb _ S5 (hys rfl)) (fun f s6 hend => ?_) (fun _ _ z => False.elim z))
      cases f with
      | next =>
        obtain ⟨τ6, H6, Sd, qd⟩ := hend
        have pT := Sd.pin (TB, otb) (List.mem_append_right _ (List.mem_singleton.mpr rfl))
        have pA := Sd.pin (ea, ox4) (List.mem_append_left _ List.mem_cons_self)
        have S7 : Inv X pins τ6 H6 s6 := (Sd.pins_of (pins' := []) fun p hp => by cases hp).unsuite okX
        obtain ⟨G, IG, g1, g2⟩ := inv_hide S7 (fun b => decide (b = ea) || decide (b = TB)) (fun b hb => by
            rcases Bool.or_eq_true_iff.mp hb with z | z
            · rw [of_decide_eq_true z]; exact s0 offA k2
            · rw [of_decide_eq_true z]; exact s0 nfT hnT) (fun b hb => by
            rcases Bool.or_eq_true_iff.mp hb with z | z
            · rw [of_decide_eq_true z]; exact pA.2.1
            · rw [of_decide_eq_true z]; exact pT.2.1) (by simp [Ne.symm offL, Ne.symm nLT]) (fun b o hb ho => by
            rcases Bool.or_eq_true_iff.mp hb with z | z
            · rw [of_decide_eq_true z, pA.1] at ho; cases ho; exact pA.2.2.2.2
            · rw [of_decide_eq_true z, pT.1] at ho; cases ho; exact pT.2.2.2.2) (fun p hp => by
            have z1 := pinNe offA k2 p hp
            have z2 := pinNe nfT hnT p hp
            simp [z1, z2])
        have gN : ∀ {b : Addr} {o : Obj}, G.get? b = some o → s6.heap.get? b = some o := fun {b o} e => by
          cases q : (decide (b = ea) || decide (b = TB)) with
          | false => rw [← g1 b q]; exact e
          | true => rw [g2 b q] at e; cases e
        have stN : ∀ b o, (PySem.W.hideAll G (frs X.stack)).get? b = some o → s6.heap.get? b = some o := fun b o e => gN (PySem.W.of_hideAll _ e)
        have none_of : ∀ {b : Addr}, G.get? b = none → (PySem.W.hideAll G (frs X.stack)).get? b = none := fun {b} e => by
          cases q : ((PySem.W.hideAll G (frs X.stack)).get? b) with
          | none => rfl
          | some o =>
            (have z := PySem.W.of_hideAll _ q)
            rw [e] at z
            cases z
        have ff : s6.heap.FunFrames (PySem.W.hideAll G (frs X.stack)) X.stack := funFrames_none S7.stack fun b hb => PySem.W.hideAll_none _ hb
        have tr : HandSPX.TracedZ s6.heap (PySem.W.hideAll G (frs X.stack)) ea (Zc kl dd) .none := ⟨ox4, vx4, TB, otb, ts, pA.1, zc4, dt4, fld1, none_of (g2 TB (by simp)), hTe, pT.1, hdT, h3'⟩
        refine wpAny_execs_cons (PySem.wpAny_Raise_bare ?_)
        unfold raiseBare raiseStmt
        dsimp only
        (refine wpAny_bind (wpAny_handled ?_))
        rw [show (X.A.mark (some (.ref ea))).handled = some (.ref ea) from rfl]
        dsimp only
        (refine wpAny_bind (wpAny_rule ?_))
        refine wpAny_bind (wpAny_field pA.1 dt4 fld1 ?_)
        rw [if_neg (show ¬ ((Value.ref TB == Value.none) = true) from by simp)]
        have outw : ∀ {Q : Flow → Shared → Prop}, wpAny (model X.prog X.w) (X.A.mark (some (.ref ea))) (setFlight (.ref ea) X.env.frame) (fun _ s4 => wpAny (model X.prog X.w) (X.A.mark (some (.ref ea))) (throw (.ref ea) : Sem Flow) Q X.xe s4) X.xe s6 := fun {Q} => by
          rw [hf]
          refine HandSPX.setFlight_anyZ stN ff tr fun h8 st8 ff8 tr8 up8 => wpAny_throw (takes _ _ ?_)
          refine ⟨ea, PySem.W.hideAll G (frs X.stack), { s6 with heap := G }, pins, τ6, H6, kl, dd, rfl, IG, fun b o e hb => PySem.W.hideAll_get _ e hb, (Heap.UpToSlots.of_keeps fun b o e => gN e).trans up8, .inr (.inr ⟨st8, none_of (g2 ea (by simp)), ff8, tr8⟩), pA.2.1, rfl, S7.bare, qd⟩
        first
          | exact wpAny_bind (wpAny_pure (wpAny_bind outw))
          | exact wpAny_bind outw
      | brk =>
        obtain ⟨τ6, H6, Sd, qd⟩ := hend
        exact False.elim qd
      | cont =>
        obtain ⟨τ6, H6, Sd, qd⟩ := hend
        exact False.elim qd
      | ret u =>
        obtain ⟨vd, τ6, H6, Sd, rd, qd⟩ := hend
        exact False.elim qd
    | false =>
      show wpAny _ X.A (handleBy (.ref ea) X.env []) _ _ _
      refine wpAny_handleBy_nil ?_
      obtain ⟨k1, k2, k3, ox0, vx0, TB, otb, tsx, ha0, zc0, dt0, fld1, rst⟩ := id fly3
      unfold PySem.passOn
      refine wpAny_bind (wpAny_field ha0 dt0 fld1 ?_)
      rw [if_neg (show ¬ ((Value.ref TB == Value.none) = true) from by simp)]
      have outw : wpAny (model X.prog X.w) X.A (setFlight (.ref ea) X.env.frame) (fun _ s4 => wpAny (model X.prog X.w) X.A (throw (.ref ea) : Sem Flow) (SP X pins D) X.xe s4) X.xe { sx with heap := g3 } := by
        rw [hf]
        refine HandSPX.setFlight_upZ fly3 fun g4 hh4 uw4 => wpAny_throw (takes _ _ ?_)
        exact ⟨ea, Gr, sB, pins, τ, Hb, kl, dd, rfl, Jb, gnd, (uw.trans uw3).trans uw4, .inr (.inr (by rw [hs]; exact hh4)), fre, eos, gns, hns rfl⟩
      first
        | exact wpAny_bind (wpAny_pure (wpAny_bind outw))
        | exact wpAny_bind outw
  · cases f with
    | next =>
      obtain ⟨τ, Hb, Jt, q⟩ := hend
      exact wpAny_execs_nil ⟨τ, Hb, Jt.ofTry okX, q⟩
    | brk =>
      obtain ⟨τ, Hb, Jt, q⟩ := hend
      exact ⟨τ, Hb, Jt.ofTry okX, q⟩
    | cont =>
      obtain ⟨τ, Hb, Jt, q⟩ := hend
      exact ⟨τ, Hb, Jt.ofTry okX, q⟩
    | ret u =>
      obtain ⟨v, τ, Hb, Jt, r, q⟩ := hend
      exact ⟨v, τ, Hb, Jt.ofTry okX, r, q⟩
end
end Hg
namespace Hg
open PySem PySem.Spec PyProof.Rows L2
/-! ### many except clauses, with and without a name -/
/-- behind a suite whose name goes -/
def dGone (i : Nat) (D : Ends) : Ends := { nx := fun τ G => D.nx (τ.set i none) G, rt := D.rt, bk := fun τ G => D.bk (τ.set i none) G, ct := fun τ G => D.ct (τ.set i none) G }
abbrev Cl3 : Type := Bool × Value × (Addr → Value → Option Addr → TS)
def wMix (K : PySem.W.Frag) (i : Nat) (Wout : WX) (D : Ends) : List Cl3 → WX
  | [] => Wout
  | (m, c, ts) :: r => fun kl dd τ G => ∃ b, PySem.W.exmOne K kl c = some b ∧ (b = true → ∀ ea, G ea = none → if m = true then ts ea kl dd (dGone i D) (τ.set i (some (.ref ea))) G else ts ea kl dd D τ G) ∧ (b = false → wMix K i Wout D r kl dd τ G)
inductive MixOk (X : Cx) (i : Nat) (n : Str) : List ExceptHandler → List Cl3 → Prop
  | nil : MixOk X i n [] []
  | one {x : Str} {c : Value} {ts : Addr → Value → Option Addr → TS} {b₀ : Stmt} {su : List Stmt} {np hp : Pos} {hds : List ExceptHandler} {l : List Cl3} (hc : Names X x c)
      (hsu : ∀ (ea : Addr) (oe : Obj) (kl : Value) (dd : Option Addr) (pn : List (Addr × Obj)), Zc kl dd oe → (∃ vs, oe.data = .fields vs) → PSs (X.suite ea ((ea, oe) :: pn)) (b₀ :: su) (ts ea kl dd)) (r : MixOk X i n hds l) :
      MixOk X i n (.ExceptHandler (some (.Name x np)) none (b₀ :: su) hp :: hds) ((false, c, ts) :: l)
  | as_ {x : Str} {c : Value} {ts : Addr → Value → Option Addr → TS} {b₀ : Stmt} {su : List Stmt} {np hp : Pos} {hds : List ExceptHandler} {l : List Cl3} (hc : Names X x c)
      (hsu : ∀ (ea : Addr) (oe : Obj) (kl : Value) (dd : Option Addr) (pn : List (Addr × Obj)), Zc kl dd oe → (∃ vs, oe.data = .fields vs) → PSs (X.suite ea ((ea, oe) :: pn)) (b₀ :: su) (ts ea kl dd)) (r : MixOk X i n hds l) :
      MixOk X i n (.ExceptHandler (some (.Name x np)) (some n) (b₀ :: su) hp :: hds) ((true, c, ts) :: l)
section
variable {X : Cx} {body : List Stmt} {hd0 : ExceptHandler} {hds : List ExceptHandler} {l : List Cl3} {pos : Pos} {tb : WX → TS} {Wout : WX} {i : Nat} {n : Str}
theorem ps_try_mix (hst : X.stack = X.env :: X.outer) (hfm : X.env.frame = some X.env.locals) (hN : X.N.Nodup) (hi : X.N[i]? = some n) (hln : X.env.kindOf n = some .local) (takes : Takes X Wout)
    (hb : ∀ (W : WX) (pn : List (Addr × Obj)) (xe : Value → Shared → Prop), Takes (X.tr pn xe) W → PassesOwn (model X.prog X.w) X.A X.env xe → PSs (X.tr pn xe) body (tb W)) (hh : MixOk X i n (hd0 :: hds) l) :
    PS X (.Try body (hd0 :: hds) [] [] pos) (fun D σ H => tb (wMix X.K i Wout D l) D σ H) := by
  refine ⟨fun pins s σ H D I0 h => ?_⟩
  have okX := I0.ok
  have hstk : X.A.frames = some (X.env :: X.outer) := okX.frames.trans (congrArg some hst)
  (have hloc : Loc X.env.scope n := .inl hln)
  refine wpAny_Try_except (wpAny_mono ((hb (wMix X.K i Wout D l) (X.pn ++ pins) (fun e s₁ => wpAny (model X.prog X.w) X.A (noteFrame e X.env) (fun _ s₂ => wpAny (model X.prog X.w) X.A (setFlight e none) (fun _ s₃ =>
    wpAny (model X.prog X.w) X.A (handleBy e X.env (hd0 :: hds)) (SP X pins D) X.xe s₃) X.xe s₂) X.xe s₁) (fun u sx inair => ?_) PassesOwn.looking).run [] s σ H D (I0.toTry _) h) (fun f s1 hend => ?_) (fun e s1 he => he))
  · obtain ⟨ea, Gr, sB, pq, τ, Hb, kl, dd, rfl, Jt, gnd, uw, air, fre, eos, gns, w⟩ := inair
    have Jb : Inv X pins τ Hb sB := Jt.ofTry okX
    rw [hst] at air
    refine Sky.land (M := model X.prog X.w) Zc.steady hstk hfm air fun g3 fly3 uw3 => ?_
    have Jc : Inv X pins τ Hb { sx with heap := g3 } := Jb.landed gnd fly3.1 (uw.trans uw3) eos gns
    obtain ⟨ox3, vx3, ha3, zc3, dt3⟩ := fly3.there
    have offA : ea ∉ frs (X.env :: X.outer) := fun hm => by
      obtain ⟨_, ob', eq', hnf⟩ := fly3.2.2.1.mem hm
      rw [ha3] at eq'
      cases eq'
      exact hnf _ dt3
    have offL : ea ≠ X.env.locals := fun z => offA (List.mem_filterMap.mpr ⟨X.env, List.mem_cons_self, by rw [hfm, z]⟩)
    have offF : ea ∉ X.fs := fun hm => by
      obtain ⟨e1, he1, q1⟩ := List.mem_filterMap.mp hm
      exact offA (List.mem_filterMap.mpr ⟨e1, List.mem_cons_of_mem _ he1, q1⟩)
    have Sa := Jc.suite ha3 dt3 fre offL offF
    have Lt : PySem.W.Looks (model X.prog X.w) g3 (typeOf (.ref ea)) kl := fun A Q E s k q => wpAny_typeOf_ref (k _ _ ha3) (zc3.1.symm ▸ q)
    have tst : ∀ {x : Str} {c : Value} {np : Pos} {Q : Value → Shared → Prop} {E : Value → Shared → Prop}, Names X x c → Q c { sx with heap := g3 } → wpAny (model X.prog X.w) (X.A.mark (some (.ref ea))) (eval (.Name x np) X.env) Q E { sx with heap := g3 } := fun {x c np Q E} hc q => by
      obtain ⟨glb, dbg, hm | ⟨hm, hv, nnm⟩⟩ := hc
      · exact ld_glob (X := X.suite ea ((ea, ox3) :: (X.pn ++ pins))) Sa glb hm q dbg
      · exact ld_blt (X := X.suite ea ((ea, ox3) :: (X.pn ++ pins))) Sa glb hm hv q nnm dbg
    have go : ∀ {hs' : List ExceptHandler} {l' : List Cl3}, MixOk X i n hs' l' → wMix X.K i Wout D l' kl dd τ Hb → wpAny (model X.prog X.w) X.A (handleBy (.ref ea) X.env hs') (SP X pins D) X.xe { sx with heap := g3 } := by
      intro hs' l' hk
      induction hk with
      | nil =>
        intro w
        obtain ⟨_, _, _, ox0, vx0, TB, otb, tsx, ha0, zc0, dt0, fld1, rst⟩ := id fly3
        have outw : wpAny (model X.prog X.w) X.A (setFlight (.ref ea) X.env.frame) (fun _ s4 => wpAny (model X.prog X.w) X.A (throw (.ref ea) : Sem Flow) (SP X pins D) X.xe s4) X.xe { sx with heap := g3 } := by
          rw [hfm]
          exact HandSPX.setFlight_upZ fly3 fun g4 hh4 uw4 => wpAny_throw (takes _ _ ⟨ea, Gr, sB, pins, τ, Hb, kl, dd, rfl, Jb, gnd, (uw.trans uw3).trans uw4, .inr (.inr (by rw [hst]; exact hh4)), fre, eos, gns, w⟩)
        refine wpAny_handleBy_nil ?_
        unfold PySem.passOn
        refine wpAny_bind (wpAny_field ha0 dt0 fld1 ?_)
        rw [if_neg (by simp : ¬ ((Value.ref TB == Value.none) = true))]
        first
          | exact wpAny_bind (wpAny_pure (wpAny_bind outw))
          | exact wpAny_bind outw
      | one hc hsu r ih =>
        intro w
        obtain ⟨b, hkl, hys, hns⟩ := w
        refine wpAny_handleBy_cons (codeAny_handlers_test (tst hc ((PySem.W.exm_one (M := model X.prog X.w) Jc.kIn Lt hkl).here ?_))) (fun q => by cases q)
        cases b with
        | false => exact ih (hns rfl)
        | true =>
          refine codeAny_handlers_suite (HandSPX.lands_againZ fly3 fun g4 fly4 uw4 => ?_)
          have Jd : Inv X pins τ Hb { sx with heap := g4 } := Jb.landed gnd fly4.1 ((uw.trans uw3).trans uw4) eos gns
          obtain ⟨ox4, vx4, ha4, zc4, dt4⟩ := fly4.there
          refine wpAny_mono ((hsu ea ox4 kl dd (X.pn ++ pins) zc4 ⟨_, dt4⟩).run [] _ _ Hb _ (Jd.suite ha4 dt4 fre offL offF) (hys rfl ea fre)) (fun f s6 hend => ?_) (fun _ _ z => False.elim z)
          cases f with
          | next => exact hend.elim fun τ6 z => z.elim fun H6 z => ⟨τ6, H6, z.1.unsuite okX, z.2⟩
          | brk => exact hend.elim fun τ6 z => z.elim fun H6 z => ⟨τ6, H6, z.1.unsuite okX, z.2⟩
          | cont => exact hend.elim fun τ6 z => z.elim fun H6 z => ⟨τ6, H6, z.1.unsuite okX, z.2⟩
          | ret u => exact hend.elim fun v6 z => z.elim fun τ6 z => z.elim fun H6 z => ⟨v6, τ6, H6, z.1.unsuite okX, z.2⟩
      | as_ hc hsu r ih =>
        intro w
        obtain ⟨b, hkl, hys, hns⟩ := w
        refine wpAny_handleBy_cons (codeAny_handlers_test (tst hc ((PySem.W.exm_one (M := model X.prog X.w) Jc.kIn Lt hkl).here ?_))) (fun q => by cases q)
        cases b with
        | false => exact ih (hns rfl)
        | true =>
          refine codeAny_handlers_suite_as (HandSPX.lands_againZ fly3 fun g4 fly4 uw4 => ?_)
          have Jd : Inv X pins τ Hb { sx with heap := g4 } := Jb.landed gnd fly4.1 ((uw.trans uw3).trans uw4) eos gns
          obtain ⟨ox4, vx4, ha4, zc4, dt4⟩ := fly4.there
          refine store_ok (X := X.suite ea ((ea, ox4) :: (X.pn ++ pins))) (v := .ref ea) (Jd.suite ha4 dt4 fre offL offF) hN hi hloc rfl (fun s5 Se => ?_) (.inr hln)
          refine wpAny_mono ((hsu ea ox4 kl dd (X.pn ++ pins) zc4 ⟨_, dt4⟩).run [] s5 _ Hb _ Se (hys rfl ea fre)) (fun f s6 hend => ?_) (fun _ _ z => False.elim z)
          cases f with
          | next => exact hend.elim fun τ6 z => z.elim fun H6 z => gone_ok (z.1.unsuite okX) hN hi hln fun s7 J7 => ⟨_, H6, J7, z.2⟩
          | brk => exact hend.elim fun τ6 z => z.elim fun H6 z => gone_ok (z.1.unsuite okX) hN hi hln fun s7 J7 => ⟨_, H6, J7, z.2⟩
          | cont => exact hend.elim fun τ6 z => z.elim fun H6 z => gone_ok (z.1.unsuite okX) hN hi hln fun s7 J7 => ⟨_, H6, J7, z.2⟩
          | ret u => exact hend.elim fun v6 z => z.elim fun τ6 z => z.elim fun H6 z => gone_ok (z.1.unsuite okX) hN hi hln fun s7 J7 => ⟨v6, _, H6, J7, z.2⟩
    exact go hh w
  · cases f with
    | next => exact hend.elim fun τ6 z => z.elim fun H6 z => wpAny_execs_nil ⟨τ6, H6, z.1.ofTry okX, z.2⟩
    | brk => exact hend.elim fun τ6 z => z.elim fun H6 z => ⟨τ6, H6, z.1.ofTry okX, z.2⟩
    | cont => exact hend.elim fun τ6 z => z.elim fun H6 z => ⟨τ6, H6, z.1.ofTry okX, z.2⟩
    | ret u => exact hend.elim fun v6 z => z.elim fun τ6 z => z.elim fun H6 z => ⟨v6, τ6, H6, z.1.ofTry okX, z.2⟩
end
end Hg
namespace Hg
open PySem PySem.Spec PyProof.Rows L2
/-! ### raising own exceptions -/
section
variable (P : Program) (w : World) (K : PySem.W.Frag) (mg : Str → Option Value) (base : Heap)
/-- the exception class x, made by an __init__ that keeps sp -/
def Er (x : Str) (C : Addr) (sp : Sp) : Prop := OexC K C ∧ ∃ (f : Addr) (fd : FuncData) (ps : List Str), FnOk P w K mg base (L2.CX P w) 1 f fd ps sp ∧ Binds K fd ps [] ∧ PySem.W.findIn K (.ref C) "__init__" = some (some (.ref f)) ∧ PySem.W.typeIn K (.ref f) = some (.type "function") ∧ mg x = some (.ref C)
/-- the exception class x without own __init__ -/
def Er0 (x : Str) (C : Addr) : Prop := PySem.W.excIn K C He.veBase "ValueError.__new__" = true ∧ PySem.W.keepIn K (.ref C) = true ∧ PySem.W.subIn K (.ref C) (.type "BaseException") = some true ∧ PySem.W.typeIn K (.ref C) = some (.type "type") ∧ mg x = some (.ref C)
end
section
variable {X : Cx} {W : WX} {x : Str} {C : Addr} {e e1 e2 : Expr} {te t1 t2 : TE} {p pos rp : Pos} {j : Nat}
theorem exo_sum {H : Hp} {a dx : Addr} {fs : List (Str × V)} {H2 : Hp} (n : H a = none) (k : ∀ b, b ≠ a → b ≠ dx → H2 b = H b) : upd (del H2 a) dx (.xd fs) = upd H dx (.xd fs) := by
  funext b
  by_cases h1 : b = dx
  · rw [h1, upd_same, upd_same]
  · rw [upd_ne h1, upd_ne h1]
    by_cases h2 : b = a
    · rw [h2, del_same, n]
    · rw [del_ne h2, k b h2 h1]
/-- any weaker wish -/
def tMon (t : TE) : TE := fun σ H Q => ∃ R : VK, t σ H R ∧ ∀ v H1, R v H1 → Q v H1
theorem pe_mon (h : PE X e te) : PE X e (tMon te) := ⟨fun pins s σ H Q I ⟨R, q, k⟩ => thn (h.run pins s σ H R I q) fun _ _ ⟨v, H1, J, r, z⟩ => ⟨v, H1, J, r, k v H1 z⟩⟩
/-- raise x(e): one field -/
theorem ps_raise1 {f : Str} (c : Er X.prog X.w X.K X.mg X.base x C (spE1 C f)) (hr : Room j X.A) (hc : X.calm = true) (tk : Takes X W) (he : PE X e te) (h2 : 2 ≤ j := by decide) (hg : Gl X x := by rfl) (hdb : (x == ("__debug__" : Str)) = false := by decide)
    (hs : starEach [e] X.env = (false, eval e X.env) :: starEach [] X.env := by rfl) :
    PS X (.Raise (some (.Call (.Name x p) [e] [] pos)) none rp) (fun _ σ H => te σ H fun v H1 => FmtOk v ∧ ∀ d, H1 d = none → W (.ref C) (some d) σ (upd H1 d (.xd [(f, v)]))) := by
  obtain ⟨T, fI, fd, ps, F, hb, hi, ht, hm⟩ := c
  refine ⟨fun pins s σ H D I h => (ps_raise hc tk (pmk_oex T hi ht F (hr.mono h2) hb .nil passL hg hm (pa_cons (pe_mon he) pa_nil hs) hdb hs rfl)).run pins s σ H D I ?_⟩
  refine ⟨_, h, fun v H1 ⟨hv, q⟩ => ⟨by show (1 : Nat) ≤ 1000; decide, fun a na => ⟨a, v, rfl, upd_same, hv, fun dx ndx nea => ⟨rfl, dx, [(f, v)], ?_, ?_, ?_, ?_⟩⟩⟩⟩
  · exact upd_same
  · rw [upd_ne nea, upd_same]
  · rw [upd_ne nea] at ndx
    exact ndx
  · rw [exo_sum (H := H1) na fun b h1 h2 => by rw [upd_ne h1, upd_ne h2, upd_ne h1]]
    rw [upd_ne nea] at ndx
    exact q dx ndx
/-- raise x(e1, e2): two fields -/
theorem ps_raise2 {f1 f2 : Str} (c : Er X.prog X.w X.K X.mg X.base x C (spE2 C f1 f2)) (hr : Room j X.A) (hc : X.calm = true) (tk : Takes X W) (h1 : PE X e1 t1) (h2 : PE X e2 t2) (h2' : 2 ≤ j := by decide) (hg : Gl X x := by rfl) (hdb : (x == ("__debug__" : Str)) = false := by decide)
    (hs : starEach [e1, e2] X.env = (false, eval e1 X.env) :: starEach [e2] X.env := by rfl) (hs2 : starEach [e2] X.env = (false, eval e2 X.env) :: starEach [] X.env := by rfl) (hpl : (backTo pos (starEach [e2] X.env)).any (·.1) = false := by rfl) :
    PS X (.Raise (some (.Call (.Name x p) [e1, e2] [] pos)) none rp) (fun _ σ H => t1 σ H fun v1 H1 => t2 σ H1 fun v2 H2 => FmtOk v1 ∧ FmtOk v2 ∧ ∀ d, H2 d = none → W (.ref C) (some d) σ (upd H2 d (.xd [(f2, v2), (f1, v1)]))) := by
  obtain ⟨T, fI, fd, ps, F, hb, hi, ht, hm⟩ := c
  refine ⟨fun pins s σ H D I h => (ps_raise hc tk (pmk_oex T hi ht F (hr.mono h2') hb .nil passL hg hm (pa_cons (pe_mon h1) (pa_cons (pe_mon h2) pa_nil hs2) hs) hdb hs hpl)).run pins s σ H D I ?_⟩
  refine ⟨_, h, fun v1 H1 g1 => ⟨_, g1, fun v2 H2 ⟨hv1, hv2, q⟩ => ⟨by show (2 : Nat) ≤ 1000; decide, fun a na => ⟨a, v1, v2, rfl, upd_same, hv1, hv2, fun dx ndx nea => ⟨rfl, dx, [(f2, v2), (f1, v1)], ?_, ?_, ?_, ?_⟩⟩⟩⟩⟩
  · rw [upd_ne (Ne.symm nea), upd_same]
  · rw [upd_same]
  · rw [upd_ne nea] at ndx
    exact ndx
  · rw [exo_sum (H := H2) na fun b h1 h2 => by rw [upd_ne h2, upd_ne h1, upd_ne h2, upd_ne h1]]
    rw [upd_ne nea] at ndx
    exact q dx ndx
/-- raise x() -/
theorem ps_raise0 (c : Er0 X.K X.mg x C) (hc : X.calm = true) (tk : Takes X W) (hg : Gl X x := by rfl) (hdb : (x == ("__debug__" : Str)) = false := by decide) :
    PS X (.Raise (some (.Call (.Name x p) [] [] pos)) none rp) (fun _ σ H => W (.ref C) none σ H) := by
  obtain ⟨q, kC, sC, tC, gC⟩ := c
  refine ⟨fun pins s σ H D I h => (ps_raise (t := fun _ H Q => Q (.ref C) none H) hc tk (fun pins s σ H Q I q1 => ?_)).run pins s σ H D I h⟩
  (refine wpAny_Call_Name_kw (ld_glob I hg gC ?_ hdb))
  refine PySem.W.callWith_K0 I.kIn kC ?_
  show wpAny _ _ (call (.ref C) []) _ _ _
  obtain ⟨bm, N, nm, qn, bs, hdct, sn, sub, ab, col, dd, k0, k1, k2, k3, k5, mN, hC, hN, hni, T⟩ := exc_obj I.kIn q
  exact wpAny_call_exc_subT F.excBase_ValueError T hC hN hni (fun h' e hm => mk_of I hm (raises_own sC tC) q1 (I.hok.gone hm.new)) (Nat.zero_le _)
end
end Hg
namespace Hg
open PySem PySem.Spec PyProof.Rows L2
/-! ### what the top leaves, as the walks use it -/
abbrev gA (K : PySem.W.Frag) (x : Str) : Addr := He.ga K x
def ex0L : List Str := ["HeapgameError", "StrategyDecides", "Loses", "ShutError"]
def raisedL : List Str := ["HeapgameError", "OutOfMemory", "NotAllowed", "NoRoom", "NoSuchObject", "NoSuchField", "StillUsed", "StrategyDecides", "Loses", "PowerCut", "ShutError"]
def caughtL : List Str := ["HeapgameError", "NoSuchObject", "NoSuchField", "StillUsed", "OutOfMemory", "NotAllowed", "NoRoom", "StrategyDecides", "PowerCut", "ShutError"]
/-- is x caught by y -/
def hits (x y : Str) : Bool := decide (x = y) || decide (y = ("HeapgameError" : Str))
structure Txt (P : Program) (K : PySem.W.Frag) (mg : Str → Option Value) : Prop where
  fact : ∀ f ∈ fa, f.ok K = true
  defs : ∀ d ∈ fn, ∃ fd, FunD K d.name d.qual d.params d.body d.scope (d.dvs K) (d.kws K) (He.fAd K d.at_) fd
  glo : ∀ x ∈ globs, mg x = some (.ref (gA K x))
  free : ∀ x ∈ frees, mg x = none
  mark : ∃ t, mg "MARK" = some (.int 170 t)
  words : ∀ H, SqT K H (gA K "WORDS") (wordL.map V.str)
  wordsD : ∃ o, K.lookup (gA K "WORDS") = some o ∧ o.cls = .type "tuple" ∧ o.dict = none
  exc : ∀ x ∈ excL, OexC K (gA K x) ∧ XfC K (gA K x)
  exc0 : ∀ x ∈ ex0L, PySem.W.excIn K (gA K x) He.veBase "ValueError.__new__" = true
  exn : ∀ p ∈ exiL, ∀ f ∈ p.2, PySem.W.findIn K (.ref (gA K p.1)) f = some none
  exm : ∀ x ∈ raisedL, ∀ y ∈ caughtL, PySem.W.exmOne K (.ref (gA K x)) (.ref (gA K y)) = some (hits x y)
  ini : ∀ p ∈ exiS, IniD P K (gA K p.1) (He.ma K (gA K p.1) "__init__") p.2 (p.1 ++ ".__init__")
  topS : (P.main.scope.names.lookup ("super" : Str)).isSome = false
section
variable {P : Program} {w : World} {K : PySem.W.Frag} {mg : Str → Option Value} {base : Heap}
theorem Txt.g (T : Txt P K mg) (x : Str) (h : globs.contains x = true := by decide +kernel) : mg x = some (.ref (gA K x)) := T.glo x (List.contains_iff_mem.mp h)
theorem Txt.n (T : Txt P K mg) (x : Str) (h : frees.contains x = true := by decide +kernel) : mg x = none := T.free x (List.contains_iff_mem.mp h)
theorem mem_map' {α β : Type} {f : α → β} {a : α} {l : List α} (h : a ∈ l) : f a ∈ l.map f := List.mem_map.mpr ⟨a, h, rfl⟩
theorem Txt.cls (T : Txt P K mg) (x : Str) (h : clsL.contains x = true := by decide +kernel) : Cls K (gA K x) :=
  He.cls_ok (T.fact (.cls x) (by simp only [fa, List.mem_append]; exact .inr (.inr (.inr (.inl (mem_map' (List.contains_iff_mem.mp h)))))))
theorem Txt.noat (T : Txt P K mg) (x f : Str) (h : noatL.contains (x, f) = true := by decide +kernel) : NoAttr K (gA K x) f :=
  He.noat_ok (x := x) (f := f) (T.fact (.noat x f) (by simp only [fa, List.mem_append]; exact .inr (.inr (.inr (.inr (.inl (mem_map' (f := fun p : Str × Str => He.Fa.noat p.1 p.2) (List.contains_iff_mem.mp h))))))))
theorem Txt.meth (T : Txt P K mg) (x m : Str) (h : methL.contains (x, m) = true := by decide +kernel) : Meth K (gA K x) m (He.ma K (gA K x) m) :=
  He.meth_ok (x := x) (m := m) (T.fact (.meth x m) (by simp only [fa, List.mem_append]; exact .inr (.inr (.inr (.inr (.inr (.inl (mem_map' (f := fun p : Str × Str => He.Fa.meth p.1 p.2) (List.contains_iff_mem.mp h)))))))))
theorem Txt.mkr (T : Txt P K mg) (x : Str) (h : clsL.contains x = true := by decide +kernel) : Mk K (gA K x) (He.ma K (gA K x) "__init__") :=
  He.mkr_ok (T.fact (.mkr x) (by simp only [fa, List.mem_append]; exact .inr (.inr (.inr (.inr (.inr (.inr (mem_map' (List.contains_iff_mem.mp h)))))))))
/-- a def of the module keeps sp, by its body -/
theorem cl_of (T : Txt P K mg) {x : Str} {st : Stmt} {k : Nat} {sp : Sp} {N ps : List Str} (hm : mkF x st ∈ fn) (hx : globs.contains x = true) (S : FnScope N ps (defScope st)) (hb : ∀ fd, FunD K x x (defArgs st) (defBody st) (defScope st) [] [] (He.fAd K (x, none)) fd → Binds K fd ps []) (len : ∀ vs H Q E, sp vs H Q E → vs.length = ps.length)
    (hbody : ∀ (cdv : Value) (A : Around) (outer : List Env) (s : Shared) (H : Hp) (vs : List V) (Q : VK) (E : XK), Room k (A.deeper (envOfC x (defScope st) s.heap.objs.size (gA K x) cdv)) → sp vs H Q E →
      ∃ t, PSs (bx P w K mg base N x (defScope st) (gA K x) cdv A outer s H E) (defBody st) t ∧ t { nx := fun _ H' => Q .non H', rt := Q } (start N vs) H) : Cl P w K mg base (k + 1) x sp := by
  obtain ⟨fd, F⟩ := T.defs _ hm
  exact ⟨gA K x, fd, ps, F.ok S len hbody, T.glo x (List.contains_iff_mem.mp hx), F.kp, hb fd F⟩
theorem mt_of (T : Txt P K mg) {C m q : Str} {st : Stmt} {k : Nat} {sp : Sp} {N ps : List Str} (hm : mkM C m q st ∈ fn) (hx : methL.contains (C, m) = true) (hc : clsL.contains C = true) (S : FnScope N ps (defScope st))
    (hb : ∀ fd, FunD K m q (defArgs st) (defBody st) (defScope st) [] [] (He.ma K (gA K C) m) fd → Binds K fd ps []) (len : ∀ vs H Q E, sp vs H Q E → vs.length = ps.length)
    (hbody : ∀ (cdv : Value) (A : Around) (outer : List Env) (s : Shared) (H : Hp) (vs : List V) (Q : VK) (E : XK), Room k (A.deeper (envOfC q (defScope st) s.heap.objs.size (He.ma K (gA K C) m) cdv)) → sp vs H Q E →
      ∃ t, PSs (bx P w K mg base N q (defScope st) (He.ma K (gA K C) m) cdv A outer s H E) (defBody st) t ∧ t { nx := fun _ H' => Q .non H', rt := Q } (start N vs) H) : Mt P w K mg base (k + 1) (gA K C) m sp := by
  obtain ⟨fd, F⟩ := T.defs _ hm
  exact ⟨_, fd, ps, F.ok S len hbody, T.meth C m hx, T.cls C hc, hb fd F⟩
theorem mr_of (T : Txt P K mg) {C q : Str} {st : Stmt} {k : Nat} {sp : Sp} {N ps : List Str} (hm : mkM C "__init__" q st ∈ fn) (hx : globs.contains C = true) (hc : clsL.contains C = true) (S : FnScope N ps (defScope st))
    (hb : ∀ fd, FunD K "__init__" q (defArgs st) (defBody st) (defScope st) [] [] (He.ma K (gA K C) "__init__") fd → Binds K fd ps []) (len : ∀ vs H Q E, sp vs H Q E → vs.length = ps.length)
    (hbody : ∀ (cdv : Value) (A : Around) (outer : List Env) (s : Shared) (H : Hp) (vs : List V) (Q : VK) (E : XK), Room k (A.deeper (envOfC q (defScope st) s.heap.objs.size (He.ma K (gA K C) "__init__") cdv)) → sp vs H Q E →
      ∃ t, PSs (bx P w K mg base N q (defScope st) (He.ma K (gA K C) "__init__") cdv A outer s H E) (defBody st) t ∧ t { nx := fun _ H' => Q .non H', rt := Q } (start N vs) H) : Mr P w K mg base (k + 1) C (gA K C) sp := by
  obtain ⟨fd, F⟩ := T.defs _ hm
  exact ⟨_, fd, ps, F.ok S len hbody, T.glo C (List.contains_iff_mem.mp hx), T.mkr C hc, hb fd F⟩
/-- binding: all parameters given -/
theorem b1 {K : PySem.W.Frag} {x q : Str} {pa : Arguments} {body : List Stmt} {sc : Scope} {f : Addr} {a : Str} (h : ∀ (kV doc pm : Value) (an : Option Addr) (cdv ct u : Value), bindArgs (PySem.W.fnOf x q pa body sc .none kV doc pm an cdv ct) ⟨[u], []⟩ = pure [(a, u)]) :
    ∀ fd, FunD K x q pa body sc [] [] f fd → Binds K fd [a] [] := fun _ F => F.bindsN fun kV doc pm an cdv ct us hl => match us, hl with | [_], _ => h kV doc pm an cdv ct _
theorem b2 {K : PySem.W.Frag} {x q : Str} {pa : Arguments} {body : List Stmt} {sc : Scope} {f : Addr} {a b : Str} (h : ∀ (kV doc pm : Value) (an : Option Addr) (cdv ct u v : Value), bindArgs (PySem.W.fnOf x q pa body sc .none kV doc pm an cdv ct) ⟨[u, v], []⟩ = pure [(a, u), (b, v)]) :
    ∀ fd, FunD K x q pa body sc [] [] f fd → Binds K fd [a, b] [] := fun _ F => F.bindsN fun kV doc pm an cdv ct us hl => match us, hl with | [_, _], _ => h kV doc pm an cdv ct _ _
theorem b3 {K : PySem.W.Frag} {x q : Str} {pa : Arguments} {body : List Stmt} {sc : Scope} {f : Addr} {a b c : Str} (h : ∀ (kV doc pm : Value) (an : Option Addr) (cdv ct u v z : Value), bindArgs (PySem.W.fnOf x q pa body sc .none kV doc pm an cdv ct) ⟨[u, v, z], []⟩ = pure [(a, u), (b, v), (c, z)]) :
    ∀ fd, FunD K x q pa body sc [] [] f fd → Binds K fd [a, b, c] [] := fun _ F => F.bindsN fun kV doc pm an cdv ct us hl => match us, hl with | [_, _, _], _ => h kV doc pm an cdv ct _ _ _
theorem b4 {K : PySem.W.Frag} {x q : Str} {pa : Arguments} {body : List Stmt} {sc : Scope} {f : Addr} {a b c d : Str} (h : ∀ (kV doc pm : Value) (an : Option Addr) (cdv ct u v z y : Value), bindArgs (PySem.W.fnOf x q pa body sc .none kV doc pm an cdv ct) ⟨[u, v, z, y], []⟩ = pure [(a, u), (b, v), (c, z), (d, y)]) :
    ∀ fd, FunD K x q pa body sc [] [] f fd → Binds K fd [a, b, c, d] [] := fun _ F => F.bindsN fun kV doc pm an cdv ct us hl => match us, hl with | [_, _, _, _], _ => h kV doc pm an cdv ct _ _ _ _
theorem b5 {K : PySem.W.Frag} {x q : Str} {pa : Arguments} {body : List Stmt} {sc : Scope} {f : Addr} {a b c d e : Str} (h : ∀ (kV doc pm : Value) (an : Option Addr) (cdv ct u v z y t : Value), bindArgs (PySem.W.fnOf x q pa body sc .none kV doc pm an cdv ct) ⟨[u, v, z, y, t], []⟩ = pure [(a, u), (b, v), (c, z), (d, y), (e, t)]) :
    ∀ fd, FunD K x q pa body sc [] [] f fd → Binds K fd [a, b, c, d, e] [] := fun _ F => F.bindsN fun kV doc pm an cdv ct us hl => match us, hl with | [_, _, _, _, _], _ => h kV doc pm an cdv ct _ _ _ _ _
end
/-! ### where the defs stand in fn -/
theorem fn_mem {d : He.DefD} (i : Nat) (h : fn[i]? = some d) : d ∈ fn := List.mem_of_getElem? h
end Hg
namespace Hg
open PySem PySem.Spec PyProof.Rows L2
/-! ### the head: what the top leaves -/
def Pg : Program := PySem.Challenge.pw_heapgame_k95_whole_power_cuts
/-- what an own __init__ of an exception is, besides -/
abbrev IniV : Type := Option (Str × Arguments × FuncBody × Scope × Addr × Addr)
def iniAd (K : PySem.W.Frag) (x : Str) : Addr := He.ma K (gA K x) "__init__"
def iniFn (K : PySem.W.Frag) (x : Str) : IniV := match K.lookup (iniAd K x) with
  | some ⟨_, _, .func fd, _⟩ => some (fd.qualname, fd.params, fd.body, fd.scope, fd.globals, fd.builtins)
  | _ => none
def iniVal (p : Str × Stmt) : IniV := some (p.1 ++ ".__init__", defArgs p.2, .stmts (defBody p.2), defScope p.2, mainGlobals, builtinsNs)
def cdaB (K : PySem.W.Frag) (a : Addr) : Bool := match K.lookup a with
  | some ⟨_, _, .fields vs, _⟩ => (match (vs[2]? : Option Value) with
    | some (.str file _) => (Pg.main.file : Str) == file
    | _ => false)
  | _ => false
def cellB (K : PySem.W.Frag) (a C : Addr) : Bool := match K.lookup a with
  | some ⟨_, _, .cell (some (.ref D)), _⟩ => decide (D = C)
  | _ => false
def iniB (K : PySem.W.Frag) (x : Str) : Bool := (match K.lookup (iniAd K x) with
  | some ⟨_, _, .func fd, _⟩ => (match fd.closure, fd.code, fd.defaults, fd.kwdefaults with
    | [(n, cell)], .ref cda, .none, .none => decide (n = "__class__") && (PySem.W.codeIn K (.ref cda) (x ++ ".__init__") && (cdaB K cda && cellB K cell (gA K x)))
    | _, _, _, _ => false)
  | _ => false) && ((PySem.W.clsIn K (gA K x)).isSome && (He.eqO (PySem.W.findIn K (.ref (gA K x)) "__init__") (some (some (.ref (iniAd K x)))) && (decide (PySem.W.typeIn K (.ref (iniAd K x)) = some (.type "function")) &&
  (decide (PySem.W.mroIn K (gA K x) (.ref (gA K x)) = some true) && (He.eqO (PySem.W.ks_superIn K (gA K x) (gA K x) "__init__") (some (some (.builtin "ValueError.__init__"))) && decide (PySem.W.subIn K (.ref (gA K x)) (.type "ValueError") = some true))))))
def excAll (K : PySem.W.Frag) : Bool := (excL.all fun x => oexB K (gA K x) && xfB K (gA K x)) && ((ex0L.all fun x => PySem.W.excIn K (gA K x) He.veBase "ValueError.__new__") && ((exiL.all fun p => p.2.all fun f => He.eqO (PySem.W.findIn K (.ref (gA K p.1)) f) (some none)) &&
  (raisedL.all fun x => caughtL.all fun y => decide (PySem.W.exmOne K (.ref (gA K x)) (.ref (gA K y)) = some (hits x y)))))
def wordsB (K : PySem.W.Frag) : Bool := He.tupB K "WORDS" (wordL.map He.Dv.str) && (match K.lookup (gA K "WORDS") with
  | some ⟨.type c, none, _, _⟩ => decide (c = "tuple")
  | _ => false)
def exAll (K : PySem.W.Frag) : Bool := excAll K && ((exiS.all fun p => iniB K p.1) && (wordsB K && He.eqO (PySem.W.nsIn K cStatics "thirdparty.any") (some none)))
def tf : List He.Defn := [("fits", none), ("is_relocation", none)]
/-- the addresses that the names reach in so many steps, each once: seen bears a bit an address -/
def addNew {α : Type} : List Addr → Nat → List Addr → (Nat → List Addr → α) → α
  | [], seen, new, k => k seen new
  | r :: rs, seen, new, k => HandSHeadRun.frNat r fun r => match Nat.beq (Nat.land (Nat.shiftRight seen r) 1) 1 with
    | true => addNew rs seen new k
    | false => HandSHeadRun.frNat (Nat.lor seen (Nat.shiftLeft 1 r)) fun seen => addNew rs seen (r :: new) k
def refsOf (g : Addr → Option Obj) (a : Addr) : List Addr := match g a with
  | some o => He.refsD o
  | none => []
def level {α : Type} (g : Addr → Option Obj) : List Addr → Nat → List Addr → (Nat → List Addr → α) → α
  | [], seen, new, k => k seen new
  | a :: as, seen, new, k => addNew (refsOf g a) seen new fun seen new => level g as seen new k
def bfs (g : Addr → Option Obj) : Nat → List Addr → Nat → List Addr → List Addr
  | 0, _, _, acc => acc
  | n + 1, fr, seen, acc => level g fr seen [] fun seen new => bfs g n new seen (acc ++ new)
def asY (g : Addr → Option Obj) : List Addr := bfs g 4 [mainGlobals] (Nat.shiftLeft 1 mainGlobals) [mainGlobals, cStatics]
def frY (g : Addr → Option Obj) : PySem.W.Frag := He.frT g (asY g)
abbrev AlY : Type := (He.AlD × Bool) × List IniV
def obsY (g : Addr → Option Obj) : AlY := ((He.obsD fa fn (frY g), exAll (frY g) && He.tabsB g tf (frY g)), exiS.map fun p => iniFn (frY g) p.1)
def valY : AlY := ((He.valD fn, true), exiS.map iniVal)
/-- what is told -/
structure SaysY (h : Heap) (K : PySem.W.Frag) : Prop where
  d : He.SaysD fa fn K
  ex : exAll K = true
  hd : ∀ p ∈ tf, PySem.W.codeHdIn K (He.cT K p).1 (He.cT K p).2 = true
  out : ∀ p ∈ tf, K.lookup (He.cT K p).2 = none
  empty : ∀ p ∈ tf, h.get? (He.cT K p).2 = some { cls := .none, data := .fields #[] }
  ini : exiS.map (fun p => iniFn K p.1) = exiS.map iniVal
theorem saysY_of {h : Heap} (e : obsY h.get? = valY) : SaysY h (frY h.get?) := by
  have e1 : He.obsD fa fn (frY h.get?) = He.valD fn := congrArg (fun z : AlY => z.1.1) e
  have e2 : (exAll (frY h.get?) && He.tabsB h.get? tf (frY h.get?)) = true := congrArg (fun z : AlY => z.1.2) e
  have e3 : exiS.map (fun p => iniFn (frY h.get?) p.1) = exiS.map iniVal := congrArg (fun z : AlY => z.2) e
  obtain ⟨h1, h2⟩ := He.ba e2
  have key : ∀ p ∈ tf, PySem.W.codeHdIn (frY h.get?) (He.cT (frY h.get?) p).1 (He.cT (frY h.get?) p).2 = true ∧ ∃ o, h.get? (He.cT (frY h.get?) p).2 = some o ∧ He.emptyTab o = true := fun p hp => by
    obtain ⟨h3, h4⟩ := He.ba (List.all_eq_true.mp h2 p hp)
    refine ⟨h3, ?_⟩
    split at h4
    · rename_i o q
      exact ⟨o, q, h4⟩
    · cases h4
  refine ⟨e1, h1, fun p hp => (key p hp).1, fun p hp => ?_, fun p hp => ?_, e3⟩
  · obtain ⟨_, o, q, z⟩ := key p hp
    exact He.frT_none q z
  · obtain ⟨_, o, q, z⟩ := key p hp
    rw [q, He.emptyTab_eq z]
def hookY : PySem.W.Hook where
  α := AlY
  obs := fun s => obsY s.heap.get?
  val := fun _ => valY
  says := fun _ h => ∃ K : PySem.W.Frag, K.In h ∧ SaysY h K
  of := fun _ _ e => ⟨_, He.frT_in, saysY_of e⟩
  keeps := fun _ _ _ ⟨K, hK, c⟩ k => ⟨K, PySem.W.Frag.In.keeps hK k, ⟨c.d, c.ex, c.hd, c.out, fun p hp => k _ _ (c.empty p hp), c.ini⟩⟩
def obY (s : PySem.W.SharedT) : AlY := obsY (HandSHeadRun.getT s)
theorem obY_eq (s : PySem.W.SharedT) : obY s = hookY.obs s.abs := by
  have e : HandSHeadRun.getT s = s.abs.heap.get? := funext (HandSHeadRun.getT_eq s)
  show obsY (HandSHeadRun.getT s) = obsY s.abs.heap.get?
  rw [e]
abbrev RwY : PySem.W.OpenRow := PySem.W.OpenLaw.row PySem.Challenge.rw_heapgame_k95_whole_power_cuts
end Hg
namespace Hg
open PySem PySem.W PySem.Calls PyProof.Rows
/-- the state behind the top -/
noncomputable def topY (w : World) (os : OsState) : Option PySem.W.SharedT := HandSHeadRun.endF (HandSHeadRun.stepQ (HandSHeadRun.denQ HandSHeadRun.tabQ) RwY.prog w) 12000 RwY.prog w os
noncomputable def seenY (s : PySem.W.SharedT) := HandSHeadRun.seenQ (PySem.W.view RwY.prog [84]) names (importedModules RwY.prog.main.body) (fun s => PySem.W.xlAt (PySem.W.view RwY.prog [84]) [] s && PySem.W.recOk RwY.toRowW.records s) s.abs
theorem runA (w : World) (os : OsState) : (topY w os).map (fun s => (HandSHeadRun.looksF RwY.prog (boot_heap w.params) s.abs, seenY s)) = some (true, PySem.W.openGood (PySem.W.view RwY.prog [84]) names) := by
  kernel_rfl
theorem runB (w : World) (os : OsState) : (topY w os).map (fun s => fa.all fun f => f.ok (frY (HandSHeadRun.getT s))) = some true := by
  kernel_rfl
theorem runD (w : World) (os : OsState) : (topY w os).map (fun s => (fn.all (fun d => d.ok (frY (HandSHeadRun.getT s))), fn.map fun d => He.fnW (frY (HandSHeadRun.getT s)) d.at_)) = some (true, fn.map He.DefD.val) := by
  kernel_rfl
theorem runC (w : World) (os : OsState) : (topY w os).map (fun s => (exAll (frY (HandSHeadRun.getT s)) && He.tabsB (HandSHeadRun.getT s) tf (frY (HandSHeadRun.getT s)), exiS.map fun p => iniFn (frY (HandSHeadRun.getT s)) p.1)) = some (true, exiS.map iniVal) := by
  kernel_rfl
theorem runY (w : World) : HandSHeadRun.RunEq RwY (PySem.W.view RwY.prog [84]) hookY obY 12000 names w := by
  intro os
  obtain ⟨s, e, h1⟩ := Option.map_eq_some_iff.mp (runA w os)
  have h2 := runB w os
  have h3 := runC w os
  have h4 := runD w os
  rw [e] at h2 h3 h4
  have h2 := Option.some.inj h2
  have h3 := Option.some.inj h3
  have h4 := Option.some.inj h4
  show (topY w os).map _ = _
  rw [e]
  refine congrArg some ?_
  show (HandSHeadRun.looksF RwY.prog (boot_heap w.params) s.abs, seenY s, ((((fa.all fun f => f.ok (frY (HandSHeadRun.getT s))) && fn.all fun d => d.ok (frY (HandSHeadRun.getT s)), fn.map fun d => He.fnW (frY (HandSHeadRun.getT s)) d.at_), exAll (frY (HandSHeadRun.getT s)) && He.tabsB (HandSHeadRun.getT s) tf (frY (HandSHeadRun.getT s))), exiS.map fun p => iniFn (frY (HandSHeadRun.getT s)) p.1)) = (true, PySem.W.openGood (PySem.W.view RwY.prog [84]) names, valY)
  have k1 := congrArg Prod.fst h1
  have k2 := congrArg Prod.snd h1
  have k3 := congrArg Prod.fst h3
  have k4 := congrArg Prod.snd h3
  have k5 := congrArg Prod.fst h4
  have k6 := congrArg Prod.snd h4
  dsimp only at h2 k1 k2 k3 k4 k5 k6
  rw [k1, k2, h2, k3, k4, k5, k6]
  rfl
end Hg
namespace Hg
open PySem PySem.Spec PyProof.Rows L2
/-! ### more words: ranges by lists, locks at statements, items of data -/
def rangeL (lo hi : Int) : List Int := (List.range (hi - lo).toNat).map fun i => lo + (i : Nat)
theorem rangeL_len (lo hi : Int) : (rangeL lo hi).length = (hi - lo).toNat := by
  unfold rangeL
  (rw [List.length_map, List.length_range])
theorem rangeL_at {lo hi : Int} {pre post : List Int} {x : Int} (h : rangeL lo hi = pre ++ x :: post) : x = lo + (pre.length : Nat) ∧ pre.length < (hi - lo).toNat := by
  have h1 : (rangeL lo hi)[pre.length]? = some x := by rw [h]; simp
  have h2 : pre.length < (rangeL lo hi).length := by rw [h]; simp
  rw [rangeL_len] at h2
  refine ⟨?_, h2⟩
  unfold rangeL at h1
  rw [List.getElem?_map, List.getElem?_range h2] at h1
  (exact (Option.some.inj h1).symm)
theorem rangeL_mem {lo hi x : Int} (h : x ∈ rangeL lo hi) : lo ≤ x ∧ x < hi := by
  unfold rangeL at h
  obtain ⟨i, hi', rfl⟩ := List.mem_map.mp h
  have := List.mem_range.mp hi'
  omega
theorem mem_rangeL {lo hi x : Int} (h1 : lo ≤ x) (h2 : x < hi) : x ∈ rangeL lo hi := by
  unfold rangeL
  exact List.mem_map.mpr ⟨(x - lo).toNat, List.mem_range.mpr (by omega), by omega⟩
/-- the turns of a range -/
def YR (lo hi : Int) : Nat → Hp → V → Hp → Prop := fun i H v H' => H' = H ∧ ∃ x, (rangeL lo hi)[i]? = some x ∧ v = .int x
theorem walk_r {lo hi : Int} : Walk (Itr lo (hi - lo).toNat) (rangeL lo hi).length (fun _ => True) (YR lo hi) := by
  rw [rangeL_len]
  refine walk_range.mono (fun _ h => h) fun i H x H' hi' _ y => ?_
  obtain ⟨e, ex⟩ := y
  refine ⟨e, lo + (i : Nat), ?_, ex⟩
  unfold rangeL
  rw [List.getElem?_map, List.getElem?_range hi']
  rfl
section
variable {K : PySem.W.Frag} {F : Addr → Prop} {H0 : Hp}
theorem for_r {lo hi : Int} {n : Nat} {g : TG} {tb : TS} {D : Ends} {σ : L2.St} {H : Hp} (hn : n = (hi - lo).toNat) (Pv : List Int → L2.St → Hp → Prop) (h0 : Pv [] σ H)
    (hs : ∀ pre x post σ H, rangeL lo hi = pre ++ x :: post → Pv pre σ H → g (.int x) σ H fun σ2 H2 => tb { D with nx := Pv (pre ++ [x]), ct := Pv (pre ++ [x]), bk := D.nx } σ2 H2) (hd : ∀ σ H, Pv (rangeL lo hi) σ H → D.nx σ H) :
    ∃ W : Nat → Nat → L2.St → Hp → Prop, (∃ m, W 0 m σ H) ∧ ∀ i m τ G, W i m τ G →
      ((Itr lo n).stop i G ∧ D.nx τ G) ∨ ((Itr lo n).go i G ∧ ∃ N : L2.St → Hp → Prop, (∀ τ' G', N τ' G' → ∃ m', m' < m ∧ W (i + 1) m' τ' G') ∧ ∀ x G', (Itr lo n).yld i G x G' → g x τ G' fun σ2 H2 => tb { D with nx := N, ct := N, bk := D.nx } σ2 H2) := by
  subst hn
  refine for_l (rangeL lo hi) walk_r Pv h0 (fun _ _ _ _ => trivial) (fun pre x post v σ H H' el p y => ?_) hd
  obtain ⟨rfl, z, e1, rfl⟩ := y
  rw [el, List.getElem?_append_right (Nat.le_refl _), Nat.sub_self] at e1
  cases e1
  exact hs pre x post σ _ el p
theorem lc_r {lo hi : Int} {n : Nat} {g : TG} {tt : TT} {te : TE} {vs : List Nat} {σ : L2.St} {H1 : Hp} {D : Addr} {Qd : Hp → Prop} (hn : n = (hi - lo).toNat) (Pv : List Int → Hp → Prop) (h0 : Pv [] (upd H1 D (.lst [])))
    (hs : ∀ pre x post H, rangeL lo hi = pre ++ x :: post → Pv pre H → g (.int x) (wipe σ vs) H fun σ2 H2 => wipe σ2 vs = wipe σ vs ∧ tt σ2 H2 fun b H3 =>
      if b = true then te σ2 H3 fun y H4 => ∃ acc, H4 D = some (.lst acc) ∧ acc.length < sizeLine ∧ Pv (pre ++ [x]) (upd H4 D (.lst (acc ++ [y]))) else Pv (pre ++ [x]) H3) (hd : ∀ H, Pv (rangeL lo hi) H → Qd H) :
    ∃ W : Nat → Nat → Hp → Prop, (∃ m, W 0 m (upd H1 D (.lst []))) ∧ ∀ i m G, W i m G →
      ((Itr lo n).stop i G ∧ Qd G) ∨ ((Itr lo n).go i G ∧ ∃ Nx : Hp → Prop, (∀ G', Nx G' → ∃ m', m' < m ∧ W (i + 1) m' G') ∧ ∀ x G', (Itr lo n).yld i G x G' → g x (wipe σ vs) G' fun σ2 H2 => wipe σ2 vs = wipe σ vs ∧ tt σ2 H2 fun b H3 =>
        if b = true then te σ2 H3 fun y H4 => ∃ av, H4 D = some (.lst av) ∧ av.length < sizeLine ∧ Nx (upd H4 D (.lst (av ++ [y]))) else Nx H3) := by
  subst hn
  refine lc_l (rangeL lo hi) walk_r Pv h0 (fun _ _ _ => trivial) (fun pre x post v H H' el p y => ?_) hd
  obtain ⟨rfl, z, e1, rfl⟩ := y
  rw [el, List.getElem?_append_right (Nat.le_refl _), Nat.sub_self] at e1
  cases e1
  exact hs pre x post _ el p
/-! zip of two lists of data -/
def encZ {α β : Type} (_ : α × β) : Unit := ()
theorem for_z {α β : Type} {e1 : α → PyData} {e2 : β → PyData} {l1 : List α} {l2 : List β} {a b : Addr} (h1 : DI K H0 (.ref a) (.list (l1.map e1))) (h2 : DI K H0 (.ref b) (.list (l2.map e2))) {g : TG} {tb : TS} {D : Ends} {σ : L2.St} {H : Hp} (Pv : List (α × β) → L2.St → Hp → Prop) (h0 : Pv [] σ H)
    (hG : ∀ pre σ H, Pv pre σ H → Le (imm H0) H)
    (hs : ∀ pre x post T v1 v2 σ H, l1.zip l2 = pre ++ x :: post → Pv pre σ H → H T = none → DI K H0 v1 (e1 x.1) → DI K H0 v2 (e2 x.2) → g (.ref T) σ (upd H T (.tup [v1, v2])) fun σ2 H2 => tb { D with nx := Pv (pre ++ [x]), ct := Pv (pre ++ [x]), bk := D.nx } σ2 H2)
    (hd : ∀ σ H, Pv (l1.zip l2) σ H → D.nx σ H) :
    ∃ W : Nat → Nat → L2.St → Hp → Prop, (∃ m, W 0 m σ H) ∧ ∀ i m τ G, W i m τ G →
      ((Itz K a b).stop i G ∧ D.nx τ G) ∨ ((Itz K a b).go i G ∧ ∃ N : L2.St → Hp → Prop, (∀ τ' G', N τ' G' → ∃ m', m' < m ∧ W (i + 1) m' τ' G') ∧ ∀ x G', (Itz K a b).yld i G x G' → g x τ G' fun σ2 H2 => tb { D with nx := N, ct := N, bk := D.nx } σ2 H2) := by
  obtain ⟨a', xs, ea, s1, d1⟩ := DI.lst_inv h1
  obtain ⟨b', ys, eb, s2, d2⟩ := DI.lst_inv h2
  cases ea
  cases eb
  have n1 : xs.length = l1.length := by rw [DpAll.length d1, List.length_map]
  have n2 : ys.length = l2.length := by rw [DpAll.length d2, List.length_map]
  refine for_l (l1.zip l2) ((walk_zip (by rw [n1, n2, List.length_zip])).mono (fun H (h : Le (imm H0) H) => ⟨SqL.le h s1, SqL.le h s2⟩) fun i H x H' _ _ y => y) Pv h0 hG (fun pre x post v σ H H' el p y => ?_) hd
  obtain ⟨T, x1, y1, rfl, hT, rfl, q1, q2⟩ := y
  obtain ⟨z1, g1, g2⟩ := DpAll.get d1 q1
  obtain ⟨z2, g3, g4⟩ := DpAll.get d2 q2
  have hz : (l1.zip l2)[pre.length]? = some x := by rw [el]; simp
  have hz' := List.getElem?_zip_eq_some.mp hz
  rw [List.getElem?_map, hz'.1] at g1
  rw [List.getElem?_map, hz'.2] at g3
  cases g1
  cases g3
  exact hs pre x post T _ _ σ _ el p hT g2 g4
theorem lc_z {α β : Type} {e1 : α → PyData} {e2 : β → PyData} {l1 : List α} {l2 : List β} {a b : Addr} (h1 : DI K H0 (.ref a) (.list (l1.map e1))) (h2 : DI K H0 (.ref b) (.list (l2.map e2))) {g : TG} {tt : TT} {te : TE} {vs : List Nat} {σ : L2.St} {H1 : Hp} {D : Addr} {Qd : Hp → Prop} (Pv : List (α × β) → Hp → Prop) (h0 : Pv [] (upd H1 D (.lst [])))
    (hG : ∀ pre H, Pv pre H → Le (imm H0) H)
    (hs : ∀ pre x post T v1 v2 H, l1.zip l2 = pre ++ x :: post → Pv pre H → H T = none → DI K H0 v1 (e1 x.1) → DI K H0 v2 (e2 x.2) → g (.ref T) (wipe σ vs) (upd H T (.tup [v1, v2])) fun σ2 H2 => wipe σ2 vs = wipe σ vs ∧ tt σ2 H2 fun b H3 =>
      if b = true then te σ2 H3 fun y H4 => ∃ acc, H4 D = some (.lst acc) ∧ acc.length < sizeLine ∧ Pv (pre ++ [x]) (upd H4 D (.lst (acc ++ [y]))) else Pv (pre ++ [x]) H3)
    (hd : ∀ H, Pv (l1.zip l2) H → Qd H) :
    ∃ W : Nat → Nat → Hp → Prop, (∃ m, W 0 m (upd H1 D (.lst []))) ∧ ∀ i m G, W i m G →
      ((Itz K a b).stop i G ∧ Qd G) ∨ ((Itz K a b).go i G ∧ ∃ Nx : Hp → Prop, (∀ G', Nx G' → ∃ m', m' < m ∧ W (i + 1) m' G') ∧ ∀ x G', (Itz K a b).yld i G x G' → g x (wipe σ vs) G' fun σ2 H2 => wipe σ2 vs = wipe σ vs ∧ tt σ2 H2 fun b H3 =>
        if b = true then te σ2 H3 fun y H4 => ∃ av, H4 D = some (.lst av) ∧ av.length < sizeLine ∧ Nx (upd H4 D (.lst (av ++ [y]))) else Nx H3) := by
  obtain ⟨a', xs, ea, s1, d1⟩ := DI.lst_inv h1
  obtain ⟨b', ys, eb, s2, d2⟩ := DI.lst_inv h2
  cases ea
  cases eb
  have n1 : xs.length = l1.length := by rw [DpAll.length d1, List.length_map]
  have n2 : ys.length = l2.length := by rw [DpAll.length d2, List.length_map]
  refine lc_l (l1.zip l2) ((walk_zip (by rw [n1, n2, List.length_zip])).mono (fun H (h : Le (imm H0) H) => ⟨SqL.le h s1, SqL.le h s2⟩) fun i H x H' _ _ y => y) Pv h0 hG (fun pre x post v H H' el p y => ?_) hd
  obtain ⟨T, x1, y1, rfl, hT, rfl, q1, q2⟩ := y
  obtain ⟨z1, g1, g2⟩ := DpAll.get d1 q1
  obtain ⟨z2, g3, g4⟩ := DpAll.get d2 q2
  have hz : (l1.zip l2)[pre.length]? = some x := by rw [el]; simp
  have hz' := List.getElem?_zip_eq_some.mp hz
  rw [List.getElem?_map, hz'.1] at g1
  rw [List.getElem?_map, hz'.2] at g3
  cases g1
  cases g3
  exact hs pre x post T _ _ _ el p hT g2 g4
end
/-! items of data -/
section
variable {K : PySem.W.Frag} {H : Hp} {a : Addr} {v : V} {ds : List PyData} {d : PyData}
theorem DI.at_list (h : DI K H (.ref a) (.list ds)) {j : Nat} (e : ds[j]? = some d) : ∃ xs v, SqL K (imm H) a xs ∧ atI xs (j : Int) = some v ∧ DI K H v d := by
  obtain ⟨a', xs, ea, hs, hd⟩ := DI.lst_inv h
  cases ea
  obtain ⟨v, hv, hd'⟩ := DpAll.at_ hd e
  exact ⟨xs, v, hs, atI_nat hv, hd'⟩
theorem DI.at_tup (h : DI K H (.ref a) (.tuple ds)) {j : Nat} (e : ds[j]? = some d) : ∃ xs v, SqT K (imm H) a xs ∧ atI xs (j : Int) = some v ∧ DI K H v d := by
  obtain ⟨a', xs, ea, hs, hd⟩ := DI.tup_inv h
  cases ea
  obtain ⟨v, hv, hd'⟩ := DpAll.at_ hd e
  exact ⟨xs, v, hs, atI_nat hv, hd'⟩
end
/-! ### a slot's list is locked behind a statement -/
section
variable {X : Cx} {st : Stmt} {t : TS}
/-- behind the statement the list in slot i is locked -/
def FrzN (K : PySem.W.Frag) (i : Nat) (N : L2.St → Hp → Prop) : L2.St → Hp → Prop := fun τ G => ∃ (p : Addr) (xs : List V) (ds : List PyData), τ[i]? = some (some (.ref p)) ∧ G p = some (.lst xs) ∧ DIs K G xs ds ∧
  ∀ H2, (∀ b, b ≠ p → H2 b = G b) → H2 p ≠ none → DI K H2 (.ref p) (.list ds) → N τ H2
def tFrzS (K : PySem.W.Frag) (i : Nat) (t : TS) : TS := fun D σ H => t { D with nx := FrzN K i D.nx } σ H
theorem ps_frz {i : Nat} (h : PS X st t) : PS X st (tFrzS X.K i t) := by
  (refine ⟨fun pins s σ H D I hq => ?_⟩)
  refine thn (h.run pins s σ H _ I hq) fun f s1 hs => ?_
  cases f with
  | next =>
    obtain ⟨τ, G, I1, p, xs, ds, e, hp, hd, k⟩ := hs
    obtain ⟨o, I2⟩ := I1.lock hp trivial
    exact ⟨τ, _, I2, k _ (fun b hb => upd_ne hb) (by rw [upd_same]; intro z; cases z) (DI.lstOf (o := o) upd_same (DpAll.le (imm_le_upd hp rfl) hd))⟩
  | brk => exact hs
  | cont => exact hs
  | ret u => exact hs
end
theorem Col.frz {K : PySem.W.Frag} {F : Addr → Prop} {H H1 : Hp} {p : Addr} {ds : List PyData} {n : Nat} {τ : L2.St} {i : Nat} {N : L2.St → Hp → Prop} (c : Col K F H p ds n H1) (np : H p = none) (e : τ[i]? = some (some (.ref p))) (hq : ∀ H', ExF F H H' → DI K H' (.ref p) (.list ds) → N τ H') :
    FrzN K i N τ H1 := by
  obtain ⟨acc, ha, hd⟩ := c.at_
  exact ⟨p, acc, ds, e, ha, hd, fun H2 k l d => hq H2 (c.ex.but np k l) d⟩
end Hg
namespace Hg
open PySem PySem.Spec PyProof.Rows L2
/-! ### layouts: mirrors -/
abbrev Lay : Type := List (Int × Int)
def encP (p : Int × Int) : PyData := .tuple [.int p.1, .int p.2]
def encL (l : Lay) : PyData := .list (l.map encP)
def encI (l : List Int) : PyData := .list (l.map PyData.int)
def gStep (r : Lay × Int) (b : Int × Int) : Lay × Int := (if b.1 > r.2 then r.1 ++ [(r.2, b.1 - r.2)] else r.1, b.1 + b.2)
theorem gStep_pos {r : Lay × Int} {b : Int × Int} (h : r.2 < b.1) : gStep r b = (r.1 ++ [(r.2, b.1 - r.2)], b.1 + b.2) := by
  unfold gStep
  rw [if_pos h]
theorem gStep_neg {r : Lay × Int} {b : Int × Int} (h : ¬ r.2 < b.1) : gStep r b = (r.1, b.1 + b.2) := by
  unfold gStep
  rw [if_neg h]
theorem foldl_snoc {α β : Type} (f : α → β → α) (i : α) (l : List β) (b : β) : (l ++ [b]).foldl f i = f (l.foldl f i) b := by
  rw [List.foldl_append]
  rfl
def gapsF (size : Int) (l : Lay) : Lay := let r := l.foldl gStep ([], 0); if r.2 < size then r.1 ++ [(r.2, size - r.2)] else r.1
theorem iteD {p : Prop} [Decidable p] {A B : Prop} (h1 : p → A) (h2 : ¬ p → B) : if decide p = true then A else B := by
  by_cases h : p
  · rw [decide_eq_true h]
    exact iteT (h1 h)
  · rw [decide_eq_false h]
    exact iteF (h2 h)
theorem itY {p : Prop} [Decidable p] {A B : Prop} (h : p) (a : A) : if decide p = true then A else B := iteD (fun _ => a) fun n => absurd h n
theorem itN {p : Prop} [Decidable p] {A B : Prop} (h : ¬ p) (b : B) : if decide p = true then A else B := iteD (fun y => absurd y h) fun _ => b
theorem itYn {p : Prop} [Decidable p] {A B : Prop} (h : p) (b : B) : if (!decide p) = true then A else B := by
  rw [decide_eq_true h]
  exact iteF b
theorem itNn {p : Prop} [Decidable p] {A B : Prop} (h : ¬ p) (a : A) : if (!decide p) = true then A else B := by
  rw [decide_eq_false h]
  exact iteT a
theorem refN {a : Addr} : ¬ V.ref a = V.non := fun z => by cases z
theorem intN {i : Int} : ¬ V.int i = V.non := fun z => by cases z
theorem ltL {n m : Nat} (h : n < m) (k : m ≤ 16000000) : n < sizeLine := by
  rw [sizeLine_eq]
  omega
theorem sz1 : (1 : Nat) ≤ sizeLine := by
  rw [sizeLine_eq]
  decide
theorem sz2 : (2 : Nat) ≤ sizeLine := by
  rw [sizeLine_eq]
  decide
theorem sz3 : (3 : Nat) ≤ sizeLine := by
  rw [sizeLine_eq]
  decide
theorem leL {n m : Nat} (h : n ≤ m) (k : m ≤ 16000000) : n ≤ sizeLine := by
  rw [sizeLine_eq]
  omega
section
variable {P : Program} {w : World} {K : PySem.W.Frag} {mg : Str → Option Value} {base : Heap}
/-- a list that was built is handed out, locked -/
theorem Col.out {K : PySem.W.Frag} {F : Addr → Prop} {H H1 : Hp} {p : Addr} {ds : List PyData} {n : Nat} {Q : VK} (c : Col K F H p ds n H1) (np : H p = none) (hq : ∀ H' u, ExF F H H' → DI K H' u (.list ds) → Q u H') :
    ∃ (q : Addr) (xs : List V) (es : List PyData), V.ref p = .ref q ∧ H1 q = some (.lst xs) ∧ DIs K H1 xs es ∧ ∀ H2, (∀ b, b ≠ q → H2 b = H1 b) → H2 q ≠ none → DI K H2 (.ref q) (.list es) → Q (.ref q) H2 := by
  obtain ⟨acc, ha, hd⟩ := c.at_
  exact ⟨p, acc, ds, rfl, ha, hd, fun H2 k l d => hq H2 _ (c.ex.but np k l) d⟩
theorem DI.pair_inv {K : PySem.W.Frag} {H : Hp} {v : V} {p : Int × Int} (h : DI K H v (encP p)) : ∃ a, v = .ref a ∧ SqT K (imm H) a [.int p.1, .int p.2] := by
  obtain ⟨a, xs, e, hs, hd⟩ := DI.tup_inv h
  cases hd with
  | cons h1 t => cases t with
    | cons h2 t2 =>
      cases t2
      cases h1
      cases h2
      exact ⟨a, e, hs⟩
theorem gStep_len (l : Lay) : ∀ r : Lay × Int, (l.foldl gStep r).1.length ≤ r.1.length + l.length := by
  induction l with
  | nil => intro r; exact Nat.le_refl _
  | cons b l ih =>
    intro r
    have h := ih (gStep r b)
    have h2 : (gStep r b).1.length ≤ r.1.length + 1 := by
      unfold gStep
      dsimp only
      split
      · simp
      · omega
    (simp only [List.foldl_cons, List.length_cons])
    omega
theorem DI.pairOf {K : PySem.W.Frag} {H : Hp} {p : Addr} {i j : Int} (h : H p = some (.tup [.int i, .int j])) : DI K H (.ref p) (encP (i, j)) := DI.tupOf h (.cons (.int _) (.cons (.int _) .nil))
def spGaps (K : PySem.W.Frag) : Sp := fun vs H Q _ => ∃ (size : Int) (l : Lay) (v : V), vs = [.int size, v] ∧ DI K H v (encL l) ∧ l.length ≤ 1000 ∧ ∀ H' u, Ex H H' → DI K H' u (encL (gapsF size l)) → Q u H'
theorem sc_gaps : FnScope ["size", "layout", "found", "end", "start", "length"] ["size", "layout"] (defScope s_gaps) := ⟨rfl, rfl, rfl, by decide +kernel, rfl, by decide +kernel, by decide +kernel⟩
theorem w_gaps (T : Txt P K mg) : Cl P w K mg base 1 "gaps" (spGaps K) := by
  have nd := sc_gaps.nd
  refine cl_of T (fn_mem 3 rfl) (by decide +kernel) sc_gaps (b2 fun _ _ _ _ _ _ _ _ => rfl) (fun vs H Q E ⟨_, _, _, e, _⟩ => by rw [e]; rfl) fun cdv A outer s H vs Q E hr ⟨size, l, v, e, hl, hz, hq⟩ => ?_
  subst e
  obtain ⟨a, xs0, rfl, hs0, hd0⟩ := DI.lst_inv hl
  refine ⟨_, (pss_cons (ps_set (i := 2) nd rfl (.inl rfl) (pe_lst pa_nil)) (pss_cons (ps_set (i := 3) nd rfl (.inl rfl) pe_int) (pss_cons (ps_for ps0 rfl (pi_list (pv 1)) (pg_tup rfl (pgs_cons (pg_name (i := 4) nd rfl (.inl rfl)) (pgs_cons (pg_name (i := 5) nd rfl (.inl rfl)) pgs_nil))) (pss_cons (ps_if (pt_cmpR op_gt (pv 4) (pv 3) (nomark _)) (pss_one (ps_expr (pe_bm PySem.F.plainAttrs_list PySem.F.slot_list_append PySem.F.type_list_append mt_append (pv 2) (pa_cons (pe_tup (pa_cons (pv 3) (pa_cons (pe_op op_sub (pv 4) (pv 3)) pa_nil))) pa_nil)))) pss_nil) (pss_one (ps_set (i := 3) nd rfl (.inl rfl) (pe_op op_add (pv 4) (pv 5)))))) (pss_cons (ps_if (pt_cmpR op_lt (pv 3) (pv 0) (nomark _)) (pss_one (ps_expr (pe_bm PySem.F.plainAttrs_list PySem.F.slot_list_append PySem.F.type_list_append mt_append (pv 2) (pa_cons (pe_tup (pa_cons (pv 3) (pa_cons (pe_op op_sub (pv 0) (pv 3)) pa_nil))) pa_nil)))) pss_nil) (pss_one (ps_ret (pe_frz (pv 2)))))))), ?_⟩
  refine ⟨Nat.zero_le _, fun p np => ?_⟩
  refine ⟨_, rfl, a, rfl, ⟨xs0, SqL.le (fun b o h => (Ex.new np : ExF NoF H _).imm b o h) hs0⟩, ?_⟩
  refine for_d (l := l) (enc := encP) hl (fun pre σ G => ∃ x y, σ = [some (.int size), some (.ref a), some (.ref p), some (.int (pre.foldl gStep ([], 0)).2), x, y] ∧ Col K NoF H p ((pre.foldl gStep ([], 0)).1.map encP) pre.length G) ?_ ?_ ?_ ?_
  · exact ⟨_, _, rfl, Col.start np⟩
  · intro pre σ G ⟨x, y, _, c⟩
    exact Le.of c.ex
  · intro pre b post v σ G el ⟨x, y, e, c⟩ hv
    subst e
    obtain ⟨ab, rfl, hsb⟩ := hv.pair_inv
    refine ⟨ab, _, rfl, SqT.le (Le.of c.ex) hsb, rfl, _, _, rfl, _, _, rfl, rfl, ?_⟩
    refine ⟨_, rfl, _, rfl, _, _, rfl, rfl, _, rfl, ?_⟩
    have hpre : pre.length < 1000 := by rw [el] at hz; simp at hz; omega
    rw [foldl_snoc, List.length_append]
    generalize List.foldl gStep ([], 0) pre = r at c ⊢
    refine iteD (fun h => ?_) fun h => ?_
    · obtain ⟨acc, ha, _⟩ := c.at_
      refine ⟨_, rfl, .inl ⟨rfl, _, SqL.of ha⟩, _, rfl, _, rfl, _, rfl, _, _, rfl, rfl, sz2, fun t nt => ?_⟩
      obtain ⟨acc2, h2, l2, c2⟩ := c.add np (ExF.of (Ex.new nt)) (fun z => z) (DI.pairOf upd_same) (ltL hpre (by decide))
      rw [gStep_pos h]
      refine ⟨p, _, _, rfl, rfl, h2, l2, _, rfl, _, rfl, _, _, rfl, rfl, _, _, rfl, ?_⟩
      rw [List.map_append]
      exact c2
    · rw [gStep_neg h]
      exact ⟨_, rfl, _, rfl, _, _, rfl, rfl, _, _, rfl, c.skip (ExF.refl _ _) fun z => z⟩
  · intro σ G ⟨x, y, e, c⟩
    subst e
    have hout : ∀ (H' : Hp) (u : V), Ex H H' → DI K H' u (.list ((gapsF size l).map encP)) → Q u H' := hq
    rw [gapsF] at hout
    generalize List.foldl gStep ([], 0) l = r at c hout ⊢
    refine ⟨_, rfl, _, rfl, _, _, rfl, rfl, _, rfl, iteD (fun h => ?_) fun h => ?_⟩
    · obtain ⟨acc, ha, _⟩ := c.at_
      refine ⟨_, rfl, .inl ⟨rfl, _, SqL.of ha⟩, _, rfl, _, rfl, _, rfl, _, _, rfl, rfl, sz2, fun t nt => ?_⟩
      obtain ⟨acc2, h2, l2, c2⟩ := c.add np (ExF.of (Ex.new nt)) (fun z => z) (DI.pairOf upd_same) (ltL (Nat.lt_succ_of_le hz) (by decide))
      refine ⟨p, _, _, rfl, rfl, h2, l2, _, rfl, c2.out np ?_⟩
      rw [if_pos h, List.map_append] at hout
      exact hout
    · refine ⟨_, rfl, c.out np ?_⟩
      rw [if_neg h] at hout
      exact hout
end
end Hg
namespace Hg
open PySem PySem.Spec PyProof.Rows L2
/-! ### is_layout, live_cells, slide_left -/
section
variable {P : Program} {w : World} {K : PySem.W.Frag} {mg : Str → Option Value} {base : Heap}
theorem yes_ok {σ : L2.St} {H : Hp} {R S : Hp → Prop} (h : R H) : tYes σ H (fun b G => if b = true then R G else S G) := by
  show if true = true then R H else S H
  rw [if_pos rfl]
  exact h
def liveF (l : Lay) : Int := (l.map (·.2)).sum
def spLive (K : PySem.W.Frag) : Sp := fun vs H Q _ => ∃ (l : Lay) (v : V), vs = [v] ∧ DI K H v (encL l) ∧ l.length ≤ 1000 ∧ ∀ H', Ex H H' → Q (.int (liveF l)) H'
abbrev N_live : List Str := ["layout", "start", "length"]
theorem sc_live : FnScope N_live ["layout"] (defScope s_live_cells) := ⟨rfl, rfl, rfl, by decide +kernel, rfl, by decide +kernel, by decide +kernel⟩
theorem w_live (T : Txt P K mg) : Cl P w K mg base 1 "live_cells" (spLive K) := by
  have nd := sc_live.nd
  refine cl_of T (fn_mem 2 rfl) (by decide +kernel) sc_live (b1 fun _ _ _ _ _ _ _ => rfl) (fun vs H Q E ⟨_, _, e, _⟩ => by rw [e]; rfl) fun cdv A outer s H vs Q E hr ⟨l, v, e, hl, hz, hq⟩ => ?_
  subst e
  obtain ⟨a, xs0, rfl, hs0, hd0⟩ := DI.lst_inv hl
  refine ⟨_, (pss_one (ps_ret (pe_callB (cr_sum rfl) (by rfl) (T.n "sum") (by decide +kernel) (pa_cons (pe_lc (own := [("start", 1), ("length", 2)]) (g := (gTup K 2 (gCons (gName 1) (gCons (gName 2) gNil)))) (tt := tYes) (te := _) rfl nd (pi_list (pv 0)) (blkOk_by (N := N_live) (sc := defScope s_live_cells) (by decide +kernel)) (fun _ _ _ _ _ => (pg_tup rfl (pgs_cons (pg_name (i := 1) nd rfl (.inl rfl)) (pgs_cons (pg_name (i := 2) nd rfl (.inl rfl)) pgs_nil)))) (fun _ _ _ _ _ => pts_nil) (fun _ _ _ _ _ => pv 2)) pa_nil)))), ?_⟩
  refine ⟨_, rfl, a, rfl, ⟨xs0, SqL.le (leI H) hs0⟩, fun D nD => ?_⟩
  refine lc_d (l := l) (enc := encP) hl (fun pre G => Col K NoF H D (pre.map fun p => .int p.2) pre.length G) (Col.start nD) (fun pre G c => Le.of c.ex) (fun pre b post v G el c hv => ?_) fun G c => ?_
  · obtain ⟨ab, rfl, hsb⟩ := hv.pair_inv
    refine ⟨ab, _, rfl, SqT.le (Le.of c.ex) hsb, rfl, _, _, rfl, _, _, rfl, rfl, rfl, yes_ok ⟨_, rfl, ?_⟩⟩
    rw [List.map_append, List.length_append]
    exact c.add nD (ExF.refl _ _) (fun z => z) (.int _) (ltL (show pre.length < 1000 by rw [el] at hz; simp at hz; omega) (by decide))
  · obtain ⟨acc, ha, hd⟩ := c.at_
    refine ⟨D, l.map (fun p : Int × Int => p.2), rfl, ?_, hq _ c.ex⟩
    rw [show (l.map fun p => PyData.int p.2) = (l.map (·.2)).map PyData.int by rw [List.map_map]; rfl] at hd
    rw [← DpAll.ints_inv hd]
    exact SqL.of ha
/-! is_layout -/
def isLayGo : Int → Lay → Option Int
  | e, [] => some e
  | e, (s, n) :: r => if s < e ∨ n < 1 then none else isLayGo (s + n) r
def isLayF (size : Int) (l : Lay) : Bool := match isLayGo 0 l with
  | some e => decide (e ≤ size)
  | none => false
theorem isLayGo_app : ∀ (l r : Lay) (e : Int), isLayGo e (l ++ r) = (isLayGo e l).bind fun e' => isLayGo e' r
  | [], _, _ => rfl
  | (s, n) :: l, r, e => by
    show (if s < e ∨ n < 1 then none else isLayGo (s + n) (l ++ r)) = Option.bind (if s < e ∨ n < 1 then none else isLayGo (s + n) l) _
    split
    · rfl
    · exact isLayGo_app l r (s + n)
def spIsLay (K : PySem.W.Frag) : Sp := fun vs H Q _ => ∃ (size : Int) (l : Lay) (v : V), vs = [.int size, v] ∧ DI K H v (encL l) ∧ Q (.bl (isLayF size l)) H
theorem sc_isLay : FnScope ["size", "layout", "end", "start", "length"] ["size", "layout"] (defScope s_is_layout) := ⟨rfl, rfl, rfl, by decide +kernel, rfl, by decide +kernel, by decide +kernel⟩
theorem w_isLay (T : Txt P K mg) : Cl P w K mg base 1 "is_layout" (spIsLay K) := by
  have nd := sc_isLay.nd
  refine cl_of T (fn_mem 1 rfl) (by decide +kernel) sc_isLay (b2 fun _ _ _ _ _ _ _ _ => rfl) (fun vs H Q E ⟨_, _, _, e, _⟩ => by rw [e]; rfl) fun cdv A outer s H vs Q E hr ⟨size, l, v, e, hl, hq⟩ => ?_
  subst e
  obtain ⟨a, xs0, rfl, hs0, hd0⟩ := DI.lst_inv hl
  refine ⟨_, (pss_cons (ps_set (i := 2) nd rfl (.inl rfl) pe_int) (pss_cons (ps_for ps0 rfl (pi_list (pv 1)) (pg_tup rfl (pgs_cons (pg_name (i := 3) nd rfl (.inl rfl)) (pgs_cons (pg_name (i := 4) nd rfl (.inl rfl)) pgs_nil))) (pss_cons (ps_if (PW.pt (pw_or (pt_cmpR op_lt (pv 3) (pv 2) (nomark _)) (pw_or1 (pt_cmpR op_lt (pv 4) pe_int (nomark _))))) (pss_one (ps_ret pe_bl)) pss_nil) (pss_one (ps_set (i := 2) nd rfl (.inl rfl) (pe_op op_add (pv 3) (pv 4)))))) (pss_one (ps_ret (pe_cmp (pc_le (pv 2) (pv 0)) rfl))))), ?_⟩
  refine ⟨_, rfl, a, rfl, ⟨xs0, SqL.le (leI H) hs0⟩, ?_⟩
  refine for_d (l := l) (enc := encP) hl (fun pre σ G => ∃ e x y, isLayGo 0 pre = some e ∧ G = H ∧ σ = [some (.int size), some (.ref a), some (.int e), x, y]) ?_ ?_ ?_ ?_
  · exact ⟨0, _, _, rfl, rfl, rfl⟩
  · intro pre σ G ⟨_, _, _, _, e, _⟩
    rw [e]
    exact leI H
  · intro pre b post v σ G el ⟨e, x, y, h1, h2, h3⟩ hv
    subst h2 h3
    obtain ⟨ab, rfl, hsb⟩ := hv.pair_inv
    refine ⟨ab, _, rfl, SqT.le (leI _) hsb, rfl, _, _, rfl, _, _, rfl, rfl, ?_⟩
    have key : isLayGo 0 (pre ++ [b]) = if b.1 < e ∨ b.2 < 1 then none else some (b.1 + b.2) := by
      rw [isLayGo_app, h1]
      rfl
    have bad : (b.1 < e ∨ b.2 < 1) → isLayF size l = false := fun h => by
      unfold isLayF
      rw [el, show pre ++ b :: post = (pre ++ [b]) ++ post by simp, isLayGo_app, key, if_pos h]
      rfl
    refine ⟨_, rfl, _, rfl, _, _, rfl, rfl, _, rfl, iteD (fun h => ?_) fun h => ?_⟩
    · refine iteT ?_
      rw [bad (.inl h)] at hq
      exact hq
    · refine ⟨_, rfl, _, _, rfl, rfl, _, rfl, iteD (fun h' => ?_) fun h' => ?_⟩
      · rw [bad (.inr h')] at hq
        exact hq
      · refine ⟨_, rfl, _, rfl, _, _, rfl, rfl, b.1 + b.2, _, _, ?_, rfl, rfl⟩
        rw [key, if_neg (fun z => z.elim h h')]
  · intro σ G ⟨e, x, y, h1, h2, h3⟩
    subst h2 h3
    refine ⟨_, rfl, _, rfl, _, _, rfl, rfl, ?_⟩
    unfold isLayF at hq
    rw [h1] at hq
    exact hq
/-! [f x for x in range(..)], elements data -/
theorem lc_f {α : Type} {enc : α → PyData} {f : Int → α} {lo hi : Int} {n i : Nat} {te : TE} {vs : List Nat} {σ : L2.St} {H1 : Hp} {D : Addr} {Qd : Hp → Prop} (hn : n = (hi - lo).toNat) (nD : H1 D = none) (hz : (hi - lo).toNat ≤ 16000000) (hw : ∀ x, wipe ((wipe σ vs).set i (some (.int x))) vs = wipe σ vs)
    (hs : ∀ (x : Int) (G : Hp) (R : VK), lo ≤ x → x < hi → Ex H1 G → (∀ y G', Ex G G' → DI K G' y (enc (f x)) → R y G') → te ((wipe σ vs).set i (some (.int x))) G R) (hd : ∀ G, Col K NoF H1 D (((rangeL lo hi).map f).map enc) n G → Qd G) :
    ∃ W : Nat → Nat → Hp → Prop, (∃ m, W 0 m (upd H1 D (.lst []))) ∧ ∀ j m G, W j m G →
      ((Itr lo n).stop j G ∧ Qd G) ∨ ((Itr lo n).go j G ∧ ∃ Nx : Hp → Prop, (∀ G', Nx G' → ∃ m', m' < m ∧ W (j + 1) m' G') ∧ ∀ x G', (Itr lo n).yld j G x G' → gName i x (wipe σ vs) G' fun σ2 H2 => wipe σ2 vs = wipe σ vs ∧ tYes σ2 H2 fun b H3 =>
        if b = true then te σ2 H3 fun y H4 => ∃ av, H4 D = some (.lst av) ∧ av.length < sizeLine ∧ Nx (upd H4 D (.lst (av ++ [y]))) else Nx H3) := by
  refine lc_r hn (fun pre G => Col K NoF H1 D ((pre.map f).map enc) pre.length G) (Col.start nD) (fun pre x post G el c => ?_) fun G c => hd G (by rw [hn, ← rangeL_len]; exact c)
  obtain ⟨h1, h2⟩ := rangeL_at el
  refine ⟨hw x, yes_ok (hs x G _ (by omega) (by omega) c.ex fun y G' e dy => ?_)⟩
  rw [List.map_append, List.map_append, List.length_append]
  exact c.add nD e (fun z => z) dy (ltL (m := (hi - lo).toNat) h2 hz)
end
end Hg
namespace Hg
open PySem PySem.Spec PyProof.Rows L2
section
variable {P : Program} {w : World} {K : PySem.W.Frag} {mg : Str → Option Value} {base : Heap}
/-! ### slide_left -/
def slStep (r : Lay × Int) (b : Int × Int) : Lay × Int := (r.1 ++ [(r.2, b.2)], r.2 + b.2)
def slideF (l : Lay) : Lay := (l.foldl slStep ([], 0)).1
def spSlide (K : PySem.W.Frag) : Sp := fun vs H Q _ => ∃ (z v : V) (l : Lay), vs = [z, v] ∧ DI K H v (encL l) ∧ l.length ≤ 1000 ∧ ∀ H' u, Ex H H' → DI K H' u (encL (slideF l)) → Q u H'
abbrev N_slide : List Str := ["size", "layout", "result", "end", "start", "length"]
theorem sc_slide : FnScope N_slide ["size", "layout"] (defScope s_slide_left) := ⟨rfl, rfl, rfl, by decide +kernel, rfl, by decide +kernel, by decide +kernel⟩
theorem w_slide (T : Txt P K mg) : Cl P w K mg base 1 "slide_left" (spSlide K) := by
  have nd := sc_slide.nd
  refine cl_of T (fn_mem 20 rfl) (by decide +kernel) sc_slide (b2 fun _ _ _ _ _ _ _ _ => rfl) (fun vs H Q E ⟨_, _, _, e, _⟩ => by rw [e]; rfl) fun cdv A outer s H vs Q E hr ⟨z, v, l, e, hl, hz, hq⟩ => ?_
  subst e
  obtain ⟨a, xs0, rfl, hs0, hd0⟩ := DI.lst_inv hl
  refine ⟨_, (pss_cons (ps_set (i := 2) nd rfl (.inl rfl) (pe_lst pa_nil)) (pss_cons (ps_set (i := 3) nd rfl (.inl rfl) pe_int) (pss_cons (ps_for ps0 rfl (pi_list (pv 1)) (pg_tup rfl (pgs_cons (pg_name (i := 4) nd rfl (.inl rfl)) (pgs_cons (pg_name (i := 5) nd rfl (.inl rfl)) pgs_nil))) (pss_cons (ps_expr (pe_bm PySem.F.plainAttrs_list PySem.F.slot_list_append PySem.F.type_list_append mt_append (pv 2) (pa_cons (pe_tup (pa_cons (pv 3) (pa_cons (pv 5) pa_nil))) pa_nil))) (pss_one (ps_aug (i := 3) nd rfl (.inl rfl) (pv 5) ip_add)))) (pss_one (ps_ret (pe_frz (pv 2))))))), ?_⟩
  refine ⟨Nat.zero_le _, fun p np => ?_⟩
  refine ⟨_, rfl, a, rfl, ⟨xs0, SqL.le (fun b o h => (Ex.new np : ExF NoF H _).imm b o h) hs0⟩, ?_⟩
  refine for_d (l := l) (enc := encP) hl (fun pre σ G => ∃ x y, σ = [some z, some (.ref a), some (.ref p), some (.int (pre.foldl slStep ([], 0)).2), x, y] ∧ Col K NoF H p ((pre.foldl slStep ([], 0)).1.map encP) pre.length G) ?_ ?_ ?_ ?_
  · exact ⟨_, _, rfl, Col.start np⟩
  · intro pre σ G ⟨x, y, _, c⟩
    exact Le.of c.ex
  · intro pre b post v σ G el ⟨x, y, e, c⟩ hv
    subst e
    obtain ⟨ab, rfl, hsb⟩ := hv.pair_inv
    refine ⟨ab, _, rfl, SqT.le (Le.of c.ex) hsb, rfl, _, _, rfl, _, _, rfl, rfl, ?_⟩
    have hpre : pre.length < 1000 := by rw [el] at hz; simp at hz; omega
    rw [foldl_snoc, List.length_append]
    generalize List.foldl slStep ([], 0) pre = r at c ⊢
    obtain ⟨acc, ha, _⟩ := c.at_
    refine ⟨_, rfl, .inl ⟨rfl, _, SqL.of ha⟩, _, rfl, _, rfl, sz2, fun t nt => ?_⟩
    obtain ⟨acc2, h2, l2, c2⟩ := c.add np (ExF.of (Ex.new nt)) (fun z => z) (DI.pairOf upd_same) (ltL hpre (by decide))
    refine ⟨p, _, _, rfl, rfl, h2, l2, ⟨_, rfl, _, rfl, _, _, rfl, rfl, _, _, rfl, ?_⟩⟩
    show Col K NoF H p (List.map encP (r.1 ++ [(r.2, b.2)])) _ _
    rw [List.map_append]
    exact c2
  · intro σ G ⟨x, y, e, c⟩
    subst e
    exact ⟨_, rfl, c.out np hq⟩
/-! ### with_block, without -/
def leP (a b : Int × Int) : Bool := leD (encP a) (encP b)
def withF (l : Lay) (s n : Int) : Lay := (l ++ [(s, n)]).mergeSort leP
theorem sort_enc {α : Type} (enc : α → PyData) (l : List α) : (l.map enc).mergeSort leD = (l.mergeSort fun a b => leD (enc a) (enc b)).map enc :=
  (PySem.W.sort_maps (r := fun a b => leD (enc a) (enc b)) (s := leD) enc (fun _ _ _ _ => rfl)).symm
def spWith (K : PySem.W.Frag) : Sp := fun vs H Q _ => ∃ (v : V) (s n : Int) (l : Lay), vs = [v, .int s, .int n] ∧ DI K H v (encL l) ∧ l.length ≤ 1000 ∧ ∀ H' u, Ex H H' → DI K H' u (encL (withF l s n)) → Q u H'
abbrev N_with : List Str := ["layout", "start", "length"]
theorem sc_with : FnScope N_with N_with (defScope s_with_block) := ⟨rfl, rfl, rfl, by decide +kernel, rfl, by decide +kernel, by decide +kernel⟩
theorem encP_depth (p : Int × Int) : (encP p).depth ≤ 3 := by
  show PyData.depth (.tuple [.int p.1, .int p.2]) ≤ 3
  simp [PyData.depth, PyData.depthAll]
theorem alikeP (l : Lay) : PySem.W.AllAlike (l.map encP) := by
  intro d hd d' hd'
  obtain ⟨p, _, rfl⟩ := List.mem_map.mp hd
  obtain ⟨q, _, rfl⟩ := List.mem_map.mp hd'
  simp [encP, PySem.W.alike, PySem.W.alikeAll]
theorem sortableP (l : Lay) : PySem.W.Sortable (l.map encP) := .inl fun d hd => by
  obtain ⟨p, _, rfl⟩ := List.mem_map.mp hd
  exact ⟨_, _, rfl⟩
theorem depthP (l : Lay) : ∀ d ∈ l.map encP, d.depth ≤ 60 := fun d hd => by
  obtain ⟨p, _, rfl⟩ := List.mem_map.mp hd
  have := encP_depth p
  omega
theorem w_with (T : Txt P K mg) : Cl P w K mg base 1 "with_block" (spWith K) := by
  have nd := sc_with.nd
  refine cl_of T (fn_mem 5 rfl) (by decide +kernel) sc_with (b3 fun _ _ _ _ _ _ _ _ _ => rfl) (fun vs H Q E ⟨_, _, _, _, e, _⟩ => by rw [e]; rfl) fun cdv A outer s H vs Q E hr ⟨v, st, n, l, e, hl, hz, hq⟩ => ?_
  subst e
  obtain ⟨a, xs0, rfl, hs0, hd0⟩ := DI.lst_inv hl
  refine ⟨_, (pss_one (ps_ret (pe_frz (pe_callB (cr_sortD hr) (by rfl) (T.n "sorted") (by decide +kernel) (pa_cons (pe_op op_catR (pv 0) (pe_lst (pa_cons (pe_tup (pa_cons (pv 1) (pa_cons (pv 2) pa_nil))) pa_nil))) pa_nil))))), ?_⟩
  refine ⟨_, rfl, _, rfl, _, rfl, sz2, fun t nt => ⟨sz1, fun b nb => ?_⟩⟩
  have e1 : Ex H (upd H t (.tup [.int st, .int n])) := Ex.new nt
  have e2 : Ex H (upd (upd H t (.tup [.int st, .int n])) b (.lst [.ref t])) := e1.trans (Ex.new nb)
  have hs2 := SqL.le (fun b o h => e2.imm b o h) hs0
  have hlen : xs0.length ≤ 1000 := by rw [DpAll.length hd0, List.length_map]; exact hz
  refine ⟨a, b, xs0, _, rfl, rfl, hs2, SqL.of upd_same, leL (m := 1001) (Nat.add_le_add_right hlen 1) (by decide), fun c nc => ?_⟩
  have e3 := e2.trans (Ex.new (o := .lst (xs0 ++ [.ref t])) nc)
  have dt : DI K (upd (upd (upd H t (.tup [.int st, .int n])) b (.lst [.ref t])) c (.lst (xs0 ++ [.ref t]))) (.ref t) (encP (st, n)) := DI.ex (DI.ex (DI.pairOf upd_same) (Ex.new (F := NoF) nb)) (Ex.new (F := NoF) nc)
  refine ⟨c, _, (l ++ [(st, n)]).map encP, rfl, SqL.of upd_same, ?_, alikeP _, sortableP _, depthP _, fun q ys nq dys => ?_⟩
  · rw [List.map_append]
    exact DpAll.append (DIs.ex hd0 e3) (DpAll.one dt)
  · have e4 := e3.trans (Ex.new (o := .lst ys) nq)
    rw [sort_enc] at dys
    exact ⟨q, ys, _, rfl, upd_same, DIs.ex dys (Ex.new (F := NoF) nq), fun H2 k l d => hq H2 _ (e4.but (e3.gone nq) k l) d⟩
end
end Hg
namespace Hg
open PySem PySem.Spec PyProof.Rows L2
/-! ### places, first_place, place_block -/
/-- all blocks lie within 0 .. size, none is empty -/
def LayIn (size : Int) (l : Lay) : Prop := ∀ b ∈ l, 0 ≤ b.1 ∧ 1 ≤ b.2 ∧ b.1 + b.2 ≤ size
theorem gaps_in {size : Int} (h0 : 0 ≤ size) {l : Lay} (h : LayIn size l) : LayIn size (gapsF size l) := by
  have key : ∀ (l : Lay) (r : Lay × Int), LayIn size l → LayIn size r.1 → 0 ≤ r.2 → r.2 ≤ size → LayIn size (l.foldl gStep r).1 ∧ 0 ≤ (l.foldl gStep r).2 ∧ (l.foldl gStep r).2 ≤ size := by
    intro l
    induction l with
    | nil => intro r _ h1 h2 h3; exact ⟨h1, h2, h3⟩
    | cons b l ih =>
      intro r hl h1 h2 h3
      have hb := hl b (List.mem_cons_self ..)
      refine ih (gStep r b) (fun x hx => hl x (List.mem_cons_of_mem _ hx)) ?_ ?_ ?_
      · by_cases hlt : r.2 < b.1
        · rw [gStep_pos hlt]
          intro x hx
          (rcases List.mem_append.mp hx with hx | hx)
          · exact h1 x hx
          · rw [List.mem_singleton.mp hx]
            exact ⟨h2, by show 1 ≤ b.1 - r.2; omega, by show r.2 + (b.1 - r.2) ≤ size; omega⟩
        · rw [gStep_neg hlt]
          exact h1
      · show 0 ≤ b.1 + b.2
        omega
      · exact hb.2.2
  obtain ⟨k1, k2, k3⟩ := key l ([], 0) h (fun x hx => by cases hx) (Int.le_refl _) h0
  unfold gapsF
  dsimp only
  split
  · rename_i hlt
    intro x hx
    (rcases List.mem_append.mp hx with hx | hx)
    · exact k1 x hx
    · rw [List.mem_singleton.mp hx]
      exact ⟨k2, by show 1 ≤ size - (l.foldl gStep ([], 0)).2; omega, by show _ + (size - (l.foldl gStep ([], 0)).2) ≤ size; omega⟩
  · exact k1
theorem gaps_len (size : Int) (l : Lay) : (gapsF size l).length ≤ l.length + 1 := by
  have h := gStep_len l ([], 0)
  unfold gapsF
  dsimp only
  simp only [List.length_nil, Nat.zero_add] at h
  split
  · rw [List.length_append]
    simp
    exact h
  · omega
def plG (n : Int) (g : Int × Int) : List Int := rangeL g.1 (g.1 + g.2 - n + 1)
def placesF (size : Int) (l : Lay) (n : Int) : List Int := (gapsF size l).flatMap (plG n)
theorem plG_len {size n : Int} {g : Int × Int} (h : 0 ≤ g.1 ∧ 1 ≤ g.2 ∧ g.1 + g.2 ≤ size) (hs : size ≤ 1000) (hn : 1 ≤ n) : (plG n g).length ≤ 1000 := by
  unfold plG
  rw [rangeL_len]
  omega
theorem flat_len {size n : Int} (hs : size ≤ 1000) (hn : 1 ≤ n) : ∀ {l : Lay}, LayIn size l → (l.flatMap (plG n)).length ≤ l.length * 1000
  | [], _ => Nat.zero_le _
  | g :: l, h => by
    have h1 := plG_len (h g (List.mem_cons_self ..)) hs hn
    have h2 := flat_len hs hn (fun x hx => h x (List.mem_cons_of_mem _ hx) : LayIn size l)
    rw [List.flatMap_cons, List.length_append, List.length_cons]
    omega
theorem rgV_list (a b : Int) : rgV a b = (rangeL a b).map V.int := by
  unfold rgV rangeL
  rw [List.map_map]
  rfl
section
variable {P : Program} {w : World} {K : PySem.W.Frag} {mg : Str → Option Value} {base : Heap}
/-- sizes that a managed heap keeps -/
structure LayOk (size : Int) (l : Lay) : Prop where
  s0 : 0 ≤ size
  s1 : size ≤ 1000
  inn : LayIn size l
  len : l.length ≤ 1000
def spPlaces (K : PySem.W.Frag) : Sp := fun vs H Q _ => ∃ (size n : Int) (v : V) (l : Lay), vs = [.int size, v, .int n] ∧ DI K H v (encL l) ∧ LayOk size l ∧ 1 ≤ n ∧ n ≤ 1000 ∧ ∀ H' u, Ex H H' → DI K H' u (encI (placesF size l n)) → Q u H'
abbrev N_places : List Str := ["size", "layout", "length", "found", "start", "wide"]
theorem sc_places : FnScope N_places ["size", "layout", "length"] (defScope s_places) := ⟨rfl, rfl, rfl, by decide +kernel, rfl, by decide +kernel, by decide +kernel⟩
theorem w_places (T : Txt P K mg) : Cl P w K mg base 2 "places" (spPlaces K) := by
  have nd := sc_places.nd
  have c1 := w_gaps (w := w) (base := base) T
  refine cl_of T (fn_mem 25 rfl) (by decide +kernel) sc_places (b3 fun _ _ _ _ _ _ _ _ _ => rfl) (fun vs H Q E ⟨_, _, _, _, e, _⟩ => by rw [e]; rfl) fun cdv A outer s H vs Q E hr ⟨size, n, v, l, e, hl, ok, hn, hn2, hq⟩ => ?_
  subst e
  refine ⟨_, (pss_cons (ps_set (i := 3) nd rfl (.inl rfl) (pe_lst pa_nil)) (pss_cons (ps_for ps0 rfl (pi_list (pe_cl c1 hr takes0 (pa_cons (pv 0) (pa_cons (pv 1) pa_nil)))) (pg_tup rfl (pgs_cons (pg_name (i := 4) nd rfl (.inl rfl)) (pgs_cons (pg_name (i := 5) nd rfl (.inl rfl)) pgs_nil))) (pss_one (ps_set (i := 3) nd rfl (.inl rfl) (pe_op op_catR (pv 3) (pe_listRg rfl (by rfl) (T.n "list") (prg_2 (by rfl) (T.n "range") (pv 4) (pe_op op_add (pe_op op_sub (pe_op op_add (pv 4) (pv 5)) (pv 2)) pe_int))))))) (pss_one (ps_ret (pe_frz (pv 3)))))), ?_⟩
  refine ⟨Nat.zero_le _, fun p np => ?_⟩
  have e1 : Ex H (upd H p (.lst [])) := Ex.new np
  refine ⟨_, rfl, _, rfl, size, l, v, rfl, DI.ex hl e1, ok.len, fun H1 u e2 du => ?_⟩
  obtain ⟨a, xs0, rfl, hs0, hd0⟩ := DI.lst_inv du
  refine ⟨a, rfl, ⟨xs0, SqL.le (leI H1) hs0⟩, ?_⟩
  have hin := gaps_in ok.s0 ok.inn
  have hgl : (gapsF size l).length ≤ 1001 := by
    have := gaps_len size l
    have := ok.len
    omega
  refine for_d (l := gapsF size l) (enc := encP) du (fun pre σ G => ∃ q x y, σ = [some (.int size), some v, some (.int n), some (.ref q), x, y] ∧ H q = none ∧ G q = some (.lst ((pre.flatMap (plG n)).map V.int)) ∧ Ex H1 G ∧ Ex H G) ?_ ?_ ?_ ?_
  · exact ⟨p, _, _, rfl, np, e2.at upd_same, ExF.refl _ _, e1.trans e2⟩
  · intro pre σ G ⟨q, x, y, _, _, _, e, _⟩
    exact Le.of e
  · intro pre b post u σ G el ⟨q, x, y, e, nq, hqG, e3, e4⟩ hv
    subst e
    obtain ⟨ab, rfl, hsb⟩ := hv.pair_inv
    have hb : b ∈ gapsF size l := by rw [el]; simp
    have hb' := hin b hb
    have h1000 := ok.s1
    refine ⟨ab, _, rfl, SqT.le (Le.of e3) hsb, rfl, _, _, rfl, _, _, rfl, rfl, ?_⟩
    refine ⟨_, rfl, _, rfl, _, rfl, _, rfl, _, _, rfl, rfl, _, rfl, _, _, rfl, rfl, _, _, rfl, rfl, _, _, rfl, rfl, ⟨by omega, by omega, by omega, by omega, by omega⟩, fun t nt => ?_⟩
    have e5 : Ex G (upd G t (.lst (rgV b.1 (b.1 + b.2 - n + 1)))) := Ex.new nt
    have hpl : (pre.flatMap (plG n)).length ≤ pre.length * 1000 := flat_len ok.s1 hn fun x hx => hin x (by rw [el]; simp [hx])
    have hpre : pre.length ≤ 1001 := by rw [el] at hgl; simp at hgl; omega
    have hbl := plG_len hb' h1000 hn
    refine ⟨q, t, _, _, rfl, rfl, SqL.of (e5.at hqG), SqL.of upd_same, ?_, fun r nr => ⟨r, _, _, rfl, e4.gone (e5.gone nr), ?_, (e3.trans e5).trans (Ex.new nr), (e4.trans e5).trans (Ex.new nr)⟩⟩
    · rw [rgV_length, List.length_map, sizeLine_eq]
      unfold plG at hbl
      rw [rangeL_len] at hbl
      omega
    · rw [upd_same, rgV_list, List.flatMap_append, List.map_append]
      simp [plG]
  · intro σ G ⟨q, x, y, e, nq, hqG, e3, e4⟩
    subst e
    refine ⟨_, rfl, q, _, (placesF size l n).map PyData.int, rfl, hqG, DpAll.ints _, fun H2 k l d => hq H2 _ (e4.but nq k l) d⟩
/-! ### first_place -/
def encOI : Option Int → PyData
  | none => .none
  | some i => .int i
def oiV : Option Int → V
  | none => .non
  | some i => .int i
def firstF (found : List Int) (cursor : Int) : Option Int := match (found.filter fun s => decide (cursor ≤ s)) with
  | x :: _ => some x
  | [] => found.head?
def spFirst (K : PySem.W.Frag) : Sp := fun vs H Q _ => ∃ (v : V) (found : List Int) (cursor : Int), vs = [v, .int cursor] ∧ DI K H v (encI found) ∧ found.length ≤ 10000000 ∧ ∀ H', Ex H H' → Q (oiV (firstF found cursor)) H'
abbrev N_first : List Str := ["found", "cursor", "later", "start"]
theorem sc_first : FnScope N_first ["found", "cursor"] (defScope s_first_place) := ⟨rfl, rfl, rfl, by decide +kernel, rfl, by decide +kernel, by decide +kernel⟩
theorem w_first (T : Txt P K mg) : Cl P w K mg base 1 "first_place" (spFirst K) := by
  have nd := sc_first.nd
  refine cl_of T (fn_mem 26 rfl) (by decide +kernel) sc_first (b2 fun _ _ _ _ _ _ _ _ => rfl) (fun vs H Q E ⟨_, _, _, e, _⟩ => by rw [e]; rfl) fun cdv A outer s H vs Q E hr ⟨v, found, cursor, e, hl, hz, hq⟩ => ?_
  subst e
  obtain ⟨a, xs0, rfl, hs0, hd0⟩ := DI.lst_inv hl
  have hxs : xs0 = found.map V.int := DpAll.ints_inv hd0
  refine ⟨_, (pss_cons (ps_setLc (i := 2) (own := [("start", 3)]) (g := gName 3) (tt := _) (te := _) rfl nd rfl rfl (sw_true rfl rfl rfl (by decide +kernel)) (pi_list (pv 0)) (blkOk_by (N := N_first) (sc := defScope s_first_place) (by decide +kernel)) (fun _ _ _ _ _ => (pg_name (i := 3) nd rfl (.inl rfl) (.inr rfl))) (fun _ _ _ _ _ => pts_one (pt_cmpR op_ge (pv 3) (pv 1) (nomark _))) (fun _ _ _ _ _ => pv 3)) (pss_cons (ps_if (pt_truth (pv 2) (by intro _; rfl)) (pss_one (ps_ret (pe_ix ix_list (pv 2) pe_int (fun _ _ => rfl)))) pss_nil) (pss_cons (ps_if (pt_truth (pv 0) (by intro _; rfl)) (pss_one (ps_ret (pe_ix ix_list (pv 0) pe_int (fun _ _ => rfl)))) pss_nil) (pss_one (ps_ret pe_non))))), ?_⟩
  refine ⟨_, rfl, a, rfl, ⟨xs0, SqL.le (leI H) hs0⟩, fun D nD => ?_⟩
  refine lc_d (l := found) (enc := PyData.int) hl (fun pre G => Col K NoF H D ((pre.filter fun s => decide (cursor ≤ s)).map PyData.int) pre.length G) (Col.start nD) (fun pre G c => Le.of c.ex) (fun pre b post v G el c hv => ?_) fun G c => ?_
  · cases hv
    refine ⟨rfl, _, rfl, _, rfl, _, _, rfl, rfl, _, rfl, iteD (fun h => ?_) fun h => ?_⟩
    · refine ⟨_, rfl, ?_⟩
      rw [List.filter_append, List.map_append, List.length_append, show List.filter (fun s => decide (cursor ≤ s)) [b] = [b] from by simp [h]]
      exact c.add nD (ExF.refl _ _) (fun z => z) (.int _) (ltL (show pre.length < 10000000 by rw [el] at hz; simp at hz; omega) (by decide))
    · rw [List.filter_append, List.length_append, show List.filter (fun s => decide (cursor ≤ s)) [b] = [] from by simp [h], List.append_nil]
      exact c.skip (ExF.refl _ _) fun z => z
  · obtain ⟨acc, ha, hd⟩ := c.at_
    have ea : acc = (found.filter fun s => decide (cursor ≤ s)).map V.int := DpAll.ints_inv hd
    have hout : Q (oiV (firstF found cursor)) G := hq _ c.ex
    rw [firstF] at hout
    cases hf : found.filter (fun s => decide (cursor ≤ s)) with
    | cons x r =>
      rw [hf] at hout ea
      refine ⟨_, rfl, true, .inl ⟨acc, SqL.of ha, by rw [ea]; rfl⟩, iteT ⟨_, rfl, D, acc, 0, .int x, rfl, rfl, SqL.of ha, atI_nat (j := 0) (by rw [ea]; rfl), hout⟩⟩
    | nil =>
      rw [hf] at hout ea
      refine ⟨_, rfl, false, .inl ⟨acc, SqL.of ha, by rw [ea]; rfl⟩, iteF ?_⟩
      have hs1 := SqL.le (Le.of c.ex) hs0
      cases found with
      | nil => exact ⟨_, rfl, false, .inl ⟨xs0, hs1, by rw [hxs]; rfl⟩, iteF hout⟩
      | cons y r => exact ⟨_, rfl, true, .inl ⟨xs0, hs1, by rw [hxs]; rfl⟩, iteT ⟨_, rfl, a, xs0, 0, .int y, rfl, rfl, hs1, atI_nat (j := 0) (by rw [hxs]; rfl), hout⟩⟩
end
end Hg
namespace Hg
open PySem PySem.Spec PyProof.Rows L2
/-! ### place_block -/
def encO {α : Type} (enc : α → PyData) : Option α → PyData
  | none => .none
  | some a => enc a
def bStep (n : Int) (policy : Str) (best : Option (Int × Int)) (b : Int × Int) : Option (Int × Int) :=
  if b.2 < n then best else match best with
    | none => some b
    | some c => if V.str policy = V.str "best" ∧ b.2 < c.2 then some b else if V.str policy = V.str "worst" ∧ c.2 < b.2 then some b else some c
theorem bS1 {n : Int} {p : Str} {r : Option (Int × Int)} {b : Int × Int} (h : b.2 < n) : bStep n p r b = r := by
  unfold bStep
  rw [if_pos h]
theorem bS2 {n : Int} {p : Str} {b : Int × Int} (h : ¬ b.2 < n) : bStep n p none b = some b := by
  unfold bStep
  rw [if_neg h]
theorem bS3 {n : Int} {p : Str} {b c : Int × Int} (h : ¬ b.2 < n) : bStep n p (some c) b = if V.str p = V.str "best" ∧ b.2 < c.2 then some b else if V.str p = V.str "worst" ∧ c.2 < b.2 then some b else some c := by
  unfold bStep
  rw [if_neg h]
def placeF (size : Int) (l : Lay) (n : Int) (policy : Str) (cursor : Int) : Option Int :=
  if V.str policy = V.str "next" then firstF (placesF size l n) cursor else ((gapsF size l).foldl (bStep n policy) none).map (·.1)
section
variable {P : Program} {w : World} {K : PySem.W.Frag} {mg : Str → Option Value} {base : Heap}
theorem dec_non_ref {a : Addr} : decide (V.ref a = V.non) = false := by simp
theorem decT {p : Prop} [Decidable p] (h : p) : decide p = true := decide_eq_true h
def spPlace (K : PySem.W.Frag) : Sp := fun vs H Q _ => ∃ (size n cursor : Int) (policy : Str) (v : V) (l : Lay), vs = [.int size, v, .int n, .str policy, .int cursor] ∧ DI K H v (encL l) ∧ LayOk size l ∧ 1 ≤ n ∧ n ≤ 1000 ∧ ∀ H', Ex H H' → Q (oiV (placeF size l n policy cursor)) H'
abbrev N_place : List Str := ["size", "layout", "length", "policy", "cursor", "best", "start", "wide"]
theorem sc_place : FnScope N_place ["size", "layout", "length", "policy", "cursor"] (defScope s_place_block) := ⟨rfl, rfl, rfl, by decide +kernel, rfl, by decide +kernel, by decide +kernel⟩
theorem place_bind (F : ∃ fd, FunD K "place_block" "place_block" (defArgs s_place_block) (defBody s_place_block) (defScope s_place_block) [.int 0] [] (gA K "place_block") fd) :
    ∃ fd, FunD K "place_block" "place_block" (defArgs s_place_block) (defBody s_place_block) (defScope s_place_block) [.int 0] [] (gA K "place_block") fd ∧ Binds K fd ["size", "layout", "length", "policy", "cursor"] [] := by
  obtain ⟨fd, F⟩ := F
  refine ⟨fd, F, ?_⟩
  obtain ⟨ds, hd, hb⟩ := F.binds1 (ps := ["size", "layout", "length", "policy", "cursor"]) 5 1 (by simp) rfl (fun T kV doc pm an cdv ct us its h1 h2 => by
    match us, h1, its, h2 with
    | [a, b, c, d, e], _, [i], _ => exact ⟨_, rfl, rfl⟩)
  cases hd
  exact hb
theorem w_place (T : Txt P K mg) : Cl P w K mg base 3 "place_block" (spPlace K) := by
  have nd := sc_place.nd
  have c1 := w_gaps (w := w) (base := base) T
  have c2 := w_places (w := w) (base := base) T
  have c3 := w_first (w := w) (base := base) T
  obtain ⟨fd, F, hb⟩ := place_bind (T.defs dPlace (List.mem_cons_self ..))
  refine ⟨gA K "place_block", fd, _, F.ok sc_place (fun vs H Q E ⟨_, _, _, _, _, _, e, _⟩ => by rw [e]; rfl) ?_, T.g "place_block", F.kp, hb⟩
  intro cdv A outer s H vs Q E hr ⟨size, n, cursor, policy, v, l, e, hl, ok, hn, hn2, hq⟩
  subst e
  refine ⟨_, (pss_cons (ps_if (pt_cmpR op_eq (pv 3) pe_str (nomark _)) (pss_one (ps_ret (pe_cl c3 hr takes0 (pa_cons (pe_cl c2 hr takes0 (pa_cons (pv 0) (pa_cons (pv 1) (pa_cons (pv 2) pa_nil)))) (pa_cons (pv 4) pa_nil))))) pss_nil) (pss_cons (ps_set (i := 5) nd rfl (.inl rfl) pe_non) (pss_cons (ps_for ps0 rfl (pi_list (pe_cl c1 hr takes0 (pa_cons (pv 0) (pa_cons (pv 1) pa_nil)))) (pg_tup rfl (pgs_cons (pg_name (i := 6) nd rfl (.inl rfl)) (pgs_cons (pg_name (i := 7) nd rfl (.inl rfl)) pgs_nil))) (pss_cons (ps_if (pt_cmpR op_lt (pv 7) (pv 2) (nomark _)) (pss_one ps_continue) pss_nil) (pss_one (ps_if (pt_cmpR op_isN (pv 5) pe_non (nomark _)) (pss_one (ps_set (i := 5) nd rfl (.inl rfl) (pe_tup (pa_cons (pv 6) (pa_cons (pv 7) pa_nil))))) (pss_one (ps_if (PW.pt (pw_and (pt_cmpR op_eq (pv 3) pe_str (nomark _)) (pw_and1 (pt_cmpR op_lt (pv 7) (pe_ix ix_tup (pv 5) pe_int (fun _ _ => rfl)) (nomark _))))) (pss_one (ps_set (i := 5) nd rfl (.inl rfl) (pe_tup (pa_cons (pv 6) (pa_cons (pv 7) pa_nil))))) (pss_one (ps_if (PW.pt (pw_and (pt_cmpR op_eq (pv 3) pe_str (nomark _)) (pw_and1 (pt_cmpR op_gt (pv 7) (pe_ix ix_tup (pv 5) pe_int (fun _ _ => rfl)) (nomark _))))) (pss_one (ps_set (i := 5) nd rfl (.inl rfl) (pe_tup (pa_cons (pv 6) (pa_cons (pv 7) pa_nil))))) pss_nil)))))))) (pss_cons (ps_if (pt_cmpR op_isN (pv 5) pe_non (nomark _)) (pss_one (ps_ret pe_non)) pss_nil) (pss_one (ps_ret (pe_ix ix_tup (pv 5) pe_int (fun _ _ => rfl)))))))), ?_⟩
  refine ⟨_, rfl, rfl, _, rfl, iteD (fun h => ?_) fun h => ?_⟩
  · refine ⟨_, rfl, _, rfl, _, rfl, size, n, v, l, rfl, hl, ok, hn, hn2, fun H1 u e1 du => ⟨_, rfl, u, placesF size l n, cursor, rfl, du, ?_, fun H2 e2 => ?_⟩⟩
    · have h1 := flat_len ok.s1 hn (gaps_in ok.s0 ok.inn)
      have h2 := gaps_len size l
      have h3 := ok.len
      unfold placesF
      omega
    · have hh := hq H2 (e1.trans e2)
      rw [placeF, if_pos h] at hh
      exact hh
  · refine ⟨_, rfl, _, rfl, size, l, v, rfl, hl, ok.len, fun H1 u e1 du => ?_⟩
    obtain ⟨a, xs0, rfl, hs0, hd0⟩ := DI.lst_inv du
    refine ⟨a, rfl, ⟨xs0, SqL.le (leI H1) hs0⟩, ?_⟩
    refine for_d (l := gapsF size l) (enc := encP) du (fun pre σ G => ∃ z x y, σ = [some (.int size), some v, some (.int n), some (.str policy), some (.int cursor), some z, x, y] ∧ DI K G z (encO encP (pre.foldl (bStep n policy) none)) ∧ Ex H1 G) ?_ ?_ ?_ ?_
    · exact ⟨.non, _, _, rfl, .non, ExF.refl _ _⟩
    · intro pre σ G ⟨_, _, _, _, _, e⟩
      exact Le.of e
    · intro pre b post u σ G el ⟨z, x, y, e, dz, e2⟩ hv
      subst e
      obtain ⟨ab, rfl, hsb⟩ := hv.pair_inv
      refine ⟨ab, _, rfl, SqT.le (Le.of e2) hsb, rfl, _, _, rfl, _, _, rfl, rfl, ?_⟩
      rw [foldl_snoc]
      generalize List.foldl (bStep n policy) none pre = r at dz ⊢
      refine ⟨_, rfl, _, rfl, _, _, rfl, rfl, _, rfl, iteD (fun h1 => ?_) fun h1 => ?_⟩
      · refine ⟨z, _, _, rfl, ?_, e2⟩
        rw [bS1 h1]
        exact dz
      · have newB : ∀ t, G t = none → DI K (upd G t (.tup [.int b.1, .int b.2])) (.ref t) (encP b) ∧ Ex H1 (upd G t (.tup [.int b.1, .int b.2])) := fun t nt => ⟨DI.pairOf upd_same, e2.trans (Ex.new nt)⟩
        cases r with
        | none =>
          have ez := DI.non_inv dz
          subst ez
          refine ⟨_, rfl, rfl, _, rfl, itY rfl ⟨_, rfl, _, rfl, sz2, fun t nt => ⟨.ref t, _, _, rfl, ?_, (newB t nt).2⟩⟩⟩
          rw [bS2 h1]
          exact (newB t nt).1
        | some c =>
          obtain ⟨ca, rfl, hsc⟩ := DI.pair_inv dz
          have hsc2 := SqT.le (leI G) hsc
          refine ⟨_, rfl, rfl, _, rfl, itN refN ⟨_, rfl, rfl, _, rfl, iteD (fun h2 => ?_) fun h2 => ?_⟩⟩
          · refine ⟨_, rfl, _, rfl, ca, _, 1, .int c.2, rfl, rfl, hsc2, atI_nat (j := 1) rfl, _, _, rfl, rfl, _, rfl, iteD (fun h3 => ?_) fun h3 => ?_⟩
            · refine ⟨_, rfl, _, rfl, sz2, fun t nt => ⟨.ref t, _, _, rfl, ?_, (newB t nt).2⟩⟩
              rw [bS3 h1, if_pos ⟨h2, h3⟩]
              exact (newB t nt).1
            · refine ⟨_, rfl, rfl, _, rfl, iteD (fun h4 => ?_) fun h4 => ?_⟩
              · exfalso
                rw [h4] at h2
                exact absurd h2 (by decide)
              · refine ⟨.ref ca, _, _, rfl, ?_, e2⟩
                rw [bS3 h1, if_neg (fun z => h3 z.2), if_neg (fun z => h4 z.1)]
                exact dz
          · refine ⟨_, rfl, rfl, _, rfl, iteD (fun h4 => ?_) fun h4 => ?_⟩
            · refine ⟨_, rfl, _, rfl, ca, _, 1, .int c.2, rfl, rfl, hsc2, atI_nat (j := 1) rfl, _, _, rfl, rfl, _, rfl, iteD (fun h3 => ?_) fun h3 => ?_⟩
              · refine ⟨_, rfl, _, rfl, sz2, fun t nt => ⟨.ref t, _, _, rfl, ?_, (newB t nt).2⟩⟩
                rw [bS3 h1, if_neg (fun z => h2 z.1), if_pos ⟨h4, h3⟩]
                exact (newB t nt).1
              · refine ⟨.ref ca, _, _, rfl, ?_, e2⟩
                rw [bS3 h1, if_neg (fun z => h2 z.1), if_neg (fun z => h3 z.2)]
                exact dz
            · refine ⟨.ref ca, _, _, rfl, ?_, e2⟩
              rw [bS3 h1, if_neg (fun z => h2 z.1), if_neg (fun z => h4 z.1)]
              exact dz
    · intro σ G ⟨z, x, y, e, dz, e2⟩
      subst e
      have hh := hq G (e1.trans e2)
      rw [placeF, if_neg h] at hh
      generalize List.foldl (bStep n policy) none (gapsF size l) = r at dz hh
      cases r with
      | none =>
        have ez := DI.non_inv dz
        subst ez
        exact ⟨_, rfl, rfl, _, rfl, itY rfl hh⟩
      | some c =>
        obtain ⟨ca, rfl, hsc⟩ := DI.pair_inv dz
        exact ⟨_, rfl, rfl, _, rfl, itN refN ⟨_, rfl, ca, _, 0, .int c.1, rfl, rfl, SqT.le (leI G) hsc, atI_nat (j := 0) rfl, hh⟩⟩
end
end Hg
namespace Hg
open PySem PySem.Spec PyProof.Rows L2
/-! ### lesser, put_block, put_room -/
abbrev Plan : Type := Int × List Int × Int
def encPl (p : Plan) : PyData := .tuple [.int p.1, encI p.2.1, .int p.2.2]
theorem alikeInts : ∀ a b : List Int, PySem.W.alikeAll (a.map PyData.int) (b.map PyData.int) = true
  | [], _ => rfl
  | _ :: _, [] => rfl
  | x :: xs, y :: ys => by
    show (PySem.W.alike (.int x) (.int y) && PySem.W.alikeAll (xs.map PyData.int) (ys.map PyData.int)) = true
    rw [alikeInts xs ys]
    rfl
theorem alikePl (a b : Plan) : PySem.W.alike (encPl a) (encPl b) = true := by
  obtain ⟨p, l, s⟩ := a
  obtain ⟨q, m, t⟩ := b
  simp [encPl, encI, PySem.W.alike, PySem.W.alikeAll, alikeInts]
theorem depthInts (l : List Int) : PyData.depthAll (l.map PyData.int) ≤ 1 := by
  induction l with
  | nil => simp [PyData.depthAll]
  | cons x l ih =>
    (simp only [List.map_cons, PyData.depthAll, PyData.depth])
    omega
theorem depthPl (p : Plan) : (encPl p).depth ≤ 60 := by
  have := depthInts p.2.1
  simp only [encPl, encI, PyData.depth, PyData.depthAll]
  omega
def lesserF : Option Plan → Option Plan → Option Plan
  | none, o => o
  | some a, none => some a
  | some a, some b => if PySem.W.dataLt (encPl b) (encPl a) = true then some b else some a
section
variable {P : Program} {w : World} {K : PySem.W.Frag} {mg : Str → Option Value} {base : Heap}
theorem DI.plan_inv {H : Hp} {v : V} {p : Plan} (h : DI K H v (encPl p)) : ∃ a b, v = .ref a ∧ SqT K (imm H) a [.int p.1, .ref b, .int p.2.2] ∧ DI K H (.ref b) (encI p.2.1) := by
  obtain ⟨a, xs, e, hs, hd⟩ := DI.tup_inv h
  cases hd with
  | cons h1 t => cases t with
    | cons h2 t2 => cases t2 with
      | cons h3 t3 =>
        cases t3
        cases h1
        cases h3
        obtain ⟨b, ys, rfl, _, _⟩ := DI.lst_inv h2
        exact ⟨a, b, e, hs, h2⟩
theorem encPl_ne (p : Plan) : encPl p ≠ .none := fun z => by cases z
def spLesser (K : PySem.W.Frag) : Sp := fun vs H Q _ => ∃ (u v : V) (a b : Option Plan), vs = [u, v] ∧ DI K H u (encO encPl a) ∧ DI K H v (encO encPl b) ∧ ∀ z, DI K H z (encO encPl (lesserF a b)) → Q z H
abbrev N_lesser : List Str := ["one", "other"]
theorem sc_lesser : FnScope N_lesser N_lesser (defScope s_lesser) := ⟨rfl, rfl, rfl, by decide +kernel, rfl, by decide +kernel, by decide +kernel⟩
theorem w_lesser (T : Txt P K mg) : Cl P w K mg base 1 "lesser" (spLesser K) := by
  have nd := sc_lesser.nd
  refine cl_of T (fn_mem 21 rfl) (by decide +kernel) sc_lesser (b2 fun _ _ _ _ _ _ _ _ => rfl) (fun vs H Q E ⟨_, _, _, _, e, _⟩ => by rw [e]; rfl) fun cdv A outer s H vs Q E hr ⟨u, v, a, b, e, hu, hv, hq⟩ => ?_
  subst e
  refine ⟨_, (pss_cons (ps_if (PW.pt (pw_or (pt_cmpR op_isN (pv 0) pe_non (nomark _)) (pw_or1 (PW.pt (pw_and (pt_cmpR op_notN (pv 1) pe_non (nomark _)) (pw_and1 (pt_cmpR (op_ltD hr) (pv 1) (pv 0) (nomark _)))))))) (pss_one (ps_ret (pv 1))) pss_nil) (pss_one (ps_ret (pv 0)))), ?_⟩
  cases a with
  | none =>
    have := DI.non_inv hu
    subst this
    exact ⟨_, rfl, rfl, _, rfl, itY rfl (iteT ⟨_, rfl, hq _ hv⟩)⟩
  | some a =>
    obtain ⟨ua, ub, rfl, hs, hb⟩ := DI.plan_inv hu
    refine ⟨_, rfl, rfl, _, rfl, itN refN ?_⟩
    cases b with
    | none =>
      have := DI.non_inv hv
      subst this
      exact ⟨_, rfl, rfl, _, rfl, itYn rfl (iteF ⟨_, rfl, hq _ hu⟩)⟩
    | some b =>
      obtain ⟨va, vb, rfl, hs2, hb2⟩ := DI.plan_inv hv
      refine ⟨_, rfl, rfl, _, rfl, itNn refN ⟨_, rfl, _, rfl, encPl b, encPl a, hv, hu, alikePl _ _, encPl_ne _, depthPl _, _, rfl, ?_⟩⟩
      have hh : ∀ z, DI K H z (encO encPl (if PySem.W.dataLt (encPl b) (encPl a) = true then some b else some a)) → Q z H := hq
      cases h : PySem.W.dataLt (encPl b) (encPl a) with
      | true =>
        rw [h, if_pos rfl] at hh
        exact iteT ⟨_, rfl, hh _ hv⟩
      | false =>
        rw [h, if_neg (by decide)] at hh
        exact iteF ⟨_, rfl, hh _ hu⟩
/-! put_block -/
def pbStep (old n : Int) (rest : List (Option Plan)) (best : Option Plan) (start : Int) : Option Plan := match rest.getD (start + n).toNat none with
  | none => best
  | some p => lesserF best (some (if start = old then p.1 else p.1 + n, start :: p.2.1, p.2.2))
def putBlockF (size : Int) (b : Int × Int) (place : Int) (rest : List (Option Plan)) : Option Plan := (rangeL place (size - b.2 + 1)).foldl (pbStep b.1 b.2 rest) none
/-- the list has an item for each place, plans of at most m starts -/
structure RestOk (size : Int) (m : Nat) (rest : List (Option Plan)) : Prop where
  s0 : 0 ≤ size
  s1 : size ≤ 1000
  len : (rest.length : Int) = size + 1
  sm : ∀ p, some p ∈ rest → p.2.1.length ≤ m
theorem getD_of {α : Type} {l : List (Option α)} {j : Nat} (h : j < l.length) : l[j]? = some (l.getD j none) := by
  rw [List.getD_eq_getElem?_getD, List.getElem?_eq_getElem h]
  rfl
def spPutBlock (K : PySem.W.Frag) : Sp := fun vs H Q _ => ∃ (size place : Int) (bv rv : V) (b : Int × Int) (rest : List (Option Plan)) (m : Nat), vs = [.int size, bv, .bl false, .int place, rv] ∧ DI K H bv (encP b) ∧ DI K H rv (.list (rest.map (encO encPl))) ∧ RestOk size m rest ∧ m ≤ 5000 ∧ 0 ≤ place ∧ place ≤ 1001 ∧ 1 ≤ b.2 ∧ b.2 ≤ 1000 ∧
  ∀ H' z, Ex H H' → DI K H' z (encO encPl (putBlockF size b place rest)) → Q z H'
abbrev N_pb : List Str := ["size", "block", "is_pinned", "place", "rest", "old", "length", "best", "start", "later", "price"]
theorem sc_pb : FnScope N_pb ["size", "block", "is_pinned", "place", "rest"] (defScope s_put_block) := ⟨rfl, rfl, rfl, by decide +kernel, rfl, by decide +kernel, by decide +kernel⟩
theorem w_pb (T : Txt P K mg) : Cl P w K mg base 2 "put_block" (spPutBlock K) := by
  have nd := sc_pb.nd
  have c1 := w_lesser (w := w) (base := base) T
  refine cl_of T (fn_mem 22 rfl) (by decide +kernel) sc_pb (b5 fun _ _ _ _ _ _ _ _ _ _ _ => rfl) (fun vs H Q E ⟨_, _, _, _, _, _, _, e, _⟩ => by rw [e]; rfl) fun cdv A outer s H vs Q E hr ⟨size, place, bv, rv, b, rest, m, e, hb, hrs, ok, hm, p0, p1, n0, n1, hq⟩ => ?_
  subst e
  obtain ⟨ab, rfl, hsb⟩ := hb.pair_inv
  obtain ⟨ra, rxs, rfl, hsr, hdr⟩ := DI.lst_inv hrs
  refine ⟨_, (pss_cons (ps_asg (pv 1) (pg_tup rfl (pgs_cons (pg_name (i := 5) nd rfl (.inl rfl)) (pgs_cons (pg_name (i := 6) nd rfl (.inl rfl)) pgs_nil)))) (pss_cons (ps_set (i := 7) nd rfl (.inl rfl) pe_non) (pss_cons (ps_for ps0 rfl (pi_range2 (by rfl) (T.n "range") (pa_cons (pv 3) (pa_cons (pe_op op_add (pe_op op_sub (pv 0) (pv 6)) pe_int) pa_nil))) (pg_name (i := 8) nd rfl (.inl rfl)) (pss_cons (ps_if (PW.pt (pw_and (pt_truth (pv 2) (by intro _; rfl)) (pw_and1 (pt_cmpR op_ne (pv 8) (pv 5) (nomark _))))) (pss_one ps_continue) pss_nil) (pss_cons (ps_set (i := 9) nd rfl (.inl rfl) (pe_ix ix_list (pv 4) (pe_op op_add (pv 8) (pv 6)) (fun _ _ => rfl))) (pss_one (ps_if (pt_cmpR op_notN (pv 9) pe_non (nomark _)) (pss_cons (ps_set (i := 10) nd rfl (.inl rfl) (pe_ix ix_tup (pv 9) pe_int (fun _ _ => rfl))) (pss_cons (ps_if (pt_cmpR op_ne (pv 8) (pv 5) (nomark _)) (pss_one (ps_aug (i := 10) nd rfl (.inl rfl) (pv 6) ip_add)) pss_nil) (pss_one (ps_set (i := 7) nd rfl (.inl rfl) (pe_cl c1 hr takes0 (pa_cons (pv 7) (pa_cons (pe_tup (pa_cons (pv 10) (pa_cons (pe_frz (pe_op op_catR (pe_lst (pa_cons (pv 8) pa_nil)) (pe_ix ix_tup (pv 9) pe_int (fun _ _ => rfl)))) (pa_cons (pe_ix ix_tup (pv 9) pe_int (fun _ _ => rfl)) pa_nil)))) pa_nil))))))) pss_nil))))) (pss_one (ps_ret (pv 7)))))), ?_⟩
  refine ⟨_, rfl, ab, _, rfl, SqT.le (leI H) hsb, rfl, _, _, rfl, _, _, rfl, rfl, ?_⟩
  have h1000 := ok.s1
  have hs0 := ok.s0
  refine ⟨_, rfl, _, rfl, _, rfl, _, _, rfl, rfl, _, _, rfl, rfl, place, size - b.2 + 1, rfl, ⟨by omega, by omega, by omega, by omega⟩, ?_⟩
  refine for_r (lo := place) (hi := size - b.2 + 1) rfl (fun pre σ G => ∃ z x y t, σ = [some (.int size), some (.ref ab), some (.bl false), some (.int place), some (.ref ra), some (.int b.1), some (.int b.2), some z, x, y, t] ∧ DI K G z (encO encPl (pre.foldl (pbStep b.1 b.2 rest) none)) ∧ Ex H G) ?_ ?_ ?_
  · exact ⟨.non, _, _, _, rfl, .non, ExF.refl _ _⟩
  · intro pre x post σ G el ⟨z, x8, x9, x10, e, dz, e2⟩
    subst e
    have hx := rangeL_mem (show x ∈ rangeL place (size - b.2 + 1) by rw [el]; simp)
    have hj : (x + b.2).toNat < rest.length := by have := ok.len; omega
    have hjn : (((x + b.2).toNat : Nat) : Int) = x + b.2 := by omega
    obtain ⟨ys, lv, hs3, ha3, dl⟩ := DI.at_list hrs (j := (x + b.2).toNat) (d := encO encPl (rest.getD (x + b.2).toNat none)) (by rw [List.getElem?_map, getD_of hj]; rfl)
    rw [hjn] at ha3
    refine ⟨_, rfl, false, rfl, iteF (iteF ?_)⟩
    refine ⟨_, rfl, _, rfl, _, rfl, _, _, rfl, rfl, ra, ys, x + b.2, lv, rfl, rfl, SqL.le (Le.of e2) hs3, ha3, ?_⟩
    rw [foldl_snoc]
    generalize List.foldl (pbStep b.1 b.2 rest) none pre = r0 at dz ⊢
    unfold pbStep
    cases hg : rest.getD (x + b.2).toNat none with
    | none =>
      rw [hg] at dl
      have := DI.non_inv dl
      subst this
      exact ⟨_, rfl, rfl, _, rfl, itYn rfl ⟨z, _, _, _, rfl, dz, e2⟩⟩
    | some p =>
      rw [hg] at dl
      obtain ⟨la, lb, rfl, hsl, dlb⟩ := DI.plan_inv dl
      have hpm : p.2.1.length ≤ m := ok.sm p (by rw [← hg]; exact List.mem_of_getElem? (getD_of hj))
      have hsl2 := SqT.le (Le.of e2) hsl
      obtain ⟨lb', lxs, elb, hsl3, hdl3⟩ := DI.lst_inv dlb
      cases elb
      refine ⟨_, rfl, rfl, _, rfl, itNn refN ⟨_, rfl, la, _, 0, .int p.1, rfl, rfl, hsl2, atI_nat (j := 0) rfl, ?_⟩⟩
      refine ⟨_, rfl, _, rfl, rfl, _, rfl, ?_⟩
      have s1 : ∀ {q : Addr} {o : HO}, G q = none → Le (imm H) (upd G q o) := fun nq _ _ y => (Ex.new nq : ExF NoF G _).imm _ _ (e2.immI y)
      by_cases h : x = b.1
      · refine itYn (by rw [h]) ?_
        refine ⟨_, rfl, _, rfl, _, rfl, sz1, fun q nq => ⟨_, rfl, la, _, 1, .ref lb, rfl, rfl, SqT.le (s1 nq) hsl, atI_nat (j := 1) rfl, q, lb, _, lxs, rfl, rfl, SqL.of upd_same, SqL.le (s1 nq) hsl3, leL (m := 1 + m) (Nat.add_le_add_left (by rw [DpAll.length hdl3, List.length_map]; exact hpm) 1) (by omega), fun r nr => ?_⟩⟩
        have e3 : Ex G (upd (upd G q (.lst [.int x])) r (.lst ([.int x] ++ lxs))) := (Ex.new nq : Ex G _).trans (Ex.new nr)
        refine ⟨r, _, (x :: p.2.1).map PyData.int, rfl, upd_same, .cons (.int _) (DIs.ex hdl3 (e2.trans e3)), fun H2 k l d => ?_⟩
        have e5 : Ex G H2 := e3.but ((Ex.new (F := NoF) nq).gone nr) k l
        refine ⟨_, rfl, la, _, 2, .int p.2.2, rfl, rfl, SqT.le (Le.of (e2.trans e5)) hsl, atI_nat (j := 2) rfl, sz3, fun t nt => ?_⟩
        have e6 : Ex G (upd H2 t (.tup [.int (p.1), .ref r, .int p.2.2])) := e5.trans (Ex.new nt)
        refine ⟨z, .ref t, r0, some (if x = b.1 then p.1 else p.1 + b.2, x :: p.2.1, p.2.2), rfl, DI.ex dz e6, ?_, fun z' dz' => ⟨z', _, _, _, rfl, dz', e2.trans e6⟩⟩
        rw [if_pos h]
        exact DI.tupOf upd_same (.cons (.int _) (.cons (DI.ex d (Ex.new (F := NoF) nt)) (.cons (.int _) .nil)))
      · refine itNn (fun z => h (V.int.inj z)) ⟨_, rfl, _, rfl, _, _, rfl, rfl, ?_⟩
        refine ⟨_, rfl, _, rfl, _, rfl, sz1, fun q nq => ⟨_, rfl, la, _, 1, .ref lb, rfl, rfl, SqT.le (s1 nq) hsl, atI_nat (j := 1) rfl, q, lb, _, lxs, rfl, rfl, SqL.of upd_same, SqL.le (s1 nq) hsl3, leL (m := 1 + m) (Nat.add_le_add_left (by rw [DpAll.length hdl3, List.length_map]; exact hpm) 1) (by omega), fun r nr => ?_⟩⟩
        have e3 : Ex G (upd (upd G q (.lst [.int x])) r (.lst ([.int x] ++ lxs))) := (Ex.new nq : Ex G _).trans (Ex.new nr)
        refine ⟨r, _, (x :: p.2.1).map PyData.int, rfl, upd_same, .cons (.int _) (DIs.ex hdl3 (e2.trans e3)), fun H2 k l d => ?_⟩
        have e5 : Ex G H2 := e3.but ((Ex.new (F := NoF) nq).gone nr) k l
        refine ⟨_, rfl, la, _, 2, .int p.2.2, rfl, rfl, SqT.le (Le.of (e2.trans e5)) hsl, atI_nat (j := 2) rfl, sz3, fun t nt => ?_⟩
        have e6 : Ex G (upd H2 t (.tup [.int (p.1 + b.2), .ref r, .int p.2.2])) := e5.trans (Ex.new nt)
        refine ⟨z, .ref t, r0, some (if x = b.1 then p.1 else p.1 + b.2, x :: p.2.1, p.2.2), rfl, DI.ex dz e6, ?_, fun z' dz' => ⟨z', _, _, _, rfl, dz', e2.trans e6⟩⟩
        rw [if_neg h]
        exact DI.tupOf upd_same (.cons (.int _) (.cons (DI.ex d (Ex.new (F := NoF) nt)) (.cons (.int _) .nil)))
  · intro σ G ⟨z, x8, x9, x10, e, dz, e2⟩
    subst e
    exact ⟨_, rfl, hq G z e2 dz⟩
end
end Hg
namespace Hg
open PySem PySem.Spec PyProof.Rows L2
section
variable {P : Program} {w : World} {K : PySem.W.Frag} {mg : Str → Option Value} {base : Heap}
/-! ### put_room, cheapest_room -/
def prStep (n : Int) (done : List (Option Plan)) (best : Option Plan) (start : Int) : Option Plan := match done.getD (start + n).toNat none with
  | none => best
  | some p => lesserF best (some (p.1, p.2.1, start))
def putRoomF (size n place : Int) (done : List (Option Plan)) : Option Plan := (rangeL place (size - n + 1)).foldl (prStep n done) none
def spPutRoom (K : PySem.W.Frag) : Sp := fun vs H Q _ => ∃ (size n place : Int) (rv : V) (done : List (Option Plan)) (m : Nat), vs = [.int size, .int n, .int place, rv] ∧ DI K H rv (.list (done.map (encO encPl))) ∧ RestOk size m done ∧ 0 ≤ place ∧ place ≤ 1001 ∧ 1 ≤ n ∧ n ≤ 1000 ∧
  ∀ H' z, Ex H H' → DI K H' z (encO encPl (putRoomF size n place done)) → Q z H'
abbrev N_pr : List Str := ["size", "length", "place", "done", "best", "start", "later"]
theorem sc_pr : FnScope N_pr ["size", "length", "place", "done"] (defScope s_put_room) := ⟨rfl, rfl, rfl, by decide +kernel, rfl, by decide +kernel, by decide +kernel⟩
theorem w_pr (T : Txt P K mg) : Cl P w K mg base 2 "put_room" (spPutRoom K) := by
  have nd := sc_pr.nd
  have c1 := w_lesser (w := w) (base := base) T
  refine cl_of T (fn_mem 23 rfl) (by decide +kernel) sc_pr (b4 fun _ _ _ _ _ _ _ _ _ _ => rfl) (fun vs H Q E ⟨_, _, _, _, _, _, e, _⟩ => by rw [e]; rfl) fun cdv A outer s H vs Q E hr ⟨size, n, place, rv, done, m, e, hrs, ok, p0, p1, n0, n1, hq⟩ => ?_
  subst e
  obtain ⟨ra, rxs, rfl, hsr, hdr⟩ := DI.lst_inv hrs
  refine ⟨_, (pss_cons (ps_set (i := 4) nd rfl (.inl rfl) pe_non) (pss_cons (ps_for ps0 rfl (pi_range2 (by rfl) (T.n "range") (pa_cons (pv 2) (pa_cons (pe_op op_add (pe_op op_sub (pv 0) (pv 1)) pe_int) pa_nil))) (pg_name (i := 5) nd rfl (.inl rfl)) (pss_cons (ps_set (i := 6) nd rfl (.inl rfl) (pe_ix ix_list (pv 3) (pe_op op_add (pv 5) (pv 1)) (fun _ _ => rfl))) (pss_one (ps_if (pt_cmpR op_notN (pv 6) pe_non (nomark _)) (pss_one (ps_set (i := 4) nd rfl (.inl rfl) (pe_cl c1 hr takes0 (pa_cons (pv 4) (pa_cons (pe_tup (pa_cons (pe_ix ix_tup (pv 6) pe_int (fun _ _ => rfl)) (pa_cons (pe_ix ix_tup (pv 6) pe_int (fun _ _ => rfl)) (pa_cons (pv 5) pa_nil)))) pa_nil))))) pss_nil)))) (pss_one (ps_ret (pv 4))))), ?_⟩
  have h1000 := ok.s1
  have hs0 := ok.s0
  refine ⟨_, rfl, _, rfl, _, rfl, _, _, rfl, rfl, _, _, rfl, rfl, place, size - n + 1, rfl, ⟨by omega, by omega, by omega, by omega⟩, ?_⟩
  refine for_r (lo := place) (hi := size - n + 1) rfl (fun pre σ G => ∃ z x y, σ = [some (.int size), some (.int n), some (.int place), some (.ref ra), some z, x, y] ∧ DI K G z (encO encPl (pre.foldl (prStep n done) none)) ∧ Ex H G) ?_ ?_ ?_
  · exact ⟨.non, _, _, rfl, .non, ExF.refl _ _⟩
  · intro pre x post σ G el ⟨z, x8, x9, e, dz, e2⟩
    subst e
    have hx := rangeL_mem (show x ∈ rangeL place (size - n + 1) by rw [el]; simp)
    have hj : (x + n).toNat < done.length := by have := ok.len; omega
    have hjn : (((x + n).toNat : Nat) : Int) = x + n := by omega
    obtain ⟨ys, lv, hs3, ha3, dl⟩ := DI.at_list hrs (j := (x + n).toNat) (d := encO encPl (done.getD (x + n).toNat none)) (by rw [List.getElem?_map, getD_of hj]; rfl)
    rw [hjn] at ha3
    refine ⟨_, rfl, _, rfl, _, rfl, _, _, rfl, rfl, ra, ys, x + n, lv, rfl, rfl, SqL.le (Le.of e2) hs3, ha3, ?_⟩
    rw [foldl_snoc]
    generalize List.foldl (prStep n done) none pre = r0 at dz ⊢
    unfold prStep
    cases hg : done.getD (x + n).toNat none with
    | none =>
      rw [hg] at dl
      have := DI.non_inv dl
      subst this
      exact ⟨_, rfl, rfl, _, rfl, itYn rfl ⟨z, _, _, rfl, dz, e2⟩⟩
    | some p =>
      rw [hg] at dl
      obtain ⟨la, lb, rfl, hsl, dlb⟩ := DI.plan_inv dl
      have hsl2 := SqT.le (Le.of e2) hsl
      refine ⟨_, rfl, rfl, _, rfl, itNn refN ⟨_, rfl, _, rfl, la, _, 0, .int p.1, rfl, rfl, hsl2, atI_nat (j := 0) rfl, _, rfl, la, _, 1, .ref lb, rfl, rfl, hsl2, atI_nat (j := 1) rfl, _, rfl, sz3, fun t nt => ?_⟩⟩
      have e6 : Ex G (upd G t (.tup [.int p.1, .ref lb, .int x])) := Ex.new nt
      exact ⟨z, .ref t, r0, some (p.1, p.2.1, x), rfl, DI.ex dz e6, DI.tupOf upd_same (.cons (.int _) (.cons (DI.ex dlb (e2.trans e6)) (.cons (.int _) .nil))), fun z' dz' => ⟨z', _, _, rfl, dz', e2.trans e6⟩⟩
  · intro σ G ⟨z, x8, x9, e, dz, e2⟩
    subst e
    exact ⟨_, rfl, hq G z e2 dz⟩
theorem SqL.ex {K : PySem.W.Frag} {H G : Hp} {a : Addr} {xs : List V} (e : Ex H G) (h : SqL K H a xs) : SqL K G a xs := h.imp (fun r => r.imp (fun q => e.at q) fun ⟨o, q⟩ => ⟨o, e.at q⟩) id
def crStep (size n : Int) (r : List (Option Plan) × List (Option Plan)) (b : Int × Int) : List (Option Plan) × List (Option Plan) :=
  ((rangeL 0 (size + 1)).map fun pl => lesserF (putBlockF size b pl r.1) (putRoomF size n pl ((rangeL 0 (size + 1)).map fun pl => putBlockF size b pl r.2)), (rangeL 0 (size + 1)).map fun pl => putBlockF size b pl r.2)
def cr0d (size : Int) : List (Option Plan) := (rangeL 0 (size + 1)).map fun _ => some (0, [], 0)
def cr0 (size n : Int) : List (Option Plan) × List (Option Plan) := ((rangeL 0 (size + 1)).map fun pl => putRoomF size n pl (cr0d size), cr0d size)
def cheapF (size : Int) (l : Lay) (n : Int) : Option (List Int × Int × Int) := match (l.reverse.foldl (crStep size n) (cr0 size n)).1.getD 0 none with
  | none => none
  | some p => some (p.2.1, p.2.2, p.1)
def encRm (r : List Int × Int × Int) : PyData := .tuple [encI r.1, .int r.2.1, .int r.2.2]
theorem lesser_cases {a b : Option Plan} {R : Option Plan → Prop} (ha : R a) (hb : R b) : R (lesserF a b) := by
  cases a with
  | none => exact hb
  | some a => cases b with
    | none => exact ha
    | some b =>
      unfold lesserF
      dsimp only
      split
      · exact hb
      · exact ha
theorem foldl_inv {α β : Type} {f : α → β → α} {R : α → Prop} : ∀ {l : List β} {i : α}, R i → (∀ a b, b ∈ l → R a → R (f a b)) → R (l.foldl f i)
  | [], _, h, _ => h
  | b :: l, i, h, k => foldl_inv (l := l) (k i b (List.mem_cons_self ..) h) fun a c hc ha => k a c (List.mem_cons_of_mem _ hc) ha
/-- at most m starts -/
def Sm (m : Nat) (o : Option Plan) : Prop := ∀ p, o = some p → p.2.1.length ≤ m
theorem mem_of_getD {α : Type} {l : List (Option α)} {j : Nat} {p : α} (h : l.getD j none = some p) : some p ∈ l := by
  rw [List.getD_eq_getElem?_getD] at h
  cases e : l[j]? with
  | none => (rw [e] at h; cases h)
  | some x =>
    rw [e] at h
    have : x = some p := h
    rw [← this]
    exact List.mem_of_getElem? e
theorem pb_sm {size place : Int} {b : Int × Int} {rest : List (Option Plan)} {m : Nat} (h : ∀ p, some p ∈ rest → p.2.1.length ≤ m) : Sm (m + 1) (putBlockF size b place rest) := by
  unfold putBlockF
  refine foldl_inv (R := Sm (m + 1)) (fun p e => by cases e) fun a x _ ha => ?_
  unfold pbStep
  split
  · exact ha
  · rename_i p e
    refine lesser_cases (R := Sm (m + 1)) ha fun q hq => ?_
    cases hq
    have := h p (mem_of_getD e)
    simp
    omega
theorem pr_sm {size place n : Int} {rest : List (Option Plan)} {m : Nat} (h : ∀ p, some p ∈ rest → p.2.1.length ≤ m) : Sm m (putRoomF size n place rest) := by
  unfold putRoomF
  refine foldl_inv (R := Sm m) (fun p e => by cases e) fun a x _ ha => ?_
  unfold prStep
  split
  · exact ha
  · rename_i p e
    refine lesser_cases (R := Sm m) ha fun q hq => ?_
    cases hq
    exact h p (mem_of_getD e)
theorem rest_map {size : Int} {m : Nat} {f : Int → Option Plan} (s0 : 0 ≤ size) (s1 : size ≤ 1000) (h : ∀ pl, Sm m (f pl)) : RestOk size m ((rangeL 0 (size + 1)).map f) := ⟨s0, s1, by rw [List.length_map, rangeL_len]; omega, fun p hp => by
  obtain ⟨x, _, e⟩ := List.mem_map.mp hp
  exact h x p e⟩
theorem RestOk.mono {size : Int} {m k : Nat} {r : List (Option Plan)} (h : RestOk size m r) (hk : m ≤ k) : RestOk size k r := ⟨h.s0, h.s1, h.len, fun p hp => Nat.le_trans (h.sm p hp) hk⟩
theorem cr0_ok {size n : Int} (s0 : 0 ≤ size) (s1 : size ≤ 1000) : RestOk size 0 (cr0 size n).1 ∧ RestOk size 0 (cr0 size n).2 := by
  have h2 : RestOk size 0 (cr0 size n).2 := rest_map s0 s1 fun pl p e => by cases e; exact Nat.le_refl _
  exact ⟨rest_map s0 s1 fun pl => pr_sm h2.sm, h2⟩
theorem crStep_ok {size n : Int} {m : Nat} {r : List (Option Plan) × List (Option Plan)} {b : Int × Int} (h1 : RestOk size m r.1) (h2 : RestOk size m r.2) : RestOk size (m + 1) (crStep size n r b).1 ∧ RestOk size (m + 1) (crStep size n r b).2 := by
  have k2 : RestOk size (m + 1) (crStep size n r b).2 := rest_map h1.s0 h1.s1 fun pl => pb_sm h2.sm
  exact ⟨rest_map h1.s0 h1.s1 fun pl => lesser_cases (R := Sm (m + 1)) (pb_sm h1.sm) (pr_sm k2.sm), k2⟩
theorem cr_ok {size n : Int} (s0 : 0 ≤ size) (s1 : size ≤ 1000) : ∀ pre : Lay, RestOk size pre.length (pre.foldl (crStep size n) (cr0 size n)).1 ∧ RestOk size pre.length (pre.foldl (crStep size n) (cr0 size n)).2 := by
  have key : ∀ (pre : Lay) (r : List (Option Plan) × List (Option Plan)) (m : Nat), RestOk size m r.1 → RestOk size m r.2 → RestOk size (m + pre.length) (pre.foldl (crStep size n) r).1 ∧ RestOk size (m + pre.length) (pre.foldl (crStep size n) r).2 := by
    intro pre
    induction pre with
    | nil => intro r m h1 h2; exact ⟨h1, h2⟩
    | cons b pre ih =>
      intro r m h1 h2
      obtain ⟨k1, k2⟩ := crStep_ok (n := n) (b := b) h1 h2
      have := ih _ _ k1 k2
      rw [List.length_cons, show m + (pre.length + 1) = m + 1 + pre.length by omega]
      exact this
  intro pre
  have h := cr0_ok (n := n) s0 s1
  have := key pre _ 0 h.1 h.2
  rw [Nat.zero_add] at this
  exact this
def oRm (K : PySem.W.Frag) (H : Hp) (z : V) (r : Option (List Int × Int × Int)) : Prop := DI K H z (encO encRm r)
def spCheap (K : PySem.W.Frag) : Sp := fun vs H Q _ => ∃ (size n : Int) (v pv : V) (l : Lay), vs = [.int size, v, pv, .int n] ∧ DI K H v (encL l) ∧ (∃ p, pv = .ref p ∧ SqL K H p []) ∧ LayOk size l ∧ 1 ≤ n ∧ n ≤ 1000 ∧ ∀ H' z, Ex H H' → DI K H' z (encO encRm (cheapF size l n)) → Q z H'
abbrev N_cr : List Str := ["size", "layout", "pinned", "length", "done", "still", "index", "fixed", "later", "place"]
theorem sc_cr : FnScope N_cr ["size", "layout", "pinned", "length"] (defScope s_cheapest_room) := ⟨rfl, rfl, rfl, by decide +kernel, rfl, by decide +kernel, by decide +kernel⟩
theorem w_cr (T : Txt P K mg) : Cl P w K mg base 3 "cheapest_room" (spCheap K) := by
  have nd := sc_cr.nd
  have c1 := w_lesser (w := w) (base := base) T
  have c2 := w_pb (w := w) (base := base) T
  have c3 := w_pr (w := w) (base := base) T
  refine cl_of T (fn_mem 24 rfl) (by decide +kernel) sc_cr (b4 fun _ _ _ _ _ _ _ _ _ _ => rfl) (fun vs H Q E ⟨_, _, _, _, _, e, _⟩ => by rw [e]; rfl) fun cdv A outer s H vs Q E hr ⟨size, n, v, pv0, l, e, hl, ⟨pa, ep, hp⟩, ok, n0, n1, hq⟩ => ?_
  subst e
  subst ep
  refine ⟨_, (pss_cons (ps_set (i := 4) nd rfl (.inr rfl) (pe_frz (pe_lc (own := [("place", 9)]) (g := gName 9) (tt := tYes) (te := tTup (tCons (tC (.int 0)) (tCons (tFrz K (tLst tNil)) (tCons (tC (.int 0)) tNil)))) rfl nd (pi_range1 (by rfl) (T.n "range") (pa_cons (pe_op op_add (pv 0) pe_int) pa_nil)) (blkOk_by (N := N_cr) (sc := defScope s_cheapest_room) (by decide +kernel)) (fun _ _ _ _ _ => (pg_name (i := 9) nd rfl (.inl rfl) (.inr rfl))) (fun _ _ _ _ _ => pts_nil) (fun _ _ _ _ _ => (pe_tup (pa_cons pe_int (pa_cons (pe_frz (pe_lst pa_nil)) (pa_cons pe_int pa_nil)))))))) (pss_cons (ps_set (i := 5) nd rfl (.inr rfl) (pe_frz (pe_lc (own := [("place", 9)]) (g := gName 9) (tt := tYes) (te := _) rfl nd (pi_range1 (by rfl) (T.n "range") (pa_cons (pe_op op_add (pv 0) pe_int) pa_nil)) (blkOk_by (N := N_cr) (sc := defScope s_cheapest_room) (by decide +kernel)) (fun _ _ _ _ _ => (pg_name (i := 9) nd rfl (.inl rfl) (.inr rfl))) (fun _ _ _ _ _ => pts_nil) (fun _ _ _ _ _ => (pe_cl c3 hr takes0 (pa_cons (pv 0) (pa_cons (pv 3) (pa_cons (pv 9) (pa_cons (pv 4) pa_nil))))))))) (pss_cons (ps_for ps0 rfl (pi_range3 (by rfl) (T.n "range") (pa_cons (pe_op op_sub (pe_callB call_len_seq (by rfl) (T.n "len") PySem.boot_len (pa_cons (pv 1) pa_nil)) pe_int) (pa_cons (pe_un un_neg pe_int) (pa_cons (pe_un un_neg pe_int) pa_nil)))) (pg_name (i := 6) nd rfl (.inr rfl)) (pss_cons (ps_set (i := 7) nd rfl (.inr rfl) (pe_cmpR op_in_seq (pv 6) (pv 2) (by rfl))) (pss_cons (ps_frz (i := 8) (ps_setLc (i := 8) (own := [("place", 9)]) (g := gName 9) (tt := tYes) (te := tCallS (spPutBlock K) (WE fun _ _ _ _ => False) (tCons (tVar 0) (tCons (tOp (rIxL K) (tVar 1) (tVar 6)) (tCons (tVar 7) (tCons (tVar 9) (tCons (tVar 5) tNil)))))) rfl nd rfl rfl (sw_true rfl rfl rfl (by decide +kernel)) (pi_range1 (by rfl) (T.n "range") (pa_cons (pe_op op_add (pv 0) pe_int) pa_nil)) (blkOk_by (N := N_cr) (sc := defScope s_cheapest_room) (by decide +kernel)) (fun _ _ _ _ _ => (pg_name (i := 9) nd rfl (.inl rfl) (.inr rfl))) (fun _ _ _ _ _ => pts_nil) (fun _ _ _ _ _ => (pe_cl c2 hr takes0 (pa_cons (pv 0) (pa_cons (pe_ix ix_list (pv 1) (pv 6) (fun _ _ => rfl)) (pa_cons (pv 7) (pa_cons (pv 9) (pa_cons (pv 5) pa_nil))))))))) (pss_cons (ps_set (i := 4) nd rfl (.inr rfl) (pe_frz (pe_lc (own := [("place", 9)]) (g := gName 9) (tt := tYes) (te := tCallS (spPutBlock K) (WE fun _ _ _ _ => False) (tCons (tVar 0) (tCons (tOp (rIxL K) (tVar 1) (tVar 6)) (tCons (tVar 7) (tCons (tVar 9) (tCons (tVar 4) tNil)))))) rfl nd (pi_range1 (by rfl) (T.n "range") (pa_cons (pe_op op_add (pv 0) pe_int) pa_nil)) (blkOk_by (N := N_cr) (sc := defScope s_cheapest_room) (by decide +kernel)) (fun _ _ _ _ _ => (pg_name (i := 9) nd rfl (.inl rfl) (.inr rfl))) (fun _ _ _ _ _ => pts_nil) (fun _ _ _ _ _ => (pe_cl c2 hr takes0 (pa_cons (pv 0) (pa_cons (pe_ix ix_list (pv 1) (pv 6) (fun _ _ => rfl)) (pa_cons (pv 7) (pa_cons (pv 9) (pa_cons (pv 4) pa_nil)))))))))) (pss_cons (ps_set (i := 5) nd rfl (.inr rfl) (pe_lst pa_nil)) (pss_one (ps_frz (i := 5) (ps_for ps0 rfl (pi_range1 (by rfl) (T.n "range") (pa_cons (pe_op op_add (pv 0) pe_int) pa_nil)) (pg_name (i := 9) nd rfl (.inl rfl)) (pss_one (ps_expr (pe_bm PySem.F.plainAttrs_list PySem.F.slot_list_append PySem.F.type_list_append mt_append (pv 5) (pa_cons (pe_cl c1 hr takes0 (pa_cons (pe_ix ix_list (pv 8) (pv 9) (fun _ _ => rfl)) (pa_cons (pe_cl c3 hr takes0 (pa_cons (pv 0) (pa_cons (pv 3) (pa_cons (pv 9) (pa_cons (pv 4) pa_nil))))) pa_nil))) pa_nil)))))))))))) (pss_cons (ps_if (pt_cmpR op_isN (pe_ix ix_list (pv 5) pe_int (fun _ _ => rfl)) pe_non (nomark _)) (pss_one (ps_ret pe_non)) pss_nil) (pss_one (ps_ret (pe_tup (pa_cons (pe_ix ix_tup (pe_ix ix_list (pv 5) pe_int (fun _ _ => rfl)) pe_int (fun _ _ => rfl)) (pa_cons (pe_ix ix_tup (pe_ix ix_list (pv 5) pe_int (fun _ _ => rfl)) pe_int (fun _ _ => rfl)) (pa_cons (pe_ix ix_tup (pe_ix ix_list (pv 5) pe_int (fun _ _ => rfl)) pe_int (fun _ _ => rfl)) pa_nil)))))))))), ?_⟩
  have h1000 := ok.s1
  have hs0 := ok.s0
  have hsz : (size + 1 - 0).toNat ≤ 16000000 := by omega
  have hn' : (size + 1).toNat = (size + 1 - 0).toNat := by simp
  refine ⟨_, rfl, _, _, rfl, rfl, size + 1, rfl, by omega, by omega, fun D nD => ?_⟩
  refine lc_f (K := K) (lo := 0) (hi := size + 1) (enc := encO encPl) (f := fun _ => some (0, [], 0)) hn' nD hsz (fun x => rfl) (fun x G R _ _ e0 hR => ?_) fun G c => ?_
  · refine ⟨Nat.zero_le _, fun q nq => ⟨q, [], [], rfl, upd_same, .nil, fun H2 k l d => ⟨sz3, fun t nt => hR _ _ (((Ex.new nq : Ex G _).but nq k l).trans (Ex.new nt)) (DI.tupOf upd_same (.cons (.int _) (.cons (DI.ex d (Ex.new (F := NoF) nt)) (.cons (.int _) .nil))))⟩⟩⟩
  obtain ⟨acc1, ha1, hd1⟩ := c.at_
  refine ⟨D, acc1, _, rfl, ha1, hd1, fun H1 k l d1 => ?_⟩
  have e1 := c.ex.but nD k l
  clear k l hd1 ha1 c
  obtain ⟨u1, hu1⟩ : ∃ u, u = V.ref D := ⟨_, rfl⟩
  rw [← hu1] at d1 ⊢
  have d1' : DI K H1 u1 (.list ((cr0d size).map (encO encPl))) := d1
  refine ⟨_, rfl, _, _, rfl, rfl, size + 1, rfl, by omega, by omega, fun D nD => ?_⟩
  obtain ⟨ok0, ok1⟩ := cr0_ok (n := n) ok.s0 ok.s1
  refine lc_f (K := K) (lo := 0) (hi := size + 1) (enc := encO encPl) (f := fun pl => putRoomF size n pl (cr0d size)) hn' nD hsz (fun x => rfl) (fun x G R h0 h1 e0 hR => ?_) fun G c => ?_
  · exact ⟨_, rfl, _, rfl, _, rfl, _, rfl, size, n, x, u1, cr0d size, 0, rfl, DI.ex d1' e0, ok1, h0, by omega, n0, n1, fun H' z e d => hR z H' e d⟩
  obtain ⟨acc2, ha2, hd2⟩ := c.at_
  refine ⟨D, acc2, _, rfl, ha2, hd2, fun H2 k l d2 => ?_⟩
  have e2 := c.ex.but nD k l
  clear k l hd2 ha2 c
  have e12 := e1.trans e2
  obtain ⟨la, lxs, rfl, hls, hld⟩ := DI.lst_inv (DI.ex hl e12)
  have hlen : lxs.length = l.length := by rw [DpAll.length hld, List.length_map]
  have hl1000 := ok.len
  refine ⟨_, rfl, la, lxs, rfl, .inl (SqL.le (leI H2) hls), _, _, rfl, rfl, _, rfl, _, rfl, (lxs.length : Int) - 1, -1, -1, ((lxs.length : Int) - 1 - -1).toNat, rfl, RgC.neg (by omega) (by omega) (by omega) (by omega), ?_⟩
  have wk : Walk (Itc ((lxs.length : Int) - 1) (-1) ((lxs.length : Int) - 1 - -1).toNat) l.reverse.length (fun _ => True) (YFn fun i => .int ((lxs.length : Int) - 1 + (i : Nat) * (-1))) := by
    rw [show l.reverse.length = ((lxs.length : Int) - 1 - -1).toNat by rw [List.length_reverse]; omega]
    exact walk_rangeC
  refine for_l l.reverse wk (fun pre σ G => ∃ dv sv x6 x7 x8 x9, σ = [some (.int size), some (.ref la), some (.ref pa), some (.int n), some dv, some sv, x6, x7, x8, x9] ∧ DI K G dv (.list ((pre.foldl (crStep size n) (cr0 size n)).2.map (encO encPl))) ∧
    DI K G sv (.list ((pre.foldl (crStep size n) (cr0 size n)).1.map (encO encPl))) ∧ Ex H2 G) ?_ (fun _ _ _ _ => trivial) ?_ ?_
  · exact ⟨_, _, _, _, _, _, rfl, DI.ex d1' e2, d2, ExF.refl _ _⟩
  · intro pre b post v σ G G' el ⟨dv, sv, x6, x7, x8, x9, e, dd, ds, e3⟩ ⟨eG, ev⟩
    subst e eG ev
    have hlen2 : l.reverse.length = pre.length + post.length + 1 := by rw [el]; simp; omega
    rw [List.length_reverse] at hlen2
    have hb : l[l.length - 1 - pre.length]? = some b := by
      have h1 : l.reverse[pre.length]? = some b := by rw [el]; simp
      rw [List.getElem?_reverse (by omega)] at h1
      exact h1
    obtain ⟨bv, hbv, dbv⟩ := DpAll.at_ hld (i := l.length - 1 - pre.length) (d := encP b) (by rw [List.getElem?_map, hb]; rfl)
    have hix : atI lxs ((lxs.length : Int) - 1 + (pre.length : Nat) * (-1)) = some bv := by
      have := atI_nat hbv
      rw [show ((l.length - 1 - pre.length : Nat) : Int) = (lxs.length : Int) - 1 + (pre.length : Nat) * (-1) by omega] at this
      exact this
    have hbin := ok.inn b (List.mem_of_getElem? hb)
    obtain ⟨ra, rb⟩ := cr_ok (n := n) ok.s0 ok.s1 pre
    have hpl : pre.length ≤ 5000 := by omega
    rw [foldl_snoc]
    generalize List.foldl (crStep size n) (cr0 size n) pre = r at dd ds ra rb ⊢
    refine ⟨_, rfl, _, rfl, pa, [], rfl, .inl (SqL.ex (e12.trans e3) hp), rfl, rfl, ?_⟩
    have la2 : ∀ {G'}, Ex H2 G' → SqL K G' la lxs := fun e => SqL.le (Le.of e) hls
    refine ⟨_, rfl, _, _, rfl, rfl, size + 1, rfl, by omega, by omega, fun D nD => ?_⟩
    refine lc_f (K := K) (lo := 0) (hi := size + 1) (enc := encO encPl) (f := fun pl => putBlockF size b pl r.1) hn' nD hsz (fun x => rfl) (fun x G1 R h0 h1 e0 hR => ?_) fun G1 c => ?_
    · exact ⟨_, rfl, _, rfl, _, rfl, la, lxs, _, bv, rfl, rfl, la2 (e3.trans e0), hix, _, rfl, _, rfl, _, rfl, size, x, bv, sv, b, r.1, pre.length, rfl, DI.ex dbv (e3.trans e0), DI.ex ds e0, ra, hpl, h0, by omega, hbin.2.1, by omega, fun H' z e d => hR z H' e d⟩
    refine c.frz nD rfl fun G2 e4 d4 => ?_
    clear c
    have e34 := e3.trans e4
    refine ⟨_, rfl, _, _, rfl, rfl, size + 1, rfl, by omega, by omega, fun D2 nD2 => ?_⟩
    refine lc_f (K := K) (lo := 0) (hi := size + 1) (enc := encO encPl) (f := fun pl => putBlockF size b pl r.2) hn' nD2 hsz (fun x => rfl) (fun x G1 R h0 h1 e0 hR => ?_) fun G1 c => ?_
    · exact ⟨_, rfl, _, rfl, _, rfl, la, lxs, _, bv, rfl, rfl, la2 (e34.trans e0), hix, _, rfl, _, rfl, _, rfl, size, x, bv, dv, b, r.2, pre.length, rfl, DI.ex dbv (e34.trans e0), DI.ex (DI.ex dd e4) e0, rb, hpl, h0, by omega, hbin.2.1, by omega, fun H' z e d => hR z H' e d⟩
    obtain ⟨acc3, ha3, hd3⟩ := c.at_
    refine ⟨D2, acc3, _, rfl, ha3, hd3, fun G3 k l d5 => ?_⟩
    have e5 := c.ex.but nD2 k l
    clear k l hd3 ha3 c
    have okd : RestOk size (pre.length + 1) ((rangeL 0 (size + 1)).map fun pl => putBlockF size b pl r.2) := (crStep_ok (n := n) (b := b) ra rb).2
    refine ⟨Nat.zero_le _, fun p np => ?_⟩
    refine ⟨_, rfl, _, _, rfl, rfl, size + 1, rfl, by omega, by omega, ?_⟩
    refine for_r (lo := 0) (hi := size + 1) hn' (fun pre2 σ G => ∃ y9, σ = [some (.int size), some (.ref la), some (.ref pa), some (.int n), some (.ref D2), some (.ref p), some (.int ((lxs.length : Int) - 1 + (pre.length : Nat) * (-1))), some (.bl false), some (.ref D), y9] ∧
      Col K NoF G3 p ((pre2.map fun pl => lesserF (putBlockF size b pl r.1) (putRoomF size n pl ((rangeL 0 (size + 1)).map fun pl => putBlockF size b pl r.2))).map (encO encPl)) pre2.length G) ?_ ?_ ?_
    · exact ⟨_, rfl, Col.start np⟩
    · intro pre2 x post2 σ G4 el2 ⟨y9, e, c⟩
      subst e
      obtain ⟨hx1, hx2⟩ := rangeL_at el2
      have hx := rangeL_mem (show x ∈ rangeL 0 (size + 1) by rw [el2]; simp)
      obtain ⟨acc, ha, _⟩ := c.at_
      obtain ⟨ys, lv, hs3, hat, dlv⟩ := DI.at_list d4 (j := pre2.length) (d := encO encPl (putBlockF size b x r.1)) (by rw [el2]; simp)
      rw [show ((pre2.length : Nat) : Int) = x by omega] at hat
      refine ⟨_, rfl, .inl ⟨rfl, _, SqL.of ha⟩, _, rfl, _, rfl, D, ys, x, lv, rfl, rfl, SqL.le (Le.of (e5.trans c.ex)) hs3, hat, ?_⟩
      refine ⟨_, rfl, _, rfl, _, rfl, _, rfl, size, n, x, .ref D2, _, pre.length + 1, rfl, DI.ex d5 c.ex, okd, hx.1, by omega, n0, n1, fun G5 z e6 dz => ?_⟩
      refine ⟨lv, z, _, _, rfl, DI.ex dlv ((e5.trans c.ex).trans e6), dz, fun z' dz' => ?_⟩
      obtain ⟨acc2, h2, l2, c2⟩ := c.add np e6 (fun z => z) dz' (ltL (m := 1002) (by omega) (by decide))
      refine ⟨p, _, _, rfl, rfl, h2, l2, _, rfl, ?_⟩
      rw [List.map_append, List.map_append, List.length_append]
      exact c2
    · intro σ G4 ⟨y9, e, c⟩
      subst e
      refine c.frz np rfl fun G5 e6 d6 => ⟨_, _, _, _, _, _, rfl, DI.ex d5 e6, d6, (e34.trans e5).trans e6⟩
  · intro σ G ⟨dv, sv, x6, x7, x8, x9, e, dd, ds, e3⟩
    subst e
    obtain ⟨ra, _⟩ := cr_ok (n := n) ok.s0 ok.s1 l.reverse
    have hh : ∀ G' z, Ex G G' → DI K G' z (encO encRm (cheapF size l n)) → Q z G' := fun G' z e d => hq G' z ((e12.trans e3).trans e) d
    rw [cheapF] at hh
    generalize List.foldl (crStep size n) (cr0 size n) l.reverse = r at dd ds ra hh
    have hj : 0 < r.1.length := by have := ra.len; omega
    obtain ⟨sa, sxs, rfl, _, _⟩ := DI.lst_inv ds
    obtain ⟨ys, lv, hs3, hat, dl⟩ := DI.at_list ds (j := 0) (d := encO encPl (r.1.getD 0 none)) (by rw [List.getElem?_map, getD_of hj]; rfl)
    have hs3 := SqL.le (leI G) hs3
    cases hg : r.1.getD 0 none with
    | none =>
      rw [hg] at dl hh
      have := DI.non_inv dl
      subst this
      exact ⟨_, rfl, sa, ys, 0, .non, rfl, rfl, hs3, hat, rfl, _, rfl, itY rfl (hh _ _ (ExF.refl _ _) .non)⟩
    | some p =>
      rw [hg] at dl hh
      obtain ⟨la', lb, rfl, hsl, dlb⟩ := DI.plan_inv dl
      have hsl := SqT.le (leI G) hsl
      refine ⟨_, rfl, sa, ys, 0, _, rfl, rfl, hs3, hat, rfl, _, rfl, itN refN ?_⟩
      refine ⟨_, rfl, sa, ys, 0, _, rfl, rfl, hs3, hat, la', _, 1, .ref lb, rfl, rfl, hsl, atI_nat (j := 1) rfl, _, rfl, sa, ys, 0, _, rfl, rfl, hs3, hat, la', _, 2, .int p.2.2, rfl, rfl, hsl, atI_nat (j := 2) rfl, _, rfl, sa, ys, 0, _, rfl, rfl, hs3, hat, la', _, 0, .int p.1, rfl, rfl, hsl, atI_nat (j := 0) rfl, sz3, fun t nt => ?_⟩
      have e6 : Ex G (upd G t (.tup [.ref lb, .int p.2.2, .int p.1])) := Ex.new nt
      exact hh _ _ e6 (DI.tupOf upd_same (.cons (DI.ex dlb e6) (.cons (.int _) (.cons (.int _) .nil))))
end
end Hg
namespace Hg
open PySem PySem.Spec PyProof.Rows L2
/-! ### canonical, relocation_map -/
abbrev Tri : Type := Int × Int × Int
def encT3 (p : Tri) : PyData := .tuple [.int p.1, .int p.2.1, .int p.2.2]
def cnStep (ps : List Tri) (b : Int × Int) : List Tri := match ps.getLast? with
  | some q => if q.1 + q.2.2 = b.1 ∧ q.2.1 + q.2.2 = b.2 then ps.dropLast ++ [(q.1, q.2.1, q.2.2 + 1)] else ps ++ [(b.1, b.2, 1)]
  | none => ps ++ [(b.1, b.2, 1)]
def canonF (l : Lay) : List Tri := (l.mergeSort leP).foldl cnStep []
def prF (x : Int × Int × Int) : Lay := (rangeL 0 x.2.2).map fun t => (x.2.1 + t, x.1 + t)
def pairsF (starts : List Int) (l : Lay) : Lay := (starts.zip l).flatMap prF
def relocMapF (l : Lay) (starts : List Int) : List Tri := canonF (pairsF starts l)
theorem cn_len (l : Lay) : ∀ ps : List Tri, (l.foldl cnStep ps).length ≤ ps.length + l.length := by
  induction l with
  | nil => intro ps; exact Nat.le_refl _
  | cons b l ih =>
    intro ps
    have h := ih (cnStep ps b)
    have h2 : (cnStep ps b).length ≤ ps.length + 1 := by
      unfold cnStep
      split
      · split
        · rw [List.length_append, List.length_dropLast]
          (simp only [List.length_cons, List.length_nil])
          omega
        · simp
      · simp
    (rw [List.foldl_cons, List.length_cons])
    omega
section
variable {P : Program} {w : World} {K : PySem.W.Frag} {mg : Str → Option Value} {base : Heap}
theorem DI.tri_inv {H : Hp} {v : V} {p : Tri} (h : DI K H v (encT3 p)) : ∃ a, v = .ref a ∧ SqT K (imm H) a [.int p.1, .int p.2.1, .int p.2.2] := by
  obtain ⟨a, xs, e, hs, hd⟩ := DI.tup_inv h
  cases hd with
  | cons h1 t => cases t with
    | cons h2 t2 => cases t2 with
      | cons h3 t3 =>
        cases t3
        cases h1
        cases h2
        cases h3
        exact ⟨a, e, hs⟩
theorem DI.triOf {H : Hp} {p : Addr} {i j k : Int} (h : H p = some (.tup [.int i, .int j, .int k])) : DI K H (.ref p) (encT3 (i, j, k)) := DI.tupOf h (.cons (.int _) (.cons (.int _) (.cons (.int _) .nil)))
def spCanon (K : PySem.W.Frag) : Sp := fun vs H Q _ => ∃ (v : V) (l : Lay), vs = [v] ∧ (∃ a xs, v = .ref a ∧ SqL K H a xs ∧ DIs K H xs (l.map encP)) ∧ l.length ≤ 10000000 ∧ ∀ H' u, Ex H H' → DI K H' u (.list ((canonF l).map encT3)) → Q u H'
abbrev N_canon : List Str := ["pairs", "pieces", "source", "target", "start", "goal", "length"]
theorem sc_canon : FnScope N_canon ["pairs"] (defScope s_canonical) := ⟨rfl, rfl, rfl, by decide +kernel, rfl, by decide +kernel, by decide +kernel⟩
theorem w_canon (T : Txt P K mg) : Cl P w K mg base 1 "canonical" (spCanon K) := by
  have nd := sc_canon.nd
  refine cl_of T (fn_mem 18 rfl) (by decide +kernel) sc_canon (b1 fun _ _ _ _ _ _ _ => rfl) (fun vs H Q E ⟨_, _, e, _⟩ => by rw [e]; rfl) fun cdv A outer s H vs Q E hr ⟨v, l, e, ⟨a, xs0, ev, hs0, hd0⟩, hz, hq⟩ => ?_
  subst e
  subst ev
  refine ⟨_, (pss_cons (ps_set (i := 1) nd rfl (.inl rfl) (pe_lst pa_nil)) (pss_cons (ps_for ps0 rfl (pi_list (pe_frz (pe_callB (cr_sortD hr) (by rfl) (T.n "sorted") (by decide +kernel) (pa_cons (pv 0) pa_nil)))) (pg_tup rfl (pgs_cons (pg_name (i := 2) nd rfl (.inl rfl)) (pgs_cons (pg_name (i := 3) nd rfl (.inl rfl)) pgs_nil))) (pss_cons (ps_if (pt_truth (pv 1) (by intro _; rfl)) (pss_cons (ps_asg (pe_ix ix_list (pv 1) (pe_un un_neg pe_int) (fun _ _ => rfl)) (pg_tup rfl (pgs_cons (pg_name (i := 4) nd rfl (.inl rfl)) (pgs_cons (pg_name (i := 5) nd rfl (.inl rfl)) (pgs_cons (pg_name (i := 6) nd rfl (.inl rfl)) pgs_nil))))) (pss_one (ps_if (PW.pt (pw_and (pt_cmpR op_eq (pe_op op_add (pv 4) (pv 6)) (pv 2) (nomark _)) (pw_and1 (pt_cmpR op_eq (pe_op op_add (pv 5) (pv 6)) (pv 3) (nomark _))))) (pss_cons (ps_asg (pe_tup (pa_cons (pv 4) (pa_cons (pv 5) (pa_cons (pe_op op_add (pv 6) pe_int) pa_nil)))) (pg_sub (pv 1) (pe_un un_neg pe_int) set_list)) (pss_one ps_continue)) pss_nil))) pss_nil) (pss_one (ps_expr (pe_bm PySem.F.plainAttrs_list PySem.F.slot_list_append PySem.F.type_list_append mt_append (pv 1) (pa_cons (pe_tup (pa_cons (pv 2) (pa_cons (pv 3) (pa_cons pe_int pa_nil)))) pa_nil)))))) (pss_one (ps_ret (pe_frz (pv 1)))))), ?_⟩
  refine ⟨Nat.zero_le _, fun p np => ?_⟩
  have e1 : Ex H (upd H p (.lst [])) := Ex.new np
  refine ⟨_, rfl, a, xs0, l.map encP, rfl, SqL.ex e1 hs0, DIs.ex hd0 e1, alikeP _, sortableP _, depthP _, fun q ys nq dys => ?_⟩
  have e2 : Ex H (upd (upd H p (.lst [])) q (.lst ys)) := e1.trans (Ex.new nq)
  rw [sort_enc] at dys
  refine ⟨q, ys, _, rfl, upd_same, DIs.ex dys (Ex.new (F := NoF) nq), fun H1 k lq d => ?_⟩
  have e3 : Ex (upd H p (.lst [])) H1 := (Ex.new nq : Ex _ _).but nq k lq
  have e13 := e1.trans e3
  obtain ⟨q', xs1, eq, hs1, hd1⟩ := DI.lst_inv d
  cases eq
  have hp1 : H1 p = some (.lst []) := e3.at upd_same
  have hlen : (l.mergeSort leP).length = l.length := List.length_mergeSort _
  refine ⟨q, rfl, ⟨xs1, SqL.le (leI H1) hs1⟩, ?_⟩
  refine for_d (l := l.mergeSort leP) (enc := encP) d (fun pre σ G => ∃ x2 x3 x4 x5 x6, σ = [some (.ref a), some (.ref p), x2, x3, x4, x5, x6] ∧ ExF (fun c => c = p) H1 G ∧ Ex H G ∧ ∃ acc, G p = some (.lst acc) ∧ DIs K G acc ((pre.foldl cnStep []).map encT3)) ?_ ?_ ?_ ?_
  · exact ⟨_, _, _, _, _, rfl, ExF.refl _ _, e13, [], e3.at upd_same, .nil⟩
  · intro pre σ G ⟨_, _, _, _, _, _, e, _⟩
    exact Le.of e
  · intro pre b post u σ G el ⟨x2, x3, x4, x5, x6, e, e4, e5, acc, ha, hd⟩ hv
    subst e
    obtain ⟨ab, rfl, hsb⟩ := hv.pair_inv
    refine ⟨ab, _, rfl, SqT.le (Le.of e4) hsb, rfl, _, _, rfl, _, _, rfl, rfl, ?_⟩
    have hsz : acc.length ≤ 10000000 := by
      have h1 := cn_len pre []
      have h2 : acc.length = (pre.foldl cnStep []).length := by rw [DpAll.length hd, List.length_map]
      have h3 : pre.length ≤ l.length := by
        rw [← hlen, el]
        simp
      (simp only [List.length_nil, Nat.zero_add] at h1)
      omega
    rw [foldl_snoc]
    generalize List.foldl cnStep [] pre = r at hd ⊢
    have add : ∀ (G1 : Hp) (y : V), Ex G G1 → DI K G1 y (encT3 (b.1, b.2, 1)) → G1 p = some (.lst acc) ∧ acc.length < sizeLine ∧ ExF (fun c => c = p) H1 (upd G1 p (.lst (acc ++ [y]))) ∧ Ex H (upd G1 p (.lst (acc ++ [y]))) ∧ ∃ acc', upd G1 p (.lst (acc ++ [y])) p = some (.lst acc') ∧ DIs K (upd G1 p (.lst (acc ++ [y]))) acc' ((r ++ [(b.1, b.2, 1)]).map encT3) := by
      intro G1 y e6 dy
      have ha1 := e6.at ha
      refine ⟨ha1, ltL (m := 10000001) (by omega) (by decide), ?_, (e5.trans e6).upd (.inl np), _, upd_same, ?_⟩
      · exact (e4.trans e6.of).upd (.inr ⟨rfl, _, hp1, rfl, rfl⟩)
      · rw [List.map_append]
        exact DIs.updL (DpAll.append (DIs.ex hd e6) (.cons dy .nil)) ha1
    have app : cnStep r b = r ++ [(b.1, b.2, 1)] → ∀ t, G t = none → ∀ G2 : Hp, G2 = upd G t (.tup [.int b.1, .int b.2, .int 1]) → ∃ acc2, G2 p = some (.lst acc2) ∧ acc2.length < sizeLine ∧ ExF (fun c => c = p) H1 (upd G2 p (.lst (acc2 ++ [.ref t]))) ∧ Ex H (upd G2 p (.lst (acc2 ++ [.ref t]))) ∧ ∃ acc', upd G2 p (.lst (acc2 ++ [.ref t])) p = some (.lst acc') ∧ DIs K (upd G2 p (.lst (acc2 ++ [.ref t]))) acc' ((cnStep r b).map encT3) := by
      intro hc t nt G2 eG
      subst eG
      obtain ⟨h1, h2, h3, h4, h5⟩ := add _ _ (Ex.new nt) (DI.triOf upd_same)
      rw [hc]
      exact ⟨acc, h1, h2, h3, h4, h5⟩
    rcases List.eq_nil_or_concat r with hr0 | ⟨r', q, hr0⟩
    · subst hr0
      have hacc : acc = [] := by cases hd; rfl
      refine ⟨_, rfl, false, .inl ⟨acc, SqL.of ha, by rw [hacc]; rfl⟩, iteF ⟨_, rfl, .inl ⟨rfl, _, SqL.of ha⟩, _, rfl, _, rfl, sz3, fun t nt => ?_⟩⟩
      obtain ⟨acc2, g1, g2, g3, g4, g5⟩ := app rfl t nt _ rfl
      exact ⟨p, acc2, _, rfl, rfl, g1, g2, _, _, _, _, _, rfl, g3, g4, g5⟩
    · rw [List.concat_eq_append] at hr0
      subst hr0
      rw [List.map_append] at hd
      obtain ⟨acc1, acc2, hacc, hda, hdb⟩ := DpAll.split hd
      cases hdb with
      | cons hy ht =>
        rename_i y ys'
        cases ht
        obtain ⟨ya, rfl, hsy⟩ := DI.tri_inv hy
        subst hacc
        have hlast : (r' ++ [q]).getLast? = some q := by simp
        have hcn : cnStep (r' ++ [q]) b = if q.1 + q.2.2 = b.1 ∧ q.2.1 + q.2.2 = b.2 then (r' ++ [q]).dropLast ++ [(q.1, q.2.1, q.2.2 + 1)] else (r' ++ [q]) ++ [(b.1, b.2, 1)] := by
          unfold cnStep
          rw [hlast]
        have hix : ixN (acc1 ++ [V.ref ya]).length (-1) = some acc1.length := by
          unfold ixN
          rw [List.length_append, List.length_cons, List.length_nil, if_neg (by decide), if_pos (by omega)]
          congr 1
          omega
        refine ⟨_, rfl, true, .inl ⟨_, SqL.of ha, by simp⟩, iteT ⟨_, rfl, _, rfl, p, _, -1, .ref ya, rfl, rfl, SqL.of ha, atI_last _ _, ya, _, rfl, SqT.le (leI G) hsy, rfl, _, _, rfl, _, _, rfl, _, _, rfl, rfl, ?_⟩⟩
        refine ⟨_, rfl, _, rfl, _, _, rfl, rfl, _, rfl, rfl, _, rfl, iteD (fun h1 => ?_) fun h1 => ?_⟩
        · refine ⟨_, rfl, _, rfl, _, _, rfl, rfl, _, rfl, rfl, _, rfl, iteD (fun h2 => ?_) fun h2 => ?_⟩
          · have hc := hcn
            rw [if_pos ⟨V.int.inj h1, V.int.inj h2⟩] at hc
            refine ⟨_, rfl, _, rfl, _, rfl, _, _, rfl, rfl, sz3, fun t nt => ?_⟩
            have e6 : Ex G (upd G t (.tup [.int q.1, .int q.2.1, .int (q.2.2 + 1)])) := Ex.new nt
            have ha1 := e6.at ha
            refine ⟨_, rfl, _, rfl, p, _, -1, acc1.length, rfl, rfl, ha1, hix, _, _, _, _, _, rfl, (e4.trans e6.of).upd (.inr ⟨rfl, _, hp1, rfl, rfl⟩), (e5.trans e6).upd (.inl np), _, upd_same, ?_⟩
            rw [hc, List.dropLast_concat, List.map_append]
            have hset : (acc1 ++ [V.ref ya]).set acc1.length (V.ref t) = acc1 ++ [V.ref t] := by simp
            rw [hset]
            exact DIs.updL (DpAll.append (DIs.ex hda e6) (.cons (DI.triOf upd_same) .nil)) ha1
          · have hc := hcn
            rw [if_neg (fun z => h2 (congrArg V.int z.2))] at hc
            refine ⟨_, rfl, .inl ⟨rfl, _, SqL.of ha⟩, _, rfl, _, rfl, sz3, fun t nt => ?_⟩
            obtain ⟨acc2, g1, g2, g3, g4, g5⟩ := app hc t nt _ rfl
            exact ⟨p, acc2, _, rfl, rfl, g1, g2, _, _, _, _, _, rfl, g3, g4, g5⟩
        · have hc := hcn
          rw [if_neg (fun z => h1 (congrArg V.int z.1))] at hc
          refine iteF ⟨_, rfl, .inl ⟨rfl, _, SqL.of ha⟩, _, rfl, _, rfl, sz3, fun t nt => ?_⟩
          obtain ⟨acc2, g1, g2, g3, g4, g5⟩ := app hc t nt _ rfl
          exact ⟨p, acc2, _, rfl, rfl, g1, g2, _, _, _, _, _, rfl, g3, g4, g5⟩
  · intro σ G ⟨x2, x3, x4, x5, x6, e, e4, e5, acc, ha, hd⟩
    subst e
    exact ⟨_, rfl, p, acc, _, rfl, ha, hd, fun H2 k lq d => hq _ _ (e5.but np k lq) d⟩
/-! relocation_map -/
theorem prF_len (x : Int × Int × Int) : (prF x).length = x.2.2.toNat := by
  unfold prF
  rw [List.length_map, rangeL_len]
  simp
theorem flat_pr {n : Nat} : ∀ {l : List (Int × Int × Int)}, (∀ x ∈ l, x.2.2 ≤ n) → (l.flatMap prF).length ≤ l.length * n
  | [], _ => Nat.zero_le _
  | g :: l, h => by
    have h1 := h g (List.mem_cons_self ..)
    have h2 := flat_pr (fun x hx => h x (List.mem_cons_of_mem _ hx) : ∀ x ∈ l, x.2.2 ≤ n)
    have h3 := prF_len g
    rw [List.flatMap_cons, List.length_append, List.length_cons, Nat.add_mul]
    omega
def spReloc (K : PySem.W.Frag) : Sp := fun vs H Q _ => ∃ (size : Int) (v sv : V) (l : Lay) (starts : List Int), vs = [.int size, v, sv] ∧ DI K H v (encL l) ∧ DI K H sv (encI starts) ∧ LayOk size l ∧ ∀ H' u, Ex H H' → DI K H' u (.list ((relocMapF l starts).map encT3)) → Q u H'
abbrev N_reloc : List Str := ["size", "layout", "starts", "pairs", "start", "old", "length", "step"]
theorem sc_reloc : FnScope N_reloc ["size", "layout", "starts"] (defScope s_relocation_map) := ⟨rfl, rfl, rfl, by decide +kernel, rfl, by decide +kernel, by decide +kernel⟩
theorem w_reloc (T : Txt P K mg) : Cl P w K mg base 2 "relocation_map" (spReloc K) := by
  have nd := sc_reloc.nd
  have c1 := w_canon (w := w) (base := base) T
  refine cl_of T (fn_mem 19 rfl) (by decide +kernel) sc_reloc (b3 fun _ _ _ _ _ _ _ _ _ => rfl) (fun vs H Q E ⟨_, _, _, _, _, e, _⟩ => by rw [e]; rfl) fun cdv A outer s H vs Q E hr ⟨size, v, sv, l, starts, e, hl, hst, ok, hq⟩ => ?_
  subst e
  obtain ⟨a, xs0, rfl, hs0, hd0⟩ := DI.lst_inv hl
  obtain ⟨sa, ss0, rfl, hss, hds⟩ := DI.lst_inv hst
  refine ⟨_, (pss_cons (ps_set (i := 3) nd rfl (.inl rfl) (pe_lst pa_nil)) (pss_cons (ps_for ps0 rfl (pi_zip (by rfl) (T.n "zip") (pa_cons (pv 2) (pa_cons (pv 1) pa_nil))) (pg_tup rfl (pgs_cons (pg_name (i := 4) nd rfl (.inr rfl)) (pgs_cons (pg_tup rfl (pgs_cons (pg_name (i := 5) nd rfl (.inr rfl)) (pgs_cons (pg_name (i := 6) nd rfl (.inl rfl)) pgs_nil))) pgs_nil))) (pss_one (ps_set (i := 3) nd rfl (.inl rfl) (pe_op op_catR (pv 3) (pe_lc (own := [("step", 7)]) (g := gName 7) (tt := tYes) (te := _) rfl nd (pi_range1 (by rfl) (T.n "range") (pa_cons (pv 6) pa_nil)) (blkOk_by (N := N_reloc) (sc := defScope s_relocation_map) (by decide +kernel)) (fun _ _ _ _ _ => (pg_name (i := 7) nd rfl (.inl rfl) (.inr rfl))) (fun _ _ _ _ _ => pts_nil) (fun _ _ _ _ _ => (pe_tup (pa_cons (pe_op op_add (pv 5) (pv 7)) (pa_cons (pe_op op_add (pv 4) (pv 7)) pa_nil))))))))) (pss_one (ps_ret (pe_cl c1 hr takes0 (pa_cons (pv 3) pa_nil)))))), ?_⟩
  refine ⟨Nat.zero_le _, fun p np => ?_⟩
  have e1 : Ex H (upd H p (.lst [])) := Ex.new np
  have h1000 := ok.s1
  refine ⟨_, rfl, _, rfl, sa, a, ss0, xs0, rfl, SqL.le (Le.of e1) hss, SqL.le (Le.of e1) hs0, ?_⟩
  have hz : ∀ x ∈ starts.zip l, 1 ≤ x.2.2 ∧ x.2.2 ≤ 1000 := fun x hx => by
    have h := ok.inn x.2 (List.of_mem_zip hx).2
    omega
  have hzl : (starts.zip l).length ≤ 1000 := by
    have := ok.len
    rw [List.length_zip]
    omega
  refine for_z (l1 := starts) (l2 := l) (e1 := PyData.int) (e2 := encP) hst hl (fun pre σ G => ∃ q x4 x5 x6 x7 xs, σ = [some (.int size), some (.ref a), some (.ref sa), some (.ref q), x4, x5, x6, x7] ∧ H q = none ∧ G q = some (.lst xs) ∧ DIs K G xs ((pre.flatMap prF).map encP) ∧ Ex H G) ?_ ?_ ?_ ?_
  · exact ⟨p, _, _, _, _, [], rfl, np, upd_same, .nil, e1⟩
  · intro pre σ G ⟨_, _, _, _, _, _, _, _, _, _, e⟩
    exact Le.of e
  · intro pre x post T v1 v2 σ G el ⟨q, x4, x5, x6, x7, xs, e, nq, hqG, hd, e2⟩ nT hv1 hv2
    subst e
    cases hv1
    obtain ⟨ab, rfl, hsb⟩ := hv2.pair_inv
    have eT : Ex G (upd G T (.tup [.int x.1, .ref ab])) := Ex.new nT
    have eHT := e2.trans eT
    have hx := hz x (by rw [el]; simp)
    refine ⟨T, _, rfl, SqT.of upd_same, rfl, _, _, rfl, _, _, rfl, ab, _, rfl, SqT.le (Le.of eHT) hsb, rfl, _, _, rfl, _, _, rfl, rfl, rfl, ?_⟩
    refine ⟨_, rfl, _, rfl, x.2.2, rfl, by omega, by omega, fun D nD => ?_⟩
    refine lc_f (K := K) (lo := 0) (hi := x.2.2) (enc := encP) (f := fun t => (x.2.1 + t, x.1 + t)) (by simp) nD (by omega) (fun x => rfl) (fun t G1 R h0 h1 e0 hR => ?_) fun G1 c => ?_
    · exact ⟨_, rfl, _, rfl, _, _, rfl, rfl, _, rfl, _, rfl, _, _, rfl, rfl, sz2, fun t nt => hR _ _ (Ex.new nt) (DI.pairOf upd_same)⟩
    obtain ⟨acc, ha, hda⟩ := c.at_
    have eG1 := eT.trans c.ex
    have hxs : xs.length ≤ 1000000 := by
      rw [DpAll.length hd, List.length_map]
      have hpre : pre.length ≤ 1000 := by rw [el] at hzl; simp at hzl; omega
      have := flat_pr (n := 1000) (l := pre) fun y hy => (hz y (by rw [el]; simp [hy])).2
      omega
    have hac : acc.length ≤ 1000 := by
      rw [DpAll.length hda, List.length_map, List.length_map, rangeL_len]
      omega
    refine ⟨q, D, xs, acc, rfl, rfl, SqL.of (Ex.at eG1 hqG), SqL.of ha, leL (m := 1001000) (by omega) (by decide), fun r nr => ?_⟩
    refine ⟨r, _, _, _, _, xs ++ acc, rfl, (e2.trans eG1).gone nr, upd_same, ?_, (e2.trans eG1).trans (Ex.new nr)⟩
    rw [List.flatMap_append, List.map_append]
    refine DIs.ex (DpAll.append (DIs.ex hd eG1) ?_) (Ex.new (F := NoF) nr)
    rw [show ([x] : List (Int × Int × Int)).flatMap prF = prF x by simp]
    exact hda
  · intro σ G ⟨q, x4, x5, x6, x7, xs, e, nq, hqG, hd, e2⟩
    subst e
    refine ⟨_, rfl, _, _, rfl, ⟨q, xs, rfl, SqL.of hqG, hd⟩, ?_, fun H2 u e3 du => hq H2 u (e2.trans e3) du⟩
    have := flat_pr (n := 1000) (l := starts.zip l) fun y hy => (hz y hy).2
    show (pairsF starts l).length ≤ _
    unfold pairsF
    omega
end
end Hg
namespace Hg
open PySem PySem.Spec PyProof.Rows L2
/-! ### sorted of a dict with whole-number keys -/
theorem each_int : ∀ {us : List Value} {ns : List Int}, (us.length = ns.length) → (∀ (j : Nat) (v : Value) (n : Int), us[j]? = some v → ns[j]? = some n → RelV (.int n) v) → PySem.W.EachIs (fun (v : Value) (n : Int) => RelV (.int n) v) us ns
  | [], [], _, _ => .nil
  | [], _ :: _, h, _ => by (cases h)
  | _ :: _, [], h, _ => by (cases h)
  | u :: us, n :: ns, h, k => .cons (k 0 u n rfl rfl) (each_int (Nat.succ.inj h) fun j v m a b => k (j + 1) v m a b)
theorem of_each_int : ∀ {us : List Value} {ns : List Int}, PySem.W.EachIs (fun (v : Value) (n : Int) => RelV (.int n) v) us ns → Vals (ns.map V.int) us
  | _, _, .nil => .nil
  | _, _, .cons h t => .cons h (of_each_int t)
def sortI (ns : List Int) : List Int := ns.mergeSort fun a b => decide (a ≤ b)
def rSortDK : List V → Hp → VK → Prop := fun vs H Q => ∃ (a : Addr) (kvs : List (Key × V)) (ns : List Int), vs = [.ref a] ∧ H a = some (.dK kvs) ∧ kvs.map (·.1) = ns.map Sum.inl ∧ ∀ p, H p = none → Q (.ref p) (upd H p (.lst ((sortI ns).map V.int)))
theorem pgetA {α β : Type} {F : α → β → Prop} : ∀ {l₁ : List α} {l₂ : List β} {j : Nat} {x : β}, Paired F l₁ l₂ → l₂[j]? = some x → ∃ y, l₁[j]? = some y ∧ F y x
  | _, _, _, _, .nil, h => by cases h
  | _, _, 0, _, .cons f _, h => by cases h; exact ⟨_, rfl, f⟩
  | _, _, j + 1, _, .cons _ r, h => pgetA (j := j) r h
section
variable {X : Cx}
theorem kv_len : ∀ {kvs : List (Key × V)} {vs : List (Key × Value)}, KV kvs vs → kvs.length = vs.length
  | _, _, h => Paired.length h
theorem cr_sortedDK {k : Nat} (hr : Room k X.A) (hc : X.calm = true) : CallR X (.builtin "sorted") rSortDK := by
  (intro pins s σ H vs us Q I r h)
  obtain ⟨a, kvs, ns, rfl, ha, hk, q⟩ := h
  rw [Vals.ref1 r]
  obtain ⟨z, lo, ws, kv, D⟩ := dk_of I.hok ha
  obtain ⟨ep, hat⟩ := D.dictAt
  have hlen : ws.length = ns.length := by
    rw [← kv_len kv, ← List.length_map (f := fun p : Key × V => p.1), hk, List.length_map]
  have hnl : ns.length ≤ sizeLine := by
    rw [← List.length_map (f := (Sum.inl : Int → Key)), ← hk, List.length_map]
    exact z
  (refine Calls.call_function_entry PyProof.Rows.kind_sorted PyProof.Rows.plain_sorted PyProof.Rows.entry_sorted (PyProof.Rows.args_sorted1 _) ?_)
  unfold Builtin.«sorted»
  (refine wpAny_bind (m := checkCount "sorted" 1 1 _) (wpAny_pure ?_))
  refine wpAny_bind (PySem.W.kdu_collect (A := X.A.in1) (PySem.W.kdl_dict (knd := mixKind X.prog X.w) (kvs := ws) (ep := ep) lo) (I.ok.hd hc) hat (by rw [hlen]; exact hnl) fun h' tk acc hk2 hacc => ?_)
  have hl : acc.toList.length = ws.length := by rw [Array.length_toList]; exact hacc.1
  refine wpAny_bind (wpAny_newList ?_ (by rw [hl, hlen]; exact hnl))
  have hg : (h'.push { cls := .type "list", data := .seq acc.toList.toArray }).get? h'.objs.size = some (seqObj "list" acc.toList.toArray 0) := Heap.get?_push_size _ rfl
  have items : PySem.W.EachIs (fun (v : Value) (n : Int) => RelV (.int n) v) acc.toList ns := each_int (hl.trans hlen) fun j v n hv hn => by
    obtain ⟨kk, x, h1, h2⟩ := hacc.2 j v (by rw [← Array.getElem?_toList]; exact hv)
    obtain ⟨p, hp1, hp2⟩ := pgetA kv h1
    have h3 : (kvs.map (·.1))[j]? = some (Sum.inl n) := by rw [hk, List.getElem?_map, hn]; rfl
    rw [List.getElem?_map, hp1] at h3
    have h5 : p.1 = Sum.inl n := Option.some.inj h3
    have h6 : kk = Sum.inl n := hp2.1.symm.trans h5
    subst h6
    have h7 : keyIs (Sum.inl n) v = true := h2
    rcases keyIs_shape h7 with ⟨i, t, e1, e2⟩ | ⟨x, t, e1, e2⟩
    · cases e1
      exact ⟨t, e2⟩
    · cases e1
  refine wpAny_bind (wpAny_holding (wpAny_mono (PySem.W.list_sort_data (Q := fun _ s' => EP X pins σ Q (.ref h'.objs.size) s') (R := fun (v : Value) (n : Int) => RelV (.int n) v) (enc := fun n : Int => PyData.int n) (bs := ns) hg items (items.mono fun v n h => ?_) ?_ ?_ hnl (fun b _ => ?_) (fun out ho he => ?_)) (fun _ s' x => ?_) fun _ _ e => e))
  · obtain ⟨t, rfl⟩ := h
    exact ⟨[], .int n t, by simp⟩
  · intro d hd d' hd'
    obtain ⟨_, _, rfl⟩ := List.mem_map.mp hd
    obtain ⟨_, _, rfl⟩ := List.mem_map.mp hd'
    rfl
  · refine .inr fun d hd => ?_
    obtain ⟨_, _, rfl⟩ := List.mem_map.mp hd
    exact ⟨(fun z => by cases z), (fun xs z => by cases z)⟩
  · have h1 := hr.un
    have h2 : X.A.in1.units = X.A.units + 1 := rfl
    rw [h2]
    simp only [PyData.depth]
    omega
  · rw [PySem.W.dataLe_int] at he
    obtain ⟨e2, hS⟩ := PyProof.Rows.sortedHeap_at (out := List.toArray out) hg
    have old : ∀ b u, s.heap.get? b = some u → (PyProof.Rows.sortedHeap (h'.push { cls := .type "list", data := .seq acc.toList.toArray }) h'.objs.size acc.toList (List.toArray out)).get? b = some u := fun b u e => by
      have e1 := hk2 b u e
      have lt := Heap.lt_size e1
      rw [PyProof.Rows.sortedHeap_old (Nat.ne_of_lt lt) (by rw [Heap.size_push]; exact Nat.lt_succ_of_lt lt)]
      exact Heap.get?_push_of_some _ e1
    have hp : s.heap.get? h'.objs.size = none := by
      cases e : s.heap.get? h'.objs.size with
      | none => rfl
      | some u => exact absurd (Heap.lt_size (hk2 _ u e)) (Nat.lt_irrefl _)
    have hn : H h'.objs.size = none := I.hok.gone hp
    have hz : (((sortI ns).map V.int)).length ≤ sizeLine := by
      rw [List.length_map]
      unfold sortI
      rw [List.length_mergeSort]
      exact hnl
    have J := L2.Inv.laidN (t' := tk) (a := h'.objs.size) (o := .lst ((sortI ns).map V.int)) I old hp hn ⟨hz, out, e2, of_each_int he, hS⟩
    exact ⟨.ref _, _, J, rfl, q _ hn⟩
  · exact wpAny_pure ⟨_, rfl, x⟩
end
end Hg
namespace Hg
open PySem PySem.Spec PyProof.Rows L2
/-! ### the exceptions' bundles -/
section
variable {P : Program} {w : World} {K : PySem.W.Frag} {mg : Str → Option Value} {base : Heap}
theorem er0_of (T : Txt P K mg) (x : Str) (h : ex0L.contains x = true) (h2 : excL.contains x = true) (h3 : globs.contains x = true) : Er0 K mg x (gA K x) := by
  obtain ⟨o, _⟩ := T.exc x (List.contains_iff_mem.mp h2)
  exact ⟨T.exc0 x (List.contains_iff_mem.mp h), o.kC, o.exC, o.tyC, T.glo x (List.contains_iff_mem.mp h3)⟩
theorem T_exm (T : Txt P K mg) (x y : Str) (h : raisedL.contains x = true := by decide +kernel) (h2 : caughtL.contains y = true := by decide +kernel) : PySem.W.exmOne K (.ref (gA K x)) (.ref (gA K y)) = some (hits x y) := T.exm x (List.contains_iff_mem.mp h) y (List.contains_iff_mem.mp h2)
theorem er_OutOfMemory (T : Txt P K mg) : Er P w K mg base "OutOfMemory" (gA K "OutOfMemory") (spE1 (gA K "OutOfMemory") "length") := by
  have D := T.ini ("OutOfMemory", s_OutOfMemory_init) (List.mem_of_getElem? (i := 0) rfl)
  obtain ⟨O, _⟩ := T.exc "OutOfMemory" (List.contains_iff_mem.mp (by decide +kernel))
  obtain ⟨fd, F, hb⟩ := ini_OutOfMemory (w := w) (mg := mg) (base := base) D O (T.exn ("OutOfMemory", ["length"]) (List.mem_of_getElem? (i := 0) rfl) "length" (by simp)) T.topS (T.n "super")
  exact ⟨O, _, fd, _, F, hb, D.fnd, D.typ, T.g "OutOfMemory"⟩
theorem er_NotAllowed (T : Txt P K mg) : Er P w K mg base "NotAllowed" (gA K "NotAllowed") (spE1 (gA K "NotAllowed") "length") := by
  have D := T.ini ("NotAllowed", s_NotAllowed_init) (List.mem_of_getElem? (i := 1) rfl)
  obtain ⟨O, _⟩ := T.exc "NotAllowed" (List.contains_iff_mem.mp (by decide +kernel))
  obtain ⟨fd, F, hb⟩ := ini_NotAllowed (w := w) (mg := mg) (base := base) D O (T.exn ("NotAllowed", ["length"]) (List.mem_of_getElem? (i := 1) rfl) "length" (by simp)) T.topS (T.n "super")
  exact ⟨O, _, fd, _, F, hb, D.fnd, D.typ, T.g "NotAllowed"⟩
theorem er_NoRoom (T : Txt P K mg) : Er P w K mg base "NoRoom" (gA K "NoRoom") (spE1 (gA K "NoRoom") "length") := by
  have D := T.ini ("NoRoom", s_NoRoom_init) (List.mem_of_getElem? (i := 2) rfl)
  obtain ⟨O, _⟩ := T.exc "NoRoom" (List.contains_iff_mem.mp (by decide +kernel))
  obtain ⟨fd, F, hb⟩ := ini_NoRoom (w := w) (mg := mg) (base := base) D O (T.exn ("NoRoom", ["length"]) (List.mem_of_getElem? (i := 2) rfl) "length" (by simp)) T.topS (T.n "super")
  exact ⟨O, _, fd, _, F, hb, D.fnd, D.typ, T.g "NoRoom"⟩
theorem er_NoSuchObject (T : Txt P K mg) : Er P w K mg base "NoSuchObject" (gA K "NoSuchObject") (spE1 (gA K "NoSuchObject") "number") := by
  have D := T.ini ("NoSuchObject", s_NoSuchObject_init) (List.mem_of_getElem? (i := 3) rfl)
  obtain ⟨O, _⟩ := T.exc "NoSuchObject" (List.contains_iff_mem.mp (by decide +kernel))
  obtain ⟨fd, F, hb⟩ := ini_NoSuchObject (w := w) (mg := mg) (base := base) D O (T.exn ("NoSuchObject", ["number"]) (List.mem_of_getElem? (i := 3) rfl) "number" (by simp)) T.topS (T.n "super")
  exact ⟨O, _, fd, _, F, hb, D.fnd, D.typ, T.g "NoSuchObject"⟩
theorem er_NoSuchField (T : Txt P K mg) : Er P w K mg base "NoSuchField" (gA K "NoSuchField") (spE1 (gA K "NoSuchField") "index") := by
  have D := T.ini ("NoSuchField", s_NoSuchField_init) (List.mem_of_getElem? (i := 4) rfl)
  obtain ⟨O, _⟩ := T.exc "NoSuchField" (List.contains_iff_mem.mp (by decide +kernel))
  obtain ⟨fd, F, hb⟩ := ini_NoSuchField (w := w) (mg := mg) (base := base) D O (T.exn ("NoSuchField", ["index"]) (List.mem_of_getElem? (i := 4) rfl) "index" (by simp)) T.topS (T.n "super")
  exact ⟨O, _, fd, _, F, hb, D.fnd, D.typ, T.g "NoSuchField"⟩
theorem er_StillUsed (T : Txt P K mg) : Er P w K mg base "StillUsed" (gA K "StillUsed") (spE2 (gA K "StillUsed") "number" "reason") := by
  have D := T.ini ("StillUsed", s_StillUsed_init) (List.mem_of_getElem? (i := 5) rfl)
  obtain ⟨O, _⟩ := T.exc "StillUsed" (List.contains_iff_mem.mp (by decide +kernel))
  obtain ⟨fd, F, hb⟩ := ini_StillUsed (w := w) (mg := mg) (base := base) D O (T.exn ("StillUsed", ["number", "reason"]) (List.mem_of_getElem? (i := 5) rfl) "number" (by simp)) (T.exn ("StillUsed", ["number", "reason"]) (List.mem_of_getElem? (i := 5) rfl) "reason" (by simp)) T.topS (T.n "super")
  exact ⟨O, _, fd, _, F, hb, D.fnd, D.typ, T.g "StillUsed"⟩
theorem er_PowerCut (T : Txt P K mg) : Er P w K mg base "PowerCut" (gA K "PowerCut") (spE1 (gA K "PowerCut") "written") := by
  have D := T.ini ("PowerCut", s_PowerCut_init) (List.mem_of_getElem? (i := 6) rfl)
  obtain ⟨O, _⟩ := T.exc "PowerCut" (List.contains_iff_mem.mp (by decide +kernel))
  obtain ⟨fd, F, hb⟩ := ini_PowerCut (w := w) (mg := mg) (base := base) D O (T.exn ("PowerCut", ["written"]) (List.mem_of_getElem? (i := 6) rfl) "written" (by simp)) T.topS (T.n "super")
  exact ⟨O, _, fd, _, F, hb, D.fnd, D.typ, T.g "PowerCut"⟩
end
end Hg
namespace Hg
open PySem PySem.Spec PyProof.Rows L2
/-! ### fields, the store -/
inductive FV where
  | non
  | num (i : Int)
  | obj (n : Int)
  deriving DecidableEq
def encF : FV → PyData
  | .non => .none
  | .num i => .int i
  | .obj n => .tuple [.str "object", .int n]
def tgt : FV → Option Int
  | .obj n => some n
  | _ => none
section
variable {P : Program} {w : World} {K : PySem.W.Frag} {mg : Str → Option Value} {base : Heap}
theorem DI.obj_inv {H : Hp} {v : V} {n : Int} (h : DI K H v (encF (.obj n))) : ∃ a, v = .ref a ∧ SqT K (imm H) a [.str "object", .int n] := by
  obtain ⟨a, xs, e, hs, hd⟩ := DI.tup_inv h
  cases hd with
  | cons h1 t => cases t with
    | cons h2 t2 =>
      cases t2
      cases h1
      cases h2
      exact ⟨a, e, hs⟩
theorem tyT {H : Hp} {a : Addr} {xs : List V} (h : SqT K H a xs) : TyX K H (.ref a) (.type "tuple") := by
  rcases h with (h | ⟨o, h⟩) | ⟨o, its, n, h1, h2, _⟩
  · exact .base (.tup h)
  · exact .fTuple h
  · exact .kTuple h1 h2
def spTarget (K : PySem.W.Frag) : Sp := fun vs H Q _ => ∃ (v : V) (f : FV), vs = [v] ∧ DI K H v (encF f) ∧ Q (oiV (tgt f)) H
theorem sc_target : FnScope ["value"] ["value"] (defScope s_target_of) := ⟨rfl, rfl, rfl, by decide +kernel, rfl, by decide +kernel, by decide +kernel⟩
theorem w_target (T : Txt P K mg) : Cl P w K mg base 1 "target_of" (spTarget K) := by
  have nd := sc_target.nd
  refine cl_of T (fn_mem 27 rfl) (by decide +kernel) sc_target (b1 fun _ _ _ _ _ _ _ => rfl) (fun vs H Q E ⟨_, _, e, _⟩ => by rw [e]; rfl) fun cdv A outer s H vs Q E hr ⟨v, f, e, hv, hq⟩ => ?_
  subst e
  refine ⟨_, (pss_cons (ps_if (pt_truth (pe_callB call_isi (by rfl) (T.n "isinstance") (by decide +kernel) (pa_cons (pv 0) (pa_cons (pe_bltn (v := .ty "tuple") (by rfl) (T.n "tuple") (by decide +kernel) rfl) pa_nil))) (by intro _; rfl)) (pss_one (ps_ret (pe_ix ix_tup (pv 0) pe_int (fun _ _ => rfl)))) pss_nil) (pss_one (ps_ret pe_non))), ?_⟩
  cases f with
  | non =>
    cases hv
    exact ⟨_, rfl, _, .ty "tuple", _, _, false, rfl, .ty _, .base .non, kit_ty (by decide +kernel), false, rfl, iteF hq⟩
  | num i =>
    cases hv
    exact ⟨_, rfl, _, .ty "tuple", _, _, false, rfl, .ty _, .base (.int i), kit_ty (by decide +kernel), false, rfl, iteF hq⟩
  | obj n =>
    obtain ⟨a, rfl, hs⟩ := DI.obj_inv hv
    have hs := SqT.le (leI H) hs
    exact ⟨_, rfl, _, .ty "tuple", _, _, true, rfl, .ty _, tyT hs, kit_ty (by decide +kernel), true, rfl, iteT ⟨_, rfl, a, _, 1, .int n, rfl, rfl, hs, atI_nat (j := 1) rfl, hq⟩⟩
end
/-! the store -/
structure Ob where
  n : Int
  a : Addr
  fs : List FV
structure Sto where
  dx : Addr
  od : Addr
  rl : Addr
  os : List Ob
  roots : List Int
  next : Int
def Ob.kv (o : Ob) : Key × V := (Sum.inl o.n, .ref o.a)
def Sto.kvs (S : Sto) : List (Key × V) := S.os.map Ob.kv
def Sto.keys (S : Sto) : List Int := S.os.map (·.n)
structure StoreAt (K : PySem.W.Frag) (H : Hp) (s : Addr) (S : Sto) : Prop where
  ins : H s = some (.ins (gA K "Store") S.dx [("objects", .ref S.od), ("roots", .ref S.rl), ("next_number", .int S.next)])
  own : H S.dx = some (.own s)
  dic : H S.od = some (.dK S.kvs)
  rts : H S.rl = some (.lst (S.roots.map V.int))
  fld : ∀ o ∈ S.os, ∃ vs, H o.a = some (.lst vs) ∧ DIs K H vs (o.fs.map encF)
  nd : (S.rl :: S.os.map (·.a)).Nodup
  kn : S.keys.Nodup
def Sto.foot (S : Sto) (s : Addr) : List Addr := s :: S.dx :: S.od :: S.rl :: S.os.map (·.a)
/-- what of the store may change: an address of its own -/
abbrev InF (l : List Addr) : Addr → Prop := fun b => b ∈ l
section
variable {K : PySem.W.Frag} {F : Addr → Prop} {H H' : Hp} {s : Addr} {S : Sto}
theorem StoreAt.frame (h : StoreAt K H s S) (e : ExF F H H') (hF : ∀ b ∈ S.foot s, ¬ F b) : StoreAt K H' s S where
  ins := e.at h.ins (hF _ (by simp [Sto.foot]))
  own := e.at h.own (hF _ (by simp [Sto.foot]))
  dic := e.at h.dic (hF _ (by simp [Sto.foot]))
  rts := e.at h.rts (hF _ (by simp [Sto.foot]))
  fld := fun o ho => by
    obtain ⟨vs, h1, h2⟩ := h.fld o ho
    exact ⟨vs, e.at h1 (hF _ (by simp only [Sto.foot, List.mem_cons]; exact .inr (.inr (.inr (.inr (List.mem_map.mpr ⟨o, ho, rfl⟩)))))), DIs.ex h2 e⟩
  nd := h.nd
  kn := h.kn
theorem StoreAt.ex (h : StoreAt K H s S) (e : Ex H H') : StoreAt K H' s S := h.frame e fun _ _ z => z
theorem StoreAt.live (h : StoreAt K H s S) : ∀ b ∈ S.foot s, H b ≠ none := fun b hb z => by
  simp only [Sto.foot, List.mem_cons] at hb
  rcases hb with rfl | rfl | rfl | rfl | hb
  · rw [h.ins] at z; cases z
  · rw [h.own] at z; cases z
  · rw [h.dic] at z; cases z
  · rw [h.rts] at z; cases z
  · obtain ⟨o, ho, rfl⟩ := List.mem_map.mp hb
    obtain ⟨vs, h1, _⟩ := h.fld o ho
    rw [h1] at z; cases z
end
/-- the object of that number -/
def Sto.get (S : Sto) (n : Int) : Option Ob := S.os.find? fun o => decide (o.n = n)
theorem kvs_val (os : List Ob) (n : Int) : valV (os.map Ob.kv) (Sum.inl n : Key) = (os.find? fun o => decide (o.n = n)).map fun o => .ref o.a := by
  induction os with
  | nil => rfl
  | cons o os ih =>
    rw [List.map_cons]
    by_cases h : o.n = n
    · rw [valV_pos (show (Ob.kv o).1 = Sum.inl n by show Sum.inl o.n = _; rw [h]), List.find?_cons_of_pos (by simp [h])]
      rfl
    · rw [valV_neg (show ¬ (Ob.kv o).1 = Sum.inl n from fun z => h (Sum.inl.inj z)), List.find?_cons_of_neg (by simp [h])]
      exact ih
theorem Sto.get_mem {S : Sto} {n : Int} {o : Ob} (h : S.get n = some o) : o ∈ S.os ∧ o.n = n := ⟨List.mem_of_find?_eq_some h, by simpa using List.find?_some h⟩
theorem Sto.get_none {S : Sto} {n : Int} : S.get n = none ↔ n ∉ S.keys := by
  unfold Sto.get Sto.keys
  rw [List.find?_eq_none]
  constructor
  · intro h z
    obtain ⟨o, ho, e⟩ := List.mem_map.mp z
    exact h o ho (by simp [e])
  · intro h o ho z
    exact h (List.mem_map.mpr ⟨o, ho, by simpa using z⟩)
theorem StoreAt.dget {K : PySem.W.Frag} {H : Hp} {s : Addr} {S : Sto} (h : StoreAt K H s S) (n : Int) : DGet H S.od (.int n) ((S.get n).map fun o => .ref o.a) := by
  have := DGet.k (k := Sum.inl n) h.dic
  rw [Sto.kvs, kvs_val] at this
  exact this
end Hg
namespace Hg
open PySem PySem.Spec PyProof.Rows L2
/-! ### locks -/
section
variable {K : PySem.W.Frag} {F : Addr → Prop} {H G : Hp} {d : Addr} {u : HO} {od : Obj}
theorem ExF.unlock (e : ExF F (L2.upd H d (.frz od u)) G) (hd : H d = some u) (i : isImm u = false) (t : isTbl u = false) : ExF F H (L2.upd G d u) where
  keep := fun b o k n q => by
    by_cases hb : b = d
    · rw [hb, hd] at k
      rw [hb, upd_same, k]
    · rw [upd_ne hb]
      exact e.keep b o (by rw [upd_ne hb]; exact k) n q
  live := fun b k => by
    by_cases hb : b = d
    · rw [hb, upd_same] at k
      cases k
    · rw [upd_ne hb] at k
      have := e.live b k
      rw [upd_ne hb] at this
      exact this
  tab := fun p ps k q => by
    have hb : p ≠ d := fun z => by
      rw [z, hd] at k
      cases k
      cases t
    rw [upd_ne hb]
    exact e.tab p ps (by rw [upd_ne hb]; exact k) q
  imm := fun b o k => by
    have hb : b ≠ d := fun z => by
      have h1 := imm_le k
      have h2 := imm_some k
      rw [z, hd] at h1
      cases h1
      rw [i] at h2
      cases h2
    rw [upd_ne hb]
    exact e.imm b o (imm_of (by rw [upd_ne hb]; exact imm_le k) (imm_some k))
theorem DI.lockd {v : V} {x : PyData} (h : DI K H v x) (hd : H d = some u) (i : isImm u = false) {o : HO} : DI K (upd H d o) v x := Dp.le (imm_le_upd hd i) h
/-- neither a list nor a tuple -/
def notSeq : HO → Bool
  | .lst _ => false
  | .tup _ => false
  | _ => true
mutual
theorem Dp.unl (hd : H d = some (.frz od u)) (nu : notSeq u = true) : ∀ {v : V} {x : PyData}, Dp K (imm H) v x → Dp K (imm (upd H d u)) v x
  | _, _, .non => .non
  | _, _, .bl b => .bl b
  | _, _, .int i => .int i
  | _, _, .str x => .str x
  | _, _, .lst (a := a) hs ha => .lst (hs.imp (fun r => by
      have hne : a ≠ d := fun z => by
        rcases r with r | ⟨o, r⟩
        · have := imm_le r
          rw [z, hd] at this
          cases this
        · have := imm_le r
          rw [z, hd] at this
          cases this
          cases nu
      rcases r with r | ⟨o, r⟩
      · exact .inl (imm_of (by rw [upd_ne hne]; exact imm_le r) (imm_some r))
      · exact .inr ⟨o, imm_of (by rw [upd_ne hne]; exact imm_le r) rfl⟩) id) (DpAll.unl hd nu ha)
  | _, _, .tup (a := a) hs ha => .tup (hs.imp (fun r => by
      have hne : a ≠ d := fun z => by
        rcases r with r | ⟨o, r⟩
        · have := imm_le r
          rw [z, hd] at this
          cases this
        · have := imm_le r
          rw [z, hd] at this
          cases this
          cases nu
      rcases r with r | ⟨o, r⟩
      · exact .inl (imm_of (by rw [upd_ne hne]; exact imm_le r) (imm_some r))
      · exact .inr ⟨o, imm_of (by rw [upd_ne hne]; exact imm_le r) rfl⟩) id) (DpAll.unl hd nu ha)
theorem DpAll.unl (hd : H d = some (.frz od u)) (nu : notSeq u = true) : ∀ {vs : List V} {ds : List PyData}, DpAll K (imm H) vs ds → DpAll K (imm (upd H d u)) vs ds
  | _, _, .nil => .nil
  | _, _, .cons h t => .cons (Dp.unl hd nu h) (DpAll.unl hd nu t)
end
end
/-! ### for k in d, [.. for k in d] -/
section
variable {d : Addr} {o : Obj} {kvs : List (Key × V)} {ns : List Int}
theorem key_at {pre post : List Int} {n : Int} (hk : kvs.map (·.1) = ns.map Sum.inl) (el : ns = pre ++ n :: post) {k : Key} {v : V} (h : kvs[pre.length]? = some (k, v)) : k = Sum.inl n := by
  have h1 : (kvs.map (·.1))[pre.length]? = some k := by rw [List.getElem?_map, h]; rfl
  rw [hk, el] at h1
  simp at h1
  exact h1.symm
theorem for_k (hk : kvs.map (·.1) = ns.map Sum.inl) {g : TG} {tb : TS} {D : Ends} {σ : L2.St} {H : Hp} (Pv : List Int → L2.St → Hp → Prop) (h0 : Pv [] σ H) (hG : ∀ pre σ H, Pv pre σ H → H d = some (.frz o (.dK kvs)))
    (hs : ∀ pre n post σ H, ns = pre ++ n :: post → Pv pre σ H → g (.int n) σ H fun σ2 H2 => tb { D with nx := Pv (pre ++ [n]), ct := Pv (pre ++ [n]), bk := D.nx } σ2 H2) (hd : ∀ σ H, Pv ns σ H → D.nx σ H) :
    ∃ W : Nat → Nat → L2.St → Hp → Prop, (∃ m, W 0 m σ H) ∧ ∀ i m τ G, W i m τ G →
      ((Itk d o kvs).stop i G ∧ D.nx τ G) ∨ ((Itk d o kvs).go i G ∧ ∃ N : L2.St → Hp → Prop, (∀ τ' G', N τ' G' → ∃ m', m' < m ∧ W (i + 1) m' τ' G') ∧ ∀ x G', (Itk d o kvs).yld i G x G' → g x τ G' fun σ2 H2 => tb { D with nx := N, ct := N, bk := D.nx } σ2 H2) := by
  have hl : kvs.length = ns.length := by rw [← List.length_map (f := fun p : Key × V => p.1), hk, List.length_map]
  refine for_l ns (by rw [← hl]; exact walk_keys) Pv h0 hG (fun pre x post v σ H H' el p y => ?_) hd
  obtain ⟨rfl, k, v, e1, rfl⟩ := y
  rw [key_at hk el e1]
  exact hs pre x post σ _ el p
theorem lc_k (hk : kvs.map (·.1) = ns.map Sum.inl) {g : TG} {tt : TT} {te : TE} {vs : List Nat} {σ : L2.St} {H1 : Hp} {D : Addr} {Qd : Hp → Prop} (Pv : List Int → Hp → Prop) (h0 : Pv [] (upd H1 D (.lst []))) (hG : ∀ pre H, Pv pre H → H d = some (.frz o (.dK kvs)))
    (hs : ∀ pre n post H, ns = pre ++ n :: post → Pv pre H → g (.int n) (wipe σ vs) H fun σ2 H2 => wipe σ2 vs = wipe σ vs ∧ tt σ2 H2 fun b H3 =>
      if b = true then te σ2 H3 fun y H4 => ∃ acc, H4 D = some (.lst acc) ∧ acc.length < sizeLine ∧ Pv (pre ++ [n]) (upd H4 D (.lst (acc ++ [y]))) else Pv (pre ++ [n]) H3) (hd : ∀ H, Pv ns H → Qd H) :
    ∃ W : Nat → Nat → Hp → Prop, (∃ m, W 0 m (upd H1 D (.lst []))) ∧ ∀ i m G, W i m G →
      ((Itk d o kvs).stop i G ∧ Qd G) ∨ ((Itk d o kvs).go i G ∧ ∃ Nx : Hp → Prop, (∀ G', Nx G' → ∃ m', m' < m ∧ W (i + 1) m' G') ∧ ∀ x G', (Itk d o kvs).yld i G x G' → g x (wipe σ vs) G' fun σ2 H2 => wipe σ2 vs = wipe σ vs ∧ tt σ2 H2 fun b H3 =>
        if b = true then te σ2 H3 fun y H4 => ∃ av, H4 D = some (.lst av) ∧ av.length < sizeLine ∧ Nx (upd H4 D (.lst (av ++ [y]))) else Nx H3) := by
  have hl : kvs.length = ns.length := by rw [← List.length_map (f := fun p : Key × V => p.1), hk, List.length_map]
  refine lc_l ns (by rw [← hl]; exact walk_keys) Pv h0 hG (fun pre x post v H H' el p y => ?_) hd
  obtain ⟨rfl, k, v, e1, rfl⟩ := y
  rw [key_at hk el e1]
  exact hs pre x post _ el p
end
theorem Sto.kvs_keys (S : Sto) : S.kvs.map (·.1) = S.keys.map (Sum.inl : Int → Key) := by
  unfold Sto.kvs Sto.keys
  (rw [List.map_map, List.map_map])
  rfl
end Hg
namespace Hg
open PySem PySem.Spec PyProof.Rows L2
/-! ### Store: __init__, fields, read, numbers -/
/-- an error of one of the program's classes, with those fields; nothing else changed -/
def Rx (K : PySem.W.Frag) (E : XK) (H : Hp) (x : Str) (fs : List (Str × V)) : Prop := ∀ H' d, Ex H H' → H' d = some (.xd fs) → E (.ref (gA K x)) (some d) H'
section
variable {P : Program} {w : World} {K : PySem.W.Frag} {mg : Str → Option Value} {base : Heap}
abbrev CStore (K : PySem.W.Frag) : Addr := gA K "Store"
def spStore0 (K : PySem.W.Frag) : Sp := fun vs H Q _ => ∃ (x dx : Addr), vs = [.ref x] ∧ H x = some (.ins (CStore K) dx []) ∧ H dx = some (.own x) ∧
  ∀ H' od rl, ExF (fun b => b = x) H H' → H od = none → H rl = none → StoreAt K H' x ⟨dx, od, rl, [], [], 0⟩ → Q .non H'
theorem sc_store0 : FnScope ["self"] ["self"] (defScope s_Store_init) := ⟨rfl, rfl, rfl, by decide +kernel, rfl, by decide +kernel, by decide +kernel⟩
theorem w_store0 (T : Txt P K mg) : Mr P w K mg base 1 "Store" (CStore K) (spStore0 K) := by
  have nd := sc_store0.nd
  refine mr_of T (fn_mem 58 rfl) (by decide +kernel) (by decide +kernel) sc_store0 (b1 fun _ _ _ _ _ _ _ => rfl) (fun vs H Q E ⟨_, _, e, _⟩ => by rw [e]; rfl) fun cdv A outer s H vs Q E hr ⟨x, dx, e, hx, hdx, hq⟩ => ?_
  subst e
  refine ⟨_, (pss_cons (ps_fld (pv 0) pe_dnewK rfl) (pss_cons (ps_fld (pv 0) (pe_lst pa_nil) rfl) (pss_one (ps_fld (pv 0) pe_int rfl)))), ?_⟩
  refine fun d hd => ⟨_, rfl, x, CStore K, dx, [], rfl, ?_, T.cls "Store", T.noat "Store" "objects", by show (0 : Nat) < 1000; decide, ?_⟩
  · rw [upd_ne (ne_of_none hx hd)]
    exact hx
  have n1 : dx ≠ d := ne_of_none hdx hd
  have n2 : x ≠ d := ne_of_none hx hd
  have n3 : dx ≠ x := ne_of hdx hx (by intro z; cases z)
  refine ⟨Nat.zero_le _, fun l hl => ⟨_, rfl, x, CStore K, dx, [("objects", .ref d)], rfl, ?_, T.cls "Store", T.noat "Store" "roots", by show (1 : Nat) < 1000; decide, ?_⟩⟩
  · have n4 : x ≠ l := fun z => by rw [← z, upd_same] at hl; cases hl
    rw [upd_ne n4, upd_same]
    rfl
  have n4 : l ≠ x := fun z => by rw [z, upd_same] at hl; cases hl
  rw [upd_ne n4] at hl
  have n5 : l ≠ d := fun z => by rw [z, upd_same] at hl; cases hl
  rw [upd_ne n5] at hl
  have n6 : dx ≠ l := ne_of_none hdx hl
  refine ⟨_, rfl, x, CStore K, dx, [("objects", .ref d), ("roots", .ref l)], rfl, upd_same, T.cls "Store", T.noat "Store" "next_number", by show (2 : Nat) < 1000; decide, ?_⟩
  refine hq _ d l ?_ hd hl ⟨upd_same, ?_, ?_, ?_, (fun o ho => by cases ho), (by simp), (by simp [Sto.keys])⟩
  · have e1 : ExF (fun b => b = x) H (upd H d (.dK [])) := ExF.of (Ex.new hd)
    have hx' : ∃ u, H x = some u ∧ isImm u = false ∧ isTbl u = false := ⟨_, hx, rfl, rfl⟩
    exact (((e1.upd (.inr ⟨rfl, hx'⟩)).upd (.inl hl)).upd (.inr ⟨rfl, hx'⟩)).upd (.inr ⟨rfl, hx'⟩)
  · rw [upd_ne n3, upd_ne n3, upd_ne n6, upd_ne n3, upd_ne n1]
    exact hdx
  · show upd _ _ _ d = _
    rw [upd_ne (Ne.symm n2), upd_ne (Ne.symm n2), upd_ne (Ne.symm n5), upd_ne (Ne.symm n2), upd_same]
    rfl
  · rw [upd_ne n4, upd_ne n4, upd_same]
    rfl
/-! fields -/
def spFields (K : PySem.W.Frag) : Sp := fun vs H Q E => ∃ (s : Addr) (S : Sto) (n : Int), vs = [.ref s, .int n] ∧ StoreAt K H s S ∧ n.natAbs.log2 < 1920 ∧ (∀ o, S.get n = some o → Q (.ref o.a) H) ∧ (S.get n = none → Rx K E H "NoSuchObject" [("number", .int n)])
theorem sc_fields : FnScope ["self", "number"] ["self", "number"] (defScope s_Store_fields) := ⟨rfl, rfl, rfl, by decide +kernel, rfl, by decide +kernel, by decide +kernel⟩
theorem w_fields (T : Txt P K mg) : Mt P w K mg base 3 (CStore K) "fields" (spFields K) := by
  have nd := sc_fields.nd
  refine mt_of T (fn_mem 61 rfl) (by decide +kernel) (by decide +kernel) sc_fields (b2 fun _ _ _ _ _ _ _ _ => rfl) (fun vs H Q E ⟨_, _, _, e, _⟩ => by rw [e]; rfl) fun cdv A outer s H vs Q E hr ⟨x, S, n, e, hS, hz, hq, hE⟩ => ?_
  subst e
  refine ⟨_, (pss_cons (ps_if (pt_cmp (pc_dnotin (hu_of hr) (pv 1) (pe_fld (pv 0) rfl))) (pss_one (ps_raise1 (er_NoSuchObject T) hr rfl tk0 (pv 1))) pss_nil) (pss_one (ps_ret (pe_dget (hu_of hr) (pe_fld (pv 0) rfl) (pv 1) (fun _ _ => rfl))))), ?_⟩
  have dg := hS.dget n
  refine ⟨_, rfl, _, rfl, x, _, _, _, _, rfl, hS.ins, T.cls "Store", T.noat "Store" "objects", rfl, S.od, _, rfl, dg, _, rfl, ?_⟩
  cases h : S.get n with
  | none => exact iteT ⟨_, rfl, .inr ⟨n, rfl, hz⟩, fun d hd => hE h _ d (Ex.new hd) upd_same⟩
  | some o =>
    rw [h] at dg
    exact iteF ⟨_, rfl, x, _, _, _, _, rfl, hS.ins, T.cls "Store", T.noat "Store" "objects", rfl, _, rfl, S.od, _, rfl, dg, hq o h⟩
/-! read -/
def spRead (K : PySem.W.Frag) : Sp := fun vs H Q E => ∃ (s : Addr) (S : Sto) (n i : Int), vs = [.ref s, .int n, .int i] ∧ StoreAt K H s S ∧ n.natAbs.log2 < 1920 ∧ i.natAbs.log2 < 1920 ∧ (∀ o f v, S.get n = some o → 0 ≤ i → o.fs[i.toNat]? = some f → DI K H v (encF f) → Q v H) ∧
  (∀ o, S.get n = some o → ¬ (0 ≤ i ∧ i < o.fs.length) → Rx K E H "NoSuchField" [("index", .int i)]) ∧ (S.get n = none → Rx K E H "NoSuchObject" [("number", .int n)])
abbrev N_sread : List Str := ["self", "number", "index", "fields"]
theorem sc_sread : FnScope N_sread ["self", "number", "index"] (defScope s_Store_read) := ⟨rfl, rfl, rfl, by decide +kernel, rfl, by decide +kernel, by decide +kernel⟩
theorem w_sread (T : Txt P K mg) : Mt P w K mg base 4 (CStore K) "read" (spRead K) := by
  have nd := sc_sread.nd
  have c1 := w_fields (w := w) (base := base) T
  refine mt_of T (fn_mem 63 rfl) (by decide +kernel) (by decide +kernel) sc_sread (b3 fun _ _ _ _ _ _ _ _ _ => rfl) (fun vs H Q E ⟨_, _, _, _, e, _⟩ => by rw [e]; rfl) fun cdv A outer s H vs Q E hr ⟨x, S, n, i, e, hS, hz, hz2, hq, hE1, hE2⟩ => ?_
  subst e
  refine ⟨_, (pss_cons (ps_set (i := 3) nd rfl (.inl rfl) (pe_mt c1 hr tk0 (pv 0) (pa_cons (pv 1) pa_nil))) (pss_cons (ps_if (pt_not (pt_chain op_le op_lt pe_int (pv 2) (pe_callB call_len_seq (by rfl) (T.n "len") PySem.boot_len (pa_cons (pv 3) pa_nil)))) (pss_one (ps_raise1 (er_NoSuchField T) hr rfl tk0 (pv 2))) pss_nil) (pss_one (ps_ret (pe_ix ix_list (pv 3) (pv 2) (fun _ _ => rfl)))))), ?_⟩
  refine ⟨_, rfl, x, _, _, rfl, hS.ins, rfl, _, rfl, x, S, n, rfl, hS, hz, fun o ho => ?_, fun h H' d e hd => hE2 h H' d e hd⟩
  obtain ⟨vs, hvs, dvs⟩ := hS.fld o (Sto.get_mem ho).1
  have hlen : vs.length = o.fs.length := by rw [DpAll.length dvs, List.length_map]
  refine ⟨_, rfl, _, _, rfl, rfl, _, rfl, iteD (fun h0 => ⟨_, rfl, o.a, vs, rfl, .inl (SqL.of hvs), _, _, rfl, rfl, _, rfl, ?_⟩) fun h0 => ⟨_, rfl, ?_⟩⟩
  · by_cases h1 : i < (vs.length : Int)
    · refine itYn h1 ?_
      obtain ⟨f, hf⟩ : ∃ f, o.fs[i.toNat]? = some f := ⟨_, List.getElem?_eq_getElem (by omega)⟩
      obtain ⟨v, hv, dv⟩ := DpAll.at_ dvs (i := i.toNat) (d := encF f) (by rw [List.getElem?_map, hf]; rfl)
      have ha := atI_nat hv
      rw [show ((i.toNat : Nat) : Int) = i by omega] at ha
      exact ⟨_, rfl, _, rfl, o.a, vs, i, v, rfl, rfl, SqL.of hvs, ha, hq o f v ho h0 hf dv⟩
    · exact itNn h1 ⟨_, rfl, .inr ⟨i, rfl, hz2⟩, fun d hd => hE1 o ho (fun z => h1 (by omega)) _ d (Ex.new hd) upd_same⟩
  · exact iteT ⟨_, rfl, .inr ⟨i, rfl, hz2⟩, fun d hd => hE1 o ho (fun z => h0 z.1) _ d (Ex.new hd) upd_same⟩
end
end Hg
namespace Hg
open PySem PySem.Spec PyProof.Rows L2
/-! ### Store: make, write -/
/-- S stands now, of what stood in l or is new -/
structure Now (K : PySem.W.Frag) (H H' : Hp) (s : Addr) (S S' : Sto) : Prop where
  ex : ExF (InF (S.foot s)) H H'
  at_ : StoreAt K H' s S'
  ft : ∀ b ∈ S'.foot s, b ∈ S.foot s ∨ H b = none
section
variable {K : PySem.W.Frag} {H : Hp} {s : Addr} {S : Sto}
theorem StoreAt.nes (h : StoreAt K H s S) : s ≠ S.dx ∧ s ≠ S.od ∧ s ≠ S.rl ∧ S.dx ≠ S.od ∧ S.dx ≠ S.rl ∧ S.od ≠ S.rl ∧ ∀ o ∈ S.os, o.a ≠ s ∧ o.a ≠ S.dx ∧ o.a ≠ S.od ∧ o.a ≠ S.rl := by
  refine ⟨ne_of h.ins h.own (by intro z; cases z), ne_of h.ins h.dic (by intro z; cases z), ne_of h.ins h.rts (by intro z; cases z), ne_of h.own h.dic (by intro z; cases z), ne_of h.own h.rts (by intro z; cases z), ne_of h.dic h.rts (by intro z; cases z), fun o ho => ?_⟩
  obtain ⟨vs, h1, _⟩ := h.fld o ho
  refine ⟨ne_of h1 h.ins (by intro z; cases z), ne_of h1 h.own (by intro z; cases z), ne_of h1 h.dic (by intro z; cases z), fun z => ?_⟩
  have := (List.nodup_cons.mp h.nd).1
  exact this (List.mem_map.mpr ⟨o, ho, z⟩)
theorem Sto.foot_s {s : Addr} {S : Sto} : s ∈ S.foot s := by simp [Sto.foot]
theorem Sto.foot_od {s : Addr} {S : Sto} : S.od ∈ S.foot s := by simp [Sto.foot]
theorem Sto.foot_rl {s : Addr} {S : Sto} : S.rl ∈ S.foot s := by simp [Sto.foot]
theorem Sto.foot_a {s : Addr} {S : Sto} {o : Ob} (h : o ∈ S.os) : o.a ∈ S.foot s := by
  simp only [Sto.foot, List.mem_cons]
  exact .inr (.inr (.inr (.inr (List.mem_map.mpr ⟨o, h, rfl⟩))))
theorem foot_cases {s b : Addr} {S : Sto} (h : b ∈ S.foot s) : b = s ∨ b = S.dx ∨ b = S.od ∨ b = S.rl ∨ ∃ o ∈ S.os, o.a = b := by
  simp only [Sto.foot, List.mem_cons] at h
  rcases h with h | h | h | h | h
  · exact .inl h
  · exact .inr (.inl h)
  · exact .inr (.inr (.inl h))
  · exact .inr (.inr (.inr (.inl h)))
  · obtain ⟨o, ho, e⟩ := List.mem_map.mp h
    exact .inr (.inr (.inr (.inr ⟨o, ho, e⟩)))
theorem putK_new {kvs : List (Key × V)} {k : Key} {v : V} (h : valV kvs k = none) : putK kvs k v = kvs ++ [(k, v)] := by
  unfold putK
  rw [valV_any, h]
  rfl
end
section
variable {P : Program} {w : World} {K : PySem.W.Frag} {mg : Str → Option Value} {base : Heap}
def Sto.made (S : Sto) (a : Addr) (c : Int) : Sto := { S with os := S.os ++ [⟨S.next, a, List.replicate c.toNat .non⟩], next := S.next + 1 }
def spMk (K : PySem.W.Frag) : Sp := fun vs H Q _ => ∃ (s : Addr) (S : Sto) (c : Int), vs = [.ref s, .int c] ∧ StoreAt K H s S ∧ 0 ≤ c ∧ c ≤ 1000 ∧ S.next ∉ S.keys ∧ S.os.length ≤ 10000 ∧ ∀ H' a, Now K H H' s S (S.made a c) → Q (.int S.next) H'
abbrev N_smake : List Str := ["self", "count", "number"]
theorem sc_smake : FnScope N_smake ["self", "count"] (defScope s_Store_make) := ⟨rfl, rfl, rfl, by decide +kernel, rfl, by decide +kernel, by decide +kernel⟩
theorem w_smake (T : Txt P K mg) : Mt P w K mg base 1 (CStore K) "make" (spMk K) := by
  have nd := sc_smake.nd
  refine mt_of T (fn_mem 62 rfl) (by decide +kernel) (by decide +kernel) sc_smake (b2 fun _ _ _ _ _ _ _ _ => rfl) (fun vs H Q E ⟨_, _, _, e, _⟩ => by rw [e]; rfl) fun cdv A outer s H vs Q E hr ⟨x, S, c, e, hS, c0, c1, hnx, hlen, hq⟩ => ?_
  subst e
  refine ⟨_, (pss_cons (ps_set (i := 2) nd rfl (.inl rfl) (pe_fld (pv 0) rfl)) (pss_cons (ps_dput (hu_of hr) (pe_fld (pv 0) rfl) (pv 2) (pe_op op_rep (pe_lst (pa_cons pe_non pa_nil)) (pv 1)) rfl) (pss_cons (ps_fldaug (pv 0) pe_int in_add) (pss_one (ps_ret (pv 2)))))), ?_⟩
  refine ⟨_, rfl, x, _, _, _, _, rfl, hS.ins, T.cls "Store", T.noat "Store" "next_number", rfl, ?_⟩
  refine ⟨sz1, fun p np => ⟨_, rfl, p, c, _, rfl, rfl, upd_same, by omega, by omega, leL (m := 1000) (by show 1 * c.toNat ≤ 1000; omega) (by decide), fun q nq => ?_⟩⟩
  have e1 : Ex H (upd H p (.lst [.non])) := Ex.new np
  have e2 : Ex H (upd (upd H p (.lst [.non])) q (.lst (List.replicate c.toNat [V.non]).flatten)) := e1.trans (Ex.new nq)
  have hqH : H q = none := e1.gone nq
  have hS2 := hS.ex e2
  obtain ⟨n1, n2, n3, n4, n5, n6, n7⟩ := hS.nes
  have hget : S.get S.next = none := Sto.get_none.mpr hnx
  refine ⟨_, rfl, x, _, _, _, _, rfl, hS2.ins, T.cls "Store", T.noat "Store" "objects", rfl, _, rfl, S.od, _, rfl, DPut.k (k := Sum.inl S.next) hS2.dic (ltL (m := 10001) (by rw [Sto.kvs, List.length_map]; omega) (by decide)), ?_⟩
  have hput : putK S.kvs (Sum.inl S.next) (V.ref q) = (S.made q c).kvs := by
    rw [putK_new (by rw [Sto.kvs, kvs_val, show (S.os.find? fun o => decide (o.n = S.next)) = none from hget]; rfl)]
    simp [Sto.kvs, Sto.made, Ob.kv]
  rw [hput]
  generalize hG : upd (upd H p (.lst [.non])) q (.lst (List.replicate c.toNat [V.non]).flatten) = G at e2 hS2 ⊢
  have hGq : G q = some (.lst (List.replicate c.toNat [V.non]).flatten) := by rw [← hG, upd_same]
  refine ⟨_, rfl, x, _, _, _, _, rfl, by rw [upd_ne n2]; exact hS2.ins, T.cls "Store", T.noat "Store" "next_number", rfl, _, _, rfl, rfl, S.dx, _, by rw [upd_ne n2]; exact hS2.ins, by show (3 : Nat) < 1000; decide, _, rfl, ?_⟩
  have nq1 : ∀ {b : Addr} {o : HO}, H b = some o → b ≠ q := fun h => ne_of_none h hqH
  refine hq _ q ⟨?_, ⟨?_, ?_, ?_, ?_, fun o ho => ?_, ?_, ?_⟩, fun b hb => ?_⟩
  · exact (e2.of.upd (.inr ⟨Sto.foot_od, _, hS.dic, rfl, rfl⟩)).upd (.inr ⟨Sto.foot_s, _, hS.ins, rfl, rfl⟩)
  · rw [upd_same]
    rfl
  · show upd _ _ _ S.dx = _
    rw [upd_ne (Ne.symm n1), upd_ne n4]
    exact hS2.own
  · show upd _ _ _ S.od = _
    rw [upd_ne (Ne.symm n2), upd_same]
  · show upd _ _ _ S.rl = _
    rw [upd_ne (Ne.symm n3), upd_ne (Ne.symm n6)]
    exact hS2.rts
  · rcases List.mem_append.mp ho with ho | ho
    · obtain ⟨vs, h1, h2⟩ := hS2.fld o ho
      obtain ⟨m1, m2, m3, m4⟩ := n7 o ho
      refine ⟨vs, ?_, DIs.ex h2 (((ExF.refl (InF (S.foot x)) G).upd (.inr ⟨Sto.foot_od, _, hS2.dic, rfl, rfl⟩)).upd (.inr ⟨Sto.foot_s, _, hS2.ins, rfl, rfl⟩))⟩
      rw [upd_ne m1, upd_ne m3]
      exact h1
    · rw [List.mem_singleton.mp ho]
      refine ⟨_, by rw [upd_ne (Ne.symm (nq1 hS.ins)), upd_ne (Ne.symm (nq1 hS.dic))]; exact hGq, ?_⟩
      show DIs K _ (List.replicate c.toNat [V.non]).flatten ((List.replicate c.toNat FV.non).map encF)
      induction c.toNat with
      | zero => exact .nil
      | succ k ih => exact .cons .non ih
  · show (S.rl :: (S.os ++ [_]).map _).Nodup
    rw [List.map_append, ← List.cons_append]
    refine List.nodup_append.mpr ⟨hS.nd, by simp, fun b hb c hc => ?_⟩
    rw [List.map_singleton] at hc
    rw [List.mem_singleton.mp hc]
    (rcases List.mem_cons.mp hb with rfl | hb)
    · exact nq1 hS.rts
    · obtain ⟨o, ho, rfl⟩ := List.mem_map.mp hb
      obtain ⟨vs, h1, _⟩ := hS.fld o ho
      exact nq1 h1
  · show ((S.os ++ [_]).map _).Nodup
    rw [List.map_append]
    refine List.nodup_append.mpr ⟨hS.kn, by simp, fun b hb c hc z => ?_⟩
    rw [List.map_singleton] at hc
    rw [List.mem_singleton.mp hc] at z
    rw [z] at hb
    exact hnx hb
  · rcases foot_cases hb with rfl | rfl | rfl | rfl | ⟨o, ho, rfl⟩
    · exact .inl Sto.foot_s
    · exact .inl (by simp [Sto.foot, Sto.made])
    · exact .inl Sto.foot_od
    · exact .inl Sto.foot_rl
    · rcases List.mem_append.mp ho with ho | ho
      · exact .inl (Sto.foot_a ho)
      · rw [List.mem_singleton.mp ho]
        exact .inr hqH
end
end Hg
namespace Hg
open PySem PySem.Spec PyProof.Rows L2
/-! ### Store: write, is_referenced, release -/
theorem nodup_inj {α β : Type} {f : α → β} : ∀ {l : List α} {a b : α}, (l.map f).Nodup → a ∈ l → b ∈ l → f a = f b → a = b
  | [], _, _, _, h, _, _ => by cases h
  | x :: l, a, b, nd, ha, hb, e => by
    rw [List.map_cons, List.nodup_cons] at nd
    rcases List.mem_cons.mp ha with h1 | h1
    · rcases List.mem_cons.mp hb with h2 | h2
      · rw [h1, h2]
      · exact absurd (List.mem_map.mpr ⟨b, h2, by rw [← e, h1]⟩) nd.1
    · rcases List.mem_cons.mp hb with h2 | h2
      · exact absurd (List.mem_map.mpr ⟨a, h1, by rw [e, h2]⟩) nd.1
      · exact nodup_inj nd.2 h1 h2 e
def Ob.setF (n : Int) (i : Nat) (f : FV) (o : Ob) : Ob := if o.n = n then { o with fs := o.fs.set i f } else o
theorem Ob.setF_n {n : Int} {i : Nat} {f : FV} {o : Ob} : (o.setF n i f).n = o.n := by
  unfold Ob.setF
  split <;> rfl
theorem Ob.setF_a {n : Int} {i : Nat} {f : FV} {o : Ob} : (o.setF n i f).a = o.a := by
  unfold Ob.setF
  split <;> rfl
def Sto.setF (S : Sto) (n : Int) (i : Nat) (f : FV) : Sto := { S with os := S.os.map (Ob.setF n i f) }
theorem Sto.setF_keys (S : Sto) (n : Int) (i : Nat) (f : FV) : (S.setF n i f).keys = S.keys := by
  unfold Sto.setF Sto.keys
  rw [List.map_map]
  exact List.map_congr_left fun o _ => Ob.setF_n
theorem Sto.setF_as (S : Sto) (n : Int) (i : Nat) (f : FV) : (S.setF n i f).os.map (·.a) = S.os.map (·.a) := by
  unfold Sto.setF
  rw [List.map_map]
  exact List.map_congr_left fun o _ => Ob.setF_a
theorem Sto.setF_kvs (S : Sto) (n : Int) (i : Nat) (f : FV) : (S.setF n i f).kvs = S.kvs := by
  unfold Sto.setF Sto.kvs
  rw [List.map_map]
  exact List.map_congr_left fun o _ => by
    show ((Sum.inl (o.setF n i f).n : Key), V.ref (o.setF n i f).a) = (Sum.inl o.n, V.ref o.a)
    rw [Ob.setF_n, Ob.setF_a]
theorem Sto.setF_foot (S : Sto) (n : Int) (i : Nat) (f : FV) (s : Addr) : (S.setF n i f).foot s = S.foot s := by
  unfold Sto.foot
  rw [Sto.setF_as]
  rfl
section
variable {P : Program} {w : World} {K : PySem.W.Frag} {mg : Str → Option Value} {base : Heap}
/-- a field is stored -/
theorem StoreAt.setF {H : Hp} {s : Addr} {S : Sto} {n : Int} {i : Nat} {f : FV} {o : Ob} {vs : List V} {v : V} (h : StoreAt K H s S) (ho : S.get n = some o) (hv : H o.a = some (.lst vs)) (dvs : DIs K H vs (o.fs.map encF)) (dv : DI K H v (encF f)) :
    Now K H (upd H o.a (.lst (vs.set i v))) s S (S.setF n i f) := by
  obtain ⟨n1, n2, n3, n4, n5, n6, n7⟩ := h.nes
  obtain ⟨hm, hn⟩ := Sto.get_mem ho
  obtain ⟨m1, m2, m3, m4⟩ := n7 o hm
  have eE : ExF (InF (S.foot s)) H (upd H o.a (.lst (vs.set i v))) := ExF.upd (ExF.refl _ H) (.inr ⟨Sto.foot_a hm, _, hv, rfl, rfl⟩)
  refine ⟨eE, ⟨?_, ?_, ?_, ?_, fun p hp => ?_, ?_, ?_⟩, fun b hb => .inl (by rw [Sto.setF_foot] at hb; exact hb)⟩
  · rw [upd_ne (Ne.symm m1)]
    exact h.ins
  · show upd _ _ _ S.dx = _
    rw [upd_ne (Ne.symm m2)]
    exact h.own
  · show upd _ _ _ S.od = _
    rw [upd_ne (Ne.symm m3), Sto.setF_kvs]
    exact h.dic
  · show upd _ _ _ S.rl = _
    rw [upd_ne (Ne.symm m4)]
    exact h.rts
  · obtain ⟨q, hq, rfl⟩ := List.mem_map.mp hp
    rw [Ob.setF_a]
    by_cases hqo : q.n = n
    · have e : q = o := nodup_inj h.kn hq hm (hqo.trans hn.symm)
      subst e
      refine ⟨_, upd_same, ?_⟩
      unfold Ob.setF
      rw [if_pos hn, List.map_set]
      exact DIs.ex (DpAll.set i dvs dv) eE
    · have hne : q.a ≠ o.a := fun z => hqo (by rw [nodup_inj (List.nodup_cons.mp h.nd).2 hq hm z]; exact hn)
      obtain ⟨us, h1, h2⟩ := h.fld q hq
      refine ⟨us, by rw [upd_ne hne]; exact h1, ?_⟩
      unfold Ob.setF
      rw [if_neg hqo]
      exact DIs.ex h2 eE
  · rw [Sto.setF_as]
    exact h.nd
  · rw [Sto.setF_keys]
    exact h.kn
def spWrite (K : PySem.W.Frag) : Sp := fun vs H Q E => ∃ (s : Addr) (S : Sto) (n i : Int) (v : V) (f : FV), vs = [.ref s, .int n, .int i, v] ∧ StoreAt K H s S ∧ DI K H v (encF f) ∧ n.natAbs.log2 < 1920 ∧ i.natAbs.log2 < 1920 ∧ (∀ t, tgt f = some t → t.natAbs.log2 < 1920) ∧
  (∀ o, S.get n = some o → 0 ≤ i → i < o.fs.length → (∀ t, tgt f = some t → S.get t ≠ none) → ∀ H', Now K H H' s S (S.setF n i.toNat f) → Q .non H') ∧
  (∀ o t, S.get n = some o → 0 ≤ i → i < o.fs.length → tgt f = some t → S.get t = none → Rx K E H "NoSuchObject" [("number", .int t)]) ∧
  (∀ o, S.get n = some o → ¬ (0 ≤ i ∧ i < o.fs.length) → Rx K E H "NoSuchField" [("index", .int i)]) ∧ (S.get n = none → Rx K E H "NoSuchObject" [("number", .int n)])
abbrev N_swrite : List Str := ["self", "number", "index", "value", "target"]
theorem sc_swrite : FnScope N_swrite ["self", "number", "index", "value"] (defScope s_Store_write) := ⟨rfl, rfl, rfl, by decide +kernel, rfl, by decide +kernel, by decide +kernel⟩
theorem w_swrite (T : Txt P K mg) : Mt P w K mg base 5 (CStore K) "write" (spWrite K) := by
  have nd := sc_swrite.nd
  have c1 := w_sread (w := w) (base := base) T
  have c2 := w_target (w := w) (base := base) T
  have c3 := w_fields (w := w) (base := base) T
  refine mt_of T (fn_mem 64 rfl) (by decide +kernel) (by decide +kernel) sc_swrite (b4 fun _ _ _ _ _ _ _ _ _ _ => rfl) (fun vs H Q E ⟨_, _, _, _, _, _, e, _⟩ => by rw [e]; rfl) fun cdv A outer s H vs Q E hr ⟨x, S, n, i, v, f, e, hS, dv, z1, z2, z3, hq, hE0, hE1, hE2⟩ => ?_
  subst e
  refine ⟨_, (pss_cons (ps_expr (pe_mt c1 hr tk0 (pv 0) (pa_cons (pv 1) (pa_cons (pv 2) pa_nil)))) (pss_cons (ps_set (i := 4) nd rfl (.inl rfl) (pe_cl c2 hr takes0 (pa_cons (pv 3) pa_nil))) (pss_cons (ps_if (pt_cmpR op_notN (pv 4) pe_non (nomark _)) (pss_one (ps_expr (pe_mt c3 hr tk0 (pv 0) (pa_cons (pv 4) pa_nil)))) pss_nil) (pss_one (ps_asg (pv 3) (pg_sub (pe_dget (hu_of hr) (pe_fld (pv 0) rfl) (pv 1) (fun _ _ => rfl)) (pv 2) set_list)))))), ?_⟩
  have dg := hS.dget n
  refine ⟨_, rfl, x, _, _, rfl, hS.ins, rfl, _, rfl, _, rfl, x, S, n, i, rfl, hS, z1, z2, fun o g u ho h0 hg _ => ?_, fun o ho h H' d e hd => hE1 o ho h H' d e hd, fun h H' d e hd => hE2 h H' d e hd⟩
  have hi : i < o.fs.length := by
    have := (List.getElem?_eq_some_iff.mp hg).1
    omega
  obtain ⟨us, h1, h2⟩ := hS.fld o (Sto.get_mem ho).1
  have hlen : us.length = o.fs.length := by rw [DpAll.length h2, List.length_map]
  have hix : ixN us.length i = some i.toNat := by
    unfold ixN
    rw [if_pos h0, if_pos (by omega)]
  rw [ho] at dg
  refine ⟨_, rfl, v, f, rfl, dv, ?_⟩
  have fin : (∀ t, tgt f = some t → S.get t ≠ none) → Q .non (upd H o.a (.lst (us.set i.toNat v))) := fun k => hq o ho h0 hi k _ (hS.setF ho h1 h2 dv)
  cases ht : tgt f with
  | none => exact ⟨_, rfl, rfl, _, rfl, itYn rfl ⟨_, rfl, _, rfl, x, _, _, _, _, rfl, hS.ins, T.cls "Store", T.noat "Store" "objects", rfl, _, rfl, S.od, _, rfl, dg, _, rfl, o.a, us, i, i.toNat, rfl, rfl, h1, hix, fin (fun t z => by rw [ht] at z; cases z)⟩⟩
  | some t =>
    refine ⟨_, rfl, rfl, _, rfl, itNn intN ⟨_, rfl, x, _, _, rfl, hS.ins, rfl, _, rfl, x, S, t, rfl, hS, z3 t ht, fun o2 ho2 => ?_, fun h H' d e hd => hE0 o t ho h0 hi ht h H' d e hd⟩⟩
    exact ⟨_, rfl, _, rfl, x, _, _, _, _, rfl, hS.ins, T.cls "Store", T.noat "Store" "objects", rfl, _, rfl, S.od, _, rfl, dg, _, rfl, o.a, us, i, i.toNat, rfl, rfl, h1, hix, fin (fun t' z => by rw [ht] at z; cases z; rw [ho2]; intro y; cases y)⟩
end
end Hg
namespace Hg
open PySem PySem.Spec PyProof.Rows L2
/-! ### set of a list of whole numbers -/
section
variable {P : Program}
variable {w : World} {A : Around} {E : Value → Shared → Prop} {s : Shared}
theorem call_set_lstI {l : Addr} {its : Array Value} (zs : List Int) {Q : Value → Shared → Prop} (hh : A.handled = none) (hl : s.heap.IsList l its) (intsH : IntsAre its.toList zs) (hb : zs.length + 1 < scanBound)
    (h : ∀ (h' : Heap) (tk c : Nat), SetR w h' s.heap.objs.size (fun j => decide (j ∈ zs)) c → c ≤ zs.length → (∀ b o, s.heap.get? b = some o → h'.get? b = some o) → Q (.ref s.heap.objs.size) { s with heap := h', toks := tk }) :
    wpAny (model P w) A
    (call (.type "set") [.ref l]) Q E s := by
  have hcnt : its.size = zs.length := by
    have q := IntsAre.length intsH
    rw [Array.length_toList] at q
    exact q
  obtain ⟨c, tlm, mroE⟩ := F.called_set.mro
  have madeE := F.called_set.made
  have subE := F.called_set.sub
  (refine wpAny_call (codeAny_of_tree ?_))
  (show wpAny _ _ (callAny (.type "set") _) _ _ _)
  (refine wpAny_pure ⟨Code.quiet_builtin _ (by decide +kernel), codeAny_builtin F.entry_type_call ?_⟩)
  (rw [Around.under_plain (weight_type_call_type "set" [.ref l] []) rfl])
  have nt1 := F.called_set.notType
  have cc2 := F.called_set.canCreate
  have tcE := F.typeCall_set_1 (.ref l)
  (repeat (any_goals (first | assumption | wp_step)))

  refine codeAny_mono (code_set_led1 (.ref l) (E := E) (Q₁ := fun obj t₁ => obj = .ref s.heap.objs.size ∧ t₁ = { s with heap := s.heap.push { cls := .type "set", dict := none, data := .set #[] 0 (.fresh 0 0 (!w.params.followText "set-order")) } }) ⟨rfl, rfl⟩) fun r t₁ qr => ?_
  cases r with
  | error e => exact qr
  | ok f1 =>
    cases f1 with
    | ret obj =>
      obtain ⟨rfl, rfl⟩ := qr
      have setHere : (s.heap.push { cls := .type "set", dict := none, data := .set #[] 0 (.fresh 0 0 (!w.params.followText "set-order")) }).get? s.heap.objs.size = some { cls := .type "set", dict := none, data := .set #[] 0 (.fresh 0 0 (!w.params.followText "set-order")) } := Heap.get?_push_size _ rfl
      have setTy : Shared.TypeIs { s with heap := s.heap.push { cls := .type "set", dict := none, data := .set #[] 0 (.fresh 0 0 (!w.params.followText "set-order")) } } (.ref s.heap.objs.size) "set" := ⟨_, setHere, rfl⟩
      have lkI := F.called_set.init.lookup
      have bdI := F.called_set.init.bind (.ref s.heap.objs.size)
      (repeat (any_goals (first | assumption | wp_step)))

      refine codeAny_mono (codeAny_call_builtin (R := wants (fun r t₂ => r = .none ∧ ∃ h' tk c, t₂ = { s with heap := h', toks := tk } ∧ SetR w h' s.heap.objs.size (fun j => decide (j ∈ zs)) c ∧ c ≤ zs.length ∧
          (∀ b o, s.heap.get? b = some o → h'.get? b = some o)) E) F.called_set.init.plain F.entry_set_init (check_set_init_1 setTy ?_)) fun q₂ t₂ qr₂ => ?_
      · obtain ⟨lo, lstAt, lstC, vn, lstD⟩ := hl
        obtain ⟨lc, ld, ldt, lsl⟩ := lo
        simp only at lstC lstD
        subst lstC; subst lstD
        have lstAt' : (s.heap.push { cls := .type "set", dict := none, data := .set #[] 0 (.fresh 0 0 (!w.params.followText "set-order")) }).get? l = some { cls := .type "list", dict := ld, data := .seq its vn, slots := lsl } := Heap.get?_push_of_some _ lstAt
        have nsub1 := F.sub_list_set
        have nsub2 := F.sub_list_frozenset
        have ndict : (Value.type "list" == Value.type "dict") = false := by decide
        have lst1 : (s.heap.push { cls := .type "set", dict := none, data := .set #[] 0 (.fresh 0 0 (!w.params.followText "set-order")) }).IsList l its := ⟨_, lstAt', rfl, vn, rfl⟩
        (unfold Builtin.«set.__init__» noKeywords Builtin.Frozenset.updateFrom)
        generalize piE : pyIter = pit
        wp_walk
        subst piE

        refine wpAny_pyIter_list lst1 ?_
        (refine wpAny_bind (wpAny_runValue ?_))
        have ltS : l < s.heap.objs.size := Heap.lt_size lstAt
        have calm3 : A.in1.in1.in1.handled = none := by simp [hh]
        have szE : (s.heap.push { cls := .type "set", dict := none, data := .set #[] 0 (.fresh 0 0 (!w.params.followText "set-order")) }).objs.size = s.heap.objs.size + 1 := Heap.size_push ..
        have neIt : l ≠ (s.heap.push { cls := .type "set", dict := none, data := .set #[] 0 (.fresh 0 0 (!w.params.followText "set-order")) }).objs.size := by
          rw [Heap.size_push]; exact Nat.ne_of_lt (Nat.lt_succ_of_lt ltS)
        have offIt : s.heap.objs.size ∉ [(s.heap.push { cls := .type "set", dict := none, data := .set #[] 0 (.fresh 0 0 (!w.params.followText "set-order")) }).objs.size, l] := by
          (rw [Heap.size_push]; simp only [List.mem_cons, List.mem_singleton, List.not_mem_nil, or_false, not_or])
          exact ⟨Nat.ne_of_lt (Nat.lt_succ_self _), Nat.ne_of_gt ltS⟩
        have valAt : ∀ (i : Nat) (v : Value), its[i]? = some v → ∃ k t, zs[i]? = some k ∧ v = .int k t := fun i v hv => by
          have hi : i < zs.length := by rw [← hcnt]; exact (Array.getElem?_eq_some_iff.mp hv).1
          obtain ⟨t, e⟩ := PyProof.Rows.IntsAre.int_at intsH i v (by rw [Array.getElem?_toList]; exact hv)
          refine ⟨zs[i], t, List.getElem?_eq_getElem hi, ?_⟩
          (rw [e, List.getD_eq_getElem?_getD, List.getElem?_eq_getElem hi] <;> rfl)
        refine set_update_ints ((Walks.list calm3 _ l neIt its).toS) s.heap.objs.size
          offIt zs hcnt hb valAt (its.size - 0) 0 _ (by omega) (Nat.zero_le _)
          ⟨⟨_, Heap.get?_push_size _ rfl, rfl, rfl⟩, (lst1.push _)⟩ ?s0 ?rr
        case s0 =>
          have getS : ((s.heap.push { cls := .type "set", dict := none, data := .set #[] 0 (.fresh 0 0 (!w.params.followText "set-order")) }).push { cls := .type "list_iterator", data := .fields #[.ref l, .int 0 0] }).get? s.heap.objs.size
              = some { cls := .type "set", dict := none, data := .set #[] 0 (.fresh 0 0 (!w.params.followText "set-order")) } := Heap.get?_push_of_some _ setHere
          exact ⟨0, Nat.le_refl 0, setR_new_at getS⟩
        case rr =>
          intro s' c' mvd cnt' setNow
          (obtain ⟨h', g2, d', tk', os'⟩ := s')
          have eg : g2 = s.gens := mvd.gens
          have ed : d' = s.drawn := mvd.drawn
          have eo : os' = s.os := mvd.os
          subst eg; subst ed; subst eo
          show wpAny _ _ _ _ _ _
          refine wpAny_pure ?_
          (show wpAny _ _ (ret Value.none) _ _ _)
          rw [hcnt] at cnt'
          refine wpAny_pure ⟨rfl, h', tk', c', rfl, setNow, cnt', fun b o e => ?_⟩
          have b0 : b < s.heap.objs.size := Heap.lt_size e
          have bS : b ≠ s.heap.objs.size := Nat.ne_of_lt b0
          have bI : b ≠ (s.heap.push { cls := .type "set", dict := none, data := .set #[] 0 (.fresh 0 0 (!w.params.followText "set-order")) }).objs.size := by
            rw [Heap.size_push]; exact Nat.ne_of_lt (Nat.lt_succ_of_lt b0)
          exact mvd.heap b o (by simp only [List.mem_cons, List.mem_singleton, List.not_mem_nil, or_false, not_or]; exact ⟨bS, bI⟩) (Heap.get?_push_of_some _ (Heap.get?_push_of_some _ e))

      · cases q₂ with
        | error e => exact qr₂
        | ok fl2 =>
          cases fl2 with
          | ret r =>
            obtain ⟨rfl, h', tk, c', rfl, setNow, cnt', keepE⟩ := qr₂
            (repeat (any_goals (first | assumption | wp_step)))
            exact h _ _ _ setNow cnt' keepE
          | _ => exact qr₂.elim
    | _ => exact qr.elim

end
end Hg
namespace Hg
open PySem PySem.Spec PyProof.Rows L2
section
variable {X : Cx}
def rSetL (K : PySem.W.Frag) (w : World) : List V → Hp → VK → Prop := fun vs H Q => ∃ (a : Addr) (ns : List Int), vs = [.ref a] ∧ SqL K H a (ns.map V.int) ∧ ns.length + 1 < scanBound ∧ ∀ p c, H p = none → c ≤ ns.length → Q (.ref p) (upd H p (SetO w p (fun j => decide (j ∈ ns)) c))
theorem cr_setL : X.calm = true → CallR X (.type "set") (rSetL X.K X.w) := by
  intro hc pins s σ H vs us Q I r h
  obtain ⟨a, ns, rfl, ha, hb, q⟩ := h
  obtain ⟨its, rv, pl, _⟩ := I.list ha
  rw [Vals.ref1 r]
  refine call_set_lstI ns (I.ok.hd hc) pl.isList (by simpa using rv.ints) hb fun h' tk c hS hcn hk => ?_
  (have hn : H s.heap.objs.size = none := I.hok.fresh (Nat.le_refl _))
  exact ⟨.ref _, upd H s.heap.objs.size (SetO X.w s.heap.objs.size (fun j => decide (j ∈ ns)) c), I.laid (t' := tk) hk (Nat.le_refl _) (setO_new hS), rfl, q _ c hn hcn⟩
end
end Hg
namespace Hg
open PySem PySem.Spec PyProof.Rows L2
/-! ### Store: is_referenced, release, roots -/
theorem Ex.trans {H1 H2 H3 : Hp} (e : Ex H1 H2) (f : Ex H2 H3) : Ex H1 H3 := ExF.trans e f
theorem Ex.updN {H H1 : Hp} {p : Addr} {o : HO} (e : Ex H H1) (h : H p = none) : Ex H (L2.upd H1 p o) := Ex.upd (F := NoF) e h
section
variable {K : PySem.W.Frag} {H0 : Hp} {a : Addr} {α : Type} {enc : α → PyData} {l : List α} {xs : List V}
theorem walk_vals {ds : List PyData} {n : Nat} (hd : DIs K H0 xs ds) (hn : ds.length = n) : Walk (Itl K a) n (fun H => SqL K H a xs) (YD K H0 ds) where
  goes := fun i H hi hG => by
    have hx : i < xs.length := by rw [DpAll.length hd, hn]; exact hi
    exact ⟨xs, xs[i], hG, List.getElem?_eq_getElem hx⟩
  stops := fun H hG => ⟨xs, hG, by rw [DpAll.length hd, hn]; exact Nat.le_refl _⟩
  yields := fun i H x H' hi hG y => ⟨y.1, DpAll.get hd (y.2 xs hG)⟩
theorem lc_v (hl : DIs K H0 xs (l.map enc)) {g : TG} {tt : TT} {te : TE} {vs : List Nat} {σ : L2.St} {H1 : Hp} {D : Addr} {Qd : Hp → Prop} (Pv : List α → Hp → Prop) (h0 : Pv [] (upd H1 D (.lst []))) (hG : ∀ pre H, Pv pre H → SqL K H a xs)
    (hs : ∀ pre x post v H, l = pre ++ x :: post → Pv pre H → DI K H0 v (enc x) → g v (wipe σ vs) H fun σ2 H2 => wipe σ2 vs = wipe σ vs ∧ tt σ2 H2 fun b H3 =>
      if b = true then te σ2 H3 fun y H4 => ∃ acc, H4 D = some (.lst acc) ∧ acc.length < sizeLine ∧ Pv (pre ++ [x]) (upd H4 D (.lst (acc ++ [y]))) else Pv (pre ++ [x]) H3) (hd : ∀ H, Pv l H → Qd H) :
    ∃ W : Nat → Nat → Hp → Prop, (∃ m0, W 0 m0 (upd H1 D (.lst []))) ∧ ∀ i m H, W i m H →
      ((Itl K a).stop i H ∧ Qd H) ∨ ((Itl K a).go i H ∧ ∃ Nx : Hp → Prop, (∀ H', Nx H' → ∃ m1, m1 < m ∧ W (i + 1) m1 H') ∧ ∀ x H', (Itl K a).yld i H x H' → g x (wipe σ vs) H' fun σ2 H2 => wipe σ2 vs = wipe σ vs ∧ tt σ2 H2 fun b H3 =>
        if b = true then te σ2 H3 fun y H4 => ∃ av, H4 D = some (.lst av) ∧ av.length < sizeLine ∧ Nx (upd H4 D (.lst (av ++ [y]))) else Nx H3) := by
  refine lc_l l (walk_vals hl (by rw [List.length_map])) Pv h0 hG (fun pre x post v H H' el p y => ?_) hd
  obtain ⟨rfl, d, e1, e2⟩ := y
  have e3 : (l.map enc)[pre.length]? = some (enc x) := by rw [el]; simp
  rw [e3] at e1
  cases e1
  exact hs pre x post v _ el p e2
theorem for_v (hl : DIs K H0 xs (l.map enc)) {g : TG} {tb : TS} {D : Ends} {σ : L2.St} {H : Hp} (Pv : List α → L2.St → Hp → Prop) (h0 : Pv [] σ H) (hG : ∀ pre σ H, Pv pre σ H → SqL K H a xs)
    (hs : ∀ pre x post v σ H, l = pre ++ x :: post → Pv pre σ H → DI K H0 v (enc x) → g v σ H fun σ2 H2 => tb { D with nx := Pv (pre ++ [x]), ct := Pv (pre ++ [x]), bk := D.nx } σ2 H2) (hd : ∀ σ H, Pv l σ H → D.nx σ H) :
    ∃ W : Nat → Nat → L2.St → Hp → Prop, (∃ m0, W 0 m0 σ H) ∧ ∀ i m σ H, W i m σ H →
      ((Itl K a).stop i H ∧ D.nx σ H) ∨ ((Itl K a).go i H ∧ ∃ N : L2.St → Hp → Prop, (∀ σ' H', N σ' H' → ∃ m', m' < m ∧ W (i + 1) m' σ' H') ∧ ∀ x H', (Itl K a).yld i H x H' → g x σ H' fun σ2 H2 => tb { D with nx := N, ct := N, bk := D.nx } σ2 H2) := by
  refine for_l l (walk_vals hl (by rw [List.length_map])) Pv h0 hG (fun pre x post v σ H H' el p y => ?_) hd
  obtain ⟨rfl, d, e1, e2⟩ := y
  have e3 : (l.map enc)[pre.length]? = some (enc x) := by rw [el]; simp
  rw [e3] at e1
  cases e1
  exact hs pre x post v σ _ el p e2
end
/-! the store seen while its dict is locked -/
def Ob.refs (n : Int) (o : Ob) : Bool := decide (o.n ≠ n) && (o.fs.map tgt).contains (some n)
def Sto.refd (S : Sto) (n : Int) : Bool := S.os.any (Ob.refs n)
theorem inV_tgt (n : Int) (l : List FV) : inV (.int n) ((l.map tgt).map oiV) = (l.map tgt).contains (some n) := by
  unfold inV
  induction l with
  | nil => rfl
  | cons f l ih =>
    simp only [List.map_cons, List.any_cons, List.contains_cons, ih]
    congr 1
    cases tgt f with
    | none => rfl
    | some m =>
      show (m == n) = (some n == some m)
      by_cases h : m = n
      · subst h
        simp
      · have : (m == n) = false := by simp [h]
        rw [this]
        symm
        simp [Ne.symm h]
theorem flat_oi (l : List (Option Int)) : (l.map oiV).all flatV = true := by
  rw [List.all_map]
  apply List.all_eq_true.mpr
  intro x _
  cases x <;> rfl
section
variable {P : Program} {w : World} {K : PySem.W.Frag} {mg : Str → Option Value} {base : Heap}
/-- the store while its dict at od is locked -/
theorem StoreAt.locked {H : Hp} {s : Addr} {S : Sto} {ob : Obj} (h : StoreAt K H s S) : (upd H S.od (.frz ob (.dK S.kvs))) s = some (.ins (gA K "Store") S.dx [("objects", .ref S.od), ("roots", .ref S.rl), ("next_number", .int S.next)]) ∧
    ∀ o ∈ S.os, ∃ vs, (upd H S.od (.frz ob (.dK S.kvs))) o.a = some (.lst vs) ∧ DIs K (upd H S.od (.frz ob (.dK S.kvs))) vs (o.fs.map encF) := by
  obtain ⟨n1, n2, n3, n4, n5, n6, n7⟩ := h.nes
  refine ⟨by rw [upd_ne n2]; exact h.ins, fun o ho => ?_⟩
  obtain ⟨vs, h1, h2⟩ := h.fld o ho
  exact ⟨vs, by rw [upd_ne (n7 o ho).2.2.1]; exact h1, DpAll.le (imm_le_upd h.dic rfl) h2⟩
theorem dget_frz {H : Hp} {d : Addr} {ob : Obj} {kvs : List (Key × V)} {k : Int} {v : V} (h : H d = some (.frz ob (.dK kvs))) (e : valV kvs (Sum.inl k) = some v) : DGet H d (.int k) (some v) := .inl ⟨kvs, Sum.inl k, .inr ⟨ob, h⟩, rfl, e.symm⟩
theorem kvs_at {S : Sto} {pre post : List Int} {n : Int} (el : S.keys = pre ++ n :: post) : ∃ o, o ∈ S.os ∧ S.get n = some o ∧ valV S.kvs (Sum.inl n : Key) = some (.ref o.a) := by
  have hm : n ∈ S.keys := by rw [el]; simp
  cases h : S.get n with
  | none => exact absurd hm (Sto.get_none.mp h)
  | some o =>
    refine ⟨o, (Sto.get_mem h).1, rfl, ?_⟩
    unfold Sto.kvs
    rw [kvs_val]
    have h' : (S.os.find? fun o => decide (o.n = n)) = some o := h
    rw [h']
    rfl
def spRefd (K : PySem.W.Frag) : Sp := fun vs H Q _ => ∃ (s : Addr) (S : Sto) (n : Int), vs = [.ref s, .int n] ∧ StoreAt K H s S ∧ (∀ o ∈ S.os, o.fs.length ≤ 1000) ∧ ∀ H', Ex H H' → Q (.bl (S.refd n)) H'
abbrev N_refd : List Str := ["self", "number", "other", "value"]
theorem sc_refd : FnScope N_refd ["self", "number"] (defScope s_Store_is_referenced) := ⟨rfl, rfl, rfl, by decide +kernel, rfl, by decide +kernel, by decide +kernel⟩
theorem w_refd (T : Txt P K mg) : Mt P w K mg base 2 (CStore K) "is_referenced" (spRefd K) := by
  have nd := sc_refd.nd
  have c1 := w_target (w := w) (base := base) T
  refine mt_of T (fn_mem 65 rfl) (by decide +kernel) (by decide +kernel) sc_refd (b2 fun _ _ _ _ _ _ _ _ => rfl) (fun vs H Q E ⟨_, _, _, e, _⟩ => by rw [e]; rfl) fun cdv A outer s H vs Q E hr ⟨x, S, n, e, hS, hsz, hq⟩ => ?_
  subst e
  refine ⟨_, (pss_cons (ps_lock (ps_for ps0 rfl (pi_keys (pe_fld (pv 0) rfl)) (pg_name (i := 2) nd rfl (.inl rfl)) (pss_one (ps_if (PW.pt (pw_and (pt_cmpR op_ne (pv 2) (pv 1) (nomark _)) (pw_and1 (pt_cmpR op_in_seq (pv 1) (pe_lc (own := [("value", 3)]) (g := gName 3) (tt := tYes) (te := _) rfl nd (pi_list (pe_dget (hu_of hr) (pe_fld (pv 0) rfl) (pv 2) (fun _ _ => rfl))) (blkOk_by (N := N_refd) (sc := defScope s_Store_is_referenced) (by decide +kernel)) (fun _ _ _ _ _ => (pg_name (i := 3) nd rfl (.inl rfl) (.inr rfl))) (fun _ _ _ _ _ => pts_nil) (fun _ _ _ _ _ => (pe_cl c1 hr takes0 (pa_cons (pv 3) pa_nil)))) (by rfl))))) (pss_one (ps_ret pe_bl)) pss_nil)))) (pss_one (ps_ret pe_bl))), ?_⟩
  refine ⟨S.od, .dK S.kvs, hS.dic, trivial, fun ob => ?_⟩
  obtain ⟨l1, l2⟩ := hS.locked (ob := ob)
  refine ⟨_, rfl, x, _, _, _, _, rfl, l1, T.cls "Store", T.noat "Store" "objects", rfl, S.od, ob, rfl, .inl ⟨S.kvs, upd_same, ?_⟩⟩
  refine for_k (ns := S.keys) S.kvs_keys (fun pre σ G => ∃ y2 y3, σ = [some (.ref x), some (.int n), y2, y3] ∧ Ex (upd H S.od (.frz ob (.dK S.kvs))) G ∧ (∀ o ∈ S.os, o.n ∈ pre → Ob.refs n o = false)) ?_ ?_ ?_ ?_
  · exact ⟨_, _, rfl, ExF.refl _ _, fun o _ h => by cases h⟩
  · intro pre σ G ⟨_, _, _, e, _⟩
    exact e.at upd_same
  · intro pre m post σ G el ⟨y2, y3, e, eG, hno⟩
    subst e
    obtain ⟨o, ho, hg, hval⟩ := kvs_at el
    have hon := (Sto.get_mem hg).2
    have next : ∀ {G'}, Ex G G' → Ob.refs n o = false → ∀ {y3'}, ∃ y2 y3, [some (V.ref x), some (.int n), some (.int m), y3'] = [some (.ref x), some (.int n), y2, y3] ∧ Ex (upd H S.od (.frz ob (.dK S.kvs))) G' ∧ (∀ o ∈ S.os, o.n ∈ pre ++ [m] → Ob.refs n o = false) := fun {G'} e hf {y3'} => by
      refine ⟨_, _, rfl, eG.trans e, fun p hp hpm => ?_⟩
      rcases List.mem_append.mp hpm with h | h
      · exact hno p hp h
      · have : p = o := nodup_inj hS.kn hp ho ((List.mem_singleton.mp h).trans hon.symm)
        rw [this]
        exact hf
    refine ⟨_, rfl, _, rfl, rfl, _, rfl, ?_⟩
    by_cases h : m = n
    · refine itYn (by rw [h]) (iteF (next (ExF.refl _ _) ?_))
      unfold Ob.refs
      rw [hon, h]
      simp
    · refine itNn (fun z => h (V.int.inj z)) ?_
      obtain ⟨vs, hv, dv⟩ := l2 o ho
      refine ⟨_, rfl, _, rfl, x, _, _, _, _, rfl, eG.at l1, T.cls "Store", T.noat "Store" "objects", rfl, _, rfl, S.od, _, rfl, dget_frz (eG.at upd_same) hval, o.a, rfl, ⟨vs, SqL.of (eG.at hv)⟩, fun D nD => ?_⟩
      have hfl := hsz o ho
      refine lc_v (xs := vs) (l := o.fs) (enc := encF) dv (fun pre2 G2 => Ex G G2 ∧ G2 D = some (.lst ((pre2.map tgt).map oiV)) ∧ pre2.length ≤ o.fs.length) ?_ ?_ ?_ ?_
      · exact ⟨Ex.new nD, upd_same, Nat.zero_le _⟩
      · intro pre2 G2 ⟨e, _⟩
        exact SqL.of ((eG.trans e).at hv)
      · intro pre2 f post2 v G2 el2 ⟨e, hD, hl⟩ dv2
        have hl2 : pre2.length < o.fs.length := by rw [el2]; simp
        refine ⟨rfl, yes_ok ⟨_, rfl, v, f, rfl, DI.ex dv2 (eG.trans e), _, hD, ltL (m := 1000) (by rw [List.length_map, List.length_map]; omega) (by decide), e.updN nD, ?_, ?_⟩⟩
        · rw [upd_same, List.map_append, List.map_append]
          rfl
        · rw [List.length_append]
          exact hl2
      · intro G2 ⟨e, hD, _⟩
        refine ⟨D, _, rfl, .inl (SqL.of hD), rfl, flat_oi _, _, rfl, ?_⟩
        have hb : (if false = true then !inV (.int n) ((o.fs.map tgt).map oiV) else inV (.int n) ((o.fs.map tgt).map oiV)) = Ob.refs n o := by
          rw [if_neg (by decide), inV_tgt]
          unfold Ob.refs
          rw [hon, decide_eq_true h]
          rfl
        rw [hb]
        cases hr0 : Ob.refs n o with
        | false => exact iteF (next e hr0)
        | true =>
          refine iteT ⟨(eG.trans e).at upd_same, ?_⟩
          have : S.refd n = true := List.any_eq_true.mpr ⟨o, ho, hr0⟩
          rw [this] at hq
          exact hq _ ((eG.trans e).unlock hS.dic rfl rfl)
  · intro σ G ⟨y2, y3, e, eG, hno⟩
    subst e
    refine ⟨eG.at upd_same, ?_⟩
    have : S.refd n = false := by
      unfold Sto.refd
      rw [List.any_eq_false]
      intro o ho
      rw [hno o ho (List.mem_map.mpr ⟨o, ho, rfl⟩)]
      decide
    rw [this] at hq
    exact hq _ (eG.unlock hS.dic rfl rfl)
end
end Hg
namespace Hg
open PySem PySem.Spec PyProof.Rows L2
/-! ### Store: release, roots -/
theorem inV_ints (n : Int) (l : List Int) : inV (.int n) (l.map V.int) = decide (n ∈ l) := by
  unfold inV
  induction l with
  | nil => rfl
  | cons m l ih =>
    rw [List.map_cons, List.any_cons, ih]
    show ((m == n) || decide (n ∈ l)) = _
    by_cases h : m = n
    · subst h
      simp
    · have : (m == n) = false := by simp [h]
      rw [this]
      simp [Ne.symm h]
theorem flat_ints (l : List Int) : (l.map V.int).all flatV = true := by
  rw [List.all_map]
  exact List.all_eq_true.mpr fun x _ => rfl
def Sto.del (S : Sto) (n : Int) : Sto := { S with os := S.os.filter fun o => decide (o.n ≠ n) }
theorem Sto.del_kvs (S : Sto) (n : Int) : dropK S.kvs (Sum.inl n : Key) = (S.del n).kvs := by
  unfold dropK Sto.del Sto.kvs
  rw [List.filter_map]
  congr 1
  apply List.filter_congr
  intro o _
  show decide ((Sum.inl o.n : Key) ≠ Sum.inl n) = decide (o.n ≠ n)
  by_cases h : o.n = n
  · simp [h]
  · simp [h]
section
variable {P : Program} {w : World} {K : PySem.W.Frag} {mg : Str → Option Value} {base : Heap}
theorem StoreAt.del {H : Hp} {s : Addr} {S : Sto} (n : Int) (h : StoreAt K H s S) : Now K H (upd H S.od (.dK (dropK S.kvs (Sum.inl n)))) s S (S.del n) := by
  obtain ⟨n1, n2, n3, n4, n5, n6, n7⟩ := h.nes
  have eE : ExF (InF (S.foot s)) H (upd H S.od (.dK (dropK S.kvs (Sum.inl n)))) := ExF.upd (ExF.refl _ H) (.inr ⟨Sto.foot_od, _, h.dic, rfl, rfl⟩)
  have sub : ∀ o ∈ (S.del n).os, o ∈ S.os := fun o ho => (List.mem_filter.mp ho).1
  refine ⟨eE, ⟨?_, ?_, ?_, ?_, fun p hp => ?_, ?_, ?_⟩, fun b hb => .inl ?_⟩
  · rw [upd_ne n2]
    exact h.ins
  · show upd _ _ _ S.dx = _
    rw [upd_ne n4]
    exact h.own
  · show upd _ _ _ S.od = _
    rw [upd_same, Sto.del_kvs]
  · show upd _ _ _ S.rl = _
    rw [upd_ne (Ne.symm n6)]
    exact h.rts
  · obtain ⟨vs, h1, h2⟩ := h.fld p (sub p hp)
    exact ⟨vs, by rw [upd_ne (n7 p (sub p hp)).2.2.1]; exact h1, DIs.ex h2 eE⟩
  · exact h.nd.sublist (List.Sublist.cons_cons _ (List.filter_sublist.map _))
  · exact h.kn.sublist (List.filter_sublist.map _)
  · rcases foot_cases hb with rfl | rfl | rfl | rfl | ⟨o, ho, rfl⟩
    · exact Sto.foot_s
    · exact (by simp [Sto.foot, Sto.del])
    · exact Sto.foot_od
    · exact Sto.foot_rl
    · exact Sto.foot_a (sub o ho)
theorem Now.before {H H1 H' : Hp} {s : Addr} {S S' : Sto} (h : Now K H1 H' s S S') (e : Ex H H1) : Now K H H' s S S' := ⟨ExF.trans e.of h.ex, h.at_, fun b hb => (h.ft b hb).imp id fun z => e.gone z⟩
def spRel (K : PySem.W.Frag) : Sp := fun vs H Q E => ∃ (s : Addr) (S : Sto) (n : Int), vs = [.ref s, .int n] ∧ StoreAt K H s S ∧ n.natAbs.log2 < 1920 ∧ (∀ o ∈ S.os, o.fs.length ≤ 1000) ∧
  (∀ o, S.get n = some o → n ∉ S.roots → S.refd n = false → ∀ H', Now K H H' s S (S.del n) → Q .non H') ∧
  (S.get n = none → Rx K E H "NoSuchObject" [("number", .int n)]) ∧ (∀ o, S.get n = some o → n ∈ S.roots → Rx K E H "StillUsed" [("reason", .str "root"), ("number", .int n)]) ∧
  (∀ o, S.get n = some o → n ∉ S.roots → S.refd n = true → Rx K E H "StillUsed" [("reason", .str "referenced"), ("number", .int n)])
theorem sc_rel : FnScope ["self", "number"] ["self", "number"] (defScope s_Store_release) := ⟨rfl, rfl, rfl, by decide +kernel, rfl, by decide +kernel, by decide +kernel⟩
theorem w_rel (T : Txt P K mg) : Mt P w K mg base 4 (CStore K) "release" (spRel K) := by
  have nd := sc_rel.nd
  have c1 := w_fields (w := w) (base := base) T
  have c2 := w_refd (w := w) (base := base) T
  refine mt_of T (fn_mem 66 rfl) (by decide +kernel) (by decide +kernel) sc_rel (b2 fun _ _ _ _ _ _ _ _ => rfl) (fun vs H Q E ⟨_, _, _, e, _⟩ => by rw [e]; rfl) fun cdv A outer s H vs Q E hr ⟨x, S, n, e, hS, hz, hsz, hq, hE1, hE2, hE3⟩ => ?_
  subst e
  refine ⟨_, (pss_cons (ps_expr (pe_mt c1 hr tk0 (pv 0) (pa_cons (pv 1) pa_nil))) (pss_cons (ps_if (pt_cmpR op_in_seq (pv 1) (pe_fld (pv 0) rfl) (by rfl)) (pss_one (ps_raise2 (er_StillUsed T) hr rfl tk0 (pv 1) pe_str)) pss_nil) (pss_cons (ps_if (pt_truth (pe_mt c2 hr tk0 (pv 0) (pa_cons (pv 1) pa_nil)) (by intro _; rfl)) (pss_one (ps_raise2 (er_StillUsed T) hr rfl tk0 (pv 1) pe_str)) pss_nil) (pss_one (ps_ddel (pe_fld (pv 0) rfl) (pv 1)))))), ?_⟩
  refine ⟨_, rfl, x, _, _, rfl, hS.ins, rfl, _, rfl, x, S, n, rfl, hS, hz, fun o ho => ?_, fun h H' d e hd => hE1 h H' d e hd⟩
  refine ⟨_, rfl, _, rfl, x, _, _, _, _, rfl, hS.ins, T.cls "Store", T.noat "Store" "roots", rfl, S.rl, _, rfl, .inl (SqL.of hS.rts), rfl, flat_ints _, _, rfl, ?_⟩
  rw [show (if false = true then !inV (.int n) (S.roots.map V.int) else inV (.int n) (S.roots.map V.int)) = decide (n ∈ S.roots) by rw [if_neg (by decide), inV_ints]]
  refine iteD (fun hr1 => ⟨_, rfl, .inr ⟨n, rfl, hz⟩, .inl ⟨_, rfl, by decide +kernel⟩, fun d hd => hE2 o ho hr1 _ d (Ex.new hd) upd_same⟩) fun hr1 => ?_
  refine ⟨_, rfl, x, _, _, rfl, hS.ins, rfl, _, rfl, x, S, n, rfl, hS, hsz, fun H1 e1 => ?_⟩
  have hS1 := hS.ex e1
  cases hrf : S.refd n with
  | true => exact ⟨true, rfl, iteT ⟨_, rfl, .inr ⟨n, rfl, hz⟩, .inl ⟨_, rfl, by decide +kernel⟩, fun d hd => hE3 o ho hr1 hrf _ d (e1.trans (Ex.new hd)) upd_same⟩⟩
  | false =>
    refine ⟨false, rfl, iteF ⟨_, rfl, x, _, _, _, _, rfl, hS1.ins, T.cls "Store", T.noat "Store" "objects", rfl, _, rfl, S.od, S.kvs, Sum.inl n, rfl, hS1.dic, rfl, ?_, ?_⟩⟩
    · unfold Sto.kvs
      rw [kvs_val, show (S.os.find? fun o => decide (o.n = n)) = some o from ho]
      rfl
    · exact hq o ho hr1 hrf _ ((hS1.del n).before e1)
/-! roots -/
theorem leD_int : (fun a b : Int => leD (.int a) (.int b)) = fun a b => decide (a ≤ b) := PySem.W.dataLe_int fun k : Int => k
theorem sort_ints (ns : List Int) : (ns.map PyData.int).mergeSort leD = (sortI ns).map PyData.int := by
  rw [sort_enc, leD_int]
  rfl
theorem alikeI (ns : List Int) : PySem.W.AllAlike (ns.map PyData.int) := by
  intro d hd d' hd'
  obtain ⟨p, _, rfl⟩ := List.mem_map.mp hd
  obtain ⟨q, _, rfl⟩ := List.mem_map.mp hd'
  rfl
theorem sortableI (ns : List Int) : PySem.W.Sortable (ns.map PyData.int) := .inr fun d hd => by
  obtain ⟨p, _, rfl⟩ := List.mem_map.mp hd
  exact ⟨(fun z => by cases z), (fun xs z => by cases z)⟩
theorem depthI (ns : List Int) : ∀ d ∈ ns.map PyData.int, d.depth ≤ 60 := fun d hd => by
  obtain ⟨p, _, rfl⟩ := List.mem_map.mp hd
  simp [PyData.depth]
def Sto.addR (S : Sto) (q : Addr) (n : Int) : Sto := { S with rl := q, roots := sortI (S.roots ++ [n]) }
theorem StoreAt.setR {H : Hp} {s q : Addr} {S : Sto} {ns : List Int} (h : StoreAt K H s S) (hq : H q = some (.lst (ns.map V.int))) (nq : ∀ o ∈ S.os, o.a ≠ q) (fs : List (Str × V)) (hfs : fs = [(("objects" : Str), V.ref S.od), (("roots" : Str), V.ref q), (("next_number" : Str), V.int S.next)]) :
    StoreAt K (upd H s (.ins (gA K "Store") S.dx fs)) s { S with rl := q, roots := ns } := by
  obtain ⟨n1, n2, n3, n4, n5, n6, n7⟩ := h.nes
  have eE : ExF (InF (S.foot s)) H (upd H s (.ins (gA K "Store") S.dx fs)) := ExF.upd (ExF.refl _ H) (.inr ⟨Sto.foot_s, _, h.ins, rfl, rfl⟩)
  have nqs : q ≠ s := ne_of hq h.ins (by intro z; cases z)
  refine ⟨?_, ?_, ?_, ?_, fun p hp => ?_, ?_, h.kn⟩
  · rw [upd_same, hfs]
  · show upd _ _ _ S.dx = _
    rw [upd_ne (Ne.symm n1)]
    exact h.own
  · show upd _ _ _ S.od = _
    rw [upd_ne (Ne.symm n2)]
    exact h.dic
  · show upd _ _ _ q = _
    rw [upd_ne nqs]
    exact hq
  · obtain ⟨vs, h1, h2⟩ := h.fld p hp
    exact ⟨vs, by rw [upd_ne (n7 p hp).1]; exact h1, DIs.ex h2 eE⟩
  · refine List.nodup_cons.mpr ⟨fun z => ?_, (List.nodup_cons.mp h.nd).2⟩
    obtain ⟨o, ho, e⟩ := List.mem_map.mp z
    exact nq o ho e
def spAddR (K : PySem.W.Frag) : Sp := fun vs H Q E => ∃ (s : Addr) (S : Sto) (n : Int), vs = [.ref s, .int n] ∧ StoreAt K H s S ∧ n.natAbs.log2 < 1920 ∧ S.roots.length ≤ 1000 ∧
  (∀ o, S.get n = some o → n ∈ S.roots → Q (.bl false) H) ∧ (∀ o q, S.get n = some o → n ∉ S.roots → ∀ H', Now K H H' s S (S.addR q n) → Q (.bl true) H') ∧ (S.get n = none → Rx K E H "NoSuchObject" [("number", .int n)])
theorem sc_addR : FnScope ["self", "number"] ["self", "number"] (defScope s_Store_add_root) := ⟨rfl, rfl, rfl, by decide +kernel, rfl, by decide +kernel, by decide +kernel⟩
theorem w_addR (T : Txt P K mg) : Mt P w K mg base 4 (CStore K) "add_root" (spAddR K) := by
  have nd := sc_addR.nd
  have c1 := w_fields (w := w) (base := base) T
  refine mt_of T (fn_mem 67 rfl) (by decide +kernel) (by decide +kernel) sc_addR (b2 fun _ _ _ _ _ _ _ _ => rfl) (fun vs H Q E ⟨_, _, _, e, _⟩ => by rw [e]; rfl) fun cdv A outer s H vs Q E hr ⟨x, S, n, e, hS, hz, hsz, hq1, hq2, hE⟩ => ?_
  subst e
  refine ⟨_, (pss_cons (ps_expr (pe_mt c1 hr tk0 (pv 0) (pa_cons (pv 1) pa_nil))) (pss_cons (ps_if (pt_cmpR op_in_seq (pv 1) (pe_fld (pv 0) rfl) (by rfl)) (pss_one (ps_ret pe_bl)) pss_nil) (pss_cons (ps_fld (pv 0) (pe_callB (cr_sortD hr) (by rfl) (T.n "sorted") (by decide +kernel) (pa_cons (pe_op op_catR (pe_fld (pv 0) rfl) (pe_lst (pa_cons (pv 1) pa_nil))) pa_nil)) rfl) (pss_one (ps_ret pe_bl))))), ?_⟩
  refine ⟨_, rfl, x, _, _, rfl, hS.ins, rfl, _, rfl, x, S, n, rfl, hS, hz, fun o ho => ?_, fun h H' d e hd => hE h H' d e hd⟩
  refine ⟨_, rfl, _, rfl, x, _, _, _, _, rfl, hS.ins, T.cls "Store", T.noat "Store" "roots", rfl, S.rl, _, rfl, .inl (SqL.of hS.rts), rfl, flat_ints _, _, rfl, ?_⟩
  rw [show (if false = true then !inV (.int n) (S.roots.map V.int) else inV (.int n) (S.roots.map V.int)) = decide (n ∈ S.roots) by rw [if_neg (by decide), inV_ints]]
  refine iteD (fun hr1 => hq1 o ho hr1) fun hr1 => ?_
  refine ⟨_, rfl, x, _, _, _, _, rfl, hS.ins, T.cls "Store", T.noat "Store" "roots", rfl, _, rfl, sz1, fun p np => ?_⟩
  have e1 : Ex H (upd H p (.lst [.int n])) := Ex.new np
  have hS1 := hS.ex e1
  refine ⟨S.rl, p, S.roots.map V.int, [.int n], rfl, rfl, SqL.of hS1.rts, SqL.of upd_same, leL (m := 1001) (by rw [List.length_map]; exact Nat.add_le_add_right hsz 1) (by decide), fun l nl => ?_⟩
  have e2 : Ex H (upd (upd H p (.lst [.int n])) l (.lst (S.roots.map V.int ++ [.int n]))) := e1.trans (Ex.new nl)
  refine ⟨l, _, (S.roots ++ [n]).map PyData.int, rfl, SqL.of upd_same, by rw [← List.map_singleton (f := V.int), ← List.map_append]; exact DpAll.ints _, alikeI _, sortableI _, depthI _, fun q ys nq dys => ?_⟩
  rw [sort_ints] at dys
  have eys := DpAll.ints_inv dys
  subst eys
  have e3 : Ex H (upd (upd (upd H p (.lst [.int n])) l (.lst (S.roots.map V.int ++ [.int n]))) q (.lst ((sortI (S.roots ++ [n])).map V.int))) := e2.trans (Ex.new nq)
  have hS3 := hS.ex e3
  have hqH : H q = none := e2.gone nq
  refine ⟨_, rfl, x, _, _, _, rfl, hS3.ins, T.cls "Store", T.noat "Store" "roots", by show (3 : Nat) < 1000; decide, hq2 o q ho hr1 _ ⟨?_, ?_, fun b hb => ?_⟩⟩
  · exact e3.of.upd (.inr ⟨Sto.foot_s, _, hS.ins, rfl, rfl⟩)
  · refine hS3.setR (q := q) (ns := sortI (S.roots ++ [n])) upd_same (fun o ho z => ?_) _ rfl
    obtain ⟨vs, h1, _⟩ := hS.fld o ho
    rw [z, hqH] at h1
    cases h1
  · rcases foot_cases hb with rfl | rfl | rfl | rfl | ⟨o, ho, rfl⟩
    · exact .inl Sto.foot_s
    · exact .inl (by simp [Sto.foot, Sto.addR])
    · exact .inl Sto.foot_od
    · exact .inr hqH
    · exact .inl (Sto.foot_a ho)
/-! remove_root -/
def Sto.remR (S : Sto) (n : Int) : Sto := { S with roots := S.roots.eraseIdx (S.roots.findIdx fun m => decide (m = n)) }
def spRemR (K : PySem.W.Frag) : Sp := fun vs H Q E => ∃ (s : Addr) (S : Sto) (n : Int), vs = [.ref s, .int n] ∧ StoreAt K H s S ∧ n.natAbs.log2 < 1920 ∧
  (∀ o, S.get n = some o → n ∉ S.roots → Q (.bl false) H) ∧ (∀ o, S.get n = some o → n ∈ S.roots → ∀ H', Now K H H' s S (S.remR n) → Q (.bl true) H') ∧ (S.get n = none → Rx K E H "NoSuchObject" [("number", .int n)])
theorem sc_remR : FnScope ["self", "number"] ["self", "number"] (defScope s_Store_remove_root) := ⟨rfl, rfl, rfl, by decide +kernel, rfl, by decide +kernel, by decide +kernel⟩
theorem w_remR (T : Txt P K mg) : Mt P w K mg base 4 (CStore K) "remove_root" (spRemR K) := by
  have nd := sc_remR.nd
  have c1 := w_fields (w := w) (base := base) T
  refine mt_of T (fn_mem 68 rfl) (by decide +kernel) (by decide +kernel) sc_remR (b2 fun _ _ _ _ _ _ _ _ => rfl) (fun vs H Q E ⟨_, _, _, e, _⟩ => by rw [e]; rfl) fun cdv A outer s H vs Q E hr ⟨x, S, n, e, hS, hz, hq1, hq2, hE⟩ => ?_
  subst e
  refine ⟨_, (pss_cons (ps_expr (pe_mt c1 hr tk0 (pv 0) (pa_cons (pv 1) pa_nil))) (pss_cons (ps_if (pt_cmpR op_notIn_seq (pv 1) (pe_fld (pv 0) rfl) (by rfl)) (pss_one (ps_ret pe_bl)) pss_nil) (pss_cons (ps_expr (pe_bm PySem.F.plainAttrs_list PySem.F.slot_list_remove PySem.F.type_list_remove mt_remove (pe_fld (pv 0) rfl) (pa_cons (pv 1) pa_nil))) (pss_one (ps_ret pe_bl))))), ?_⟩
  refine ⟨_, rfl, x, _, _, rfl, hS.ins, rfl, _, rfl, x, S, n, rfl, hS, hz, fun o ho => ?_, fun h H' d e hd => hE h H' d e hd⟩
  refine ⟨_, rfl, _, rfl, x, _, _, _, _, rfl, hS.ins, T.cls "Store", T.noat "Store" "roots", rfl, S.rl, _, rfl, .inl (SqL.of hS.rts), rfl, flat_ints _, _, rfl, ?_⟩
  rw [show (if true = true then !inV (.int n) (S.roots.map V.int) else inV (.int n) (S.roots.map V.int)) = !decide (n ∈ S.roots) by rw [if_pos rfl, inV_ints]]
  by_cases hr1 : n ∈ S.roots
  · have hex : ∃ m ∈ S.roots, decide (m = n) = true := ⟨n, hr1, by simp⟩
    have hlt : S.roots.findIdx (fun m => decide (m = n)) < S.roots.length := List.findIdx_lt_length_of_exists hex
    refine itYn hr1 ⟨_, rfl, x, _, _, _, _, rfl, hS.ins, T.cls "Store", T.noat "Store" "roots", rfl, .inl ⟨rfl, _, SqL.of hS.rts⟩, _, rfl, S.rl, S.roots, n, S.roots.findIdx fun m => decide (m = n), rfl, rfl, hS.rts, ?_, fun m hm z => ?_, hq2 o ho hr1 _ ?_⟩
    · have := List.findIdx_getElem (w := hlt)
      rw [List.getElem?_eq_getElem hlt]
      simpa using this
    · have h1 := List.not_of_lt_findIdx hm
      have h2 : m < S.roots.length := by omega
      rw [List.getElem?_eq_getElem h2] at z
      have h3 := Option.some.inj z
      simp [h3] at h1
    · obtain ⟨n1, n2, n3, n4, n5, n6, n7⟩ := hS.nes
      have eE : ExF (InF (S.foot x)) H (upd H S.rl (.lst ((S.roots.eraseIdx (S.roots.findIdx fun m => decide (m = n))).map V.int))) := ExF.upd (ExF.refl _ H) (.inr ⟨Sto.foot_rl, _, hS.rts, rfl, rfl⟩)
      refine ⟨eE, ⟨?_, ?_, ?_, ?_, fun p hp => ?_, hS.nd, hS.kn⟩, fun b hb => .inl hb⟩
      · rw [upd_ne n3]
        exact hS.ins
      · show upd _ _ _ S.dx = _
        rw [upd_ne n5]
        exact hS.own
      · show upd _ _ _ S.od = _
        rw [upd_ne n6]
        exact hS.dic
      · show upd _ _ _ S.rl = _
        rw [upd_same]
        rfl
      · obtain ⟨vs, h1, h2⟩ := hS.fld p hp
        exact ⟨vs, by rw [upd_ne (n7 p hp).2.2.2]; exact h1, DIs.ex h2 eE⟩
  · exact itNn hr1 (hq1 o ho hr1)
end
end Hg
namespace Hg
open PySem PySem.Spec PyProof.Rows L2
/-! ### Store: numbers, copy -/
/-- what the store holds, without its places -/
structure Pl where
  os : List (Int × List FV)
  roots : List Int
  next : Int
def Sto.pl (S : Sto) : Pl := ⟨S.os.map fun o => (o.n, o.fs), S.roots, S.next⟩
theorem Sto.pl_keys (S : Sto) : S.pl.os.map (·.1) = S.keys := by
  unfold Sto.pl Sto.keys
  rw [List.map_map]
  rfl
section
variable {F : Addr → Prop} {H H1 : Hp} {d : Addr} {u o : HO}
theorem ExF.lockd (e : ExF F H H1) (hd : H d = some u) (i : isImm u = false) (t : isTbl o = false) : ExF F (L2.upd H d o) (L2.upd H1 d o) where
  keep := fun b v k n q => by
    by_cases hb : b = d
    · rw [hb, upd_same] at k ⊢
      exact k
    · rw [upd_ne hb] at k ⊢
      exact e.keep b v k n q
  live := fun b k => by
    by_cases hb : b = d
    · rw [hb, upd_same] at k
      cases k
    · rw [upd_ne hb] at k ⊢
      exact e.live b k
  tab := fun p ps k q => by
    have hb : p ≠ d := fun z => by
      rw [z, upd_same] at k
      cases k
      cases t
    rw [upd_ne hb] at k ⊢
    exact e.tab p ps k q
  imm := fun b v k => by
    by_cases hb : b = d
    · have h1 := imm_le k
      rw [hb, upd_same] at h1 ⊢
      exact h1
    · have h1 := imm_le k
      rw [upd_ne hb] at h1 ⊢
      exact imm_le (e.immI (imm_of h1 (imm_some k)))
end
section
variable {K : PySem.W.Frag} {H : Hp} {s q : Addr} {S : Sto}
theorem StoreAt.unl {d : Addr} {u : HO} {od : Obj} (h : StoreAt K H s S) (hd : H d = some (.frz od u)) (nu : notSeq u = true) (nf : ∀ b ∈ S.foot s, b ≠ d) : StoreAt K (upd H d u) s S where
  ins := by rw [upd_ne (nf _ Sto.foot_s)]; exact h.ins
  own := by rw [upd_ne (nf _ (by simp [Sto.foot]))]; exact h.own
  dic := by rw [upd_ne (nf _ Sto.foot_od)]; exact h.dic
  rts := by rw [upd_ne (nf _ Sto.foot_rl)]; exact h.rts
  fld := fun o ho => by
    obtain ⟨vs, h1, h2⟩ := h.fld o ho
    exact ⟨vs, by rw [upd_ne (nf _ (Sto.foot_a ho))]; exact h1, DpAll.unl hd nu h2⟩
  nd := h.nd
  kn := h.kn
def Sto.app (S : Sto) (n : Int) (q : Addr) (fs : List FV) : Sto := { S with os := S.os ++ [⟨n, q, fs⟩] }
theorem StoreAt.app {n : Int} {fs : List FV} {vs : List V} (h : StoreAt K H s S) (hn : n ∉ S.keys) (hq : H q = some (.lst vs)) (dv : DIs K H vs (fs.map encF)) (nq : q ≠ S.rl ∧ ∀ o ∈ S.os, o.a ≠ q) :
    StoreAt K (upd H S.od (.dK (putK S.kvs (Sum.inl n) (.ref q)))) s (S.app n q fs) := by
  obtain ⟨n1, n2, n3, n4, n5, n6, n7⟩ := h.nes
  have eE : ExF (InF (S.foot s)) H (upd H S.od (.dK (putK S.kvs (Sum.inl n) (.ref q)))) := ExF.upd (ExF.refl _ H) (.inr ⟨Sto.foot_od, _, h.dic, rfl, rfl⟩)
  have hget : (S.os.find? fun o => decide (o.n = n)) = none := Sto.get_none.mpr hn
  have hput : putK S.kvs (Sum.inl n) (V.ref q) = (S.app n q fs).kvs := by
    rw [putK_new (by rw [Sto.kvs, kvs_val, hget]; rfl)]
    simp [Sto.kvs, Sto.app, Ob.kv]
  have nqd : q ≠ S.od := ne_of hq h.dic (by intro z; cases z)
  refine ⟨?_, ?_, ?_, ?_, fun p hp => ?_, ?_, ?_⟩
  · rw [upd_ne n2]
    exact h.ins
  · show upd _ _ _ S.dx = _
    rw [upd_ne n4]
    exact h.own
  · show upd _ _ _ S.od = _
    rw [upd_same, hput]
  · show upd _ _ _ S.rl = _
    rw [upd_ne (Ne.symm n6)]
    exact h.rts
  · (rcases List.mem_append.mp hp with hp | hp)
    · obtain ⟨vs, h1, h2⟩ := h.fld p hp
      exact ⟨vs, by rw [upd_ne (n7 p hp).2.2.1]; exact h1, DIs.ex h2 eE⟩
    · (rw [List.mem_singleton.mp hp])
      exact ⟨vs, by rw [upd_ne nqd]; exact hq, DIs.ex dv eE⟩
  · show (S.rl :: (S.os ++ [_]).map _).Nodup
    rw [List.map_append, ← List.cons_append]
    refine List.nodup_append.mpr ⟨h.nd, by simp, fun b hb c hc z => ?_⟩
    rw [List.map_singleton] at hc
    rw [List.mem_singleton.mp hc] at z
    (rcases List.mem_cons.mp hb with e | hb)
    · exact nq.1 ((show b = q from z).symm.trans e)
    · obtain ⟨o, ho, e⟩ := List.mem_map.mp hb
      exact nq.2 o ho (e.trans z)
  · show ((S.os ++ [_]).map _).Nodup
    rw [List.map_append]
    refine List.nodup_append.mpr ⟨h.kn, by simp, fun b hb c hc z => ?_⟩
    rw [List.map_singleton] at hc
    rw [List.mem_singleton.mp hc] at z
    rw [z] at hb
    exact hn hb
theorem StoreAt.setN {n : Int} (h : StoreAt K H s S) (fs : List (Str × V)) (hfs : fs = [(("objects" : Str), V.ref S.od), (("roots" : Str), V.ref S.rl), (("next_number" : Str), V.int n)]) : StoreAt K (upd H s (.ins (gA K "Store") S.dx fs)) s { S with next := n } := by
  subst hfs
  obtain ⟨n1, n2, n3, n4, n5, n6, n7⟩ := h.nes
  have eE : ExF (InF (S.foot s)) H (upd H s (.ins (gA K "Store") S.dx [("objects", .ref S.od), ("roots", .ref S.rl), ("next_number", .int n)])) := ExF.upd (ExF.refl _ H) (.inr ⟨Sto.foot_s, _, h.ins, rfl, rfl⟩)
  refine ⟨upd_same, ?_, ?_, ?_, fun p hp => ?_, h.nd, h.kn⟩
  · show upd _ _ _ S.dx = _
    rw [upd_ne (Ne.symm n1)]
    exact h.own
  · show upd _ _ _ S.od = _
    rw [upd_ne (Ne.symm n2)]
    exact h.dic
  · show upd _ _ _ S.rl = _
    rw [upd_ne (Ne.symm n3)]
    exact h.rts
  · obtain ⟨vs, h1, h2⟩ := h.fld p hp
    exact ⟨vs, by rw [upd_ne (n7 p hp).1]; exact h1, DIs.ex h2 eE⟩
end
section
variable {P : Program} {w : World} {K : PySem.W.Frag} {mg : Str → Option Value} {base : Heap}
def spNums (K : PySem.W.Frag) : Sp := fun vs H Q _ => ∃ (s : Addr) (S : Sto), vs = [.ref s] ∧ StoreAt K H s S ∧ ∀ H' p, Ex H H' → H' p = some (.lst ((sortI S.keys).map V.int)) → H p = none → Q (.ref p) H'
theorem sc_nums : FnScope ["self"] ["self"] (defScope s_Store_numbers) := ⟨rfl, rfl, rfl, by decide +kernel, rfl, by decide +kernel, by decide +kernel⟩
theorem w_nums (T : Txt P K mg) : Mt P w K mg base 1 (CStore K) "numbers" (spNums K) := by
  have nd := sc_nums.nd
  refine mt_of T (fn_mem 60 rfl) (by decide +kernel) (by decide +kernel) sc_nums (b1 fun _ _ _ _ _ _ _ => rfl) (fun vs H Q E ⟨_, _, e, _⟩ => by rw [e]; rfl) fun cdv A outer s H vs Q E hr ⟨x, S, e, hS, hq⟩ => ?_
  subst e
  refine ⟨_, (pss_one (ps_ret (pe_callB (cr_sortedDK hr rfl) (by rfl) (T.n "sorted") (by decide +kernel) (pa_cons (pe_fld (pv 0) rfl) pa_nil)))), ?_⟩
  refine ⟨_, rfl, x, _, _, _, _, rfl, hS.ins, T.cls "Store", T.noat "Store" "objects", rfl, S.od, S.kvs, S.keys, rfl, hS.dic, S.kvs_keys, fun p hp => hq _ p (Ex.new hp) upd_same hp⟩
def spCopy (K : PySem.W.Frag) : Sp := fun vs H Q _ => ∃ (s : Addr) (S : Sto), vs = [.ref s] ∧ StoreAt K H s S ∧ S.os.length ≤ 1000 ∧ ∀ H' s' S', Ex H H' → StoreAt K H' s' S' → S'.pl = S.pl → (∀ b ∈ S'.foot s', H b = none) → Q (.ref s') H'
abbrev N_scopy : List Str := ["self", "other", "number"]
theorem sc_scopy : FnScope N_scopy ["self"] (defScope s_Store_copy) := ⟨rfl, rfl, rfl, by decide +kernel, rfl, by decide +kernel, by decide +kernel⟩
theorem w_scopy (T : Txt P K mg) : Mt P w K mg base 3 (CStore K) "copy" (spCopy K) := by
  have nd := sc_scopy.nd
  have c1 := w_store0 (w := w) (base := base) T
  refine mt_of T (fn_mem 59 rfl) (by decide +kernel) (by decide +kernel) sc_scopy (b1 fun _ _ _ _ _ _ _ => rfl) (fun vs H Q E ⟨_, _, e, _⟩ => by rw [e]; rfl) fun cdv A outer s H vs Q E hr ⟨x, S, e, hS, hlen, hq⟩ => ?_
  subst e
  refine ⟨_, (pss_cons (ps_set (i := 1) nd rfl (.inl rfl) (pe_mr0 c1 hr)) (pss_cons (ps_lock (ps_for ps0 rfl (pi_keys (pe_fld (pv 0) rfl)) (pg_name (i := 2) nd rfl (.inl rfl)) (pss_one (ps_dput (hu_of hr) (pe_fld (pv 1) rfl) (pv 2) (pe_callTy call_list_of (by rfl) (T.n "list") (by decide +kernel) (pa_cons (pe_dget (hu_of hr) (pe_fld (pv 0) rfl) (pv 2) (fun _ _ => rfl)) pa_nil)) rfl)))) (pss_cons (ps_fld (pv 1) (pe_callTy call_list_of (by rfl) (T.n "list") (by decide +kernel) (pa_cons (pe_fld (pv 0) rfl) pa_nil)) rfl) (pss_cons (ps_fld (pv 1) (pe_fld (pv 0) rfl) rfl) (pss_one (ps_ret (pv 1))))))), ?_⟩
  refine fun y dx ny ndx nyd => ⟨y, dx, rfl, upd_same, by rw [upd_ne nyd, upd_same], fun H1 od rl eF nod nrl hY => ⟨rfl, ?_⟩⟩
  have e1 : Ex H H1 := by
    have e0 : Ex H (upd (upd H dx (.own y)) y (.ins (CStore K) dx [])) := Ex.updN (Ex.new ndx) ny
    exact ⟨fun b o k n q => eF.keep b o (e0.keep b o k n q) (fun z => by rw [z, ny] at k; cases k) q, fun b k => e0.live b (eF.live b k), fun p ps k t => by
      obtain ⟨qs, h2, t2⟩ := e0.tab p ps k t
      exact eF.tab p qs h2 t2, fun b o k => eF.imm b o (e0.immI k)⟩
  have e0 : Ex H (upd (upd H dx (.own y)) y (.ins (CStore K) dx [])) := Ex.updN (Ex.new ndx) ny
  have nod' : H od = none := e0.gone nod
  have nrl' : H rl = none := e0.gone nrl
  have hS1 := hS.ex e1
  refine ⟨S.od, .dK S.kvs, hS1.dic, trivial, fun ob => ?_⟩
  obtain ⟨l1, l2⟩ := hS.locked (ob := ob)
  have eL : Ex (upd H S.od (.frz ob (.dK S.kvs))) (upd H1 S.od (.frz ob (.dK S.kvs))) := e1.lockd hS.dic rfl rfl
  have nL : ∀ {b}, H b = none → (upd H S.od (.frz ob (.dK S.kvs))) b = none := fun {b} h => by
    rw [upd_ne (ne_of_none hS.dic h).symm]
    exact h
  refine ⟨_, rfl, x, _, _, _, _, rfl, eL.at l1, T.cls "Store", T.noat "Store" "objects", rfl, S.od, ob, rfl, .inl ⟨S.kvs, upd_same, ?_⟩⟩
  refine for_k (ns := S.keys) S.kvs_keys (fun pre σ G => ∃ z Y, σ = [some (.ref x), some (.ref y), z] ∧ Ex (upd H S.od (.frz ob (.dK S.kvs))) G ∧ StoreAt K G y Y ∧ Y.keys = pre ∧ Y.roots = [] ∧ Y.next = 0 ∧ (∀ b ∈ Y.foot y, H b = none) ∧ (∃ rest, S.os.map (fun o => (o.n, o.fs)) = Y.os.map (fun o => (o.n, o.fs)) ++ rest)) ?_ ?_ ?_ ?_
  · have nn : ∀ b ∈ (⟨dx, od, rl, [], [], 0⟩ : Sto).foot y, H b = none := fun b hb => by
      rcases foot_cases hb with e | e | e | e | ⟨o, ho, _⟩
      · rw [e]; exact ny
      · rw [e]; exact ndx
      · rw [e]; exact nod'
      · rw [e]; exact nrl'
      · cases ho
    refine ⟨_, _, rfl, eL, hY.frame (F := fun b => b = S.od) (ExF.upd (ExF.refl _ _) (.inr ⟨rfl, _, hS1.dic, rfl, rfl⟩)) (fun b hb z => ?_), rfl, rfl, rfl, nn, _, rfl⟩
    have := nn b hb
    rw [z, hS.dic] at this
    cases this
  · intro pre σ G ⟨_, _, _, e, _⟩
    exact e.at upd_same
  · intro pre m post σ G el ⟨z, Y, e, eG, hYG, hk, hr0, hn0, hfr, rest, hrest⟩
    subst e
    obtain ⟨o, ho, hg, hval⟩ := kvs_at el
    obtain ⟨vs, hv, dv⟩ := l2 o ho
    have hon := (Sto.get_mem hg).2
    refine ⟨_, rfl, x, _, _, _, _, rfl, eG.at l1, T.cls "Store", T.noat "Store" "objects", rfl, _, rfl, S.od, _, rfl, dget_frz (eG.at upd_same) hval, o.a, vs, rfl, .inl (SqL.of (eG.at hv)), fun q nq => ?_⟩
    have eq2 : Ex G (upd G q (.lst vs)) := Ex.new nq
    have hYq := hYG.ex eq2
    have hnk : m ∉ Y.keys := by
      have := hS.kn
      rw [el] at this
      rw [hk]
      intro z
      exact (List.nodup_append.mp this).2.2 m z m (List.mem_cons_self ..) rfl
    have hYl : Y.os.length ≤ 1000 := by
      have h1 := congrArg List.length hrest
      rw [List.length_append, List.length_map, List.length_map] at h1
      omega
    refine ⟨_, rfl, y, _, _, _, _, rfl, hYq.ins, T.cls "Store", T.noat "Store" "objects", rfl, _, rfl, Y.od, _, rfl, DPut.k (k := Sum.inl m) hYq.dic (ltL (m := 1001) (by rw [Sto.kvs, List.length_map]; omega) (by decide)), ?_⟩
    have hap := StoreAt.app (n := m) (q := q) (fs := o.fs) hYq hnk upd_same (DIs.ex dv (eG.trans eq2)) ⟨fun z => ?_, fun p hp z => ?_⟩
    · refine ⟨_, _, rfl, ?_, hap, ?_, hr0, hn0, fun b hb => ?_, ?_⟩
      · exact (eG.trans eq2).updN (nL (hfr _ Sto.foot_od))
      · show (Y.os ++ [_]).map _ = _
        rw [List.map_append]
        show Y.keys ++ [m] = _
        rw [hk]
      · rcases foot_cases hb with e | e | e | e | ⟨p, hp, e⟩
        · rw [e]; exact hfr _ Sto.foot_s
        · rw [e]; exact hfr _ (by simp [Sto.foot, Sto.app])
        · rw [e]; exact hfr _ Sto.foot_od
        · rw [e]; exact hfr _ Sto.foot_rl
        · (rcases List.mem_append.mp hp with hp | hp)
          · rw [← e]; exact hfr _ (Sto.foot_a hp)
          · rw [List.mem_singleton.mp hp] at e
            have := eG.gone nq
            rw [← e]
            by_cases hh : q = S.od
            · rw [hh, upd_same] at this
              cases this
            · rwa [upd_ne hh] at this
      · have h1 : S.os.map (fun o => (o.n, o.fs)) = Y.os.map (fun o => (o.n, o.fs)) ++ rest := hrest
        have h2 : (S.os.map (fun o => (o.n, o.fs)))[Y.os.length]? = some (m, o.fs) := by
          have h3 : S.keys[Y.os.length]? = some m := by
            rw [el]
            have : pre.length = Y.os.length := by rw [← hk]; simp [Sto.keys]
            rw [← this]
            simp
          unfold Sto.keys at h3
          rw [List.getElem?_map] at h3 ⊢
          cases h4 : S.os[Y.os.length]? with
          | none => rw [h4] at h3; cases h3
          | some p =>
            rw [h4] at h3
            have h5 : p.n = m := Option.some.inj h3
            have h6 : p = o := nodup_inj hS.kn (List.mem_of_getElem? h4) ho (h5.trans hon.symm)
            rw [h6] at h5 ⊢
            show some (o.n, o.fs) = _
            rw [h5]
        rw [h1] at h2
        rw [List.getElem?_append_right (by rw [List.length_map]; exact Nat.le_refl _)] at h2
        cases rest with
        | nil => simp at h2
        | cons r rest =>
          simp at h2
          refine ⟨rest, ?_⟩
          rw [h1, h2]
          show _ = (Y.os ++ [_]).map _ ++ rest
          rw [List.map_append, List.append_assoc]
          rfl
    · rw [z] at nq
      rw [hYG.rts] at nq
      cases nq
    · obtain ⟨us, h1, _⟩ := hYG.fld p hp
      rw [z, nq] at h1
      cases h1
  · intro σ G ⟨z, Y, e, eG, hYG, hk, hr0, hn0, hfr, rest, hrest⟩
    subst e
    refine ⟨eG.at upd_same, ?_⟩
    have e3 : Ex H (upd G S.od (.dK S.kvs)) := eG.unlock hS.dic rfl rfl
    have hS3 := hS.ex e3
    have hY3 : StoreAt K (upd G S.od (.dK S.kvs)) y Y := hYG.unl (eG.at upd_same) rfl fun b hb z => by
      have := hfr b hb
      rw [z, hS.dic] at this
      cases this
    have hr2 : rest = [] := by
      have h1 := congrArg List.length hrest
      have h2 : S.keys.length = S.os.length := by simp [Sto.keys]
      have h3 : Y.keys.length = Y.os.length := by simp [Sto.keys]
      rw [List.length_append, List.length_map, List.length_map, ← h2, ← h3, hk] at h1
      exact List.eq_nil_of_length_eq_zero (by omega)
    subst hr2
    rw [List.append_nil] at hrest
    refine ⟨_, rfl, x, _, _, _, _, rfl, hS3.ins, T.cls "Store", T.noat "Store" "roots", rfl, S.rl, _, rfl, .inl (SqL.of hS3.rts), fun q nq => ?_⟩
    have e4 : Ex H (upd (upd G S.od (.dK S.kvs)) q (.lst (S.roots.map V.int))) := e3.trans (Ex.new nq)
    have hY4 : StoreAt K (upd (upd G S.od (.dK S.kvs)) q (.lst (S.roots.map V.int))) y Y := hY3.ex (Ex.new nq)
    have hS4 := hS.ex e4
    have nqo : ∀ o ∈ Y.os, o.a ≠ q := fun o ho z => by
      obtain ⟨us, h1, _⟩ := hY3.fld o ho
      rw [z, nq] at h1
      cases h1
    have hY5 := hY4.setR (q := q) (ns := S.roots) upd_same nqo _ rfl
    have nyx : y ≠ x := fun z => by rw [z, hS.ins] at ny; cases ny
    refine ⟨_, rfl, y, _, _, _, rfl, hY4.ins, T.cls "Store", T.noat "Store" "roots", by show (3 : Nat) < 1000; decide, _, rfl, x, _, _, _, _, rfl, by rw [upd_ne nyx.symm]; exact hS4.ins, T.cls "Store", T.noat "Store" "next_number", rfl, _, rfl, y, _, _, _, rfl, hY5.ins, T.cls "Store", T.noat "Store" "next_number", by show (3 : Nat) < 1000; decide, _, rfl, ?_⟩
    refine hq _ y { Y with rl := q, roots := S.roots, next := S.next } ?_ (hY5.setN (n := S.next) _ rfl) ?_ fun b hb => ?_
    · exact (e4.updN ny).updN ny
    · show (⟨_, _, _⟩ : Pl) = ⟨_, _, _⟩
      rw [hrest]
    · rcases foot_cases hb with e | e | e | e | ⟨p, hp, e⟩
      · rw [e]; exact ny
      · rw [e]; exact hfr _ (by simp [Sto.foot])
      · rw [e]; exact hfr _ Sto.foot_od
      · rw [e]; exact e3.gone nq
      · rw [← e]; exact hfr _ (Sto.foot_a hp)
end
end Hg
namespace Hg
open PySem PySem.Spec PyProof.Rows L2
/-! ### what can be reached -/
def Pl.keys (p : Pl) : List Int := p.os.map (·.1)
def Pl.look (p : Pl) (n : Int) : List FV := ((p.os.find? fun o => decide (o.1 = n)).map (·.2)).getD []
def addT (st : List Int × List Int) (f : FV) : List Int × List Int :=
  match tgt f with
  | none => st
  | some t => if t ∈ st.2 then st else (st.1 ++ [t], st.2 ++ [t])
def rStep (p : Pl) (st : List Int × List Int) : List Int × List Int :=
  match st.1.getLast? with
  | none => st
  | some n => (p.look n).foldl addT (st.1.dropLast, st.2)
def rGo (p : Pl) : Nat → List Int × List Int → List Int × List Int
  | 0, st => st
  | k + 1, st => rGo p k (rStep p st)
def rN (p : Pl) : Nat := p.roots.length + p.os.length
def reachL (p : Pl) : List Int := (rGo p (rN p) (p.roots, p.roots)).2
def cntF (p : Pl) (found : List Int) : Nat := (p.keys.filter fun k => decide (k ∉ found)).length
structure Pl.Cl (p : Pl) : Prop where
  rk : ∀ r ∈ p.roots, r ∈ p.keys
  fk : ∀ o ∈ p.os, ∀ f ∈ o.2, ∀ t, tgt f = some t → t ∈ p.keys
section
variable {p : Pl}
theorem Pl.look_cl (h : p.Cl) {n : Int} : ∀ f ∈ p.look n, ∀ t, tgt f = some t → t ∈ p.keys := by
  intro f hf t ht
  unfold Pl.look at hf
  cases h1 : (p.os.find? fun o => decide (o.1 = n)) with
  | none => rw [h1] at hf; cases hf
  | some o =>
    rw [h1] at hf
    exact h.fk o (List.mem_of_find?_eq_some h1) f hf t ht
theorem cntF_add {found : List Int} {t : Int} (hk : t ∈ p.keys) (hf : t ∉ found) : cntF p (found ++ [t]) < cntF p found := by
  unfold cntF
  have e : (p.keys.filter fun k => decide (k ∉ found ++ [t])) = (p.keys.filter fun k => decide (k ∉ found)).filter fun k => decide (k ≠ t) := by
    rw [List.filter_filter]
    apply List.filter_congr
    intro k _
    simp [and_comm]
  rw [e]
  have hm : t ∈ p.keys.filter fun k => decide (k ∉ found) := List.mem_filter.mpr ⟨hk, by simp [hf]⟩
  generalize (p.keys.filter fun k => decide (k ∉ found)) = l at hm
  induction l with
  | nil => cases hm
  | cons a l ih =>
    by_cases ha : a = t
    · rw [List.filter_cons_of_neg (by simp [ha])]
      exact Nat.lt_succ_of_le (List.length_filter_le ..)
    · rw [List.filter_cons_of_pos (by simp [ha])]
      (rcases List.mem_cons.mp hm with e | hm)
      · exact absurd e.symm ha
      · exact Nat.succ_lt_succ (ih hm)
/-- a turn's state -/
structure RSt (p : Pl) (st : List Int × List Int) (m : Nat) : Prop where
  ms : st.1.length + cntF p st.2 ≤ m
  sz : st.2.length + cntF p st.2 ≤ rN p
  ak : ∀ n ∈ st.1, n ∈ p.keys
theorem RSt.add {st : List Int × List Int} {m : Nat} {f : FV} (h : RSt p st m) (hf : ∀ t, tgt f = some t → t ∈ p.keys) : RSt p (addT st f) m := by
  unfold addT
  cases ht : tgt f with
  | none => exact h
  | some t =>
    have hk := hf t ht
    show RSt p (if t ∈ st.2 then st else _) m
    by_cases h1 : t ∈ st.2
    · rw [if_pos h1]
      exact h
    · rw [if_neg h1]
      have h2 := cntF_add hk h1
      have h3 := h.ms
      have h4 := h.sz
      refine ⟨?_, ?_, fun n hn => ?_⟩
      · show (st.1 ++ [t]).length + cntF p (st.2 ++ [t]) ≤ m
        rw [List.length_append]
        show st.1.length + 1 + _ ≤ m
        omega
      · show (st.2 ++ [t]).length + cntF p (st.2 ++ [t]) ≤ _
        rw [List.length_append]
        show st.2.length + 1 + _ ≤ _
        omega
      · rcases List.mem_append.mp hn with h | h'
        · exact RSt.ak ‹_› n h
        · rw [List.mem_singleton.mp h']; exact hk
theorem RSt.fold {fs : List FV} {st : List Int × List Int} {m : Nat} (h : RSt p st m) (hf : ∀ f ∈ fs, ∀ t, tgt f = some t → t ∈ p.keys) : RSt p (fs.foldl addT st) m := by
  induction fs generalizing st with
  | nil => exact h
  | cons f fs ih => exact ih (h.add (hf f (List.mem_cons_self ..))) fun g hg => hf g (List.mem_cons_of_mem _ hg)
theorem RSt.pop {st : List Int × List Int} {m : Nat} (h : RSt p st (m + 1)) (hn : st.1 ≠ []) : RSt p (st.1.dropLast, st.2) m := by
  have h1 := h.ms
  have h2 : 0 < st.1.length := List.length_pos_iff.mpr hn
  refine ⟨?_, h.sz, fun n hm => h.ak n ((List.dropLast_sublist st.1).subset hm)⟩
  show st.1.dropLast.length + cntF p st.2 ≤ m
  rw [List.length_dropLast]
  omega
theorem RSt.start (h : p.Cl) : RSt p (p.roots, p.roots) (rN p) := by
  have h1 : cntF p p.roots ≤ p.os.length := by
    unfold cntF Pl.keys
    exact Nat.le_trans (List.length_filter_le ..) (by rw [List.length_map]; exact Nat.le_refl _)
  refine ⟨?_, ?_, h.rk⟩
  · show p.roots.length + cntF p p.roots ≤ rN p
    unfold rN
    omega
  · show p.roots.length + cntF p p.roots ≤ rN p
    unfold rN
    omega
theorem rGo_nil {k : Nat} {found : List Int} : rGo p k ([], found) = ([], found) := by
  induction k with
  | zero => rfl
  | succ k ih => exact ih
end
theorem Sto.pl_look {S : Sto} {n : Int} {o : Ob} (h : S.get n = some o) : S.pl.look n = o.fs := by
  unfold Pl.look Sto.pl
  have h1 : (S.os.find? fun o => decide (o.n = n)) = some o := h
  rw [List.find?_map]
  show (Option.map _ (Option.map _ (S.os.find? fun o => decide (o.n = n)))).getD [] = _
  rw [h1]
  rfl
theorem Sto.pl_keysP (S : Sto) : S.pl.keys = S.keys := S.pl_keys
section
variable {P : Program} {w : World} {K : PySem.W.Frag} {mg : Str → Option Value} {base : Heap}
def spReach (K : PySem.W.Frag) : Sp := fun vs H Q _ => ∃ (s : Addr) (S : Sto), vs = [.ref s] ∧ StoreAt K H s S ∧ S.pl.Cl ∧ rN S.pl < 60 ∧ ∀ (H' : Hp) (q : Addr) (ns : List Int), Ex H H' → H' q = some (.lst (ns.map V.int)) → (∀ k, k ∈ ns ↔ k ∈ reachL S.pl) → ns.length < 64 → H q = none → Q (.ref q) H'
abbrev N_reach : List Str := ["self", "found", "ahead", "number", "value", "target"]
theorem sc_reach : FnScope N_reach ["self"] (defScope s_Store_reachable) := ⟨rfl, rfl, rfl, by decide +kernel, rfl, by decide +kernel, by decide +kernel⟩
theorem w_reach (T : Txt P K mg) : Mt P w K mg base 2 (CStore K) "reachable" (spReach K) := by
  have nd := sc_reach.nd
  have c1 := w_target (w := w) (base := base) T
  refine mt_of T (fn_mem 69 rfl) (by decide +kernel) (by decide +kernel) sc_reach (b1 fun _ _ _ _ _ _ _ => rfl) (fun vs H Q E ⟨_, _, e, _⟩ => by rw [e]; rfl) fun cdv A outer s H vs Q E hr ⟨x, S, e, hS, hcl, hN, hq⟩ => ?_
  subst e
  refine ⟨_, (pss_cons (ps_set (i := 1) nd rfl (.inl rfl) (pe_callTy (cr_setL rfl) (by rfl) (T.n "set") (by decide +kernel) (pa_cons (pe_fld (pv 0) rfl) pa_nil))) (pss_cons (ps_set (i := 2) nd rfl (.inl rfl) (pe_callTy call_list_of (by rfl) (T.n "list") (by decide +kernel) (pa_cons (pe_fld (pv 0) rfl) pa_nil))) (pss_cons (ps_while ps0 (pt_truth (pv 2) (by intro _; rfl)) (pss_cons (ps_set (i := 3) nd rfl (.inl rfl) (pe_bm0 PySem.F.plainAttrs_list PySem.F.slot_list_pop PySem.F.type_list_pop mt_pop (pv 2))) (pss_one (ps_for ps0 rfl (pi_list (pe_dget (hu_of hr) (pe_fld (pv 0) rfl) (pv 3) (fun _ _ => rfl))) (pg_name (i := 4) nd rfl (.inl rfl)) (pss_cons (ps_set (i := 5) nd rfl (.inl rfl) (pe_cl c1 hr takes0 (pa_cons (pv 4) pa_nil))) (pss_one (ps_if (PW.pt (pw_and (pt_cmpR op_notN (pv 5) pe_non (nomark _)) (pw_and1 (pt_cmpR or_snotin (pv 5) (pv 1) (by rfl))))) (pss_cons (ps_expr (pe_sadd (pv 1) (pa_cons (pv 5) pa_nil))) (pss_one (ps_expr (pe_bm PySem.F.plainAttrs_list PySem.F.slot_list_append PySem.F.type_list_append mt_append (pv 2) (pa_cons (pv 5) pa_nil))))) pss_nil))))))) (pss_one (ps_ret (pe_callB (cr_sortedSet rfl) (by rfl) (T.n "sorted") (by decide +kernel) (pa_cons (pv 1) pa_nil))))))), ?_⟩
  have hN' : rN S.pl = S.roots.length + S.os.length := by
    unfold rN Sto.pl
    rw [List.length_map]
  refine ⟨_, rfl, x, _, _, _, _, rfl, hS.ins, T.cls "Store", T.noat "Store" "roots", rfl, S.rl, S.roots, rfl, SqL.of hS.rts, by show _ < 4096; omega, fun D c nD hc => ?_⟩
  have e1 : Ex H (upd H D (SetO w D (fun j => decide (j ∈ S.roots)) c)) := Ex.new nD
  have hS1 := hS.ex e1
  refine ⟨_, rfl, x, _, _, _, _, rfl, hS1.ins, T.cls "Store", T.noat "Store" "roots", rfl, S.rl, _, rfl, .inl (SqL.of hS1.rts), fun L nL => ?_⟩
  have nLD : L ≠ D := fun z => by rw [z, upd_same] at nL; cases nL
  rw [upd_ne nLD] at nL
  have ndS : ∀ b ∈ S.foot x, b ≠ D ∧ b ≠ L := fun b hb => ⟨fun z => hS.live b hb (by rw [z, nD]), fun z => hS.live b hb (by rw [z, nL])⟩
  refine ⟨fun m σ G => ∃ st c y3 y4 y5, σ = [some (.ref x), some (.ref D), some (.ref L), y3, y4, y5] ∧ Ex H G ∧ G D = some (SetO w D (fun j => decide (j ∈ st.2)) c) ∧ c ≤ st.2.length ∧ G L = some (.lst (st.1.map V.int)) ∧ RSt S.pl st m ∧ m ≤ rN S.pl ∧ rGo S.pl m st = rGo S.pl (rN S.pl) (S.roots, S.roots), ⟨rN S.pl, (S.roots, S.roots), c, _, _, _, rfl, e1.updN nL, (by rw [upd_ne nLD.symm, upd_same]; rfl), hc, upd_same, RSt.start hcl, Nat.le_refl _, rfl⟩, ?_⟩
  rintro m σ G ⟨st, c, y3, y4, y5, e, eG, hD, hc, hL, hst, hmN, hgo⟩
  subst e
  obtain ⟨ahead, found⟩ := st
  refine ⟨_, rfl, _, .inl ⟨_, SqL.of hL, rfl⟩, ?_⟩
  have hsz := hst.sz
  cases ha : ahead.getLast? with
  | none =>
    have ha : ahead = [] := List.getLast?_eq_none_iff.mp ha
    subst ha
    rw [rGo_nil] at hgo
    have hf : found = reachL S.pl := by
      unfold reachL
      exact congrArg Prod.snd hgo
    refine ⟨_, rfl, D, _, c, rfl, hD, by show c < 64; dsimp only at hsz hc; omega, fun ns q hp hm hl hn => hq _ q ns (eG.updN (eG.gone hn)) upd_same (fun k => by rw [hm k, hf]; simp) (by dsimp only at hsz hc; omega) (eG.gone hn)⟩
  | some n =>
    have hne : ahead ≠ [] := fun z => by rw [z] at ha; cases ha
    have hm1 : 0 < m := by
      have h1 := hst.ms
      have h2 : 0 < ahead.length := List.length_pos_iff.mpr hne
      dsimp only at h1
      omega
    obtain ⟨m', rfl⟩ : ∃ m', m = m' + 1 := ⟨m - 1, by omega⟩
    have hnk : n ∈ S.keys := by rw [← S.pl_keysP]; exact hst.ak n (List.mem_of_getLast? ha)
    obtain ⟨o, hg⟩ : ∃ o, S.get n = some o := by
      cases h : S.get n with
      | none => exact absurd hnk (Sto.get_none.mp h)
      | some o => exact ⟨o, rfl⟩
    have hlk := Sto.pl_look hg
    have hv0 : ∃ vs, H o.a = some (.lst vs) ∧ DIs K H vs (o.fs.map encF) := hS.fld o (Sto.get_mem hg).1
    obtain ⟨vs, hv, dv⟩ := hv0
    have hbT : (!(ahead.map V.int).isEmpty) = true := by
      cases ahead with
      | nil => exact absurd rfl hne
      | cons _ _ => rfl
    rw [hbT]
    have hal : (ahead.map V.int)[(ahead.map V.int).length - 1]? = some (.int n) := by
      rw [← List.getLast?_eq_getElem?, List.getLast?_map, ha]
      rfl
    have hgo1 : rGo S.pl (m' + 1) (ahead, found) = rGo S.pl m' (o.fs.foldl addT (ahead.dropLast, found)) := by
      show rGo S.pl m' (rStep S.pl (ahead, found)) = _
      unfold rStep
      dsimp only
      rw [ha]
      dsimp only
      rw [hlk]
    have hpop := hst.pop hne
    have hfs : ∀ f ∈ o.fs, ∀ t, tgt f = some t → t ∈ S.pl.keys := by
      rw [← hlk]
      exact Pl.look_cl hcl
    refine iteT ⟨_, fun σ' H' h => h, ?_⟩
    have eG1 : Ex H (upd G L (.lst (ahead.map V.int).dropLast)) := eG.updN nL
    have hS2 := hS.ex eG1
    refine ⟨_, rfl, .inl ⟨rfl, _, SqL.of hL⟩, L, _, _, rfl, rfl, hL, hal, ?_⟩
    refine ⟨_, rfl, x, _, _, _, _, rfl, hS2.ins, T.cls "Store", T.noat "Store" "objects", rfl, _, rfl, S.od, _, rfl, ?_, o.a, rfl, ⟨vs, SqL.of (eG1.at hv)⟩, ?_⟩
    · have := hS2.dget n
      rw [hg] at this
      exact this
    refine for_v (H0 := H) (xs := vs) (l := o.fs) (enc := encF) dv (fun pre σ G2 => ∃ c y4 y5, σ = [some (.ref x), some (.ref D), some (.ref L), some (.int n), y4, y5] ∧ Ex H G2 ∧ G2 D = some (SetO w D (fun j => decide (j ∈ (pre.foldl addT (ahead.dropLast, found)).2)) c) ∧ c ≤ (pre.foldl addT (ahead.dropLast, found)).2.length ∧ G2 L = some (.lst ((pre.foldl addT (ahead.dropLast, found)).1.map V.int))) ?_ ?_ ?_ ?_
    · refine ⟨c, _, _, rfl, eG1, (by rw [upd_ne nLD.symm]; exact hD), hc, ?_⟩
      rw [upd_same]
      exact congrArg (fun z => some (HO.lst z)) (List.map_dropLast ..).symm
    · intro pre σ G2 ⟨_, _, _, _, e, _⟩
      exact SqL.of (e.at hv)
    · intro pre f post v σ G2 el ⟨c, y4, y5, e, e2, hD2, hc2, hL2⟩ dv2
      subst e
      have hstp : RSt S.pl (pre.foldl addT (ahead.dropLast, found)) m' := hpop.fold fun g hg => hfs g (by rw [el]; simp [hg])
      rw [List.foldl_append]
      show _
      generalize hst2 : pre.foldl addT (ahead.dropLast, found) = st2 at hD2 hc2 hL2 hstp ⊢
      have hsz2 := hstp.sz
      refine ⟨_, rfl, v, f, rfl, DI.ex dv2 e2, ?_⟩
      show _
      cases ht : tgt f with
      | none =>
        have ea : [f].foldl addT st2 = st2 := by
          show addT st2 f = st2
          unfold addT
          rw [ht]
        rw [ea]
        exact ⟨_, rfl, rfl, _, rfl, itYn rfl (iteF ⟨c, _, _, rfl, e2, hD2, hc2, hL2⟩)⟩
      | some t =>
        refine ⟨_, rfl, rfl, _, rfl, itNn intN ⟨_, rfl, _, rfl, t, D, _, c, rfl, rfl, hD2, _, rfl, ?_⟩⟩
        by_cases h1 : t ∈ st2.2
        · have ea : [f].foldl addT st2 = st2 := by
            show addT st2 f = st2
            unfold addT
            rw [ht]
            exact if_pos h1
          rw [ea]
          exact itYn h1 ⟨c, _, _, rfl, e2, hD2, hc2, hL2⟩
        · have ea : [f].foldl addT st2 = (st2.1 ++ [t], st2.2 ++ [t]) := by
            show addT st2 f = _
            unfold addT
            rw [ht]
            exact if_neg h1
          rw [ea]
          have hal2 : st2.1.length ≤ 2000 := by
            have := hstp.ms
            have := hst.ms
            omega
          refine itNn h1 ⟨_, rfl, ⟨D, _, c, rfl, hD2⟩, _, rfl, D, t, _, c, rfl, rfl, hD2, by show c + 1 < 4096; omega, ?_⟩
          refine ⟨_, rfl, .inl ⟨rfl, _, SqL.of (by rw [upd_ne nLD]; exact hL2)⟩, _, rfl, L, _, _, rfl, rfl, by rw [upd_ne nLD]; exact hL2, ltL (m := 2001) (by rw [List.length_map]; omega) (by decide), ?_⟩
          refine ⟨if decide (t ∈ st2.2) = true then c else c + 1, _, _, rfl, (e2.updN nD).updN nL, ?_, ?_, ?_⟩
          rotate_left 2
          · rw [upd_same, List.map_append]
            rfl
          · rw [upd_ne nLD.symm, upd_same]
            congr 2
            funext j
            show (decide (j ∈ st2.2) || decide (j = t)) = decide (j ∈ st2.2 ++ [t])
            simp
          · show (if decide (t ∈ st2.2) = true then c else c + 1) ≤ (st2.2 ++ [t]).length
            rw [List.length_append]
            show _ ≤ st2.2.length + 1
            split <;> omega
    · intro σ G2 ⟨c, y4, y5, e, e2, hD2, hc2, hL2⟩
      exact ⟨m', Nat.lt_succ_self _, _, c, _, _, _, e, e2, hD2, hc2, hL2, hpop.fold hfs, by omega, by rw [← hgo1]; exact hgo⟩
end
end Hg
namespace Hg
open PySem PySem.Spec PyProof.Rows L2
/-! ### Store: collect -/
section
variable {H1 H2 : Hp} {p : Addr} {u : HO}
/-- only p was touched -/
theorem ExF.one (hp : H1 p = some u) (i : isImm u = false) (t : isTbl u = false) (k : ∀ b, b ≠ p → H2 b = H1 b) (l : H2 p ≠ none) : ExF (fun b => b = p) H1 H2 where
  keep := fun b o h n _ => by
    rw [k b n]
    exact h
  live := fun b h => by
    by_cases hb : b = p
    · rw [hb] at h
      exact absurd h l
    · rw [← k b hb]
      exact h
  tab := fun q ps h e => by
    have hb : q ≠ p := fun z => by
      rw [z, hp] at h
      cases h
      cases t
    exact ⟨ps, by rw [k q hb]; exact h, e⟩
  imm := fun b o h => by
    have h1 := imm_le h
    have hb : b ≠ p := fun z => by
      rw [z, hp] at h1
      cases h1
      rw [imm_some h] at i
      cases i
    rw [k b hb]
    exact h1
end
section
variable {K : PySem.W.Frag} {H H1 H2 : Hp} {s : Addr} {S S1 S2 : Sto}
theorem Now.trans (a : Now K H H1 s S S1) (b : Now K H1 H2 s S1 S2) : Now K H H2 s S S2 where
  ex := ⟨fun c o k n q => b.ex.keep c o (a.ex.keep c o k n q) (fun z => (a.ft c z).elim n fun y => by rw [k] at y; cases y) q, fun c k => a.ex.live c (b.ex.live c k), fun p ps k t => by
    obtain ⟨qs, h2, t2⟩ := a.ex.tab p ps k t
    exact b.ex.tab p qs h2 t2, fun c o k => b.ex.imm c o (a.ex.immI k)⟩
  at_ := b.at_
  ft := fun c hc => (b.ft c hc).elim (fun z => a.ft c z) fun z => .inr (a.ex.gone z)
theorem Now.refl (h : StoreAt K H s S) : Now K H H s S S := ⟨ExF.refl _ _, h, fun _ h => .inl h⟩
theorem Now.of (h : StoreAt K H s S) (e : Ex H H1) : Now K H H1 s S S := ⟨e.of, h.ex e, fun _ h => .inl h⟩
/-- a place that is not the store's own was touched -/
theorem Now.out {p : Addr} (a : Now K H H1 s S S1) (e : ExF (fun b => b = p) H1 H2) (n : H p = none) (nf : p ∉ S1.foot s) : Now K H H2 s S S1 where
  ex := ⟨fun c o k n' q => e.keep c o (a.ex.keep c o k n' q) (fun z => by rw [z, n] at k; cases k) q, fun c k => a.ex.live c (e.live c k), fun p ps k t => by
    obtain ⟨qs, h2, t2⟩ := a.ex.tab p ps k t
    exact e.tab p qs h2 t2, fun c o k => e.imm c o (a.ex.immI k)⟩
  at_ := a.at_.frame e fun b hb z => nf (z ▸ hb)
  ft := a.ft
end
def Sto.delL (S : Sto) (l : List Int) : Sto := { S with os := S.os.filter fun o => decide (o.n ∉ l) }
def goneF (p : Pl) : List Int := (sortI p.keys).filter fun n => decide (n ∉ reachL p)
theorem Sto.delL_snoc (S : Sto) (l : List Int) (n : Int) : (S.delL l).del n = S.delL (l ++ [n]) := by
  unfold Sto.delL Sto.del
  congr 1
  show (S.os.filter _).filter _ = _
  rw [List.filter_filter]
  apply List.filter_congr
  intro o _
  simp [and_comm]
theorem Sto.delL_nil (S : Sto) : S.delL [] = S := by
  unfold Sto.delL
  congr 1
  exact List.filter_eq_self.mpr fun o _ => by simp
theorem sortI_mem {n : Int} {l : List Int} : n ∈ sortI l ↔ n ∈ l := List.mem_mergeSort
theorem sortI_nodup {l : List Int} (h : l.Nodup) : (sortI l).Nodup := (List.mergeSort_perm l _).nodup_iff.mpr h
theorem Sto.delL_keys {S : Sto} {l : List Int} {n : Int} (h : n ∈ S.keys) (h2 : n ∉ l) : n ∈ (S.delL l).keys := by
  obtain ⟨o, ho, e⟩ := List.mem_map.mp h
  exact List.mem_map.mpr ⟨o, List.mem_filter.mpr ⟨ho, by rw [e]; simp [h2]⟩, e⟩
theorem Sto.delL_foot {s b : Addr} {S : Sto} {l : List Int} (h : b ∈ (S.delL l).foot s) : b ∈ S.foot s := by
  rcases foot_cases h with rfl | rfl | rfl | rfl | ⟨o, ho, rfl⟩
  · exact Sto.foot_s
  · exact (by simp [Sto.foot, Sto.delL])
  · exact Sto.foot_od
  · exact Sto.foot_rl
  · exact Sto.foot_a (List.mem_filter.mp ho).1
section
variable {P : Program} {w : World} {K : PySem.W.Frag} {mg : Str → Option Value} {base : Heap}
def spColl (K : PySem.W.Frag) : Sp := fun vs H Q _ => ∃ (s : Addr) (S : Sto), vs = [.ref s] ∧ StoreAt K H s S ∧ S.pl.Cl ∧ rN S.pl < 60 ∧ ∀ (H' : Hp) (u : V), Now K H H' s S (S.delL (goneF S.pl)) → DI K H' u (encI (goneF S.pl)) → Q u H'
abbrev N_coll : List Str := ["self", "kept", "gone", "number"]
theorem sc_coll : FnScope N_coll ["self"] (defScope s_Store_collect) := ⟨rfl, rfl, rfl, by decide +kernel, rfl, by decide +kernel, by decide +kernel⟩
theorem w_coll (T : Txt P K mg) : Mt P w K mg base 3 (CStore K) "collect" (spColl K) := by
  have nd := sc_coll.nd
  have c1 := w_reach (w := w) (base := base) T
  have c2 := w_nums (w := w) (base := base) T
  refine mt_of T (fn_mem 70 rfl) (by decide +kernel) (by decide +kernel) sc_coll (b1 fun _ _ _ _ _ _ _ => rfl) (fun vs H Q E ⟨_, _, e, _⟩ => by rw [e]; rfl) fun cdv A outer s H vs Q E hr ⟨x, S, e, hS, hcl, hN, hq⟩ => ?_
  subst e
  refine ⟨_, (pss_cons (ps_set (i := 1) nd rfl (.inr rfl) (pe_mt0 c1 hr tk0 (pv 0))) (pss_cons (ps_setLc (i := 2) (own := [("number", 3)]) (g := gName 3) (tt := (tTest (tOp (rIn K true) (tVar 3) (tVar 1)))) (te := _) rfl nd rfl rfl (sw_true rfl rfl rfl (by decide +kernel)) (pi_list (pe_mt0 c2 hr takes0 (pv 0))) (blkOk_by (N := N_coll) (sc := defScope s_Store_collect) (by decide +kernel)) (fun _ _ _ _ _ => (pg_name (i := 3) nd rfl (.inl rfl) (.inr rfl))) (fun _ _ _ _ _ => pts_one (pt_cmpR op_notIn_seq (pv 3) (pv 1) (by rfl))) (fun _ _ _ _ _ => pv 3)) (pss_cons (ps_for ps0 rfl (pi_list (pv 2)) (pg_name (i := 3) nd rfl (.inl rfl)) (pss_one (ps_ddel (pe_fld (pv 0) rfl) (pv 3)))) (pss_one (ps_ret (pe_frz (pv 2))))))), ?_⟩
  refine ⟨_, rfl, x, _, _, rfl, hS.ins, rfl, x, S, rfl, hS, hcl, hN, fun H1 q ns e1 hq1 hm hl nq => ?_⟩
  have hS1 := hS.ex e1
  refine ⟨_, rfl, x, _, _, rfl, hS1.ins, rfl, x, S, rfl, hS1, fun H2 p e2 hp np => ?_⟩
  refine ⟨p, rfl, ⟨_, SqL.of hp⟩, fun D nD => ?_⟩
  have dks : DIs K H2 ((sortI S.keys).map V.int) ((sortI S.keys).map PyData.int) := DpAll.ints _
  have hkl : (sortI S.keys).length = S.os.length := by
    unfold sortI
    rw [List.length_mergeSort]
    unfold Sto.keys
    rw [List.length_map]
  have hNl : S.os.length < 60 := by
    unfold rN Sto.pl at hN
    rw [List.length_map] at hN
    omega
  refine lc_v (H0 := H2) (xs := (sortI S.keys).map V.int) (l := sortI S.keys) (enc := PyData.int) dks (fun pre G => Ex H2 G ∧ G D = some (.lst ((pre.filter fun n => decide (n ∉ reachL S.pl)).map V.int)) ∧ pre.length ≤ (sortI S.keys).length) ⟨Ex.new nD, upd_same, Nat.zero_le _⟩ (fun pre G ⟨e, _⟩ => SqL.of (e.at hp)) ?_ ?_
  · intro pre n post v G el ⟨e, hD, hl2⟩ dv
    cases dv
    have hl3 : pre.length < (sortI S.keys).length := by rw [el]; simp
    refine ⟨rfl, _, rfl, _, rfl, q, _, rfl, .inl (SqL.of (e.at (e2.at hq1))), rfl, flat_ints _, _, rfl, ?_⟩
    rw [show (if true = true then !inV (.int n) (ns.map V.int) else inV (.int n) (ns.map V.int)) = !decide (n ∈ ns) by rw [if_pos rfl, inV_ints]]
    by_cases h : n ∈ reachL S.pl
    · refine itYn ((hm n).mpr h) ⟨e, ?_, by rw [List.length_append]; exact hl3⟩
      rw [List.filter_append, List.filter_cons_of_neg (by simp [h])]
      simpa using hD
    · refine itNn (fun z => h ((hm n).mp z)) ⟨_, rfl, _, hD, ltL (m := 100) ?_ (by decide), e.updN nD, ?_, by rw [List.length_append]; exact hl3⟩
      · rw [List.length_map]
        have := List.length_filter_le (fun n => decide (n ∉ reachL S.pl)) pre
        omega
      · rw [upd_same, List.filter_append, List.filter_cons_of_pos (by simp [h]), List.map_append]
        rfl
  · intro G ⟨e, hD, _⟩
    have hg : (sortI S.keys).filter (fun n => decide (n ∉ reachL S.pl)) = goneF S.pl := by
      unfold goneF
      rw [S.pl_keysP]
    rw [hg] at hD
    have e3 : Ex H G := (e1.trans e2).trans e
    have nDH : H D = none := (e1.trans e2).gone nD
    refine ⟨_, rfl, D, rfl, ⟨_, SqL.of hD⟩, ?_⟩
    refine for_v (H0 := G) (xs := (goneF S.pl).map V.int) (l := goneF S.pl) (enc := PyData.int) (DpAll.ints _) (fun pre σ G2 => ∃ y3, σ = [some (.ref x), some (.ref q), some (.ref D), y3] ∧ Now K H G2 x S (S.delL pre) ∧ G2 D = some (.lst ((goneF S.pl).map V.int))) ?_ ?_ ?_ ?_
    · refine ⟨_, rfl, ?_, hD⟩
      rw [Sto.delL_nil]
      exact Now.of hS e3
    · intro pre σ G2 ⟨_, _, _, h⟩
      exact SqL.of h
    · intro pre n post v σ G2 el ⟨y3, e4, nw, hD2⟩ dv
      subst e4
      cases dv
      have hS2 := nw.at_
      have hin : n ∈ (S.delL pre).keys := by
        refine Sto.delL_keys ?_ ?_
        · have h1 : n ∈ goneF S.pl := by rw [el]; simp
          rw [← S.pl_keysP]
          exact sortI_mem.mp (List.mem_filter.mp h1).1
        · have h1 : (goneF S.pl).Nodup := (sortI_nodup (by rw [S.pl_keysP]; exact hS.kn)).sublist List.filter_sublist
          rw [el] at h1
          intro z
          exact (List.nodup_append.mp h1).2.2 n z n (List.mem_cons_self ..) rfl
      obtain ⟨o, ho⟩ : ∃ o, (S.delL pre).get n = some o := by
        cases h : (S.delL pre).get n with
        | none => exact absurd hin (Sto.get_none.mp h)
        | some o => exact ⟨o, rfl⟩
      refine ⟨_, rfl, x, _, _, _, _, rfl, hS2.ins, T.cls "Store", T.noat "Store" "objects", rfl, _, rfl, S.od, _, Sum.inl n, rfl, hS2.dic, rfl, ?_, _, rfl, ?_, ?_⟩
      · unfold Sto.kvs
        rw [kvs_val, show ((S.delL pre).os.find? fun o => decide (o.n = n)) = some o from ho]
        rfl
      · rw [← Sto.delL_snoc]
        exact nw.trans (hS2.del n)
      · have hd2 : G2 S.od = some (.dK (S.delL pre).kvs) := hS2.dic
        rw [upd_ne (ne_of hD2 hd2 (by intro z; cases z))]
        exact hD2
    · intro σ G2 ⟨y3, e4, nw, hD2⟩
      subst e4
      refine ⟨_, rfl, D, _, (goneF S.pl).map PyData.int, rfl, hD2, DpAll.ints _, fun H2 k l d => hq H2 _ (nw.out (ExF.one hD2 rfl rfl k l) nDH fun z => ?_) d⟩
      exact hS.live D (Sto.delL_foot z) nDH
end
end Hg
namespace Hg
open PySem PySem.Spec PyProof.Rows L2
/-! ### State -/
structure PH where
  st : Pl
  starts : List (Int × Int)
  cur : Int
structure Stt where
  s : Addr
  dx : Addr
  sd : Addr
  S : Sto
  kv : List (Int × Int)
  cur : Int
def Stt.ph (T : Stt) : PH := ⟨T.S.pl, T.kv, T.cur⟩
def encK (kv : List (Int × Int)) : List (Key × V) := kv.map fun p => (Sum.inl p.1, .int p.2)
def Stt.setS (T : Stt) (S : Sto) : Stt := ⟨T.s, T.dx, T.sd, S, T.kv, T.cur⟩
def Stt.setK (T : Stt) (kv : List (Int × Int)) : Stt := ⟨T.s, T.dx, T.sd, T.S, kv, T.cur⟩
def Stt.setC (T : Stt) (c : Int) : Stt := ⟨T.s, T.dx, T.sd, T.S, T.kv, c⟩
def Stt.foot (T : Stt) (t : Addr) : List Addr := t :: T.dx :: T.sd :: T.S.foot T.s
structure StateAt (K : PySem.W.Frag) (H : Hp) (t : Addr) (T : Stt) : Prop where
  ins : H t = some (.ins (gA K "State") T.dx [("store", .ref T.s), ("starts", .ref T.sd), ("cursor", .int T.cur)])
  own : H T.dx = some (.own t)
  dic : H T.sd = some (.dK (encK T.kv))
  sto : StoreAt K H T.s T.S
  dis : ∀ b ∈ T.S.foot T.s, b ≠ t ∧ b ≠ T.dx ∧ b ≠ T.sd
section
variable {K : PySem.W.Frag} {F : Addr → Prop} {H H' H1 : Hp} {t : Addr} {T : Stt}
theorem Stt.foot_t : t ∈ T.foot t := by simp [Stt.foot]
theorem Stt.foot_dx : T.dx ∈ T.foot t := by simp [Stt.foot]
theorem Stt.foot_sd : T.sd ∈ T.foot t := by simp [Stt.foot]
theorem Stt.foot_S {b : Addr} (h : b ∈ T.S.foot T.s) : b ∈ T.foot t := by
  simp only [Stt.foot, List.mem_cons]
  exact .inr (.inr (.inr h))
theorem Stt.foot_cases {b : Addr} (h : b ∈ T.foot t) : b = t ∨ b = T.dx ∨ b = T.sd ∨ b ∈ T.S.foot T.s := by
  simpa only [Stt.foot, List.mem_cons] using h
theorem StateAt.frame (h : StateAt K H t T) (e : ExF F H H') (hF : ∀ b ∈ T.foot t, ¬ F b) : StateAt K H' t T where
  ins := e.at h.ins (hF _ Stt.foot_t)
  own := e.at h.own (hF _ Stt.foot_dx)
  dic := e.at h.dic (hF _ Stt.foot_sd)
  sto := h.sto.frame e fun b hb => hF b (Stt.foot_S hb)
  dis := h.dis
theorem StateAt.ex (h : StateAt K H t T) (e : Ex H H') : StateAt K H' t T := h.frame e fun _ _ z => z
theorem StateAt.live (h : StateAt K H t T) : ∀ b ∈ T.foot t, H b ≠ none := fun b hb z => by
  rcases Stt.foot_cases hb with rfl | rfl | rfl | hb
  · rw [h.ins] at z; cases z
  · rw [h.own] at z; cases z
  · rw [h.dic] at z; cases z
  · exact h.sto.live b hb z
theorem StateAt.nes (h : StateAt K H t T) : t ≠ T.dx ∧ t ≠ T.sd ∧ T.dx ≠ T.sd :=
  ⟨ne_of h.ins h.own (by intro z; cases z), ne_of h.ins h.dic (by intro z; cases z), ne_of h.own h.dic (by intro z; cases z)⟩
/-- the state, of what was there or is new -/
structure NowT (K : PySem.W.Frag) (H H' : Hp) (t : Addr) (T T' : Stt) : Prop where
  ex : ExF (InF (T.foot t)) H H'
  at_ : StateAt K H' t T'
  ft : ∀ b ∈ T'.foot t, b ∈ T.foot t ∨ H b = none
theorem NowT.trans {H2 : Hp} {T1 T2 : Stt} (a : NowT K H H1 t T T1) (b : NowT K H1 H2 t T1 T2) : NowT K H H2 t T T2 where
  ex := ⟨fun c o k n q => b.ex.keep c o (a.ex.keep c o k n q) (fun z => (a.ft c z).elim n fun y => by rw [k] at y; cases y) q, fun c k => a.ex.live c (b.ex.live c k), fun p ps k t => by
    obtain ⟨qs, h2, t2⟩ := a.ex.tab p ps k t
    exact b.ex.tab p qs h2 t2, fun c o k => b.ex.imm c o (a.ex.immI k)⟩
  at_ := b.at_
  ft := fun c hc => (b.ft c hc).elim (fun z => a.ft c z) fun z => .inr (a.ex.gone z)
theorem NowT.of (h : StateAt K H t T) (e : Ex H H1) : NowT K H H1 t T T := ⟨e.of, h.ex e, fun _ h => .inl h⟩
/-- the store changed -/
theorem StateAt.sto' {S' : Sto} (h : StateAt K H t T) (n : Now K H H1 T.s T.S S') : NowT K H H1 t T (T.setS S') := by
  have nf : ∀ b, (b = t ∨ b = T.dx ∨ b = T.sd) → b ∉ T.S.foot T.s := fun b hb z => by
    obtain ⟨h1, h2, h3⟩ := h.dis b z
    rcases hb with e | e | e
    · exact h1 e
    · exact h2 e
    · exact h3 e
  refine ⟨n.ex.mono fun b hb => Stt.foot_S hb, ⟨n.ex.at h.ins (nf _ (.inl rfl)), n.ex.at h.own (nf _ (.inr (.inl rfl))), n.ex.at h.dic (nf _ (.inr (.inr rfl))), n.at_, fun b hb => ?_⟩, fun b hb => ?_⟩
  · rcases n.ft b hb with hb | hb
    · exact h.dis b hb
    · refine ⟨fun z => ?_, fun z => ?_, fun z => ?_⟩
      · rw [show b = t from z, h.ins] at hb; cases hb
      · rw [show b = T.dx from z, h.own] at hb; cases hb
      · rw [show b = T.sd from z, h.dic] at hb; cases hb
  · rcases Stt.foot_cases hb with e | e | e | hb
    · exact .inl (by rw [e]; exact Stt.foot_t)
    · exact .inl (by rw [e]; exact Stt.foot_dx)
    · exact .inl (by rw [e]; exact Stt.foot_sd)
    · exact (n.ft b hb).imp (fun z => Stt.foot_S z) id
/-- the starts changed -/
theorem StateAt.setK {kv : List (Int × Int)} (h : StateAt K H t T) : NowT K H (upd H T.sd (.dK (encK kv))) t T (T.setK kv) := by
  have eE : ExF (InF (T.foot t)) H (upd H T.sd (.dK (encK kv))) := ExF.upd (ExF.refl _ H) (.inr ⟨Stt.foot_sd, _, h.dic, rfl, rfl⟩)
  have eS : ExF (fun b => b = T.sd) H (upd H T.sd (.dK (encK kv))) := ExF.upd (ExF.refl _ H) (.inr ⟨rfl, _, h.dic, rfl, rfl⟩)
  obtain ⟨n1, n2, n3⟩ := h.nes
  refine ⟨eE, ⟨eS.at h.ins n2, eS.at h.own n3, upd_same, h.sto.frame eS fun b hb => (h.dis b hb).2.2, h.dis⟩, fun b hb => .inl hb⟩
theorem StateAt.setC {c : Int} (h : StateAt K H t T) (fs : List (Str × V)) (hfs : fs = [(("store" : Str), V.ref T.s), (("starts" : Str), V.ref T.sd), (("cursor" : Str), V.int c)]) : NowT K H (upd H t (.ins (gA K "State") T.dx fs)) t T (T.setC c) := by
  subst hfs
  have eE : ExF (InF (T.foot t)) H (upd H t (.ins (gA K "State") T.dx [(("store" : Str), V.ref T.s), (("starts" : Str), V.ref T.sd), (("cursor" : Str), V.int c)])) := ExF.upd (ExF.refl _ H) (.inr ⟨Stt.foot_t, _, h.ins, rfl, rfl⟩)
  have eS : ExF (fun b => b = t) H (upd H t (.ins (gA K "State") T.dx [(("store" : Str), V.ref T.s), (("starts" : Str), V.ref T.sd), (("cursor" : Str), V.int c)])) := ExF.upd (ExF.refl _ H) (.inr ⟨rfl, _, h.ins, rfl, rfl⟩)
  obtain ⟨n1, n2, n3⟩ := h.nes
  refine ⟨eE, ⟨upd_same, eS.at h.own n1.symm, eS.at h.dic n2.symm, h.sto.frame eS fun b hb => (h.dis b hb).1, h.dis⟩, fun b hb => .inl hb⟩
end
section
variable {P : Program} {w : World} {K : PySem.W.Frag} {mg : Str → Option Value} {base : Heap}
def spState0 (K : PySem.W.Frag) : Sp := fun vs H Q _ => ∃ (x dx a b c : Addr) (n : Int), vs = [.ref x, .ref a, .ref b, .int n] ∧ H x = some (.ins (gA K "State") dx []) ∧
  Q .non (upd H x (.ins (gA K "State") dx [("store", .ref a), ("starts", .ref b), ("cursor", .int n)]))
theorem upd_upd {a : Addr} {H : Hp} {o u : HO} : upd (upd H a o) a u = upd H a u := by
  funext b
  by_cases h : b = a
  · rw [h, upd_same, upd_same]
  · rw [upd_ne h, upd_ne h, upd_ne h]
theorem sc_state0 : FnScope ["self", "store", "starts", "cursor"] ["self", "store", "starts", "cursor"] (defScope s_State_init) := ⟨rfl, rfl, rfl, by decide +kernel, rfl, by decide +kernel, by decide +kernel⟩
theorem w_state0 (T : Txt P K mg) : Mr P w K mg base 1 "State" (gA K "State") (spState0 K) := by
  have nd := sc_state0.nd
  refine mr_of T (fn_mem 75 rfl) (by decide +kernel) (by decide +kernel) sc_state0 (b4 fun _ _ _ _ _ _ _ _ _ _ => rfl) (fun vs H Q E ⟨_, _, _, _, _, _, e, _⟩ => by rw [e]; rfl) fun cdv A outer s H vs Q E hr ⟨x, dx, a, b, c, n, e, hx, hq⟩ => ?_
  subst e
  refine ⟨_, (pss_cons (ps_fld (pv 0) (pv 1) rfl) (pss_cons (ps_fld (pv 0) (pv 2) rfl) (pss_one (ps_fld (pv 0) (pv 3) rfl)))), ?_⟩
  refine ⟨_, rfl, _, rfl, x, _, _, _, rfl, hx, T.cls "State", T.noat "State" "store", by show (0 : Nat) < 1000; decide, ?_⟩
  refine ⟨_, rfl, _, rfl, x, _, _, _, rfl, upd_same, T.cls "State", T.noat "State" "starts", by show (1 : Nat) < 1000; decide, ?_⟩
  refine ⟨_, rfl, _, rfl, x, _, _, _, rfl, upd_same, T.cls "State", T.noat "State" "cursor", by show (2 : Nat) < 1000; decide, ?_⟩
  rw [upd_upd, upd_upd]
  exact hq
def spTCopy (K : PySem.W.Frag) : Sp := fun vs H Q _ => ∃ (t : Addr) (T : Stt), vs = [.ref t] ∧ StateAt K H t T ∧ T.S.os.length ≤ 1000 ∧ ∀ H' t' T', Ex H H' → StateAt K H' t' T' → T'.ph = T.ph → (∀ b ∈ T'.foot t', H b = none) → Q (.ref t') H'
theorem sc_tcopy : FnScope ["self"] ["self"] (defScope s_State_copy) := ⟨rfl, rfl, rfl, by decide +kernel, rfl, by decide +kernel, by decide +kernel⟩
theorem w_tcopy (T : Txt P K mg) : Mt P w K mg base 4 (gA K "State") "copy" (spTCopy K) := by
  have nd := sc_tcopy.nd
  have c1 := w_state0 (w := w) (base := base) T
  have c2 := w_scopy (w := w) (base := base) T
  refine mt_of T (fn_mem 76 rfl) (by decide +kernel) (by decide +kernel) sc_tcopy (b1 fun _ _ _ _ _ _ _ => rfl) (fun vs H Q E ⟨_, _, e, _⟩ => by rw [e]; rfl) fun cdv A outer s H vs Q E hr ⟨t, T', e, hT, hlen, hq⟩ => ?_
  subst e
  refine ⟨_, (pss_one (ps_ret (pe_mr c1 hr (pa_cons (pe_mt0 c2 hr tk0 (pe_fld (pv 0) rfl)) (pa_cons (pe_callTy call_dictD (by rfl) (T.n "dict") (by decide +kernel) (pa_cons (pe_fld (pv 0) rfl) pa_nil)) (pa_cons (pe_fld (pv 0) rfl) pa_nil)))))), ?_⟩
  refine ⟨_, rfl, t, _, _, _, _, rfl, hT.ins, T.cls "State", T.noat "State" "store", rfl, T'.s, _, _, rfl, hT.sto.ins, rfl, T'.s, T'.S, rfl, hT.sto, hlen, fun H1 s' S' e1 hS' hpl hfr => ?_⟩
  have hT1 := hT.ex e1
  refine ⟨_, rfl, t, _, _, _, _, rfl, hT1.ins, T.cls "State", T.noat "State" "starts", rfl, T'.sd, _, rfl, .inl hT1.dic, fun d nd' => ?_⟩
  have e2 : Ex H1 (upd H1 d (.dK (encK T'.kv))) := Ex.new nd'
  have hT2 := hT1.ex e2
  refine ⟨_, rfl, t, _, _, _, _, rfl, hT2.ins, T.cls "State", T.noat "State" "cursor", rfl, fun x dx nx ndx nxd => ?_⟩
  have e3 : Ex (upd H1 d (.dK (encK T'.kv))) (upd (upd H1 d (.dK (encK T'.kv))) dx (.own x)) := Ex.new ndx
  refine ⟨x, dx, s', d, s', T'.cur, rfl, upd_same, rfl, ?_⟩
  rw [upd_upd]
  have nx1 : H1 x = none := e2.gone nx
  have ndx1 : H1 dx = none := e2.gone ndx
  have hd : d ≠ x := fun z => by rw [← z, upd_same] at nx; cases nx
  have hd2 : d ≠ dx := fun z => by rw [← z, upd_same] at ndx; cases ndx
  have eA : Ex H1 (upd (upd (upd H1 d (.dK (encK T'.kv))) dx (.own x)) x (.ins (gA K "State") dx [("store", .ref s'), ("starts", .ref d), ("cursor", .int T'.cur)])) := (e2.trans e3).updN nx1
  have hSf := hS'.ex eA
  have hlv := hS'.live
  refine hq _ x ⟨s', dx, d, S', T'.kv, T'.cur⟩ (e1.trans eA) ⟨upd_same, ?_, ?_, hSf, fun b hb => ⟨fun z => hlv b hb (by rw [z]; exact nx1), fun z => hlv b hb (by rw [z]; exact ndx1), fun z => hlv b hb (by rw [z]; exact nd')⟩⟩ ?_ fun b hb => ?_
  · show upd _ _ _ dx = _
    rw [upd_ne nxd, upd_same]
  · show upd _ _ _ d = _
    rw [upd_ne hd, upd_ne hd2, upd_same]
  · show (⟨_, _, _⟩ : PH) = ⟨_, _, _⟩
    rw [hpl]
  · rcases Stt.foot_cases hb with e | e | e | hb
    · rw [e]; exact e1.gone nx1
    · rw [e]; exact e1.gone ndx1
    · rw [e]; exact e1.gone nd'
    · exact hfr b hb
end
end Hg
namespace Hg
open PySem PySem.Spec PyProof.Rows L2
/-! ### the managed heap -/
inductive Ev where
  | alloc (n : Int)
  | write (n i : Int) (f : FV)
  | release (n : Int)
  | addR (n : Int)
  | remR (n : Int)
  | coll
  | comp
  | room (n : Int)
  | slide
  deriving DecidableEq
def encEv : Ev → PyData
  | .alloc n => .tuple [.str "allocate", .int n]
  | .write n i f => .tuple [.str "write", .int n, .int i, encF f]
  | .release n => .tuple [.str "release", .int n]
  | .addR n => .tuple [.str "addRoot", .int n]
  | .remR n => .tuple [.str "removeRoot", .int n]
  | .coll => .tuple [.str "collect"]
  | .comp => .tuple [.str "compact"]
  | .room n => .tuple [.str "makeRoom", .int n]
  | .slide => .tuple [.str "slide"]
inductive Err where
  | mem (n : Int)
  | notAllowed (n : Int)
  | room (n : Int)
  | obj (n : Int)
  | field (i : Int)
  | used (n : Int) (root : Bool)
  | strat
  deriving DecidableEq
def whyV (root : Bool) : Str := if root then "root" else "referenced"
def RxE (K : PySem.W.Frag) (E : XK) (H : Hp) : Err → Prop
  | .mem n => Rx K E H "OutOfMemory" [("length", .int n)]
  | .notAllowed n => Rx K E H "NotAllowed" [("length", .int n)]
  | .room n => Rx K E H "NoRoom" [("length", .int n)]
  | .obj n => Rx K E H "NoSuchObject" [("number", .int n)]
  | .field i => Rx K E H "NoSuchField" [("index", .int i)]
  | .used n r => Rx K E H "StillUsed" [("reason", .str (whyV r)), ("number", .int n)]
  | .strat => ∀ H', Ex H H' → E (.ref (gA K "StrategyDecides")) none H'
structure Hps where
  dx : Addr
  mgr : Addr
  t : Addr
  el : Addr
  vl : Addr
  T : Stt
  es : List V
  evs : List Ev
def Hps.setT (M : Hps) (T : Stt) : Hps := ⟨M.dx, M.mgr, M.t, M.el, M.vl, T, M.es, M.evs⟩
def Hps.foot (M : Hps) (h : Addr) : List Addr := h :: M.dx :: M.el :: M.vl :: M.T.foot M.t
structure HeapAt (K : PySem.W.Frag) (H : Hp) (h : Addr) (M : Hps) : Prop where
  ins : H h = some (.ins (gA K "ManagedHeap") M.dx [("manager", .ref M.mgr), ("state", .ref M.t), ("earlier", .ref M.el), ("events", .ref M.vl)])
  own : H M.dx = some (.own h)
  sta : StateAt K H M.t M.T
  erl : H M.el = some (.lst M.es)
  evl : ∃ vs, H M.vl = some (.lst vs) ∧ DIs K H vs (M.evs.map encEv)
  dis : ∀ b ∈ M.T.foot M.t, b ≠ h ∧ b ≠ M.dx ∧ b ≠ M.el ∧ b ≠ M.vl
  nel : M.el ≠ M.vl
  len : M.es.length = M.evs.length
section
variable {K : PySem.W.Frag} {F : Addr → Prop} {H H' H1 H2 : Hp} {h : Addr} {M M1 M2 : Hps}
theorem Hps.foot_cases {b : Addr} (hb : b ∈ M.foot h) : b = h ∨ b = M.dx ∨ b = M.el ∨ b = M.vl ∨ b ∈ M.T.foot M.t := by
  simpa only [Hps.foot, List.mem_cons] using hb
theorem Hps.foot_h : h ∈ M.foot h := by simp [Hps.foot]
theorem Hps.foot_dx : M.dx ∈ M.foot h := by simp [Hps.foot]
theorem Hps.foot_el : M.el ∈ M.foot h := by simp [Hps.foot]
theorem Hps.foot_vl : M.vl ∈ M.foot h := by simp [Hps.foot]
theorem Hps.foot_T {b : Addr} (hb : b ∈ M.T.foot M.t) : b ∈ M.foot h := by
  simp only [Hps.foot, List.mem_cons]
  exact .inr (.inr (.inr (.inr hb)))
theorem HeapAt.frame (a : HeapAt K H h M) (e : ExF F H H') (hF : ∀ b ∈ M.foot h, ¬ F b) : HeapAt K H' h M where
  ins := e.at a.ins (hF _ Hps.foot_h)
  own := e.at a.own (hF _ Hps.foot_dx)
  sta := a.sta.frame e fun b hb => hF b (Hps.foot_T hb)
  erl := e.at a.erl (hF _ Hps.foot_el)
  evl := by
    obtain ⟨vs, h1, h2⟩ := a.evl
    exact ⟨vs, e.at h1 (hF _ Hps.foot_vl), DIs.ex h2 e⟩
  dis := a.dis
  nel := a.nel
  len := a.len
theorem HeapAt.ex (a : HeapAt K H h M) (e : Ex H H') : HeapAt K H' h M := a.frame e fun _ _ z => z
theorem HeapAt.live (a : HeapAt K H h M) : ∀ b ∈ M.foot h, H b ≠ none := fun b hb z => by
  rcases Hps.foot_cases hb with rfl | rfl | rfl | rfl | hb
  · rw [a.ins] at z; cases z
  · rw [a.own] at z; cases z
  · rw [a.erl] at z; cases z
  · obtain ⟨vs, h1, _⟩ := a.evl
    rw [h1] at z; cases z
  · exact a.sta.live b hb z
theorem HeapAt.nes (a : HeapAt K H h M) : h ≠ M.dx ∧ h ≠ M.el ∧ h ≠ M.vl ∧ M.dx ≠ M.el ∧ M.dx ≠ M.vl := by
  obtain ⟨vs, h1, _⟩ := a.evl
  exact ⟨ne_of a.ins a.own (by intro z; cases z), ne_of a.ins a.erl (by intro z; cases z), ne_of a.ins h1 (by intro z; cases z), ne_of a.own a.erl (by intro z; cases z), ne_of a.own h1 (by intro z; cases z)⟩
structure NowH (K : PySem.W.Frag) (H H' : Hp) (h : Addr) (M M' : Hps) : Prop where
  ex : ExF (InF (M.foot h)) H H'
  at_ : HeapAt K H' h M'
  ft : ∀ b ∈ M'.foot h, b ∈ M.foot h ∨ H b = none
theorem NowH.trans (a : NowH K H H1 h M M1) (b : NowH K H1 H2 h M1 M2) : NowH K H H2 h M M2 where
  ex := ⟨fun c o k n q => b.ex.keep c o (a.ex.keep c o k n q) (fun z => (a.ft c z).elim n fun y => by rw [k] at y; cases y) q, fun c k => a.ex.live c (b.ex.live c k), fun p ps k t => by
    obtain ⟨qs, h2, t2⟩ := a.ex.tab p ps k t
    exact b.ex.tab p qs h2 t2, fun c o k => b.ex.imm c o (a.ex.immI k)⟩
  at_ := b.at_
  ft := fun c hc => (b.ft c hc).elim (fun z => a.ft c z) fun z => .inr (a.ex.gone z)
theorem NowH.of (a : HeapAt K H h M) (e : Ex H H1) : NowH K H H1 h M M := ⟨e.of, a.ex e, fun _ h => .inl h⟩
/-- the state changed in its place -/
theorem HeapAt.sta' {T' : Stt} (a : HeapAt K H h M) (n : NowT K H H1 M.t M.T T') : NowH K H H1 h M (M.setT T') := by
  obtain ⟨vs, h1, h2⟩ := a.evl
  have nf : ∀ b, (b = h ∨ b = M.dx ∨ b = M.el ∨ b = M.vl) → b ∉ M.T.foot M.t := fun b hb z => by
    obtain ⟨y1, y2, y3, y4⟩ := a.dis b z
    rcases hb with e | e | e | e
    · exact y1 e
    · exact y2 e
    · exact y3 e
    · exact y4 e
  refine ⟨n.ex.mono fun b hb => Hps.foot_T hb, ⟨n.ex.at a.ins (nf _ (.inl rfl)), n.ex.at a.own (nf _ (.inr (.inl rfl))), n.at_, n.ex.at a.erl (nf _ (.inr (.inr (.inl rfl)))), ⟨vs, n.ex.at h1 (nf _ (.inr (.inr (.inr rfl)))), DIs.ex h2 n.ex⟩, fun b hb => ?_, a.nel, a.len⟩, fun b hb => ?_⟩
  · rcases n.ft b hb with hb | hb
    · exact a.dis b hb
    · refine ⟨fun z => ?_, fun z => ?_, fun z => ?_, fun z => ?_⟩
      · rw [show b = h from z, a.ins] at hb; cases hb
      · rw [show b = M.dx from z, a.own] at hb; cases hb
      · rw [show b = M.el from z, a.erl] at hb; cases hb
      · rw [show b = M.vl from z, h1] at hb; cases hb
  · rcases Hps.foot_cases hb with e | e | e | e | hb
    · exact .inl (by rw [e]; exact Hps.foot_h)
    · exact .inl (by rw [e]; exact Hps.foot_dx)
    · exact .inl (by rw [e]; exact Hps.foot_el)
    · exact .inl (by rw [e]; exact Hps.foot_vl)
    · exact (n.ft b hb).imp (fun z => Hps.foot_T z) id
end
/-! plain words of the state -/
def startOf (kv : List (Int × Int)) (n : Int) : Int := ((kv.find? fun p => decide (p.1 = n)).map (·.2)).getD 0
def blkF (ph : PH) : Lay := ph.st.os.map fun o => (startOf ph.starts o.1, (o.2.length : Int))
def layF (ph : PH) : Lay := (blkF ph).mergeSort leP
def numAtL (kv : List (Int × Int)) (s : Int) : List Int := (kv.filter fun p => decide (p.2 = s)).map (·.1)
/-- starts and objects tell of the same numbers -/
structure PH.Al (ph : PH) : Prop where
  ke : ph.starts.map (·.1) = ph.st.keys
  kn : ph.st.keys.Nodup
theorem encK_val (kv : List (Int × Int)) (n : Int) : valV (encK kv) (Sum.inl n : Key) = (kv.find? fun p => decide (p.1 = n)).map fun p => V.int p.2 := by
  unfold encK
  induction kv with
  | nil => rfl
  | cons p kv ih =>
    rw [List.map_cons]
    by_cases h : p.1 = n
    · rw [valV_pos (by rw [h]), List.find?_cons_of_pos (by simp [h])]
      rfl
    · rw [valV_neg (fun z => h (Sum.inl.inj z)), List.find?_cons_of_neg (by simp [h])]
      exact ih
theorem encK_at {kv : List (Int × Int)} {n : Int} (h : n ∈ kv.map (·.1)) : valV (encK kv) (Sum.inl n : Key) = some (.int (startOf kv n)) := by
  rw [encK_val]
  unfold startOf
  cases e : kv.find? fun p => decide (p.1 = n) with
  | none =>
    rw [List.find?_eq_none] at e
    obtain ⟨p, hp, hn⟩ := List.mem_map.mp h
    exact absurd (decide_eq_true hn) (e p hp)
  | some p => rfl
theorem dgetK {H : Hp} {d : Addr} {kvs : List (Key × V)} {k : Int} {v : V} (h : H d = some (.dK kvs)) (e : valV kvs (Sum.inl k) = some v) : DGet H d (.int k) (some v) := .inl ⟨kvs, Sum.inl k, .inl h, rfl, e.symm⟩
theorem encK_keys (kv : List (Int × Int)) : (encK kv).map (·.1) = (kv.map (·.1)).map (Sum.inl : Int → Key) := by
  unfold encK
  (rw [List.map_map, List.map_map])
  rfl
theorem PH.Al.starts {ph : PH} (h : ph.Al) {n : Int} (hn : n ∈ ph.st.keys) : n ∈ ph.starts.map (·.1) := by
  rw [h.ke]
  exact hn
theorem Pl.look_at {p : Pl} (kn : p.keys.Nodup) {o : Int × List FV} (ho : o ∈ p.os) : p.look o.1 = o.2 := by
  unfold Pl.look
  cases e : p.os.find? fun q => decide (q.1 = o.1) with
  | none =>
    rw [List.find?_eq_none] at e
    exact absurd (by simp) (e o ho)
  | some q =>
    have h1 := List.mem_of_find?_eq_some e
    have h2 : q.1 = o.1 := by simpa using List.find?_some e
    rw [nodup_inj (f := fun q : Int × List FV => q.1) kn h1 ho h2]
    rfl
def PH.blk1 (ph : PH) (n : Int) : Int × Int := (startOf ph.starts n, ((ph.st.look n).length : Int))
theorem blkF_keys {ph : PH} (kn : ph.st.keys.Nodup) : blkF ph = ph.st.keys.map ph.blk1 := by
  unfold blkF Pl.keys
  rw [List.map_map]
  apply List.map_congr_left
  intro o ho
  show _ = PH.blk1 ph o.1
  unfold PH.blk1
  rw [Pl.look_at kn ho]
section
variable {P : Program} {w : World} {K : PySem.W.Frag} {mg : Str → Option Value} {base : Heap}
def rLenQ (K : PySem.W.Frag) : List V → Hp → VK → Prop := fun xs H Q => ∃ p ys, xs = [.ref p] ∧ (SqL K H p ys ∨ SqT K H p ys) ∧ Q (.int ys.length) H
abbrev CHeap (K : PySem.W.Frag) : Addr := gA K "ManagedHeap"
def spLayout (K : PySem.W.Frag) : Sp := fun vs H Q _ => ∃ (h : Addr) (M : Hps), vs = [.ref h] ∧ HeapAt K H h M ∧ M.T.ph.Al ∧ M.T.S.os.length ≤ 1000 ∧ ∀ H' u, Ex H H' → DI K H' u (encL (layF M.T.ph)) → Q u H'
abbrev N_layout : List Str := ["self", "store", "number"]
theorem sc_layout : FnScope N_layout ["self"] (defScope s_ManagedHeap_layout) := ⟨rfl, rfl, rfl, by decide +kernel, rfl, by decide +kernel, by decide +kernel⟩
theorem w_layout (T : Txt P K mg) : Mt P w K mg base 1 (CHeap K) "layout" (spLayout K) := by
  have nd := sc_layout.nd
  refine mt_of T (fn_mem 78 rfl) (by decide +kernel) (by decide +kernel) sc_layout (b1 fun _ _ _ _ _ _ _ => rfl) (fun vs H Q E ⟨_, _, e, _⟩ => by rw [e]; rfl) fun cdv A outer s H vs Q E hr ⟨h, M, e, hM, hal, hlen, hq⟩ => ?_
  subst e
  refine ⟨_, (pss_cons (ps_set (i := 1) nd rfl (.inr rfl) (pe_fld (pe_fld (pv 0) rfl) rfl)) (pss_one (ps_lock (ps_ret (pe_frz (pe_callB (cr_sortD hr) (by rfl) (T.n "sorted") (by decide +kernel) (pa_cons (pe_lc (own := [("number", 2)]) (g := gName 2) (tt := tYes) (te := (tTup (tCons (tDGet (tFld K (tFld K (tVar 0) "state") "starts") (tVar 2)) (tCons (tCB (rLenQ K) (tCons (tDGet (tFld K (tVar 1) "objects") (tVar 2)) tNil)) tNil)))) rfl nd (pi_keys (pe_fld (pv 1) rfl)) (blkOk_by (N := N_layout) (sc := defScope s_ManagedHeap_layout) (by decide +kernel)) (fun _ _ _ _ _ => (pg_name (i := 2) nd rfl (.inl rfl) (.inr rfl))) (fun _ _ _ _ _ => pts_nil) (fun _ _ _ _ _ => (pe_tup (pa_cons (pe_dget (hu_of hr) (pe_fld (pe_fld (pv 0) rfl) rfl) (pv 2) (fun _ _ => rfl)) (pa_cons (pe_callB call_len_seq (by rfl) (T.n "len") PySem.boot_len (pa_cons (pe_dget (hu_of hr) (pe_fld (pv 1) rfl) (pv 2) (fun _ _ => rfl)) pa_nil)) pa_nil))))) pa_nil))))))), ?_⟩
  refine ⟨_, rfl, h, _, _, _, _, rfl, hM.ins, T.cls "ManagedHeap", T.noat "ManagedHeap" "state", rfl, M.t, _, _, _, _, rfl, hM.sta.ins, T.cls "State", T.noat "State" "store", rfl, ?_⟩
  have hS := hM.sta.sto
  refine ⟨M.T.S.od, .dK M.T.S.kvs, hS.dic, trivial, fun ob => ?_⟩
  obtain ⟨l1, l2⟩ := hS.locked (ob := ob)
  have eL : ExF (fun b => b = M.T.S.od) H (upd H M.T.S.od (.frz ob (.dK M.T.S.kvs))) := (ExF.refl _ H).upd (.inr ⟨rfl, _, hS.dic, rfl, rfl⟩)
  have k1 := eL.at hM.ins (ne_of hM.ins hS.dic (by intro z; cases z))
  have k2 := eL.at hM.sta.ins (ne_of hM.sta.ins hS.dic (by intro z; cases z))
  have k3 := eL.at hM.sta.dic (Ne.symm (hM.sta.dis _ Sto.foot_od).2.2)
  refine ⟨_, rfl, M.T.s, _, _, _, _, rfl, l1, T.cls "Store", T.noat "Store" "objects", rfl, M.T.S.od, ob, rfl, .inl ⟨M.T.S.kvs, upd_same, fun D nD => ?_⟩⟩
  have hkl : M.T.S.keys.length = M.T.S.os.length := by unfold Sto.keys; rw [List.length_map]
  have hkn : M.T.ph.st.keys.Nodup := hal.kn
  refine lc_k (ns := M.T.S.keys) M.T.S.kvs_keys (fun pre G => Col K NoF (upd H M.T.S.od (.frz ob (.dK M.T.S.kvs))) D ((pre.map M.T.ph.blk1).map encP) pre.length G) (Col.start nD) (fun pre G c => Ex.at c.ex upd_same) (fun pre n post G el c => ?_) fun G c => ?_
  · obtain ⟨o, ho, hg, hval⟩ := kvs_at el
    obtain ⟨vs, hv, dv⟩ := l2 o ho
    have hnk : n ∈ M.T.S.keys := by rw [el]; simp
    have hst : n ∈ M.T.kv.map (·.1) := hal.starts (by show n ∈ M.T.S.pl.keys; rw [M.T.S.pl_keysP]; exact hnk)
    have e : Ex (upd H M.T.S.od (.frz ob (.dK M.T.S.kvs))) G := c.ex
    refine ⟨rfl, yes_ok ⟨_, rfl, h, _, _, _, _, rfl, e.at k1, T.cls "ManagedHeap", T.noat "ManagedHeap" "state", rfl, M.t, _, _, _, _, rfl, e.at k2, T.cls "State", T.noat "State" "starts", rfl, _, rfl, M.T.sd, _, rfl, dgetK (e.at k3) (encK_at hst), ?_⟩⟩
    refine ⟨_, rfl, M.T.s, _, _, _, _, rfl, e.at l1, T.cls "Store", T.noat "Store" "objects", rfl, _, rfl, M.T.S.od, _, rfl, dget_frz (e.at upd_same) hval, o.a, vs, rfl, .inl (SqL.of (e.at hv)), sz2, fun p np => ?_⟩
    rw [List.map_append, List.map_append, List.length_append]
    have hl3 : (vs.length : Int) = ((M.T.ph.st.look n).length : Int) := by
      rw [DpAll.length dv, List.length_map, show M.T.ph.st.look n = o.fs from Sto.pl_look hg]
    have hpl : pre.length < 1000000 := by
      have := congrArg List.length el
      rw [List.length_append, List.length_cons] at this
      omega
    refine c.add nD (Ex.new np) (fun z => z) ?_ (ltL hpl (by decide))
    rw [hl3]
    exact DI.pairOf upd_same
  · obtain ⟨acc, ha, hd⟩ := c.at_
    have hb : M.T.S.keys.map M.T.ph.blk1 = blkF M.T.ph := by
      rw [blkF_keys hkn]
      show _ = M.T.S.pl.keys.map _
      rw [M.T.S.pl_keysP]
    rw [hb] at hd
    refine ⟨D, acc, _, rfl, SqL.of ha, hd, alikeP _, sortableP _, depthP _, fun q ys nq dys => ?_⟩
    have e2 := c.ex.trans (Ex.new (o := .lst ys) nq)
    rw [sort_enc] at dys
    refine ⟨q, ys, _, rfl, upd_same, DIs.ex dys (Ex.new (F := NoF) nq), fun H2 k l d => ?_⟩
    have e3 : Ex (upd H M.T.S.od (.frz ob (.dK M.T.S.kvs))) H2 := e2.but (c.ex.gone nq) k l
    exact ⟨e3.at upd_same, hq _ _ (e3.unlock hS.dic rfl rfl) (Dp.unl (e3.at upd_same) rfl d)⟩
end
end Hg
namespace Hg
open PySem PySem.Spec PyProof.Rows L2
/-! ### ManagedHeap: number_at, moving, log -/
structure Man where
  size : Int
  strat : Bool
  place : Lay → Int → Int → Except Err (List Int × Int)
section
variable {P : Program} {w : World} {K : PySem.W.Frag} {mg : Str → Option Value} {base : Heap}
abbrev DictK (kv : List (Int × Int)) : HO := .dK (encK kv)
def spNumAt (K : PySem.W.Frag) : Sp := fun vs H Q _ => ∃ (h : Addr) (M : Hps) (st n : Int) (r : List Int), vs = [.ref h, .int st] ∧ HeapAt K H h M ∧ (M.T.kv.map (·.1)).Nodup ∧ M.T.kv.length ≤ 1000 ∧ numAtL M.T.kv st = n :: r ∧ ∀ H', Ex H H' → Q (.int n) H'
abbrev N_numat : List Str := ["self", "start", "number"]
theorem sc_numat : FnScope N_numat ["self", "start"] (defScope s_ManagedHeap_number_at) := ⟨rfl, rfl, rfl, by decide +kernel, rfl, by decide +kernel, by decide +kernel⟩
theorem numAtL_keys {kv : List (Int × Int)} (kn : (kv.map (·.1)).Nodup) (st : Int) : numAtL kv st = (kv.map (·.1)).filter fun n => decide (startOf kv n = st) := by
  unfold numAtL
  rw [List.filter_map]
  congr 1
  apply List.filter_congr
  intro p hp
  show decide (p.2 = st) = decide (startOf kv p.1 = st)
  have : startOf kv p.1 = p.2 := by
    unfold startOf
    cases e : kv.find? fun q => decide (q.1 = p.1) with
    | none =>
      rw [List.find?_eq_none] at e
      exact absurd (by simp) (e p hp)
    | some q =>
      have h2 : q.1 = p.1 := by simpa using List.find?_some e
      rw [nodup_inj (f := fun q : Int × Int => q.1) kn (List.mem_of_find?_eq_some e) hp h2]
      rfl
  rw [this]
theorem w_numat (T : Txt P K mg) : Mt P w K mg base 1 (CHeap K) "number_at" (spNumAt K) := by
  have nd := sc_numat.nd
  refine mt_of T (fn_mem 79 rfl) (by decide +kernel) (by decide +kernel) sc_numat (b2 fun _ _ _ _ _ _ _ _ => rfl) (fun vs H Q E ⟨_, _, _, _, _, e, _⟩ => by rw [e]; rfl) fun cdv A outer s H vs Q E hr ⟨h, M, st, n, r, e, hM, hkn, hlen, hn, hq⟩ => ?_
  subst e
  refine ⟨_, (pss_one (ps_lock (ps_ret (pe_ix ix_list (pe_lc (own := [("number", 2)]) (g := gName 2) (tt := (tTest (tOp rEq (tDGet (tFld K (tFld K (tVar 0) "state") "starts") (tVar 2)) (tVar 1)))) (te := _) rfl nd (pi_keys (pe_fld (pe_fld (pv 0) rfl) rfl)) (blkOk_by (N := N_numat) (sc := defScope s_ManagedHeap_number_at) (by decide +kernel)) (fun _ _ _ _ _ => (pg_name (i := 2) nd rfl (.inl rfl) (.inr rfl))) (fun _ _ _ _ _ => pts_one (pt_cmpR op_eq (pe_dget (hu_of hr) (pe_fld (pe_fld (pv 0) rfl) rfl) (pv 2) (fun _ _ => rfl)) (pv 1) (nomark _))) (fun _ _ _ _ _ => pv 2)) pe_int (fun _ _ => rfl))))), ?_⟩
  have hT := hM.sta
  refine ⟨M.T.sd, DictK M.T.kv, hT.dic, trivial, fun ob => ?_⟩
  have eL : ExF (fun b => b = M.T.sd) H (upd H M.T.sd (.frz ob (DictK M.T.kv))) := (ExF.refl _ H).upd (.inr ⟨rfl, _, hT.dic, rfl, rfl⟩)
  have k1 := eL.at hM.ins (ne_of hM.ins hT.dic (by intro z; cases z))
  have k2 := eL.at hT.ins (ne_of hT.ins hT.dic (by intro z; cases z))
  refine ⟨_, rfl, h, _, _, _, _, rfl, k1, T.cls "ManagedHeap", T.noat "ManagedHeap" "state", rfl, M.t, _, _, _, _, rfl, k2, T.cls "State", T.noat "State" "starts", rfl, M.T.sd, ob, rfl, .inl ⟨encK M.T.kv, upd_same, fun D nD => ?_⟩⟩
  refine lc_k (ns := M.T.kv.map (·.1)) (encK_keys _) (fun pre G => Ex (upd H M.T.sd (.frz ob (DictK M.T.kv))) G ∧ G D = some (.lst ((pre.filter fun n => decide (startOf M.T.kv n = st)).map V.int)) ∧ pre.length ≤ M.T.kv.length) ⟨Ex.new nD, upd_same, Nat.zero_le _⟩ (fun pre G ⟨e, _⟩ => Ex.at e upd_same) (fun pre m post G el ⟨e, hD, hl⟩ => ?_) fun G ⟨e, hD, _⟩ => ?_
  · have hl2 : pre.length < M.T.kv.length := by
      have := congrArg List.length el
      rw [List.length_map, List.length_append, List.length_cons] at this
      omega
    have hm : m ∈ M.T.kv.map (·.1) := by rw [el]; simp
    refine ⟨rfl, _, rfl, h, _, _, _, _, rfl, Ex.at e k1, T.cls "ManagedHeap", T.noat "ManagedHeap" "state", rfl, M.t, _, _, _, _, rfl, Ex.at e k2, T.cls "State", T.noat "State" "starts", rfl, _, rfl, M.T.sd, _, rfl, dget_frz (Ex.at e upd_same) (encK_at hm), _, rfl, rfl, _, rfl, ?_⟩
    rw [dec_int]
    by_cases hs : startOf M.T.kv m = st
    · rw [show (startOf M.T.kv m == st) = true by simp [hs]]
      refine iteT ⟨_, rfl, _, hD, ltL (m := 2000) ?_ (by decide), e.updN nD, ?_, by rw [List.length_append]; exact hl2⟩
      · rw [List.length_map]
        have := List.length_filter_le (fun n => decide (startOf M.T.kv n = st)) pre
        omega
      · rw [upd_same, List.filter_append, List.filter_cons_of_pos (by simp [hs]), List.map_append]
        rfl
    · rw [show (startOf M.T.kv m == st) = false by simp [hs]]
      refine iteF ⟨e, ?_, by rw [List.length_append]; exact hl2⟩
      rw [List.filter_append, List.filter_cons_of_neg (by simp [hs])]
      simpa using hD
  · rw [← numAtL_keys hkn, hn] at hD
    exact ⟨D, _, 0, .int n, rfl, rfl, SqL.of hD, atI_nat (j := 0) rfl, Ex.at e upd_same, hq _ (e.unlock hT.dic rfl rfl)⟩
/-! the manager, as a heap sees it -/
/-- a layout that a heap keeps -/
def disj (a b : Int × Int) : Prop := a.1 + a.2 ≤ b.1 ∨ b.1 + b.2 ≤ a.1
structure Good (size : Int) (l : Lay) : Prop where
  inn : LayIn size l
  dj : l.Pairwise disj
def spMPlace (K : PySem.W.Frag) (man : Man) (inv : Hp → Prop) (m : Addr) : Sp := fun vs H Q E => ∃ (lv : V) (l : Lay) (n cur : Int), vs = [.ref m, lv, .int n, .int cur] ∧ inv H ∧ DI K H lv (encL l) ∧ Good man.size l ∧ l.Pairwise (fun a b => leP a b = true) ∧ l.length ≤ 1000 ∧ 1 ≤ n ∧ n ≤ 1000 ∧
  (∀ starts s H' u, man.place l n cur = .ok (starts, s) → Ex H H' → DI K H' u (.tuple [encI starts, .int s]) → Q u H') ∧ (∀ e, man.place l n cur = .error e → RxE K E H e)
structure ManAt (P : Program) (w : World) (K : PySem.W.Frag) (mg : Str → Option Value) (base : Heap) (H : Hp) (m : Addr) (man : Man) (mf : List Addr) : Prop where
  s0 : 1 ≤ man.size
  s1 : man.size ≤ 25
  mem : m ∈ mf
  live : ∀ b ∈ mf, H b ≠ none
  at_ : ∃ C dx fs, H m = some (.ins C dx fs) ∧ Cls K C ∧ NoAttr K C "size" ∧ NoAttr K C "strategy" ∧ fs.lookup ("size" : Str) = some (.int man.size) ∧ fs.lookup ("strategy" : Str) = some (.bl man.strat) ∧ fs.lookup ("place" : Str) = none ∧
    ∃ inv : Hp → Prop, inv H ∧ (∀ (F : Addr → Prop) (H H' : Hp), ExF F H H' → (∀ b ∈ mf, ¬ F b) → inv H → inv H') ∧ Mt P w K mg base 12 C "place" (spMPlace K man inv m)
theorem ManAt.frame {F : Addr → Prop} {H H' : Hp} {m : Addr} {man : Man} {mf : List Addr} (a : ManAt P w K mg base H m man mf) (e : ExF F H H') (hF : ∀ b ∈ mf, ¬ F b) : ManAt P w K mg base H' m man mf := by
  obtain ⟨C, dx, fs, h1, h2, h3, h4, h5, h6, h7, inv, i1, i2, i3⟩ := a.at_
  exact ⟨a.s0, a.s1, a.mem, fun b hb z => a.live b hb (e.live b z), C, dx, fs, e.at h1 (hF m a.mem), h2, h3, h4, h5, h6, h7, inv, i2 F H H' e hF i1, i2, i3⟩
theorem ManAt.ex {H H' : Hp} {m : Addr} {man : Man} {mf : List Addr} (a : ManAt P w K mg base H m man mf) (e : Ex H H') : ManAt P w K mg base H' m man mf := a.frame e fun _ _ z => z
def spMoving (P : Program) (w : World) (K : PySem.W.Frag) (mg : Str → Option Value) (base : Heap) : Sp := fun vs H Q E => ∃ (h : Addr) (M : Hps) (man : Man) (mf : List Addr), vs = [.ref h] ∧ HeapAt K H h M ∧ ManAt P w K mg base H M.mgr man mf ∧ (man.strat = false → Q .non H) ∧ (man.strat = true → RxE K E H .strat)
theorem sc_moving : FnScope ["self"] ["self"] (defScope s_ManagedHeap_moving) := ⟨rfl, rfl, rfl, by decide +kernel, rfl, by decide +kernel, by decide +kernel⟩
theorem w_moving (T : Txt P K mg) : Mt P w K mg base 2 (CHeap K) "moving" (spMoving P w K mg base) := by
  have nd := sc_moving.nd
  refine mt_of T (fn_mem 83 rfl) (by decide +kernel) (by decide +kernel) sc_moving (b1 fun _ _ _ _ _ _ _ => rfl) (fun vs H Q E ⟨_, _, _, _, e, _⟩ => by rw [e]; rfl) fun cdv A outer s H vs Q E hr ⟨h, M, man, mf, e, hM, ha, hq, hE⟩ => ?_
  subst e
  refine ⟨_, (pss_one (ps_if (pt_truth (pe_fld (pe_fld (pv 0) rfl) rfl) (by intro _; rfl)) (pss_one (ps_raise0 (er0_of T "StrategyDecides" (by decide +kernel) (by decide +kernel) (by decide +kernel)) rfl tk0)) pss_nil)), ?_⟩
  obtain ⟨C, dx, fs, h1, h2, h3, h4, h5, h6, h7, _⟩ := ha.at_
  refine ⟨_, rfl, h, _, _, _, _, rfl, hM.ins, T.cls "ManagedHeap", T.noat "ManagedHeap" "manager", rfl, M.mgr, _, _, _, _, rfl, h1, h2, h4, h6, man.strat, rfl, ?_⟩
  cases hs : man.strat with
  | true => exact iteT (hE hs H (ExF.refl _ _))
  | false => exact iteF (hq hs)
/-! log -/
def spLog (K : PySem.W.Frag) : Sp := fun vs H Q _ => ∃ (h : Addr) (M : Hps), vs = [.ref h] ∧ HeapAt K H h M ∧ ∀ H' u, Ex H H' → DI K H' u (.list (M.evs.map encEv)) → Q u H'
theorem sc_log : FnScope ["self"] ["self"] (defScope s_ManagedHeap_log) := ⟨rfl, rfl, rfl, by decide +kernel, rfl, by decide +kernel, by decide +kernel⟩
theorem w_log (T : Txt P K mg) : Mt P w K mg base 1 (CHeap K) "log" (spLog K) := by
  have nd := sc_log.nd
  refine mt_of T (fn_mem 92 rfl) (by decide +kernel) (by decide +kernel) sc_log (b1 fun _ _ _ _ _ _ _ => rfl) (fun vs H Q E ⟨_, _, e, _⟩ => by rw [e]; rfl) fun cdv A outer s H vs Q E hr ⟨h, M, e, hM, hq⟩ => ?_
  subst e
  refine ⟨_, (pss_one (ps_ret (pe_frz (pe_callTy call_list_of (by rfl) (T.n "list") (by decide +kernel) (pa_cons (pe_fld (pv 0) rfl) pa_nil))))), ?_⟩
  obtain ⟨xs, h1, h2⟩ := hM.evl
  refine ⟨_, rfl, h, _, _, _, _, rfl, hM.ins, T.cls "ManagedHeap", T.noat "ManagedHeap" "events", rfl, M.vl, xs, rfl, .inl (SqL.of h1), fun l nl => ⟨l, xs, _, rfl, upd_same, DIs.ex h2 (Ex.new (F := NoF) nl), fun H2 k li d => hq H2 _ ((Ex.new (o := .lst xs) nl).but nl k li) d⟩⟩
end
end Hg
namespace Hg
open PySem PySem.Spec PyProof.Rows L2
/-! ### ManagedHeap: word, words -/
section
variable {K : PySem.W.Frag} {H0 : Hp} {a : Addr} {α : Type} {enc : α → PyData} {l : List α} {xs : List V}
/-- for i, x in enumerate(xs) -/
theorem for_e (hl : DIs K H0 xs (l.map enc)) {g : TG} {tb : TS} {D : Ends} {σ : L2.St} {H : Hp} (Pv : List α → L2.St → Hp → Prop) (h0 : Pv [] σ H) (hG : ∀ pre σ H, Pv pre σ H → SqL K H a xs)
    (hs : ∀ pre x post T v σ H, l = pre ++ x :: post → Pv pre σ H → H T = none → DI K H0 v (enc x) → g (.ref T) σ (upd H T (.tup [.int (pre.length : Nat), v])) fun σ2 H2 => tb { D with nx := Pv (pre ++ [x]), ct := Pv (pre ++ [x]), bk := D.nx } σ2 H2) (hd : ∀ σ H, Pv l σ H → D.nx σ H) :
    ∃ W : Nat → Nat → L2.St → Hp → Prop, (∃ m, W 0 m σ H) ∧ ∀ i m τ G, W i m τ G →
      ((Ite K a).stop i G ∧ D.nx τ G) ∨ ((Ite K a).go i G ∧ ∃ N : L2.St → Hp → Prop, (∀ τ' G', N τ' G' → ∃ m', m' < m ∧ W (i + 1) m' τ' G') ∧ ∀ x G', (Ite K a).yld i G x G' → g x τ G' fun σ2 H2 => tb { D with nx := N, ct := N, bk := D.nx } σ2 H2) := by
  have hn : xs.length = l.length := by rw [DpAll.length hl, List.length_map]
  refine for_l l (by rw [← hn]; exact walk_enum) Pv h0 hG (fun pre x post v σ H H' el p y => ?_) hd
  obtain ⟨T, x1, y1, rfl, hT, rfl, q1, q2⟩ := y
  cases q1
  obtain ⟨z1, g1, g2⟩ := DpAll.get hl q2
  rw [el] at g1
  have e3 : ((pre ++ x :: post).map enc)[pre.length]? = some (enc x) := by simp
  rw [e3] at g1
  cases g1
  exact hs pre x post T _ σ _ el p hT g2
end
def wordD (kv : List (Int × Int)) : FV → PyData
  | .obj n => .tuple [.str "reference", .int (startOf kv n)]
  | f => encF f
theorem tgt_some {f : FV} {t : Int} (h : tgt f = some t) : f = .obj t := by
  cases f with
  | non => cases h
  | num i => cases h
  | obj n =>
    cases h
    rfl
theorem wordD_none {kv : List (Int × Int)} {f : FV} (h : tgt f = none) : wordD kv f = encF f := by
  cases f with
  | non => rfl
  | num i => rfl
  | obj n => cases h
def cellsI (kv : List (Int × Int)) (b : Int) (cs : List PyData) (fs : List FV) : List PyData := fs.zipIdx.foldl (fun c x => c.set (b + (x.2 : Int)).toNat (wordD kv x.1)) cs
theorem cellsI_snoc (kv : List (Int × Int)) (b : Int) (cs : List PyData) (fs : List FV) (f : FV) : cellsI kv b cs (fs ++ [f]) = (cellsI kv b cs fs).set (b + (fs.length : Int)).toNat (wordD kv f) := by
  unfold cellsI
  rw [List.zipIdx_append, List.foldl_append]
  simp
theorem cellsI_len (kv : List (Int × Int)) (b : Int) (fs : List FV) : ∀ cs : List PyData, (cellsI kv b cs fs).length = cs.length := by
  intro cs
  unfold cellsI
  generalize fs.zipIdx = l
  induction l generalizing cs with
  | nil => rfl
  | cons x l ih => rw [List.foldl_cons, ih, List.length_set]
def cellsK (ph : PH) (cs : List PyData) (n : Int) : List PyData := cellsI ph.starts (startOf ph.starts n) cs (ph.st.look n)
def wordsF (size : Int) (ph : PH) : List PyData := ph.st.keys.foldl (cellsK ph) (List.replicate size.toNat (.str "free"))
theorem cellsK_len (ph : PH) (ns : List Int) : ∀ cs : List PyData, (ns.foldl (cellsK ph) cs).length = cs.length := by
  induction ns with
  | nil => intro cs; rfl
  | cons n ns ih =>
    intro cs
    rw [List.foldl_cons, ih]
    exact cellsI_len _ _ _ _
section
variable {P : Program} {w : World} {K : PySem.W.Frag} {mg : Str → Option Value} {base : Heap}
theorem DIs.setD {H : Hp} : ∀ {vs : List V} {ds : List PyData} {i : Nat} {v : V} {d : PyData}, DIs K H vs ds → DI K H v d → DIs K H (vs.set i v) (ds.set i d)
  | _, _, _, _, _, .nil, _ => .nil
  | _, _, 0, _, _, .cons _ t, k => .cons k t
  | _, _, i + 1, _, _, .cons h t, k => .cons h (DIs.setD (i := i) t k)
theorem DIs.rep {H : Hp} {v : V} {d : PyData} (h : DI K H v d) : ∀ n : Nat, DIs K H (List.replicate n [v]).flatten (List.replicate n d)
  | 0 => .nil
  | n + 1 => .cons h (DIs.rep h n)
/-- what word looks at -/
structure WordAt (K : PySem.W.Frag) (H : Hp) (h : Addr) (M : Hps) : Prop where
  ins : H h = some (.ins (gA K "ManagedHeap") M.dx [("manager", .ref M.mgr), ("state", .ref M.t), ("earlier", .ref M.el), ("events", .ref M.vl)])
  st : H M.t = some (.ins (gA K "State") M.T.dx [("store", .ref M.T.s), ("starts", .ref M.T.sd), ("cursor", .int M.T.cur)])
  dic : H M.T.sd = some (.dK (encK M.T.kv))
theorem WordAt.ex {H H' : Hp} {h : Addr} {M : Hps} (a : WordAt K H h M) (e : Ex H H') : WordAt K H' h M := ⟨e.at a.ins, e.at a.st, e.at a.dic⟩
def spWord (K : PySem.W.Frag) : Sp := fun vs H Q _ => ∃ (h : Addr) (M : Hps) (v : V) (f : FV), vs = [.ref h, v] ∧ WordAt K H h M ∧ DI K H v (encF f) ∧ (∀ t, tgt f = some t → t ∈ M.T.kv.map (·.1)) ∧ ∀ H' u, Ex H H' → DI K H' u (wordD M.T.kv f) → Q u H'
abbrev N_word : List Str := ["self", "value", "target"]
theorem sc_word : FnScope N_word ["self", "value"] (defScope s_ManagedHeap_word) := ⟨rfl, rfl, rfl, by decide +kernel, rfl, by decide +kernel, by decide +kernel⟩
theorem w_word (T : Txt P K mg) : Mt P w K mg base 2 (CHeap K) "word" (spWord K) := by
  have nd := sc_word.nd
  have c1 := w_target (w := w) (base := base) T
  refine mt_of T (fn_mem 80 rfl) (by decide +kernel) (by decide +kernel) sc_word (b2 fun _ _ _ _ _ _ _ _ => rfl) (fun vs H Q E ⟨_, _, _, _, e, _⟩ => by rw [e]; rfl) fun cdv A outer s H vs Q E hr ⟨h, M, v, f, e, hM, dv, hk, hq⟩ => ?_
  subst e
  refine ⟨_, (pss_cons (ps_set (i := 2) nd rfl (.inl rfl) (pe_cl c1 hr takes0 (pa_cons (pv 1) pa_nil))) (pss_cons (ps_if (pt_cmpR op_isN (pv 2) pe_non (nomark _)) (pss_one (ps_ret (pv 1))) pss_nil) (pss_one (ps_ret (pe_tup (pa_cons pe_str (pa_cons (pe_dget (hu_of hr) (pe_fld (pe_fld (pv 0) rfl) rfl) (pv 2) (fun _ _ => rfl)) pa_nil))))))), ?_⟩
  refine ⟨_, rfl, v, f, rfl, dv, ?_⟩
  cases ht : tgt f with
  | none =>
    refine ⟨_, rfl, rfl, _, rfl, itY rfl ⟨_, rfl, hq _ v (ExF.refl _ _) ?_⟩⟩
    rw [wordD_none ht]
    exact dv
  | some t =>
    refine ⟨_, rfl, rfl, _, rfl, itN intN ⟨_, rfl, h, _, _, _, _, rfl, hM.ins, T.cls "ManagedHeap", T.noat "ManagedHeap" "state", rfl, M.t, _, _, _, _, rfl, hM.st, T.cls "State", T.noat "State" "starts", rfl, _, rfl, M.T.sd, _, rfl, dgetK hM.dic (encK_at (hk t ht)), sz2, fun p np => hq _ _ (Ex.new np) ?_⟩⟩
    rw [tgt_some ht]
    exact DI.tupOf upd_same (.cons (.str _) (.cons (.int _) .nil))
/-! words -/
def spWords (P : Program) (w : World) (K : PySem.W.Frag) (mg : Str → Option Value) (base : Heap) : Sp := fun vs H Q _ => ∃ (h : Addr) (M : Hps) (man : Man) (mf : List Addr), vs = [.ref h] ∧ HeapAt K H h M ∧ ManAt P w K mg base H M.mgr man mf ∧ M.T.ph.Al ∧ M.T.S.pl.Cl ∧ LayIn man.size (blkF M.T.ph) ∧
  ∀ H' u, Ex H H' → DI K H' u (.list (wordsF man.size M.T.ph)) → Q u H'
abbrev N_words : List Str := ["self", "cells", "number", "index", "value"]
theorem sc_words : FnScope N_words ["self"] (defScope s_ManagedHeap_words) := ⟨rfl, rfl, rfl, by decide +kernel, rfl, by decide +kernel, by decide +kernel⟩
theorem w_words (T : Txt P K mg) : Mt P w K mg base 3 (CHeap K) "words" (spWords P w K mg base) := by
  have nd := sc_words.nd
  have c1 := w_word (w := w) (base := base) T
  refine mt_of T (fn_mem 81 rfl) (by decide +kernel) (by decide +kernel) sc_words (b1 fun _ _ _ _ _ _ _ => rfl) (fun vs H Q E ⟨_, _, _, _, e, _⟩ => by rw [e]; rfl) fun cdv A outer s H vs Q E hr ⟨h, M, man, mf, e, hM, hma, hal, hcl, hin, hq⟩ => ?_
  subst e
  refine ⟨_, (pss_cons (ps_set (i := 1) nd rfl (.inl rfl) (pe_op op_rep (pe_lst (pa_cons pe_str pa_nil)) (pe_fld (pe_fld (pv 0) rfl) rfl))) (pss_cons (ps_lock (ps_for ps0 rfl (pi_keys (pe_fld (pe_fld (pe_fld (pv 0) rfl) rfl) rfl)) (pg_name (i := 2) nd rfl (.inl rfl)) (pss_one (ps_for ps0 rfl (pi_enum (by rfl) (T.n "enumerate") (pa_cons (pe_dget (hu_of hr) (pe_fld (pe_fld (pe_fld (pv 0) rfl) rfl) rfl) (pv 2) (fun _ _ => rfl)) pa_nil)) (pg_tup rfl (pgs_cons (pg_name (i := 3) nd rfl (.inl rfl)) (pgs_cons (pg_name (i := 4) nd rfl (.inl rfl)) pgs_nil))) (pss_one (ps_asg (pe_mt c1 hr tk0 (pv 0) (pa_cons (pv 4) pa_nil)) (pg_sub (pv 1) (pe_op op_add (pe_dget (hu_of hr) (pe_fld (pe_fld (pv 0) rfl) rfl) (pv 2) (fun _ _ => rfl)) (pv 3)) set_list))))))) (pss_one (ps_ret (pe_frz (pv 1)))))), ?_⟩
  obtain ⟨C, dx, fs, h1, h2, h3, h4, h5, h6, h7, _⟩ := hma.at_
  have hs0 := hma.s0
  have hs1 := hma.s1
  refine ⟨sz1, fun p np => ?_⟩
  have e1 : Ex H (upd H p (.lst [.str "free"])) := Ex.new np
  have hM1 := hM.ex e1
  refine ⟨_, rfl, h, _, _, _, _, rfl, hM1.ins, T.cls "ManagedHeap", T.noat "ManagedHeap" "manager", rfl, M.mgr, _, _, _, _, rfl, e1.at h1, h2, h3, h5, p, man.size, _, rfl, rfl, upd_same, by omega, by omega, leL (m := 1000) (by show 1 * man.size.toNat ≤ 1000; omega) (by decide), fun q nq => ?_⟩
  have e2 : Ex H (upd (upd H p (.lst [.str "free"])) q (.lst (List.replicate man.size.toNat [V.str "free"]).flatten)) := e1.trans (Ex.new nq)
  have nqH : H q = none := e1.gone nq
  generalize hG0 : upd (upd H p (.lst [.str "free"])) q (.lst (List.replicate man.size.toNat [V.str "free"]).flatten) = G0 at e2
  have hq0 : G0 q = some (.lst (List.replicate man.size.toNat [V.str "free"]).flatten) := by rw [← hG0, upd_same]
  have hT := hM.sta
  have hS := hT.sto
  have hS2 := (hM.ex e2).sta.sto
  refine ⟨M.T.S.od, .dK M.T.S.kvs, hS2.dic, trivial, fun ob => ?_⟩
  obtain ⟨l1, l2⟩ := hS.locked (ob := ob)
  have eF : ExF (fun b => b = M.T.S.od) H (upd H M.T.S.od (.frz ob (.dK M.T.S.kvs))) := (ExF.refl _ H).upd (.inr ⟨rfl, _, hS.dic, rfl, rfl⟩)
  have k0 : WordAt K (upd H M.T.S.od (.frz ob (.dK M.T.S.kvs))) h M := ⟨eF.at hM.ins (ne_of hM.ins hS.dic (by intro z; cases z)), eF.at hT.ins (ne_of hT.ins hS.dic (by intro z; cases z)), eF.at hT.dic (Ne.symm (hT.dis _ Sto.foot_od).2.2)⟩
  have eL : Ex (upd H M.T.S.od (.frz ob (.dK M.T.S.kvs))) (upd G0 M.T.S.od (.frz ob (.dK M.T.S.kvs))) := e2.lockd hS.dic rfl rfl
  have nqd : q ≠ M.T.S.od := fun z => by rw [z, hS.dic] at nqH; cases nqH
  have nqL : (upd H M.T.S.od (.frz ob (.dK M.T.S.kvs))) q = none := by rw [upd_ne nqd]; exact nqH
  generalize hL0 : upd H M.T.S.od (.frz ob (.dK M.T.S.kvs)) = L0 at eL nqL k0 l1 l2
  have hLd : L0 M.T.S.od = some (.frz ob (.dK M.T.S.kvs)) := by rw [← hL0, upd_same]
  have hlen : (List.replicate man.size.toNat (PyData.str "free")).length = man.size.toNat := List.length_replicate
  refine ⟨_, rfl, h, _, _, _, _, rfl, eL.at k0.ins, T.cls "ManagedHeap", T.noat "ManagedHeap" "state", rfl, M.t, _, _, _, _, rfl, eL.at k0.st, T.cls "State", T.noat "State" "store", rfl, M.T.s, _, _, _, _, rfl, eL.at l1, T.cls "Store", T.noat "Store" "objects", rfl, M.T.S.od, ob, rfl, .inl ⟨M.T.S.kvs, upd_same, ?_⟩⟩
  refine for_k (ns := M.T.S.keys) M.T.S.kvs_keys (fun pre σ G => ∃ y2 y3 y4 xs, σ = [some (.ref h), some (.ref q), y2, y3, y4] ∧ Ex L0 G ∧ G q = some (.lst xs) ∧ DIs K G xs (pre.foldl (cellsK M.T.ph) (List.replicate man.size.toNat (.str "free")))) ?_ ?_ ?_ ?_
  · exact ⟨_, _, _, _, rfl, eL, by rw [upd_ne nqd]; exact hq0, DIs.rep (.str _) _⟩
  · intro pre σ G ⟨_, _, _, _, _, e, _⟩
    exact Ex.at e hLd
  · intro pre n post σ G el ⟨y2, y3, y4, xs, e, eG, hqG, dxs⟩
    subst e
    obtain ⟨o, ho, hg, hval⟩ := kvs_at el
    obtain ⟨vs, hv, dv⟩ := l2 o ho
    have hnk : n ∈ M.T.S.keys := by rw [el]; simp
    have hnk' : n ∈ M.T.S.pl.keys := by rw [M.T.S.pl_keysP]; exact hnk
    have hst : n ∈ M.T.kv.map (·.1) := hal.starts hnk'
    have hlk : M.T.S.pl.look n = o.fs := Sto.pl_look hg
    have hblk : M.T.ph.blk1 n ∈ blkF M.T.ph := by
      rw [blkF_keys hal.kn]
      exact List.mem_map.mpr ⟨n, hnk', rfl⟩
    have hb := hin _ hblk
    have hb1 : (M.T.ph.blk1 n).1 = startOf M.T.kv n := rfl
    have hb2 : (M.T.ph.blk1 n).2 = (o.fs.length : Int) := by
      show ((M.T.S.pl.look n).length : Int) = _
      rw [hlk]
    rw [hb1, hb2] at hb
    rw [List.foldl_append]
    generalize hcs : pre.foldl (cellsK M.T.ph) (List.replicate man.size.toNat (.str "free")) = cs at dxs
    have hcsl : cs.length = man.size.toNat := by rw [← hcs, cellsK_len, hlen]
    refine ⟨_, rfl, h, _, _, _, _, rfl, Ex.at eG k0.ins, T.cls "ManagedHeap", T.noat "ManagedHeap" "state", rfl, M.t, _, _, _, _, rfl, Ex.at eG k0.st, T.cls "State", T.noat "State" "store", rfl, M.T.s, _, _, _, _, rfl, Ex.at eG l1, T.cls "Store", T.noat "Store" "objects", rfl, _, rfl, M.T.S.od, _, rfl, dget_frz (Ex.at eG hLd) hval, o.a, vs, rfl, SqL.of (Ex.at eG hv), ?_⟩
    refine for_e (H0 := L0) (l := o.fs) (enc := encF) dv (fun pre2 σ G2 => ∃ y3 y4 xs, σ = [some (.ref h), some (.ref q), some (.int n), y3, y4] ∧ Ex L0 G2 ∧ G2 q = some (.lst xs) ∧ DIs K G2 xs (cellsI M.T.kv (startOf M.T.kv n) cs pre2)) ?_ ?_ ?_ ?_
    · exact ⟨_, _, xs, rfl, eG, hqG, dxs⟩
    · intro pre2 σ G2 ⟨_, _, _, _, e, _⟩
      exact SqL.of (Ex.at e hv)
    · intro pre2 f post2 Tt v σ G2 el2 ⟨y3, y4, xs, e, e3, hq2, dx2⟩ nT dvf
      subst e
      have e4 : Ex L0 (upd G2 Tt (.tup [.int (pre2.length : Nat), v])) := e3.trans (Ex.new nT)
      have nTq : q ≠ Tt := fun z => by rw [← z, hq2] at nT; cases nT
      refine ⟨Tt, _, rfl, SqT.of upd_same, rfl, _, _, rfl, _, _, rfl, rfl, ?_⟩
      refine ⟨_, rfl, h, _, _, rfl, Ex.at e4 k0.ins, rfl, _, rfl, h, M, v, f, rfl, k0.ex e4, DI.ex dvf e4, fun t ht => ?_, fun H' u e5 du => ?_⟩
      · refine hal.starts ?_
        have hfm : f ∈ M.T.S.pl.look n := by rw [hlk, el2]; simp
        exact Pl.look_cl hcl f hfm t ht
      have e6 : Ex L0 H' := e4.trans e5
      have hpl : pre2.length < o.fs.length := by rw [el2]; simp
      have hxl : xs.length = man.size.toNat := by rw [DpAll.length dx2, cellsI_len, hcsl]
      refine ⟨_, rfl, _, rfl, h, _, _, _, _, rfl, Ex.at e6 k0.ins, T.cls "ManagedHeap", T.noat "ManagedHeap" "state", rfl, M.t, _, _, _, _, rfl, Ex.at e6 k0.st, T.cls "State", T.noat "State" "starts", rfl, _, rfl, M.T.sd, _, rfl, dgetK (Ex.at e6 k0.dic) (encK_at hst), _, rfl, _, _, rfl, rfl, q, xs, _, (startOf M.T.kv n + (pre2.length : Int)).toNat, rfl, rfl, Ex.at e5 (by rw [upd_ne nTq]; exact hq2), ?_, ?_⟩
      · unfold ixN
        (rw [if_pos (by omega), if_pos (by omega)])
      · refine ⟨_, _, _, rfl, e6.updN nqL, upd_same, ?_⟩
        rw [cellsI_snoc]
        have hqH' : H' q = some (.lst xs) := Ex.at e5 (by rw [upd_ne nTq]; exact hq2)
        exact DIs.updL (DIs.setD (DIs.ex (DIs.ex dx2 (Ex.new (F := NoF) nT)) e5) du) hqH'
    · intro σ G2 ⟨y3, y4, xs, e, e3, hq2, dx2⟩
      refine ⟨_, _, _, xs, e, e3, hq2, ?_⟩
      show DIs K G2 xs (cellsI M.T.kv (startOf M.T.kv n) cs (M.T.S.pl.look n))
      rw [hlk]
      exact dx2
  · intro σ G ⟨y2, y3, y4, xs, e, eG, hqG, dxs⟩
    subst e
    refine ⟨Ex.at eG hLd, _, rfl, q, xs, _, rfl, by rw [upd_ne nqd]; exact hqG, DpAll.unl (Ex.at eG hLd) rfl dxs, fun H2 k l d => ?_⟩
    rw [← hL0] at eG
    have e7 : Ex H (upd G M.T.S.od (.dK M.T.S.kvs)) := eG.unlock hS.dic rfl rfl
    refine hq H2 _ (e7.but nqH k l) ?_
    unfold wordsF
    show DI K H2 (.ref q) (.list (M.T.S.pl.keys.foldl _ _))
    rw [M.T.S.pl_keysP]
    exact d
end
end Hg
namespace Hg
open PySem PySem.Spec PyProof.Rows L2
/-! ### ManagedHeap: relocate -/
def putI (kv : List (Int × Int)) (n s : Int) : List (Int × Int) := if (kv.any fun p => decide (p.1 = n)) = true then kv.map fun p => if p.1 = n then (p.1, s) else p else kv ++ [(n, s)]
theorem putI_enc (kv : List (Int × Int)) (n s : Int) : putK (encK kv) (Sum.inl n) (.int s) = encK (putI kv n s) := by
  unfold putK putI
  have h1 : ((encK kv).any fun p => decide (p.1 = (Sum.inl n : Key))) = kv.any fun p => decide (p.1 = n) := by
    unfold encK
    rw [List.any_map]
    congr 1
    funext p
    show decide ((Sum.inl p.1 : Key) = Sum.inl n) = _
    by_cases h : p.1 = n <;> simp [h]
  rw [h1]
  by_cases h : (kv.any fun p => decide (p.1 = n)) = true
  · rw [if_pos h, if_pos h]
    unfold encK
    (rw [List.map_map, List.map_map])
    apply List.map_congr_left
    intro p _
    show (if (Sum.inl p.1 : Key) = Sum.inl n then _ else _) = ((Sum.inl (if p.1 = n then (p.1, s) else p).1 : Key), V.int (if p.1 = n then (p.1, s) else p).2)
    by_cases h2 : p.1 = n
    · rw [if_pos (by rw [h2]), if_pos h2]
    · rw [if_neg (fun z => h2 (Sum.inl.inj z)), if_neg h2]
  · rw [if_neg h, if_neg h]
    unfold encK
    rw [List.map_append]
    rfl
theorem putI_len (kv : List (Int × Int)) (n s : Int) : (putI kv n s).length ≤ kv.length + 1 := by
  unfold putI
  split
  · rw [List.length_map]
    exact Nat.le_succ _
  · rw [List.length_append]
    exact Nat.le_refl _
theorem putI_keys {kv : List (Int × Int)} {n s : Int} (h : n ∈ kv.map (·.1)) : (putI kv n s).map (·.1) = kv.map (·.1) := by
  unfold putI
  have h1 : (kv.any fun p => decide (p.1 = n)) = true := by
    obtain ⟨p, hp, e⟩ := List.mem_map.mp h
    (exact List.any_eq_true.mpr ⟨p, hp, decide_eq_true e⟩)
  rw [if_pos h1, List.map_map]
  apply List.map_congr_left
  intro p _
  show (if p.1 = n then (p.1, s) else p).1 = p.1
  split <;> rfl
theorem putI_new {kv : List (Int × Int)} {n s : Int} (h : n ∉ kv.map (·.1)) : putI kv n s = kv ++ [(n, s)] := by
  unfold putI
  rw [if_neg]
  intro z
  obtain ⟨p, hp, e⟩ := List.any_eq_true.mp z
  (exact h (List.mem_map.mpr ⟨p, hp, of_decide_eq_true e⟩))
def putL (kv : List (Int × Int)) (l : List (Int × Int)) : List (Int × Int) := l.foldl (fun kv x => putI kv x.1 x.2) kv
theorem putL_len (l : List (Int × Int)) : ∀ kv : List (Int × Int), (putL kv l).length ≤ kv.length + l.length := by
  induction l with
  | nil => intro kv; exact Nat.le_refl _
  | cons x l ih =>
    intro kv
    have h1 := ih (putI kv x.1 x.2)
    have h2 := putI_len kv x.1 x.2
    show (putL (putI kv x.1 x.2) l).length ≤ kv.length + (l.length + 1)
    omega
def numbersF (ph : PH) : List Int := (layF ph).map fun b => (numAtL ph.starts b.1).headD 0
def relocF (ph : PH) (starts : List Int) : PH := { ph with starts := putL ph.starts ((numbersF ph).zip starts) }
theorem layF_mem {ph : PH} {b : Int × Int} : b ∈ layF ph ↔ b ∈ blkF ph := List.mem_mergeSort
theorem layF_len (ph : PH) : (layF ph).length = ph.st.os.length := by
  unfold layF blkF
  rw [List.length_mergeSort, List.length_map]
theorem numAt_ne {ph : PH} (h : ph.Al) {b : Int × Int} (hb : b ∈ layF ph) : ∃ n r, numAtL ph.starts b.1 = n :: r := by
  rw [layF_mem, blkF_keys h.kn] at hb
  obtain ⟨n, hn, rfl⟩ := List.mem_map.mp hb
  have hm : n ∈ numAtL ph.starts (ph.blk1 n).1 := by
    rw [numAtL_keys (by rw [h.ke]; exact h.kn)]
    exact List.mem_filter.mpr ⟨h.starts hn, decide_eq_true rfl⟩
  cases e : numAtL ph.starts (ph.blk1 n).1 with
  | nil => rw [e] at hm; cases hm
  | cons m r => exact ⟨m, r, rfl⟩
theorem Good.lay {size : Int} {ph : PH} (h0 : 1 ≤ size) (h1 : size ≤ 25) (h : LayIn size (blkF ph)) (hl : ph.st.os.length ≤ 1000) : LayOk size (layF ph) :=
  ⟨by omega, by omega, fun b hb => h b (layF_mem.mp hb), by rw [layF_len]; exact hl⟩
section
variable {P : Program} {w : World} {K : PySem.W.Frag} {mg : Str → Option Value} {base : Heap}
def spRelocate (P : Program) (w : World) (K : PySem.W.Frag) (mg : Str → Option Value) (base : Heap) : Sp := fun vs H Q _ => ∃ (h : Addr) (M : Hps) (man : Man) (mf : List Addr) (sv : V) (starts : List Int), vs = [.ref h, sv] ∧ HeapAt K H h M ∧ ManAt P w K mg base H M.mgr man mf ∧ (∀ b ∈ mf, b ∉ M.foot h) ∧
  M.T.ph.Al ∧ LayIn man.size (blkF M.T.ph) ∧ M.T.S.os.length ≤ 1000 ∧ DI K H sv (encI starts) ∧
  ∀ H' u, NowH K H H' h M (M.setT (M.T.setK (putL M.T.kv ((numbersF M.T.ph).zip starts)))) → DI K H' u (.list ((relocMapF (layF M.T.ph) starts).map encT3)) → Q u H'
abbrev N_rel : List Str := ["self", "starts", "layout", "numbers", "number", "start", "block"]
theorem sc_rel2 : FnScope N_rel ["self", "starts"] (defScope s_ManagedHeap_relocate) := ⟨rfl, rfl, rfl, by decide +kernel, rfl, by decide +kernel, by decide +kernel⟩
theorem w_relocate (T : Txt P K mg) : Mt P w K mg base 3 (CHeap K) "relocate" (spRelocate P w K mg base) := by
  have nd := sc_rel2.nd
  have c1 := w_layout (w := w) (base := base) T
  have c2 := w_numat (w := w) (base := base) T
  have c3 := w_reloc (w := w) (base := base) T
  refine mt_of T (fn_mem 82 rfl) (by decide +kernel) (by decide +kernel) sc_rel2 (b2 fun _ _ _ _ _ _ _ _ => rfl) (fun vs H Q E ⟨_, _, _, _, _, _, e, _⟩ => by rw [e]; rfl) fun cdv A outer s H vs Q E hr ⟨h, M, man, mf, sv, starts, e, hM, hma, hdis, hal, hin, hlen, dsv, hq⟩ => ?_
  subst e
  refine ⟨_, (pss_cons (ps_set (i := 2) nd rfl (.inl rfl) (pe_mt0 c1 hr tk0 (pv 0))) (pss_cons (ps_frz (i := 3) (ps_setLc (i := 3) (own := [("block", 6)]) (g := gName 6) (tt := tYes) (te := (tMS (CHeap K) "number_at" (spNumAt K) (fun _ _ _ _ => False) (tVar 0) (tCons (tOp (rIxT K) (tVar 6) (tC (.int 0))) tNil))) rfl nd rfl rfl (sw_true rfl rfl rfl (by decide +kernel)) (pi_list (pv 2)) (blkOk_by (N := N_rel) (sc := defScope s_ManagedHeap_relocate) (by decide +kernel)) (fun _ _ _ _ _ => (pg_name (i := 6) nd rfl (.inl rfl) (.inr rfl))) (fun _ _ _ _ _ => pts_nil) (fun _ _ _ _ _ => (pe_mt c2 hr takes0 (pv 0) (pa_cons (pe_ix ix_tup (pv 6) pe_int (fun _ _ => rfl)) pa_nil))))) (pss_cons (ps_for ps0 rfl (pi_zip (by rfl) (T.n "zip") (pa_cons (pv 3) (pa_cons (pv 1) pa_nil))) (pg_tup rfl (pgs_cons (pg_name (i := 4) nd rfl (.inl rfl)) (pgs_cons (pg_name (i := 5) nd rfl (.inl rfl)) pgs_nil))) (pss_one (ps_dput (hu_of hr) (pe_fld (pe_fld (pv 0) rfl) rfl) (pv 4) (pv 5) rfl))) (pss_one (ps_ret (pe_cl c3 hr takes0 (pa_cons (pe_fld (pe_fld (pv 0) rfl) rfl) (pa_cons (pv 2) (pa_cons (pv 1) pa_nil))))))))), ?_⟩
  have hs0 := hma.s0
  have hs1 := hma.s1
  refine ⟨_, rfl, h, _, _, rfl, hM.ins, rfl, h, M, rfl, hM, hal, hlen, fun H1 lv e1 dlv => ?_⟩
  have hM1 := hM.ex e1
  obtain ⟨la, lxs, rfl, hls, hld⟩ := DI.lst_inv dlv
  refine ⟨_, rfl, la, rfl, ⟨lxs, SqL.le (leI H1) hls⟩, fun D nD => ?_⟩
  have hkv : M.T.kv.length = M.T.S.os.length := by
    have h1 := congrArg List.length hal.ke
    have h2 : M.T.ph.st.keys.length = M.T.S.os.length := by
      show M.T.S.pl.keys.length = _
      rw [M.T.S.pl_keysP]
      unfold Sto.keys
      rw [List.length_map]
    rw [List.length_map] at h1
    exact h1.trans h2
  have hll : (layF M.T.ph).length = M.T.S.os.length := by
    rw [layF_len]
    show (M.T.S.os.map _).length = _
    rw [List.length_map]
  refine lc_d (l := layF M.T.ph) (enc := encP) dlv (fun pre G => Col K NoF H1 D ((pre.map fun b => (numAtL M.T.kv b.1).headD 0).map PyData.int) pre.length G) (Col.start nD) (fun pre G c => Le.of c.ex) (fun pre b post v G el c hv => ?_) fun G c => ?_
  · obtain ⟨ab, rfl, hsb⟩ := hv.pair_inv
    have hbm : b ∈ layF M.T.ph := by rw [el]; simp
    obtain ⟨n, r, hnr⟩ := numAt_ne hal hbm
    have hpl : pre.length < 1000 := by
      have := congrArg List.length el
      rw [List.length_append, List.length_cons, hll] at this
      omega
    have e2 : Ex H1 G := c.ex
    refine ⟨rfl, yes_ok ⟨_, rfl, h, _, _, rfl, (hM1.ex e2).ins, rfl, _, rfl, ab, _, 0, .int b.1, rfl, rfl, SqT.le (Le.of e2) hsb, atI_nat (j := 0) rfl, h, M, b.1, n, r, rfl, hM1.ex e2, by rw [show M.T.kv.map (·.1) = _ from hal.ke]; exact hal.kn, by rw [hkv]; exact hlen, hnr, fun H3 e3 => ?_⟩⟩
    rw [List.map_append, List.map_append, List.length_append]
    refine c.add nD e3 (fun z => z) ?_ (ltL (m := 1000) hpl (by decide))
    show DI K H3 (.int n) (.int ((numAtL M.T.kv b.1).headD 0))
    rw [show numAtL M.T.kv b.1 = n :: r from hnr]
    exact .int _
  · refine c.frz nD rfl fun H2 e2 d2 => ?_
    have e2' : Ex H1 H2 := e2
    have e12 : Ex H H2 := e1.trans e2'
    have dn : DI K H2 (.ref D) (.list ((numbersF M.T.ph).map PyData.int)) := d2
    have dsv2 : DI K H2 sv (.list (starts.map PyData.int)) := DI.ex dsv e12
    obtain ⟨sa, sxs, rfl, hss, hsd⟩ := DI.lst_inv dsv2
    obtain ⟨_, nxs, en, hns, hnd⟩ := DI.lst_inv dn
    cases en
    refine ⟨_, rfl, _, rfl, D, sa, nxs, sxs, rfl, SqL.le (leI H2) hns, SqL.le (leI H2) hss, ?_⟩
    have hzl : ((numbersF M.T.ph).zip starts).length ≤ 1000 := by
      have : (numbersF M.T.ph).length = M.T.S.os.length := by
        unfold numbersF
        rw [List.length_map, hll]
      rw [List.length_zip]
      omega
    refine for_z (l1 := numbersF M.T.ph) (l2 := starts) (e1 := PyData.int) (e2 := PyData.int) dn dsv2 (fun pre σ G => ∃ y4 y5 y6, σ = [some (.ref h), some (.ref sa), some (.ref la), some (.ref D), y4, y5, y6] ∧ NowH K H2 G h M (M.setT (M.T.setK (putL M.T.kv pre)))) ?_ ?_ ?_ ?_
    · exact ⟨_, _, _, rfl, NowH.of (hM.ex e12) (ExF.refl _ _)⟩
    · intro pre σ G ⟨_, _, _, _, nw⟩
      exact Le.of nw.ex
    · intro pre x post Tt v1 v2 σ G el ⟨y4, y5, y6, e, nw⟩ nT hv1 hv2
      subst e
      cases hv1
      cases hv2
      have eT : Ex G (upd G Tt (.tup [.int x.1, .int x.2])) := Ex.new nT
      have hMT := nw.at_.ex eT
      have hpre : pre.length ≤ 1000 := by rw [el] at hzl; simp at hzl; omega
      have hpl := putL_len pre M.T.kv
      refine ⟨Tt, _, rfl, SqT.of upd_same, rfl, _, _, rfl, _, _, rfl, rfl, ?_⟩
      refine ⟨_, rfl, _, rfl, h, _, _, _, _, rfl, hMT.ins, T.cls "ManagedHeap", T.noat "ManagedHeap" "state", rfl, M.t, _, _, _, _, rfl, hMT.sta.ins, T.cls "State", T.noat "State" "starts", rfl, _, rfl, M.T.sd, _, rfl, DPut.k (k := Sum.inl x.1) hMT.sta.dic (ltL (m := 5000) (by unfold encK; rw [List.length_map]; show (putL M.T.kv pre).length < 5000; omega) (by decide)), ?_⟩
      refine ⟨_, _, _, rfl, ?_⟩
      rw [putI_enc]
      have hfold : putL M.T.kv (pre ++ [x]) = putI (putL M.T.kv pre) x.1 x.2 := by
        unfold putL
        rw [List.foldl_append]
        rfl
      rw [hfold]
      exact (nw.trans (NowH.of nw.at_ eT)).trans (hMT.sta' (hMT.sta.setK (kv := putI (putL M.T.kv pre) x.1 x.2)))
    · intro σ G ⟨y4, y5, y6, e, nw⟩
      subst e
      have hma2 := (hma.ex e12).frame nw.ex (fun b hb => hdis b hb)
      obtain ⟨C, dx, fs, h1, h2, h3, h4, h5, h6, h7, _⟩ := hma2.at_
      refine ⟨_, rfl, h, _, _, _, _, rfl, nw.at_.ins, T.cls "ManagedHeap", T.noat "ManagedHeap" "manager", rfl, M.mgr, _, _, _, _, rfl, h1, h2, h3, h5, _, rfl, _, rfl, man.size, _, _, layF M.T.ph, starts, rfl, DI.ex (DI.ex dlv e2') nw.ex, DI.ex dsv2 nw.ex, Good.lay hs0 hs1 hin (by show (M.T.S.os.map _).length ≤ _; rw [List.length_map]; exact hlen), fun H3 u e3 du => ?_⟩
      exact hq H3 u (((NowH.of hM e12).trans nw).trans (NowH.of nw.at_ e3)) du
end
end Hg
namespace Hg
open PySem PySem.Spec PyProof.Rows L2
/-! ### what an event does, in plain data -/
def Pl.get (p : Pl) (n : Int) : Option (List FV) := (p.os.find? fun o => decide (o.1 = n)).map (·.2)
def Pl.made (p : Pl) (c : Int) : Pl := { p with os := p.os ++ [(p.next, List.replicate c.toNat .non)], next := p.next + 1 }
def Pl.setF (p : Pl) (n : Int) (i : Nat) (f : FV) : Pl := { p with os := p.os.map fun o => if o.1 = n then (o.1, o.2.set i f) else o }
def Pl.del (p : Pl) (n : Int) : Pl := { p with os := p.os.filter fun o => decide (o.1 ≠ n) }
def Pl.delL (p : Pl) (l : List Int) : Pl := { p with os := p.os.filter fun o => decide (o.1 ∉ l) }
def Pl.refd (p : Pl) (n : Int) : Bool := p.os.any fun o => decide (o.1 ≠ n) && (o.2.map tgt).contains (some n)
def Pl.addR (p : Pl) (n : Int) : Pl := { p with roots := sortI (p.roots ++ [n]) }
def Pl.remR (p : Pl) (n : Int) : Pl := { p with roots := p.roots.eraseIdx (p.roots.findIdx fun m => decide (m = n)) }
def dropI (kv : List (Int × Int)) (n : Int) : List (Int × Int) := kv.filter fun p => decide (p.1 ≠ n)
def dropL (kv : List (Int × Int)) (l : List Int) : List (Int × Int) := kv.filter fun p => decide (p.1 ∉ l)
def slideGo (e : Int) : Lay → Option (Int × Int)
  | [] => none
  | b :: l => if b.1 > e then some (b.1, e) else slideGo (b.1 + b.2) l
def badT (p : Pl) (f : FV) : Option Int := (tgt f).bind fun t => if (p.get t).isNone = true then some t else none
abbrev Ans : Type := Except Err (PH × PyData)
def movedF (ph : PH) (starts : List Int) : Ans := .ok (relocF ph starts, .list ((relocMapF (layF ph) starts).map encT3))
def allocF (man : Man) (ph : PH) (n : Int) : Ans := match man.place (layF ph) n ph.cur with
  | .error e => .error e
  | .ok r => .ok (⟨ph.st.made n, putI (relocF ph r.1).starts ph.st.next r.2, r.2 + n⟩, .int ph.st.next)
def writeF (ph : PH) (n i : Int) (f : FV) : Ans := match ph.st.get n with
  | none => .error (.obj n)
  | some fs => if 0 ≤ i ∧ i < fs.length then (match badT ph.st f with
    | some t => .error (.obj t)
    | none => .ok ({ ph with st := ph.st.setF n i.toNat f }, .none)) else .error (.field i)
def releaseF (ph : PH) (n : Int) : Ans := match ph.st.get n with
  | none => .error (.obj n)
  | some _ => if n ∈ ph.st.roots then .error (.used n true) else if ph.st.refd n = true then .error (.used n false) else .ok ({ ph with st := ph.st.del n, starts := dropI ph.starts n }, .none)
def addRF (ph : PH) (n : Int) : Ans := match ph.st.get n with
  | none => .error (.obj n)
  | some _ => if n ∈ ph.st.roots then .ok (ph, .bool false) else .ok ({ ph with st := ph.st.addR n }, .bool true)
def remRF (ph : PH) (n : Int) : Ans := match ph.st.get n with
  | none => .error (.obj n)
  | some _ => if n ∈ ph.st.roots then .ok ({ ph with st := ph.st.remR n }, .bool true) else .ok (ph, .bool false)
def collF (ph : PH) : Ans := .ok ({ ph with st := ph.st.delL (goneF ph.st), starts := dropL ph.starts (goneF ph.st) }, encI (goneF ph.st))
def compF (man : Man) (ph : PH) : Ans := if man.strat = true then .error .strat else movedF ph ((slideF (layF ph)).map (·.1))
def roomF (man : Man) (ph : PH) (n : Int) : Ans := if man.strat = true then .error .strat else match cheapF man.size (layF ph) n with
  | none => .error (.room n)
  | some r => movedF ph r.1
def slideEF (man : Man) (ph : PH) : Ans := if man.strat = true then .error .strat else match slideGo 0 (layF ph) with
  | none => .ok (ph, .none)
  | some r => .ok ({ ph with starts := putI ph.starts ((numAtL ph.starts r.1).headD 0) r.2 }, .tuple [.int ((numAtL ph.starts r.1).headD 0), .int r.1, .int r.2])
def performF (man : Man) (ph : PH) : Ev → Ans
  | .alloc n => allocF man ph n
  | .write n i f => writeF ph n i f
  | .release n => releaseF ph n
  | .addR n => addRF ph n
  | .remR n => remRF ph n
  | .coll => collF ph
  | .comp => compF man ph
  | .room n => roomF man ph n
  | .slide => slideEF man ph
def smallN (n : Int) : Prop := 0 ≤ n ∧ n ≤ 65535
def FOk : FV → Prop
  | .non => True
  | .num i => smallN i
  | .obj n => smallN n
def EvOk : Ev → Prop
  | .alloc n => 1 ≤ n ∧ n ≤ 1000
  | .write n i f => smallN n ∧ smallN i ∧ FOk f
  | .release n => smallN n
  | .addR n => smallN n
  | .remR n => smallN n
  | .room n => 1 ≤ n ∧ n ≤ 1000
  | _ => True
theorem small_log {n : Int} (h : smallN n) : n.natAbs.log2 < 1920 := by
  have h1 : n.natAbs < 2 ^ 16 := by
    have := h.1
    have := h.2
    (have e : (2 : Nat) ^ 16 = 65536 := by decide)
    rw [e]
    omega
  by_cases h0 : n.natAbs = 0
  · rw [h0]
    decide
  · have := (Nat.log2_lt h0).mpr h1
    omega
/-! the store's words in plain data -/
section
variable (S : Sto)
theorem Sto.pl_get (n : Int) : S.pl.get n = (S.get n).map (·.fs) := by
  unfold Pl.get Sto.pl Sto.get
  rw [List.find?_map, Option.map_map]
  rfl
theorem Sto.pl_made (a : Addr) (c : Int) : (S.made a c).pl = S.pl.made c := by
  unfold Sto.made Sto.pl Pl.made
  simp
theorem Sto.pl_setF (n : Int) (i : Nat) (f : FV) : (S.setF n i f).pl = S.pl.setF n i f := by
  unfold Sto.setF Sto.pl Pl.setF
  simp only [List.map_map]
  congr 1
  apply List.map_congr_left
  intro o _
  show _ = if o.n = n then (o.n, o.fs.set i f) else (o.n, o.fs)
  unfold Ob.setF
  show ((if o.n = n then _ else o).n, (if o.n = n then _ else o).fs) = _
  split <;> rfl
theorem Sto.pl_del (n : Int) : (S.del n).pl = S.pl.del n := by
  unfold Sto.del Sto.pl Pl.del
  simp only [List.filter_map]
  rfl
theorem Sto.pl_delL (l : List Int) : (S.delL l).pl = S.pl.delL l := by
  unfold Sto.delL Sto.pl Pl.delL
  simp only [List.filter_map]
  rfl
theorem Sto.pl_refd (n : Int) : S.pl.refd n = S.refd n := by
  unfold Sto.refd Sto.pl Pl.refd
  simp only [List.any_map]
  rfl
theorem Sto.pl_addR (q : Addr) (n : Int) : (S.addR q n).pl = S.pl.addR n := rfl
theorem Sto.pl_remR (n : Int) : (S.remR n).pl = S.pl.remR n := rfl
end
theorem dropI_enc (kv : List (Int × Int)) (n : Int) : dropK (encK kv) (Sum.inl n : Key) = encK (dropI kv n) := by
  unfold dropK dropI encK
  rw [List.filter_map]
  congr 1
  apply List.filter_congr
  intro p _
  show decide ((Sum.inl p.1 : Key) ≠ Sum.inl n) = decide (p.1 ≠ n)
  by_cases h : p.1 = n <;> simp [h]
theorem dropL_snoc (kv : List (Int × Int)) (l : List Int) (n : Int) : dropI (dropL kv l) n = dropL kv (l ++ [n]) := by
  unfold dropI dropL
  rw [List.filter_filter]
  apply List.filter_congr
  intro p _
  simp [and_comm]
theorem dropL_nil (kv : List (Int × Int)) : dropL kv [] = kv := List.filter_eq_self.mpr fun p _ => by simp
end Hg
namespace Hg
open PySem PySem.Spec PyProof.Rows L2
/-! ### ManagedHeap: do_allocate, do_release, do_collect -/
structure PH.Ok (size : Int) (ph : PH) : Prop where
  al : ph.Al
  cl : ph.st.Cl
  gd : Good size (blkF ph)
  rn : ph.st.roots.Nodup
  nx : ∀ n ∈ ph.st.keys, 0 ≤ n ∧ n < ph.st.next
  ln : ph.st.os.length ≤ 25
  fl : ∀ o ∈ ph.st.os, o.2.length ≤ 25
  n0 : 0 ≤ ph.st.next
theorem nodup_len : ∀ {l m : List Int}, l.Nodup → (∀ x ∈ l, x ∈ m) → l.length ≤ m.length
  | [], _, _, _ => (Nat.zero_le _)
  | a :: l, m, hn, hs => by
    (obtain ⟨h1, h2⟩ := List.nodup_cons.mp hn)
    have h3 := nodup_len (l := l) (m := m.erase a) h2 fun x hx => (List.mem_erase_of_ne (fun z => h1 (by rw [← z]; exact hx))).mpr (hs x (List.mem_cons_of_mem _ hx))
    have ha : a ∈ m := hs a (List.mem_cons_self ..)
    rw [List.length_erase_of_mem ha] at h3
    have : 0 < m.length := List.length_pos_of_mem ha
    show l.length + 1 ≤ m.length
    omega
theorem PH.Ok.rN {size : Int} {ph : PH} (h : ph.Ok size) : Hg.rN ph.st < 60 := by
  have h1 := nodup_len h.rn h.cl.rk
  have h2 := h.ln
  unfold Hg.rN
  unfold Pl.keys at h1
  rw [List.length_map] at h1
  omega
/-- the answer of a word of the heap -/
def PerfK (K : PySem.W.Frag) (H : Hp) (h : Addr) (M : Hps) (res : Ans) (Q : VK) (E : XK) : Prop :=
  (∀ ph' r H' T' u, res = .ok (ph', r) → NowH K H H' h M (M.setT T') → T'.ph = ph' → DI K H' u r → Q u H') ∧ ∀ e, res = .error e → RxE K E H e
structure HIn (P : Program) (w : World) (K : PySem.W.Frag) (mg : Str → Option Value) (base : Heap) (H : Hp) (h : Addr) (M : Hps) (man : Man) (mf : List Addr) : Prop where
  hp : HeapAt K H h M
  ma : ManAt P w K mg base H M.mgr man mf
  dj : ∀ b ∈ mf, b ∉ M.foot h
  ok : M.T.ph.Ok man.size
theorem Rx.ex {K : PySem.W.Frag} {E : XK} {H H1 : Hp} {x : Str} {fs : List (Str × V)} (h : Rx K E H x fs) (e : Ex H H1) : Rx K E H1 x fs := fun H' d e2 hd => h H' d (e.trans e2) hd
theorem RxE.ex {K : PySem.W.Frag} {E : XK} {H H1 : Hp} (e : Ex H H1) : ∀ {x : Err}, RxE K E H x → RxE K E H1 x
  | .mem _, h => Rx.ex h e
  | .notAllowed _, h => Rx.ex h e
  | .room _, h => Rx.ex h e
  | .obj _, h => Rx.ex h e
  | .field _, h => Rx.ex h e
  | .used _ _, h => Rx.ex h e
  | .strat, h => fun H' e2 => h H' (e.trans e2)
theorem leP_lex (a b : Int × Int) : leP a b = decide (a.1 < b.1 ∨ (a.1 = b.1 ∧ a.2 ≤ b.2)) :=
  congrFun (congrFun (PySem.W.dataLe_ii (fun p : Int × Int => p.1) fun p : Int × Int => p.2) a) b
theorem leP_trans (a b c : Int × Int) (h1 : leP a b = true) (h2 : leP b c = true) : leP a c = true := by
  rw [leP_lex, decide_eq_true_eq] at *
  omega
theorem leP_total (a b : Int × Int) : (leP a b || leP b a) = true := by
  rw [leP_lex, leP_lex, Bool.or_eq_true, decide_eq_true_eq, decide_eq_true_eq]
  omega
theorem layF_sorted (ph : PH) : (layF ph).Pairwise fun a b => leP a b = true := List.pairwise_mergeSort leP_trans leP_total _
theorem disj_symm {a b : Int × Int} (h : disj a b) : disj b a := h.elim .inr .inl
theorem Good.perm {size : Int} {l m : Lay} (h : Good size l) (p : l.Perm m) : Good size m :=
  ⟨fun b hb => h.inn b (p.mem_iff.mpr hb), (p.pairwise_iff fun h => disj_symm h).mp h.dj⟩
theorem Good.layF {size : Int} {ph : PH} (h : Good size (blkF ph)) : Good size (layF ph) := h.perm (List.mergeSort_perm _ _).symm
theorem PH.Al.kvl {T : Stt} (h : T.ph.Al) : T.kv.length = T.S.os.length := by
  have h1 := congrArg List.length h.ke
  have h2 : T.ph.st.keys.length = T.S.os.length := by
    show T.S.pl.keys.length = _
    rw [T.S.pl_keysP]
    unfold Sto.keys
    rw [List.length_map]
  rw [List.length_map] at h1
  exact h1.trans h2
section
variable {P : Program} {w : World} {K : PySem.W.Frag} {mg : Str → Option Value} {base : Heap}
theorem Sto.os_len (S : Sto) : S.pl.os.length = S.os.length := by
  unfold Sto.pl
  rw [List.length_map]
def spAlloc (P : Program) (w : World) (K : PySem.W.Frag) (mg : Str → Option Value) (base : Heap) : Sp := fun vs H Q E => ∃ (h : Addr) (M : Hps) (man : Man) (mf : List Addr) (n : Int), vs = [.ref h, .int n] ∧ HIn P w K mg base H h M man mf ∧ 1 ≤ n ∧ n ≤ 1000 ∧ PerfK K H h M (allocF man M.T.ph n) Q E
abbrev N_alloc : List Str := ["self", "length", "starts", "start", "number"]
theorem sc_alloc : FnScope N_alloc ["self", "length"] (defScope s_ManagedHeap_do_allocate) := ⟨rfl, rfl, rfl, by decide +kernel, rfl, by decide +kernel, by decide +kernel⟩
theorem w_alloc (T : Txt P K mg) : Mt P w K mg base 13 (CHeap K) "do_allocate" (spAlloc P w K mg base) := by
  have nd := sc_alloc.nd
  have c1 := w_layout (w := w) (base := base) T
  have c2 := w_relocate (w := w) (base := base) T
  have c3 := w_smake (w := w) (base := base) T
  refine mt_of T (fn_mem 84 rfl) (by decide +kernel) (by decide +kernel) sc_alloc (b2 fun _ _ _ _ _ _ _ _ => rfl) (fun vs H Q E ⟨_, _, _, _, _, e, _⟩ => by rw [e]; rfl) fun cdv A outer s H vs Q E hr ⟨h, M, man, mf, n, e, hI, n0, n1, hq, hE⟩ => ?_
  subst e
  obtain ⟨hM, hma, hdj, hok⟩ := hI
  obtain ⟨C, dx, fs, g1, g2, g3, g4, g5, g6, g7, inv, i1, i2, c0⟩ := hma.at_
  refine ⟨_, (pss_cons (ps_asg (pe_mt c0 hr tk0 (pe_fld (pv 0) rfl) (pa_cons (pe_mt0 c1 hr tk0 (pv 0)) (pa_cons (pv 1) (pa_cons (pe_fld (pe_fld (pv 0) rfl) rfl) pa_nil)))) (pg_tup rfl (pgs_cons (pg_name (i := 2) nd rfl (.inl rfl)) (pgs_cons (pg_name (i := 3) nd rfl (.inl rfl)) pgs_nil)))) (pss_cons (ps_expr (pe_mt c2 hr tk0 (pv 0) (pa_cons (pv 2) pa_nil))) (pss_cons (ps_set (i := 4) nd rfl (.inl rfl) (pe_mt c3 hr tk0 (pe_fld (pe_fld (pv 0) rfl) rfl) (pa_cons (pv 1) pa_nil))) (pss_cons (ps_dput (hu_of hr) (pe_fld (pe_fld (pv 0) rfl) rfl) (pv 4) (pv 3) rfl) (pss_cons (ps_fld (pe_fld (pv 0) rfl) (pe_op op_add (pv 3) (pv 1)) rfl) (pss_one (ps_ret (pv 4)))))))), ?_⟩
  have hol : M.T.S.os.length ≤ 25 := by rw [← M.T.S.os_len]; exact hok.ln
  refine ⟨_, rfl, h, _, _, _, _, rfl, hM.ins, T.cls "ManagedHeap", T.noat "ManagedHeap" "manager", rfl, M.mgr, _, _, rfl, g1, g7, _, rfl, h, _, _, rfl, hM.ins, rfl, h, M, rfl, hM, hok.al, by omega, fun H1 lv e1 dl => ?_⟩
  have hM1 := hM.ex e1
  refine ⟨_, rfl, _, rfl, h, _, _, _, _, rfl, hM1.ins, T.cls "ManagedHeap", T.noat "ManagedHeap" "state", rfl, M.t, _, _, _, _, rfl, hM1.sta.ins, T.cls "State", T.noat "State" "cursor", rfl, lv, layF M.T.ph, n, M.T.cur, rfl, i2 _ _ _ e1 (fun _ _ z => z) i1, dl, hok.gd.layF, layF_sorted _, by rw [layF_len]; exact Nat.le_trans hok.ln (by decide), n0, n1, fun starts st H2 u hp e2 du => ?_, fun e he => ?_⟩
  · obtain ⟨ua, xs, rfl, hus, hud⟩ := DI.tup_inv du
    cases hud with
    | cons d1 hud => cases hud with
      | cons d2 hud =>
        cases hud
        cases d2
        have e12 := e1.trans e2
        have hM2 := hM1.ex e2
        refine ⟨ua, _, rfl, SqT.le (leI H2) hus, rfl, _, _, rfl, _, _, rfl, rfl, ?_⟩
        refine ⟨_, rfl, h, _, _, rfl, hM2.ins, rfl, _, rfl, h, M, man, mf, _, starts, rfl, hM2, hma.ex e12, hdj, hok.al, hok.gd.inn, by omega, d1, fun H3 u2 nw du2 => ?_⟩
        have hM3 := nw.at_
        refine ⟨_, rfl, h, _, _, _, _, rfl, hM3.ins, T.cls "ManagedHeap", T.noat "ManagedHeap" "state", rfl, M.t, _, _, _, _, rfl, hM3.sta.ins, T.cls "State", T.noat "State" "store", rfl, M.T.s, _, _, rfl, hM3.sta.sto.ins, rfl, _, rfl, M.T.s, M.T.S, n, rfl, hM3.sta.sto, by omega, n1, ?_, by omega, fun H4 a nS => ?_⟩
        · intro z
          rw [← M.T.S.pl_keysP] at z
          have := (hok.nx _ z).2
          exact absurd this (Int.lt_irrefl _)
        have nw4 : NowH K H H4 h M (M.setT ((M.T.setK (putL M.T.kv ((numbersF M.T.ph).zip starts))).setS (M.T.S.made a n))) := (NowH.of hM e12).trans (nw.trans (hM3.sta' (hM3.sta.sto' nS)))
        have hM4 := nw4.at_
        refine ⟨_, rfl, _, rfl, h, _, _, _, _, rfl, hM4.ins, T.cls "ManagedHeap", T.noat "ManagedHeap" "state", rfl, M.t, _, _, _, _, rfl, hM4.sta.ins, T.cls "State", T.noat "State" "starts", rfl, _, rfl, M.T.sd, _, rfl, DPut.k (k := Sum.inl M.T.S.next) hM4.sta.dic ?_, ?_⟩
        · refine ltL (m := 5000) ?_ (by decide)
          unfold encK
          rw [List.length_map]
          show (putL M.T.kv ((numbersF M.T.ph).zip starts)).length < 5000
          have h1 := putL_len ((numbersF M.T.ph).zip starts) M.T.kv
          have h2 : (numbersF M.T.ph).length = M.T.S.os.length := by
            unfold numbersF
            rw [List.length_map, layF_len]
            exact M.T.S.os_len
          have h3 : M.T.kv.length = M.T.S.os.length := hok.al.kvl
          rw [List.length_zip] at h1
          omega
        rw [putI_enc]
        have nw5 : NowH K H _ h M (M.setT (((M.T.setK (putL M.T.kv ((numbersF M.T.ph).zip starts))).setS (M.T.S.made a n)).setK (putI (putL M.T.kv ((numbersF M.T.ph).zip starts)) M.T.S.next st))) := nw4.trans (hM4.sta' hM4.sta.setK)
        have hM5 := nw5.at_
        refine ⟨_, rfl, _, rfl, _, _, rfl, rfl, _, rfl, h, _, _, _, _, rfl, hM5.ins, T.cls "ManagedHeap", T.noat "ManagedHeap" "state", rfl, M.t, _, _, _, rfl, hM5.sta.ins, T.cls "State", T.noat "State" "cursor", by show (3 : Nat) < 1000; decide, _, rfl, ?_⟩
        have nw6 : NowH K H _ h M (M.setT ((((M.T.setK (putL M.T.kv ((numbersF M.T.ph).zip starts))).setS (M.T.S.made a n)).setK (putI (putL M.T.kv ((numbersF M.T.ph).zip starts)) M.T.S.next st)).setC (st + n))) := nw5.trans (hM5.sta' (hM5.sta.setC (c := st + n) _ rfl))
        refine hq ⟨(M.T.S.made a n).pl, _, _⟩ (.int M.T.S.next) _ _ _ ?_ nw6 rfl (.int _)
        unfold allocF
        rw [show man.place (layF M.T.ph) n M.T.ph.cur = _ from hp, show (M.T.S.made a n).pl = _ from Sto.pl_made _ _ _]
        rfl
  · exact RxE.ex e1 (hE e (by unfold allocF; rw [show man.place (layF M.T.ph) n M.T.ph.cur = _ from he]))
end
end Hg
namespace Hg
open PySem PySem.Spec PyProof.Rows L2
/-! ### ManagedHeap: do_release, do_collect -/
section
variable {P : Program} {w : World} {K : PySem.W.Frag} {mg : Str → Option Value} {base : Heap}
def spDoRel (P : Program) (w : World) (K : PySem.W.Frag) (mg : Str → Option Value) (base : Heap) : Sp := fun vs H Q E => ∃ (h : Addr) (M : Hps) (man : Man) (mf : List Addr) (n : Int), vs = [.ref h, .int n] ∧ HIn P w K mg base H h M man mf ∧ smallN n ∧ PerfK K H h M (releaseF M.T.ph n) Q E
theorem sc_dorel : FnScope ["self", "number"] ["self", "number"] (defScope s_ManagedHeap_do_release) := ⟨rfl, rfl, rfl, by decide +kernel, rfl, by decide +kernel, by decide +kernel⟩
theorem w_dorel (T : Txt P K mg) : Mt P w K mg base 5 (CHeap K) "do_release" (spDoRel P w K mg base) := by
  have nd := sc_dorel.nd
  have c1 := w_rel (w := w) (base := base) T
  refine mt_of T (fn_mem 85 rfl) (by decide +kernel) (by decide +kernel) sc_dorel (b2 fun _ _ _ _ _ _ _ _ => rfl) (fun vs H Q E ⟨_, _, _, _, _, e, _⟩ => by rw [e]; rfl) fun cdv A outer s H vs Q E hr ⟨h, M, man, mf, n, e, hI, hn, hq, hE⟩ => ?_
  subst e
  obtain ⟨hM, hma, hdj, hok⟩ := hI
  refine ⟨_, (pss_cons (ps_expr (pe_mt c1 hr tk0 (pe_fld (pe_fld (pv 0) rfl) rfl) (pa_cons (pv 1) pa_nil))) (pss_one (ps_ddel (pe_fld (pe_fld (pv 0) rfl) rfl) (pv 1)))), ?_⟩
  have hg : M.T.ph.st.get n = (M.T.S.get n).map (·.fs) := Sto.pl_get _ _
  have hrf : M.T.ph.st.refd n = M.T.S.refd n := Sto.pl_refd _ _
  have hfl : ∀ o ∈ M.T.S.os, o.fs.length ≤ 1000 := fun o ho => Nat.le_trans (hok.fl (o.n, o.fs) (List.mem_map.mpr ⟨o, ho, rfl⟩)) (by decide)
  refine ⟨_, rfl, h, _, _, _, _, rfl, hM.ins, T.cls "ManagedHeap", T.noat "ManagedHeap" "state", rfl, M.t, _, _, _, _, rfl, hM.sta.ins, T.cls "State", T.noat "State" "store", rfl, M.T.s, _, _, rfl, hM.sta.sto.ins, rfl, _, rfl, M.T.s, M.T.S, n, rfl, hM.sta.sto, small_log hn, hfl, fun o ho hr1 hr2 H1 nS => ?_, fun ho => ?_, fun o ho hr1 => ?_, fun o ho hr1 hr2 => ?_⟩
  · have nw : NowH K H H1 h M (M.setT (M.T.setS (M.T.S.del n))) := hM.sta' (hM.sta.sto' nS)
    have hM1 := nw.at_
    have hnk : n ∈ M.T.kv.map (·.1) := hok.al.starts (by
      show n ∈ M.T.S.pl.keys
      rw [M.T.S.pl_keysP]
      exact Decidable.byContradiction fun z => by
        have h2 := Sto.get_none.mpr z
        rw [ho] at h2
        cases h2)
    refine ⟨_, rfl, h, _, _, _, _, rfl, hM1.ins, T.cls "ManagedHeap", T.noat "ManagedHeap" "state", rfl, M.t, _, _, _, _, rfl, hM1.sta.ins, T.cls "State", T.noat "State" "starts", rfl, _, rfl, M.T.sd, _, Sum.inl n, rfl, hM1.sta.dic, rfl, ?_, ?_⟩
    · show (valV (encK M.T.kv) (Sum.inl n : Key)).isSome = true
      rw [encK_at hnk]
      rfl
    · rw [dropI_enc]
      have nw2 : NowH K H _ h M (M.setT ((M.T.setS (M.T.S.del n)).setK (dropI M.T.kv n))) := nw.trans (hM1.sta' hM1.sta.setK)
      refine hq ⟨(M.T.S.del n).pl, _, _⟩ .none _ _ _ ?_ nw2 rfl .non
      unfold releaseF
      rw [hg, ho, show (M.T.S.del n).pl = _ from Sto.pl_del _ _]
      dsimp only [Option.map]
      rw [if_neg (show ¬ n ∈ M.T.ph.st.roots from hr1), if_neg (by rw [hrf, hr2]; decide)]
      rfl
  · exact hE (.obj n) (by unfold releaseF; rw [hg, ho]; rfl)
  · exact hE (.used n true) (by unfold releaseF; rw [hg, ho]; dsimp only [Option.map]; rw [if_pos (show n ∈ M.T.ph.st.roots from hr1)])
  · exact hE (.used n false) (by unfold releaseF; rw [hg, ho]; dsimp only [Option.map]; rw [if_neg (show ¬ n ∈ M.T.ph.st.roots from hr1), if_pos (by rw [hrf, hr2])])
/-! do_collect -/
def spDoColl (P : Program) (w : World) (K : PySem.W.Frag) (mg : Str → Option Value) (base : Heap) : Sp := fun vs H Q E => ∃ (h : Addr) (M : Hps) (man : Man) (mf : List Addr), vs = [.ref h] ∧ HIn P w K mg base H h M man mf ∧ PerfK K H h M (collF M.T.ph) Q E
abbrev N_docoll : List Str := ["self", "gone", "number"]
theorem sc_docoll : FnScope N_docoll ["self"] (defScope s_ManagedHeap_do_collect) := ⟨rfl, rfl, rfl, by decide +kernel, rfl, by decide +kernel, by decide +kernel⟩
theorem dropL_keys {kv : List (Int × Int)} {l : List Int} {n : Int} (h : n ∈ kv.map (·.1)) (h2 : n ∉ l) : n ∈ (dropL kv l).map (·.1) := by
  obtain ⟨p, hp, e⟩ := List.mem_map.mp h
  exact List.mem_map.mpr ⟨p, List.mem_filter.mpr ⟨hp, by rw [e]; simp [h2]⟩, e⟩
theorem w_docoll (T : Txt P K mg) : Mt P w K mg base 4 (CHeap K) "do_collect" (spDoColl P w K mg base) := by
  have nd := sc_docoll.nd
  have c1 := w_coll (w := w) (base := base) T
  refine mt_of T (fn_mem 86 rfl) (by decide +kernel) (by decide +kernel) sc_docoll (b1 fun _ _ _ _ _ _ _ => rfl) (fun vs H Q E ⟨_, _, _, _, e, _⟩ => by rw [e]; rfl) fun cdv A outer s H vs Q E hr ⟨h, M, man, mf, e, hI, hq, hE⟩ => ?_
  subst e
  obtain ⟨hM, hma, hdj, hok⟩ := hI
  refine ⟨_, (pss_cons (ps_set (i := 1) nd rfl (.inl rfl) (pe_mt0 c1 hr tk0 (pe_fld (pe_fld (pv 0) rfl) rfl))) (pss_cons (ps_for ps0 rfl (pi_list (pv 1)) (pg_name (i := 2) nd rfl (.inl rfl)) (pss_one (ps_ddel (pe_fld (pe_fld (pv 0) rfl) rfl) (pv 2)))) (pss_one (ps_ret (pv 1))))), ?_⟩
  refine ⟨_, rfl, h, _, _, _, _, rfl, hM.ins, T.cls "ManagedHeap", T.noat "ManagedHeap" "state", rfl, M.t, _, _, _, _, rfl, hM.sta.ins, T.cls "State", T.noat "State" "store", rfl, M.T.s, _, _, rfl, hM.sta.sto.ins, rfl, M.T.s, M.T.S, rfl, hM.sta.sto, hok.cl, hok.rN, fun H1 u nS du => ?_⟩
  have nw : NowH K H H1 h M (M.setT (M.T.setS (M.T.S.delL (goneF M.T.S.pl)))) := hM.sta' (hM.sta.sto' nS)
  obtain ⟨la, lxs, rfl, hls, hld⟩ := DI.lst_inv du
  refine ⟨_, rfl, la, rfl, ⟨lxs, SqL.le (leI H1) hls⟩, ?_⟩
  have hgk : ∀ n ∈ goneF M.T.S.pl, n ∈ M.T.kv.map (·.1) := fun n hn => hok.al.starts (sortI_mem.mp (List.mem_filter.mp hn).1)
  have hgn : (goneF M.T.S.pl).Nodup := (sortI_nodup hok.al.kn).sublist List.filter_sublist
  refine for_d (l := goneF M.T.S.pl) (enc := PyData.int) du (fun pre σ G => ∃ y2, σ = [some (.ref h), some (.ref la), y2] ∧ NowH K H G h M (M.setT ((M.T.setS (M.T.S.delL (goneF M.T.S.pl))).setK (dropL M.T.kv pre))) ∧ Le (imm H1) (imm G)) ?_ ?_ ?_ ?_
  · refine ⟨_, rfl, ?_, fun _ _ h => h⟩
    rw [dropL_nil]
    exact nw
  · intro pre σ G ⟨_, _, _, l⟩
    exact fun a v k => imm_le (l a v k)
  · intro pre n post v σ G el ⟨y2, e, nw, l⟩ dv
    subst e
    cases dv
    have hMG := nw.at_
    have hnm : n ∈ goneF M.T.S.pl := by rw [el]; simp
    have hnp : n ∉ pre := fun z => by
      rw [el] at hgn
      exact (List.nodup_append.mp hgn).2.2 n z n (List.mem_cons_self ..) rfl
    refine ⟨_, rfl, h, _, _, _, _, rfl, hMG.ins, T.cls "ManagedHeap", T.noat "ManagedHeap" "state", rfl, M.t, _, _, _, _, rfl, hMG.sta.ins, T.cls "State", T.noat "State" "starts", rfl, _, rfl, M.T.sd, _, Sum.inl n, rfl, hMG.sta.dic, rfl, ?_, _, rfl, ?_, ?_⟩
    · show (valV (encK (dropL M.T.kv pre)) (Sum.inl n : Key)).isSome = true
      rw [encK_at (dropL_keys (hgk n hnm) hnp)]
      rfl
    · have hd : dropK (encK (dropL M.T.kv pre)) (Sum.inl n : Key) = encK (dropL M.T.kv (pre ++ [n])) := by rw [dropI_enc, dropL_snoc]
      rw [show dropK (encK ((M.setT ((M.T.setS (M.T.S.delL (goneF M.T.S.pl))).setK (dropL M.T.kv pre))).T.kv)) (Sum.inl n : Key) = _ from hd]
      exact nw.trans (hMG.sta' hMG.sta.setK)
    · exact fun a v k => imm_le_upd (show G M.T.sd = _ from hMG.sta.dic) rfl a v (l a v k)
  · intro σ G ⟨y2, e, nw, l⟩
    subst e
    refine ⟨_, rfl, hq ⟨(M.T.S.delL (goneF M.T.S.pl)).pl, _, _⟩ (encI (goneF M.T.S.pl)) _ _ _ ?_ nw rfl (Dp.le l du)⟩
    unfold collF
    rw [show (M.T.S.delL (goneF M.T.S.pl)).pl = _ from Sto.pl_delL _ _]
    rfl
end
end Hg
namespace Hg
open PySem PySem.Spec PyProof.Rows L2
/-! ### ManagedHeap: do_compact, do_make_room, do_slide -/
section
variable {P : Program} {w : World} {K : PySem.W.Frag} {mg : Str → Option Value} {base : Heap}
theorem slide_len (l : Lay) : (slideF l).length = l.length := by
  unfold slideF
  have : ∀ (l : Lay) (r : Lay × Int), (l.foldl slStep r).1.length = r.1.length + l.length := by
    intro l
    induction l with
    | nil => intro r; rfl
    | cons b l ih =>
      intro r
      rw [List.foldl_cons, ih]
      unfold slStep
      simp
      omega
  rw [this]
  simp
def spDoComp (P : Program) (w : World) (K : PySem.W.Frag) (mg : Str → Option Value) (base : Heap) : Sp := fun vs H Q E => ∃ (h : Addr) (M : Hps) (man : Man) (mf : List Addr), vs = [.ref h] ∧ HIn P w K mg base H h M man mf ∧ PerfK K H h M (compF man M.T.ph) Q E
theorem sc_docomp : FnScope ["self", "block"] ["self"] (defScope s_ManagedHeap_do_compact) := ⟨rfl, rfl, rfl, by decide +kernel, rfl, by decide +kernel, by decide +kernel⟩
theorem w_docomp (T : Txt P K mg) : Mt P w K mg base 4 (CHeap K) "do_compact" (spDoComp P w K mg base) := by
  have nd := sc_docomp.nd
  have c1 := w_moving (w := w) (base := base) T
  have c2 := w_layout (w := w) (base := base) T
  have c3 := w_slide (w := w) (base := base) T
  have c4 := w_relocate (w := w) (base := base) T
  refine mt_of T (fn_mem 87 rfl) (by decide +kernel) (by decide +kernel) sc_docomp (b1 fun _ _ _ _ _ _ _ => rfl) (fun vs H Q E ⟨_, _, _, _, e, _⟩ => by rw [e]; rfl) fun cdv A outer s H vs Q E hr ⟨h, M, man, mf, e, hI, hq, hE⟩ => ?_
  subst e
  obtain ⟨hM, hma, hdj, hok⟩ := hI
  refine ⟨_, (pss_cons (ps_expr (pe_mt0 c1 hr tk0 (pv 0))) (pss_one (ps_ret (pe_mt c4 hr tk0 (pv 0) (pa_cons (pe_frz (pe_lc (own := [("block", 1)]) (g := gName 1) (tt := tYes) (te := tOp (rIxT K) (tVar 1) (tC (.int 0))) rfl nd (pi_list (pe_cl c3 hr takes0 (pa_cons (pe_fld (pe_fld (pv 0) rfl) rfl) (pa_cons (pe_mt0 c2 hr takes0 (pv 0)) pa_nil)))) (blkOk_by (N := (["self", "block"] : List Str)) (sc := defScope s_ManagedHeap_do_compact) (by decide +kernel)) (fun _ _ _ _ _ => (pg_name (i := 1) nd rfl (.inl rfl) (.inr rfl))) (fun _ _ _ _ _ => pts_nil) (fun _ _ _ _ _ => (pe_ix ix_tup (pv 1) pe_int (fun _ _ => rfl))))) pa_nil))))), ?_⟩
  refine ⟨_, rfl, h, _, _, rfl, hM.ins, rfl, h, M, man, mf, rfl, hM, hma, fun hs => ?_, fun hs => hE .strat (by unfold compF; rw [if_pos hs])⟩
  obtain ⟨C, dx, fs, g1, g2, g3, g4, g5, g6, g7, _⟩ := hma.at_
  have hol : M.T.S.os.length ≤ 25 := by rw [← M.T.S.os_len]; exact hok.ln
  have hll : (layF M.T.ph).length ≤ 25 := by rw [layF_len]; exact hok.ln
  refine ⟨_, rfl, h, _, _, rfl, hM.ins, rfl, _, rfl, h, _, _, _, _, rfl, hM.ins, T.cls "ManagedHeap", T.noat "ManagedHeap" "manager", rfl, M.mgr, _, _, _, _, rfl, g1, g2, g3, g5, _, rfl, h, _, _, rfl, hM.ins, rfl, h, M, rfl, hM, hok.al, by omega, fun H1 lv e1 dl => ?_⟩
  refine ⟨_, lv, layF M.T.ph, rfl, dl, by omega, fun H2 u e2 du => ?_⟩
  have e12 : Ex H H2 := e1.trans e2
  obtain ⟨la, lxs, rfl, hls, hld⟩ := DI.lst_inv du
  refine ⟨la, rfl, ⟨lxs, SqL.le (leI H2) hls⟩, fun D nD => ?_⟩
  refine lc_d (l := slideF (layF M.T.ph)) (enc := encP) du (fun pre G => Col K NoF H2 D ((pre.map (·.1)).map PyData.int) pre.length G) (Col.start nD) (fun pre G c => Le.of c.ex) (fun pre b post v G el c hv => ?_) fun G c => ?_
  · obtain ⟨ab, rfl, hsb⟩ := hv.pair_inv
    have hpl : pre.length < 1000 := by
      have := congrArg List.length el
      rw [List.length_append, List.length_cons, slide_len] at this
      omega
    refine ⟨rfl, yes_ok ⟨_, rfl, ab, _, 0, .int b.1, rfl, rfl, SqT.le (Le.of c.ex) hsb, atI_nat (j := 0) rfl, ?_⟩⟩
    rw [List.map_append, List.map_append, List.length_append]
    exact c.add nD (ExF.refl _ _) (fun z => z) (.int _) (ltL (m := 1000) hpl (by decide))
  · obtain ⟨acc, ha, hd⟩ := c.at_
    refine ⟨D, acc, _, rfl, ha, hd, fun H3 k l d => ?_⟩
    have e3 : Ex H2 H3 := c.ex.but nD k l
    have e13 : Ex H H3 := e12.trans e3
    refine ⟨h, M, man, mf, _, (slideF (layF M.T.ph)).map fun b : Int × Int => b.1, rfl, hM.ex e13, hma.ex e13, hdj, hok.al, hok.gd.inn, by omega, (show DI K H3 (.ref D) (encI ((slideF (layF M.T.ph)).map fun b : Int × Int => b.1)) from d), fun H4 u nw du => ?_⟩
    refine hq (relocF M.T.ph ((slideF (layF M.T.ph)).map (·.1))) (.list ((relocMapF (layF M.T.ph) ((slideF (layF M.T.ph)).map (·.1))).map encT3)) _ _ _ ?_ ((NowH.of hM e13).trans nw) rfl du
    unfold compF movedF
    rw [if_neg (by rw [hs]; decide)]
/-! do_make_room -/
def spDoRoom (P : Program) (w : World) (K : PySem.W.Frag) (mg : Str → Option Value) (base : Heap) : Sp := fun vs H Q E => ∃ (h : Addr) (M : Hps) (man : Man) (mf : List Addr) (n : Int), vs = [.ref h, .int n] ∧ HIn P w K mg base H h M man mf ∧ 1 ≤ n ∧ n ≤ 1000 ∧ PerfK K H h M (roomF man M.T.ph n) Q E
theorem sc_doroom : FnScope ["self", "length", "room"] ["self", "length"] (defScope s_ManagedHeap_do_make_room) := ⟨rfl, rfl, rfl, by decide +kernel, rfl, by decide +kernel, by decide +kernel⟩
theorem w_doroom (T : Txt P K mg) : Mt P w K mg base 4 (CHeap K) "do_make_room" (spDoRoom P w K mg base) := by
  have nd := sc_doroom.nd
  have c1 := w_moving (w := w) (base := base) T
  have c2 := w_layout (w := w) (base := base) T
  have c3 := w_cr (w := w) (base := base) T
  have c4 := w_relocate (w := w) (base := base) T
  refine mt_of T (fn_mem 88 rfl) (by decide +kernel) (by decide +kernel) sc_doroom (b2 fun _ _ _ _ _ _ _ _ => rfl) (fun vs H Q E ⟨_, _, _, _, _, e, _⟩ => by rw [e]; rfl) fun cdv A outer s H vs Q E hr ⟨h, M, man, mf, n, e, hI, n0, n1, hq, hE⟩ => ?_
  subst e
  obtain ⟨hM, hma, hdj, hok⟩ := hI
  refine ⟨_, (pss_cons (ps_expr (pe_mt0 c1 hr tk0 (pv 0))) (pss_cons (ps_set (i := 2) nd rfl (.inl rfl) (pe_cl c3 hr takes0 (pa_cons (pe_fld (pe_fld (pv 0) rfl) rfl) (pa_cons (pe_mt0 c2 hr takes0 (pv 0)) (pa_cons (pe_lst pa_nil) (pa_cons (pv 1) pa_nil)))))) (pss_cons (ps_if (pt_cmpR op_isN (pv 2) pe_non (nomark _)) (pss_one (ps_raise1 (er_NoRoom T) hr rfl tk0 (pv 1))) pss_nil) (pss_one (ps_ret (pe_mt c4 hr tk0 (pv 0) (pa_cons (pe_ix ix_tup (pv 2) pe_int (fun _ _ => rfl)) pa_nil))))))), ?_⟩
  refine ⟨_, rfl, h, _, _, rfl, hM.ins, rfl, h, M, man, mf, rfl, hM, hma, fun hs => ?_, fun hs => hE .strat (by unfold roomF; rw [if_pos hs])⟩
  obtain ⟨C, dx, fs, g1, g2, g3, g4, g5, g6, g7, _⟩ := hma.at_
  have hs0 := hma.s0
  have hs1 := hma.s1
  have hol : M.T.S.os.length ≤ 25 := by rw [← M.T.S.os_len]; exact hok.ln
  refine ⟨_, rfl, h, _, _, _, _, rfl, hM.ins, T.cls "ManagedHeap", T.noat "ManagedHeap" "manager", rfl, M.mgr, _, _, _, _, rfl, g1, g2, g3, g5, _, rfl, h, _, _, rfl, hM.ins, rfl, h, M, rfl, hM, hok.al, by omega, fun H1 lv e1 dl => ?_⟩
  refine ⟨Nat.zero_le _, fun p np => ⟨_, rfl, ?_⟩⟩
  have e2 : Ex H1 (upd H1 p (.lst [])) := Ex.new np
  have hlok := Good.lay hs0 hs1 hok.gd.inn (Nat.le_trans hok.ln (by decide))
  refine ⟨man.size, n, lv, .ref p, layF M.T.ph, rfl, DI.ex dl e2, ⟨p, rfl, SqL.of upd_same⟩, hlok, n0, n1, fun H2 z e3 dz => ?_⟩
  have e13 : Ex H H2 := (e1.trans e2).trans e3
  cases hcr : cheapF man.size (layF M.T.ph) n with
  | none =>
    rw [hcr] at dz
    have ez := DI.non_inv dz
    subst ez
    refine ⟨_, rfl, rfl, _, rfl, itY rfl ⟨_, rfl, .inr ⟨n, rfl, small_log ⟨by omega, by omega⟩⟩, fun d hd => ?_⟩⟩
    exact hE (.room n) (by unfold roomF; rw [if_neg (by rw [hs]; decide), hcr]) _ d (e13.trans (Ex.new hd)) upd_same
  | some r =>
    rw [hcr] at dz
    obtain ⟨ua, xs, rfl, hus, hud⟩ := DI.tup_inv dz
    obtain ⟨v0, hv0, dv0⟩ := DpAll.at_ hud (i := 0) (d := encI r.1) rfl
    refine ⟨_, rfl, rfl, _, rfl, itN refN ⟨_, rfl, h, _, _, rfl, (hM.ex e13).ins, rfl, _, rfl, ua, _, 0, v0, rfl, rfl, SqT.le (leI H2) hus, atI_nat (j := 0) hv0, h, M, man, mf, _, r.1, rfl, hM.ex e13, hma.ex e13, hdj, hok.al, hok.gd.inn, by omega, dv0, fun H4 u nw du => ?_⟩⟩
    refine hq (relocF M.T.ph r.1) (.list ((relocMapF (layF M.T.ph) r.1).map encT3)) _ _ _ ?_ ((NowH.of hM e13).trans nw) rfl du
    unfold roomF movedF
    rw [if_neg (by rw [hs]; decide), hcr]
/-! do_slide -/
def spDoSlide (P : Program) (w : World) (K : PySem.W.Frag) (mg : Str → Option Value) (base : Heap) : Sp := fun vs H Q E => ∃ (h : Addr) (M : Hps) (man : Man) (mf : List Addr), vs = [.ref h] ∧ HIn P w K mg base H h M man mf ∧ PerfK K H h M (slideEF man M.T.ph) Q E
abbrev N_doslide : List Str := ["self", "end", "start", "length", "number"]
theorem sc_doslide : FnScope N_doslide ["self"] (defScope s_ManagedHeap_do_slide) := ⟨rfl, rfl, rfl, by decide +kernel, rfl, by decide +kernel, by decide +kernel⟩
theorem w_doslide (T : Txt P K mg) : Mt P w K mg base 4 (CHeap K) "do_slide" (spDoSlide P w K mg base) := by
  have nd := sc_doslide.nd
  have c1 := w_moving (w := w) (base := base) T
  have c2 := w_layout (w := w) (base := base) T
  have c3 := w_numat (w := w) (base := base) T
  refine mt_of T (fn_mem 89 rfl) (by decide +kernel) (by decide +kernel) sc_doslide (b1 fun _ _ _ _ _ _ _ => rfl) (fun vs H Q E ⟨_, _, _, _, e, _⟩ => by rw [e]; rfl) fun cdv A outer s H vs Q E hr ⟨h, M, man, mf, e, hI, hq, hE⟩ => ?_
  subst e
  obtain ⟨hM, hma, hdj, hok⟩ := hI
  refine ⟨_, (pss_cons (ps_expr (pe_mt0 c1 hr tk0 (pv 0))) (pss_cons (ps_set (i := 1) nd rfl (.inl rfl) pe_int) (pss_cons (ps_for ps0 rfl (pi_list (pe_mt0 c2 hr tk0 (pv 0))) (pg_tup rfl (pgs_cons (pg_name (i := 2) nd rfl (.inl rfl)) (pgs_cons (pg_name (i := 3) nd rfl (.inl rfl)) pgs_nil))) (pss_cons (ps_if (pt_cmpR op_gt (pv 2) (pv 1) (nomark _)) (pss_cons (ps_set (i := 4) nd rfl (.inl rfl) (pe_mt c3 hr tk0 (pv 0) (pa_cons (pv 2) pa_nil))) (pss_cons (ps_dput (hu_of hr) (pe_fld (pe_fld (pv 0) rfl) rfl) (pv 4) (pv 1) rfl) (pss_one (ps_ret (pe_tup (pa_cons (pv 4) (pa_cons (pv 2) (pa_cons (pv 1) pa_nil)))))))) pss_nil) (pss_one (ps_set (i := 1) nd rfl (.inl rfl) (pe_op op_add (pv 2) (pv 3)))))) (pss_one (ps_ret pe_non))))), ?_⟩
  refine ⟨_, rfl, h, _, _, rfl, hM.ins, rfl, h, M, man, mf, rfl, hM, hma, fun hs => ?_, fun hs => hE .strat (by unfold slideEF; rw [if_pos hs])⟩
  have hol : M.T.S.os.length ≤ 25 := by rw [← M.T.S.os_len]; exact hok.ln
  refine ⟨_, rfl, h, _, _, rfl, hM.ins, rfl, h, M, rfl, hM, hok.al, by omega, fun H1 lv e1 dl => ?_⟩
  obtain ⟨la, lxs, rfl, hls, hld⟩ := DI.lst_inv dl
  refine ⟨la, rfl, ⟨lxs, SqL.le (leI H1) hls⟩, ?_⟩
  refine for_d (l := layF M.T.ph) (enc := encP) dl (fun pre σ G => ∃ e y2 y3 y4, σ = [some (.ref h), some (.int e), y2, y3, y4] ∧ Ex H1 G ∧ ∀ post, layF M.T.ph = pre ++ post → slideGo 0 (layF M.T.ph) = slideGo e post) ?_ ?_ ?_ ?_
  · exact ⟨0, _, _, _, rfl, ExF.refl _ _, fun post el => by rw [el]; rfl⟩
  · intro pre σ G ⟨_, _, _, _, _, e, _⟩
    exact Le.of e
  · intro pre b post v σ G el ⟨e, y2, y3, y4, es, eG, hgo⟩ hv
    subst es
    obtain ⟨ab, rfl, hsb⟩ := hv.pair_inv
    have hgo1 := hgo (b :: post) el
    have hMG := hM.ex (e1.trans eG)
    refine ⟨ab, _, rfl, SqT.le (Le.of eG) hsb, rfl, _, _, rfl, _, _, rfl, rfl, ?_⟩
    refine ⟨_, rfl, _, rfl, _, _, rfl, rfl, _, rfl, iteD (fun hgt => ?_) fun hgt => ?_⟩
    · have hbm : b ∈ layF M.T.ph := by rw [el]; simp
      obtain ⟨n, r, hnr⟩ := numAt_ne hok.al hbm
      have hsg : slideGo 0 (layF M.T.ph) = some (b.1, e) := by
        rw [hgo1]
        show (if b.1 > e then some (b.1, e) else _) = _
        rw [if_pos hgt]
      refine ⟨_, rfl, h, _, _, rfl, hMG.ins, rfl, _, rfl, h, M, b.1, n, r, rfl, hMG, by rw [show M.T.kv.map (·.1) = _ from hok.al.ke]; exact hok.al.kn, by rw [hok.al.kvl]; omega, hnr, fun H2 e2 => ?_⟩
      have e02 : Ex H H2 := (e1.trans eG).trans e2
      have hM2 := hM.ex e02
      refine ⟨_, rfl, _, rfl, h, _, _, _, _, rfl, hM2.ins, T.cls "ManagedHeap", T.noat "ManagedHeap" "state", rfl, M.t, _, _, _, _, rfl, hM2.sta.ins, T.cls "State", T.noat "State" "starts", rfl, _, rfl, M.T.sd, _, rfl, DPut.k (k := Sum.inl n) hM2.sta.dic (ltL (m := 1000) (by unfold encK; rw [List.length_map, hok.al.kvl]; omega) (by decide)), ?_⟩
      rw [putI_enc]
      have nw : NowH K H _ h M (M.setT (M.T.setK (putI M.T.kv n e))) := (NowH.of hM e02).trans (hM2.sta' hM2.sta.setK)
      refine ⟨_, rfl, _, rfl, _, rfl, sz3, fun t nt => ?_⟩
      refine hq ⟨M.T.S.pl, putI M.T.kv n e, M.T.cur⟩ (.tuple [.int n, .int b.1, .int e]) _ _ _ ?_ (nw.trans (NowH.of nw.at_ (Ex.new nt))) rfl (DI.tupOf upd_same (.cons (.int _) (.cons (.int _) (.cons (.int _) .nil))))
      unfold slideEF
      rw [if_neg (by rw [hs]; decide), hsg]
      dsimp only
      rw [show numAtL M.T.ph.starts b.1 = n :: r from hnr]
      rfl
    · refine ⟨_, rfl, _, rfl, _, _, rfl, rfl, _, _, _, _, rfl, eG, fun post2 el2 => ?_⟩
      rw [List.append_assoc] at el2
      rw [hgo ([b] ++ post2) el2]
      show (if b.1 > e then some (b.1, e) else slideGo (b.1 + b.2) post2) = _
      rw [if_neg hgt]
  · intro σ G ⟨e, y2, y3, y4, es, eG, hgo⟩
    subst es
    refine hq M.T.ph .none _ M.T _ ?_ (NowH.of hM (e1.trans eG)) rfl .non
    unfold slideEF
    rw [if_neg (by rw [hs]; decide), hgo [] (by simp)]
    rfl
end
end Hg
namespace Hg
open PySem PySem.Spec PyProof.Rows L2
/-! ### ManagedHeap: perform -/
section
variable {P : Program} {w : World} {K : PySem.W.Frag} {mg : Str → Option Value} {base : Heap}
theorem DI.tup1 {H : Hp} {v : V} {x : Str} (h : DI K H v (.tuple [.str x])) : ∃ a, v = .ref a ∧ SqT K (imm H) a [.str x] := by
  obtain ⟨a, xs, e, hs, hd⟩ := DI.tup_inv h
  cases hd with
  | cons d1 t =>
    cases t
    cases d1
    exact ⟨a, e, hs⟩
theorem DI.tup2 {H : Hp} {v : V} {x : Str} {n : Int} (h : DI K H v (.tuple [.str x, .int n])) : ∃ a, v = .ref a ∧ SqT K (imm H) a [.str x, .int n] := by
  obtain ⟨a, xs, e, hs, hd⟩ := DI.tup_inv h
  cases hd with
  | cons d1 t => cases t with
    | cons d2 t =>
      cases t
      cases d1
      cases d2
      exact ⟨a, e, hs⟩
theorem DI.tup4 {H : Hp} {v : V} {x : Str} {n i : Int} {f : PyData} (h : DI K H v (.tuple [.str x, .int n, .int i, f])) : ∃ a u, v = .ref a ∧ SqT K (imm H) a [.str x, .int n, .int i, u] ∧ DI K H u f := by
  obtain ⟨a, xs, e, hs, hd⟩ := DI.tup_inv h
  cases hd with
  | cons d1 t => cases t with
    | cons d2 t => cases t with
      | cons d3 t => cases t with
        | cons d4 t =>
          cases t
          cases d1
          cases d2
          cases d3
          exact ⟨a, _, e, hs, d4⟩
def spPerform (P : Program) (w : World) (K : PySem.W.Frag) (mg : Str → Option Value) (base : Heap) : Sp := fun vs H Q E => ∃ (h : Addr) (M : Hps) (man : Man) (mf : List Addr) (v : V) (ev : Ev), vs = [.ref h, v] ∧ HIn P w K mg base H h M man mf ∧ DI K H v (encEv ev) ∧ EvOk ev ∧ PerfK K H h M (performF man M.T.ph ev) Q E
abbrev N_perform : List Str := ["self", "event", "word", "store"]
theorem sc_perform : FnScope N_perform ["self", "event"] (defScope s_ManagedHeap_perform) := ⟨rfl, rfl, rfl, by decide +kernel, rfl, by decide +kernel, by decide +kernel⟩
theorem get_some {S : Sto} {n : Int} {o : Ob} (h : S.get n = some o) : S.pl.get n = some o.fs := by
  rw [Sto.pl_get, h]
  rfl
theorem get_no {S : Sto} {n : Int} (h : S.get n = none) : S.pl.get n = none := by
  rw [Sto.pl_get, h]
  rfl
theorem w_perform (T : Txt P K mg) : Mt P w K mg base 14 (CHeap K) "perform" (spPerform P w K mg base) := by
  have nd := sc_perform.nd
  have c1 := w_alloc (w := w) (base := base) T
  have c2 := w_swrite (w := w) (base := base) T
  have c3 := w_dorel (w := w) (base := base) T
  have c4 := w_addR (w := w) (base := base) T
  have c5 := w_remR (w := w) (base := base) T
  have c6 := w_docoll (w := w) (base := base) T
  have c7 := w_docomp (w := w) (base := base) T
  have c8 := w_doroom (w := w) (base := base) T
  have c9 := w_doslide (w := w) (base := base) T
  refine mt_of T (fn_mem 90 rfl) (by decide +kernel) (by decide +kernel) sc_perform (b2 fun _ _ _ _ _ _ _ _ => rfl) (fun vs H Q E ⟨_, _, _, _, _, _, e, _⟩ => by rw [e]; rfl) fun cdv A outer s H vs Q E hr ⟨h, M, man, mf, v, ev, e, hI, hev, hok2, hK⟩ => ?_
  subst e
  have hM := hI.hp
  have hok := hI.ok
  refine ⟨_, (pss_cons (ps_set (i := 2) nd rfl (.inl rfl) (pe_ix ix_tup (pv 1) pe_int (fun _ _ => rfl))) (pss_cons (ps_set (i := 3) nd rfl (.inl rfl) (pe_fld (pe_fld (pv 0) rfl) rfl)) (pss_cons (ps_if (pt_cmpR op_eq (pv 2) pe_str (nomark _)) (pss_one (ps_ret (pe_mt c1 hr tk0 (pv 0) (pa_cons (pe_ix ix_tup (pv 1) pe_int (fun _ _ => rfl)) pa_nil)))) pss_nil) (pss_cons (ps_if (pt_cmpR op_eq (pv 2) pe_str (nomark _)) (pss_one (ps_ret (pe_mt c2 hr tk0 (pv 3) (pa_cons (pe_ix ix_tup (pv 1) pe_int (fun _ _ => rfl)) (pa_cons (pe_ix ix_tup (pv 1) pe_int (fun _ _ => rfl)) (pa_cons (pe_ix ix_tup (pv 1) pe_int (fun _ _ => rfl)) pa_nil)))))) pss_nil) (pss_cons (ps_if (pt_cmpR op_eq (pv 2) pe_str (nomark _)) (pss_one (ps_ret (pe_mt c3 hr tk0 (pv 0) (pa_cons (pe_ix ix_tup (pv 1) pe_int (fun _ _ => rfl)) pa_nil)))) pss_nil) (pss_cons (ps_if (pt_cmpR op_eq (pv 2) pe_str (nomark _)) (pss_one (ps_ret (pe_mt c4 hr tk0 (pv 3) (pa_cons (pe_ix ix_tup (pv 1) pe_int (fun _ _ => rfl)) pa_nil)))) pss_nil) (pss_cons (ps_if (pt_cmpR op_eq (pv 2) pe_str (nomark _)) (pss_one (ps_ret (pe_mt c5 hr tk0 (pv 3) (pa_cons (pe_ix ix_tup (pv 1) pe_int (fun _ _ => rfl)) pa_nil)))) pss_nil) (pss_cons (ps_if (pt_cmpR op_eq (pv 2) pe_str (nomark _)) (pss_one (ps_ret (pe_mt0 c6 hr tk0 (pv 0)))) pss_nil) (pss_cons (ps_if (pt_cmpR op_eq (pv 2) pe_str (nomark _)) (pss_one (ps_ret (pe_mt0 c7 hr tk0 (pv 0)))) pss_nil) (pss_cons (ps_if (pt_cmpR op_eq (pv 2) pe_str (nomark _)) (pss_one (ps_ret (pe_mt c8 hr tk0 (pv 0) (pa_cons (pe_ix ix_tup (pv 1) pe_int (fun _ _ => rfl)) pa_nil)))) pss_nil) (pss_one (ps_ret (pe_mt0 c9 hr tk0 (pv 0)))))))))))))), ?_⟩
  have hS := hM.sta.sto
  have hmod : ∀ {H' : Hp} {S' : Sto}, Now K H H' M.T.s M.T.S S' → NowH K H H' h M (M.setT (M.T.setS S')) := fun n => hM.sta' (hM.sta.sto' n)
  have hnow : NowH K H H h M (M.setT M.T) := NowH.of hM (ExF.refl _ _)
  cases ev with
  | alloc n =>
    obtain ⟨a, rfl, hs⟩ := DI.tup2 hev
    have hs := SqT.le (leI H) hs
    refine ⟨_, rfl, a, _, 0, .str "allocate", rfl, rfl, hs, atI_nat (j := 0) rfl, _, rfl, h, _, _, _, _, rfl, hM.ins, T.cls "ManagedHeap", T.noat "ManagedHeap" "state", rfl, M.t, _, _, _, _, rfl, hM.sta.ins, T.cls "State", T.noat "State" "store", rfl, ?_⟩
    exact ⟨_, rfl, rfl, _, rfl, itY rfl ⟨_, rfl, h, _, _, rfl, hM.ins, rfl, _, rfl, a, _, 1, .int n, rfl, rfl, hs, atI_nat (j := 1) rfl, h, M, man, mf, n, rfl, hI, hok2.1, hok2.2, hK⟩⟩
  | write n i f =>
    obtain ⟨a, u, rfl, hs, du⟩ := DI.tup4 hev
    have hs := SqT.le (leI H) hs
    refine ⟨_, rfl, a, _, 0, .str "write", rfl, rfl, hs, atI_nat (j := 0) rfl, _, rfl, h, _, _, _, _, rfl, hM.ins, T.cls "ManagedHeap", T.noat "ManagedHeap" "state", rfl, M.t, _, _, _, _, rfl, hM.sta.ins, T.cls "State", T.noat "State" "store", rfl, ?_⟩
    refine ⟨_, rfl, rfl, _, rfl, itN (by decide +kernel) ?_⟩
    refine ⟨_, rfl, rfl, _, rfl, itY rfl ⟨_, rfl, M.T.s, _, _, rfl, hS.ins, rfl, _, rfl, a, _, 1, .int n, rfl, rfl, hs, atI_nat (j := 1) rfl, _, rfl, a, _, 2, .int i, rfl, rfl, hs, atI_nat (j := 2) rfl, _, rfl, a, _, 3, u, rfl, rfl, hs, atI_nat (j := 3) rfl, M.T.s, M.T.S, n, i, u, f, rfl, hS, du, small_log hok2.1, small_log hok2.2.1, fun t ht => ?_, fun o ho h0 h1 ht H' nS => ?_, fun o t ho h0 h1 ht hn => ?_, fun o ho hx => ?_, fun ho => ?_⟩⟩
    · have hf := hok2.2.2
      rw [tgt_some ht] at hf
      exact small_log hf
    · refine hK.1 ⟨(M.T.S.setF n i.toNat f).pl, M.T.kv, M.T.cur⟩ .none _ _ _ ?_ (hmod nS) rfl .non
      show writeF M.T.ph n i f = _
      unfold writeF
      rw [show M.T.ph.st.get n = some o.fs from get_some ho, Sto.pl_setF]
      dsimp only
      rw [if_pos ⟨h0, h1⟩]
      have hb : badT M.T.ph.st f = none := by
        unfold badT
        cases ht2 : tgt f with
        | none => rfl
        | some t =>
          show (if (M.T.S.pl.get t).isNone = true then some t else none) = none
          rw [if_neg]
          intro z
          refine ht t ht2 ?_
          cases hg : M.T.S.get t with
          | none => rfl
          | some o2 => rw [get_some hg] at z; cases z
      rw [hb]
      rfl
    · refine hK.2 (.obj t) ?_
      show writeF M.T.ph n i f = _
      unfold writeF
      rw [show M.T.ph.st.get n = some o.fs from get_some ho]
      dsimp only
      rw [if_pos ⟨h0, h1⟩]
      have hb : badT M.T.ph.st f = some t := by
        unfold badT
        rw [ht]
        show (if (M.T.S.pl.get t).isNone = true then some t else none) = some t
        rw [if_pos]
        rw [get_no hn]
        rfl
      rw [hb]
    · refine hK.2 (.field i) ?_
      show writeF M.T.ph n i f = _
      unfold writeF
      rw [show M.T.ph.st.get n = some o.fs from get_some ho]
      dsimp only
      rw [if_neg hx]
    · refine hK.2 (.obj n) ?_
      show writeF M.T.ph n i f = _
      unfold writeF
      rw [show M.T.ph.st.get n = none from get_no ho]
  | release n =>
    obtain ⟨a, rfl, hs⟩ := DI.tup2 hev
    have hs := SqT.le (leI H) hs
    refine ⟨_, rfl, a, _, 0, .str "release", rfl, rfl, hs, atI_nat (j := 0) rfl, _, rfl, h, _, _, _, _, rfl, hM.ins, T.cls "ManagedHeap", T.noat "ManagedHeap" "state", rfl, M.t, _, _, _, _, rfl, hM.sta.ins, T.cls "State", T.noat "State" "store", rfl, ?_⟩
    refine ⟨_, rfl, rfl, _, rfl, itN (by decide +kernel) ?_⟩
    refine ⟨_, rfl, rfl, _, rfl, itN (by decide +kernel) ?_⟩
    exact ⟨_, rfl, rfl, _, rfl, itY rfl ⟨_, rfl, h, _, _, rfl, hM.ins, rfl, _, rfl, a, _, 1, .int n, rfl, rfl, hs, atI_nat (j := 1) rfl, h, M, man, mf, n, rfl, hI, hok2, hK⟩⟩
  | addR n =>
    obtain ⟨a, rfl, hs⟩ := DI.tup2 hev
    have hs := SqT.le (leI H) hs
    refine ⟨_, rfl, a, _, 0, .str "addRoot", rfl, rfl, hs, atI_nat (j := 0) rfl, _, rfl, h, _, _, _, _, rfl, hM.ins, T.cls "ManagedHeap", T.noat "ManagedHeap" "state", rfl, M.t, _, _, _, _, rfl, hM.sta.ins, T.cls "State", T.noat "State" "store", rfl, ?_⟩
    refine ⟨_, rfl, rfl, _, rfl, itN (by decide +kernel) ?_⟩
    refine ⟨_, rfl, rfl, _, rfl, itN (by decide +kernel) ?_⟩
    refine ⟨_, rfl, rfl, _, rfl, itN (by decide +kernel) ?_⟩
    have hrl : M.T.S.roots.length ≤ 1000 := by
      have h1 := nodup_len hok.rn hok.cl.rk
      have h2 := hok.ln
      unfold Pl.keys at h1
      rw [List.length_map] at h1
      show M.T.ph.st.roots.length ≤ 1000
      omega
    refine ⟨_, rfl, rfl, _, rfl, itY rfl ⟨_, rfl, M.T.s, _, _, rfl, hS.ins, rfl, _, rfl, a, _, 1, .int n, rfl, rfl, hs, atI_nat (j := 1) rfl, M.T.s, M.T.S, n, rfl, hS, small_log hok2, hrl, fun o ho hr1 => ?_, fun o q ho hr1 H' nS => ?_, fun ho => ?_⟩⟩
    · refine hK.1 M.T.ph (.bool false) _ _ _ ?_ hnow rfl (.bl _)
      show addRF M.T.ph n = _
      unfold addRF
      rw [show M.T.ph.st.get n = some o.fs from get_some ho]
      exact if_pos hr1
    · refine hK.1 ⟨(M.T.S.addR q n).pl, M.T.kv, M.T.cur⟩ (.bool true) _ _ _ ?_ (hmod nS) rfl (.bl _)
      show addRF M.T.ph n = _
      unfold addRF
      rw [show M.T.ph.st.get n = some o.fs from get_some ho]
      exact if_neg hr1
    · refine hK.2 (.obj n) ?_
      show addRF M.T.ph n = _
      unfold addRF
      rw [show M.T.ph.st.get n = none from get_no ho]
  | remR n =>
    obtain ⟨a, rfl, hs⟩ := DI.tup2 hev
    have hs := SqT.le (leI H) hs
    refine ⟨_, rfl, a, _, 0, .str "removeRoot", rfl, rfl, hs, atI_nat (j := 0) rfl, _, rfl, h, _, _, _, _, rfl, hM.ins, T.cls "ManagedHeap", T.noat "ManagedHeap" "state", rfl, M.t, _, _, _, _, rfl, hM.sta.ins, T.cls "State", T.noat "State" "store", rfl, ?_⟩
    refine ⟨_, rfl, rfl, _, rfl, itN (by decide +kernel) ?_⟩
    refine ⟨_, rfl, rfl, _, rfl, itN (by decide +kernel) ?_⟩
    refine ⟨_, rfl, rfl, _, rfl, itN (by decide +kernel) ?_⟩
    refine ⟨_, rfl, rfl, _, rfl, itN (by decide +kernel) ?_⟩
    refine ⟨_, rfl, rfl, _, rfl, itY rfl ⟨_, rfl, M.T.s, _, _, rfl, hS.ins, rfl, _, rfl, a, _, 1, .int n, rfl, rfl, hs, atI_nat (j := 1) rfl, M.T.s, M.T.S, n, rfl, hS, small_log hok2, fun o ho hr1 => ?_, fun o ho hr1 H' nS => ?_, fun ho => ?_⟩⟩
    · refine hK.1 M.T.ph (.bool false) _ _ _ ?_ hnow rfl (.bl _)
      show remRF M.T.ph n = _
      unfold remRF
      rw [show M.T.ph.st.get n = some o.fs from get_some ho]
      exact if_neg hr1
    · refine hK.1 ⟨(M.T.S.remR n).pl, M.T.kv, M.T.cur⟩ (.bool true) _ _ _ ?_ (hmod nS) rfl (.bl _)
      show remRF M.T.ph n = _
      unfold remRF
      rw [show M.T.ph.st.get n = some o.fs from get_some ho]
      exact if_pos hr1
    · refine hK.2 (.obj n) ?_
      show remRF M.T.ph n = _
      unfold remRF
      rw [show M.T.ph.st.get n = none from get_no ho]
  | coll =>
    obtain ⟨a, rfl, hs⟩ := DI.tup1 hev
    have hs := SqT.le (leI H) hs
    refine ⟨_, rfl, a, _, 0, .str "collect", rfl, rfl, hs, atI_nat (j := 0) rfl, _, rfl, h, _, _, _, _, rfl, hM.ins, T.cls "ManagedHeap", T.noat "ManagedHeap" "state", rfl, M.t, _, _, _, _, rfl, hM.sta.ins, T.cls "State", T.noat "State" "store", rfl, ?_⟩
    refine ⟨_, rfl, rfl, _, rfl, itN (by decide +kernel) ?_⟩
    refine ⟨_, rfl, rfl, _, rfl, itN (by decide +kernel) ?_⟩
    refine ⟨_, rfl, rfl, _, rfl, itN (by decide +kernel) ?_⟩
    refine ⟨_, rfl, rfl, _, rfl, itN (by decide +kernel) ?_⟩
    refine ⟨_, rfl, rfl, _, rfl, itN (by decide +kernel) ?_⟩
    exact ⟨_, rfl, rfl, _, rfl, itY rfl ⟨_, rfl, h, _, _, rfl, hM.ins, rfl, h, M, man, mf, rfl, hI, hK⟩⟩
  | comp =>
    obtain ⟨a, rfl, hs⟩ := DI.tup1 hev
    have hs := SqT.le (leI H) hs
    refine ⟨_, rfl, a, _, 0, .str "compact", rfl, rfl, hs, atI_nat (j := 0) rfl, _, rfl, h, _, _, _, _, rfl, hM.ins, T.cls "ManagedHeap", T.noat "ManagedHeap" "state", rfl, M.t, _, _, _, _, rfl, hM.sta.ins, T.cls "State", T.noat "State" "store", rfl, ?_⟩
    refine ⟨_, rfl, rfl, _, rfl, itN (by decide +kernel) ?_⟩
    refine ⟨_, rfl, rfl, _, rfl, itN (by decide +kernel) ?_⟩
    refine ⟨_, rfl, rfl, _, rfl, itN (by decide +kernel) ?_⟩
    refine ⟨_, rfl, rfl, _, rfl, itN (by decide +kernel) ?_⟩
    refine ⟨_, rfl, rfl, _, rfl, itN (by decide +kernel) ?_⟩
    refine ⟨_, rfl, rfl, _, rfl, itN (by decide +kernel) ?_⟩
    exact ⟨_, rfl, rfl, _, rfl, itY rfl ⟨_, rfl, h, _, _, rfl, hM.ins, rfl, h, M, man, mf, rfl, hI, hK⟩⟩
  | room n =>
    obtain ⟨a, rfl, hs⟩ := DI.tup2 hev
    have hs := SqT.le (leI H) hs
    refine ⟨_, rfl, a, _, 0, .str "makeRoom", rfl, rfl, hs, atI_nat (j := 0) rfl, _, rfl, h, _, _, _, _, rfl, hM.ins, T.cls "ManagedHeap", T.noat "ManagedHeap" "state", rfl, M.t, _, _, _, _, rfl, hM.sta.ins, T.cls "State", T.noat "State" "store", rfl, ?_⟩
    refine ⟨_, rfl, rfl, _, rfl, itN (by decide +kernel) ?_⟩
    refine ⟨_, rfl, rfl, _, rfl, itN (by decide +kernel) ?_⟩
    refine ⟨_, rfl, rfl, _, rfl, itN (by decide +kernel) ?_⟩
    refine ⟨_, rfl, rfl, _, rfl, itN (by decide +kernel) ?_⟩
    refine ⟨_, rfl, rfl, _, rfl, itN (by decide +kernel) ?_⟩
    refine ⟨_, rfl, rfl, _, rfl, itN (by decide +kernel) ?_⟩
    refine ⟨_, rfl, rfl, _, rfl, itN (by decide +kernel) ?_⟩
    exact ⟨_, rfl, rfl, _, rfl, itY rfl ⟨_, rfl, h, _, _, rfl, hM.ins, rfl, _, rfl, a, _, 1, .int n, rfl, rfl, hs, atI_nat (j := 1) rfl, h, M, man, mf, n, rfl, hI, hok2.1, hok2.2, hK⟩⟩
  | slide =>
    obtain ⟨a, rfl, hs⟩ := DI.tup1 hev
    have hs := SqT.le (leI H) hs
    refine ⟨_, rfl, a, _, 0, .str "slide", rfl, rfl, hs, atI_nat (j := 0) rfl, _, rfl, h, _, _, _, _, rfl, hM.ins, T.cls "ManagedHeap", T.noat "ManagedHeap" "state", rfl, M.t, _, _, _, _, rfl, hM.sta.ins, T.cls "State", T.noat "State" "store", rfl, ?_⟩
    refine ⟨_, rfl, rfl, _, rfl, itN (by decide +kernel) ?_⟩
    refine ⟨_, rfl, rfl, _, rfl, itN (by decide +kernel) ?_⟩
    refine ⟨_, rfl, rfl, _, rfl, itN (by decide +kernel) ?_⟩
    refine ⟨_, rfl, rfl, _, rfl, itN (by decide +kernel) ?_⟩
    refine ⟨_, rfl, rfl, _, rfl, itN (by decide +kernel) ?_⟩
    refine ⟨_, rfl, rfl, _, rfl, itN (by decide +kernel) ?_⟩
    refine ⟨_, rfl, rfl, _, rfl, itN (by decide +kernel) ?_⟩
    refine ⟨_, rfl, rfl, _, rfl, itN (by decide +kernel) ?_⟩
    exact ⟨_, rfl, h, _, _, rfl, hM.ins, rfl, h, M, man, mf, rfl, hI, hK⟩
end
end Hg
namespace Hg
open PySem PySem.Spec PyProof.Rows L2
/-! ### ManagedHeap: change -/
theorem passM {X : Cx} {K E₁ : Value → Shared → Prop} (hx : X.xe = fun e s => wpAny (model X.prog X.w) X.A (leaving X.env e) (fun _ s2 => K e s2) E₁ s) (hd : Option Value) : PassesOwnAt (model X.prog X.w) (X.A.mark hd) X.A X.env X.xe := hx ▸ PassesOwnAt.leaving
def told (ev : Ev) (r : PyData) : Bool := match ev with
  | .slide => (match r with
    | .none => false
    | _ => true)
  | _ => true
def Hps.setB (M : Hps) (t : Addr) (T : Stt) : Hps := ⟨M.dx, M.mgr, t, M.el, M.vl, T, M.es, M.evs⟩
def Hps.snoc (M : Hps) (x : V) (ev : Ev) : Hps := ⟨M.dx, M.mgr, M.t, M.el, M.vl, M.T, M.es ++ [x], M.evs ++ [ev]⟩
def wordE : Ev → Str
  | .alloc _ => "allocate"
  | .write _ _ _ => "write"
  | .release _ => "release"
  | .addR _ => "addRoot"
  | .remR _ => "removeRoot"
  | .coll => "collect"
  | .comp => "compact"
  | .room _ => "makeRoom"
  | .slide => "slide"
theorem wordE_ne : ∀ {ev : Ev}, ev ≠ .slide → ¬ V.str (wordE ev) = V.str "slide"
  | .alloc _, _ => (by decide +kernel : ¬ V.str "allocate" = V.str "slide")
  | .write _ _ _, _ => (by decide +kernel : ¬ V.str "write" = V.str "slide")
  | .release _, _ => (by decide +kernel : ¬ V.str "release" = V.str "slide")
  | .addR _, _ => (by decide +kernel : ¬ V.str "addRoot" = V.str "slide")
  | .remR _, _ => (by decide +kernel : ¬ V.str "removeRoot" = V.str "slide")
  | .coll, _ => (by decide +kernel : ¬ V.str "collect" = V.str "slide")
  | .comp, _ => (by decide +kernel : ¬ V.str "compact" = V.str "slide")
  | .room _, _ => (by decide +kernel : ¬ V.str "makeRoom" = V.str "slide")
  | .slide, h => absurd rfl h
theorem told_ne {r : PyData} : ∀ {ev : Ev}, ev ≠ .slide → told ev r = true
  | .alloc _, _ => rfl
  | .write _ _ _, _ => rfl
  | .release _, _ => rfl
  | .addR _, _ => rfl
  | .remR _, _ => rfl
  | .coll, _ => rfl
  | .comp, _ => rfl
  | .room _, _ => rfl
  | .slide, h => absurd rfl h
section
variable {K : PySem.W.Frag}
theorem ev_tup {H : Hp} {v : V} {ev : Ev} (h : DI K H v (encEv ev)) : ∃ a xs, v = .ref a ∧ SqT K (imm H) a xs ∧ xs[0]? = some (.str (wordE ev)) := by
  have key : ∀ {x : Str} {ds : List PyData}, DI K H v (.tuple (.str x :: ds)) → ∃ a xs, v = .ref a ∧ SqT K (imm H) a xs ∧ xs[0]? = some (.str x) := by
    intro x ds h
    obtain ⟨a, xs, e, hs, hd⟩ := DI.tup_inv h
    cases hd with
    | cons d1 t =>
      cases d1
      exact ⟨a, _, e, hs, rfl⟩
  cases ev <;> exact key h
theorem rxE_intro {E' : XK} {H1 : Hp} {e : Err} (k : ∀ (x : Str) (d : Option Addr) (H' : Hp), raisedL.contains x = true → Ex H1 H' → (∀ (E : XK) (H2 H3 : Hp), RxE K E H2 e → Ex H2 H3 → (∀ dd o, d = some dd → H' dd = some (.xd o) → H3 dd = some (.xd o)) → E (.ref (gA K x)) d H3) → E' (.ref (gA K x)) d H') : RxE K E' H1 e := by
  have rx : ∀ (x : Str) (fs : List (Str × V)), raisedL.contains x = true → (∀ (E : XK) (H2 : Hp), RxE K E H2 e → Rx K E H2 x fs) → Rx K E' H1 x fs := fun x fs hx hE H' d eH hd =>
    k x (some d) H' hx eH fun E H2 H3 hR e23 hk => hE E H2 hR H3 d e23 (hk d _ rfl hd)
  cases e with
  | mem n => exact rx _ _ (by decide +kernel) fun _ _ h => h
  | notAllowed n => exact rx _ _ (by decide +kernel) fun _ _ h => h
  | room n => exact rx _ _ (by decide +kernel) fun _ _ h => h
  | obj n => exact rx _ _ (by decide +kernel) fun _ _ h => h
  | field n => exact rx _ _ (by decide +kernel) fun _ _ h => h
  | used n r => exact rx _ _ (by decide +kernel) fun _ _ h => h
  | strat => exact fun H' eH => k _ none H' (by decide +kernel) eH fun E H2 H3 hR e23 _ => hR H3 e23
theorem HeapAt.setB {H H' : Hp} {h t : Addr} {M : Hps} {T : Stt} (a : HeapAt K H h M) (e : Ex H H') (hT : StateAt K H' t T) (hf : ∀ b ∈ T.foot t, H b = none) (fs : List (Str × V)) (hfs : fs = [(("manager" : Str), V.ref M.mgr), (("state" : Str), V.ref t), (("earlier" : Str), V.ref M.el), (("events" : Str), V.ref M.vl)]) :
    NowH K H (upd H' h (.ins (gA K "ManagedHeap") M.dx fs)) h M (M.setB t T) := by
  subst hfs
  obtain ⟨n1, n2, n3, n4, n5⟩ := a.nes
  have a' := a.ex e
  obtain ⟨vs, h1, h2⟩ := a'.evl
  have eF : ExF (fun b => b = h) H' (upd H' h (.ins (gA K "ManagedHeap") M.dx [(("manager" : Str), V.ref M.mgr), (("state" : Str), V.ref t), (("earlier" : Str), V.ref M.el), (("events" : Str), V.ref M.vl)])) := (ExF.refl _ H').upd (.inr ⟨rfl, _, a'.ins, rfl, rfl⟩)
  have hlv : ∀ b ∈ T.foot t, ∀ c, H c ≠ none → b ≠ c := fun b hb c hc z => hc (by rw [← z]; exact hf b hb)
  have l1 := a.live h Hps.foot_h
  have l2 := a.live _ (Hps.foot_dx (h := h))
  have l3 := a.live _ (Hps.foot_el (h := h))
  have l4 := a.live _ (Hps.foot_vl (h := h))
  refine ⟨(e.of.trans (eF.mono fun b hb => by rw [hb]; exact Hps.foot_h)), ⟨upd_same, eF.at a'.own n1.symm, hT.frame eF fun b hb => hlv b hb h l1, eF.at a'.erl n2.symm, ⟨vs, eF.at h1 n3.symm, DIs.ex h2 eF⟩, fun b hb => ⟨hlv b hb h l1, hlv b hb _ l2, hlv b hb _ l3, hlv b hb _ l4⟩, a.nel, a.len⟩, fun b hb => ?_⟩
  rcases Hps.foot_cases hb with e | e | e | e | hb
  · exact .inl (by rw [e]; exact Hps.foot_h)
  · exact .inl (by rw [show b = M.dx from e]; exact Hps.foot_dx)
  · exact .inl (by rw [show b = M.el from e]; exact Hps.foot_el)
  · exact .inl (by rw [show b = M.vl from e]; exact Hps.foot_vl)
  · exact .inr (hf b hb)
theorem HeapAt.snoc {H : Hp} {h : Addr} {M : Hps} {x v : V} {ev : Ev} {vs : List V} (a : HeapAt K H h M) (hv : H M.vl = some (.lst vs)) (hd : DIs K H vs (M.evs.map encEv)) (dv : DI K H v (encEv ev)) :
    NowH K H (upd (upd H M.el (.lst (M.es ++ [x]))) M.vl (.lst (vs ++ [v]))) h M (M.snoc x ev) := by
  obtain ⟨n1, n2, n3, n4, n5⟩ := a.nes
  have e1 : ExF (fun b => b = M.el ∨ b = M.vl) H (upd (upd H M.el (.lst (M.es ++ [x]))) M.vl (.lst (vs ++ [v]))) :=
    ((ExF.refl _ H).upd (.inr ⟨.inl rfl, _, a.erl, rfl, rfl⟩)).upd (.inr ⟨.inr rfl, _, hv, rfl, rfl⟩)
  have nf : ∀ b, b ≠ M.el → b ≠ M.vl → ¬ (b = M.el ∨ b = M.vl) := fun b h1 h2 z => z.elim h1 h2
  refine ⟨e1.mono fun b hb => ?_, ⟨e1.at a.ins (nf _ n2 n3), e1.at a.own (nf _ n4 n5), a.sta.frame e1 fun b hb => nf _ (a.dis b hb).2.2.1 (a.dis b hb).2.2.2, ?_, ⟨vs ++ [v], upd_same, ?_⟩, a.dis, a.nel, ?_⟩, fun b hb => .inl hb⟩
  · rcases hb with e | e
    · rw [e]; exact Hps.foot_el
    · rw [e]; exact Hps.foot_vl
  · show upd _ _ _ M.el = _
    rw [upd_ne a.nel, upd_same]
    rfl
  · show DIs K _ (vs ++ [v]) ((M.evs ++ [ev]).map encEv)
    rw [List.map_append]
    exact DpAll.append (DIs.ex hd e1) (DpAll.one (DI.ex dv e1))
  · show (M.es ++ [x]).length = (M.evs ++ [ev]).length
    rw [List.length_append, List.length_append, a.len]
    rfl
end
section
variable {P : Program} {w : World} {K : PySem.W.Frag} {mg : Str → Option Value} {base : Heap}
/-- the heap's answer to an event: its state and its events -/
def ChgK (K : PySem.W.Frag) (H : Hp) (h : Addr) (M : Hps) (ev : Ev) (res : Ans) (Q : VK) (E : XK) : Prop :=
  (∀ ph' r H' M' u, res = .ok (ph', r) → NowH K H H' h M M' → M'.mgr = M.mgr → M'.T.ph = ph' → M'.evs = (if told ev r = true then M.evs ++ [ev] else M.evs) → DI K H' u r → Q u H') ∧
  ∀ e, res = .error e → ∀ H' M', NowH K H H' h M M' → M'.mgr = M.mgr → M'.T.ph = M.T.ph → M'.evs = M.evs → RxE K E H' e
def spChange (P : Program) (w : World) (K : PySem.W.Frag) (mg : Str → Option Value) (base : Heap) : Sp := fun vs H Q E => ∃ (h : Addr) (M : Hps) (man : Man) (mf : List Addr) (v : V) (ev : Ev), vs = [.ref h, v] ∧ HIn P w K mg base H h M man mf ∧ DI K H v (encEv ev) ∧ EvOk ev ∧ M.evs.length ≤ 1000 ∧ ChgK K H h M ev (performF man M.T.ph ev) Q E
abbrev N_change : List Str := ["self", "event", "before", "result"]
theorem sc_change : FnScope N_change ["self", "event"] (defScope s_ManagedHeap_change) := ⟨rfl, rfl, rfl, by decide +kernel, rfl, by decide +kernel, by decide +kernel⟩
theorem w_change (T : Txt P K mg) : Mt P w K mg base 15 (CHeap K) "change" (spChange P w K mg base) := by
  have nd := sc_change.nd
  have c1 := w_tcopy (w := w) (base := base) T
  have c2 := w_perform (w := w) (base := base) T
  refine mt_of T (fn_mem 91 rfl) (by decide +kernel) (by decide +kernel) sc_change (b2 fun _ _ _ _ _ _ _ _ => rfl) (fun vs H Q E ⟨_, _, _, _, _, _, e, _⟩ => by rw [e]; rfl) fun cdv A outer s H vs Q E hr ⟨h, M, man, mf, v, ev, e, hI, hev, hok2, hel, hK⟩ => ?_
  subst e
  refine ⟨_, (pss_cons (ps_set (i := 2) nd rfl (.inl rfl) (pe_mt0 c1 hr tk0 (pe_fld (pv 0) rfl))) (pss_cons (ps_try_again (t1 := sFld K (tVar 0) (tVar 2) "state") (x := "HeapgameError") (c := .ref (gA K "HeapgameError")) rfl rfl rfl ⟨rfl, by decide, .inl (T.g "HeapgameError")⟩ (fun hd => passM rfl hd) tk0 (fun W pn xe htk hps => pss_one (ps_set (i := 3) nd rfl (.inl rfl) (pe_mt c2 hr htk (pv 0) (pa_cons (pv 1) pa_nil)))) (fun a oe pn => (ps_fld (pv 0) (pv 2) rfl))) (pss_cons (ps_if (PW.pt (pw_or (pt_cmpR op_ne (pe_ix ix_tup (pv 1) pe_int (fun _ _ => rfl)) pe_str (nomark _)) (pw_or1 (pt_cmpR op_notN (pv 3) pe_non (nomark _))))) (pss_cons (ps_expr (pe_bm PySem.F.plainAttrs_list PySem.F.slot_list_append PySem.F.type_list_append mt_append (pe_fld (pv 0) rfl) (pa_cons (pv 2) pa_nil))) (pss_one (ps_expr (pe_bm PySem.F.plainAttrs_list PySem.F.slot_list_append PySem.F.type_list_append mt_append (pe_fld (pv 0) rfl) (pa_cons (pv 1) pa_nil))))) pss_nil) (pss_one (ps_ret (pv 3)))))), ?_⟩
  obtain ⟨hM, hma, hdj, hok⟩ := hI
  refine ⟨_, rfl, h, _, _, _, _, rfl, hM.ins, T.cls "ManagedHeap", T.noat "ManagedHeap" "state", rfl, M.t, _, _, rfl, hM.sta.ins, rfl, M.t, M.T, rfl, hM.sta, by rw [← M.T.S.os_len]; exact Nat.le_trans hok.ln (by decide), fun H1 t' T' e1 hT' hph hfr => ?_⟩
  have hM1 := hM.ex e1
  refine ⟨_, rfl, h, _, _, rfl, hM1.ins, rfl, _, rfl, h, M, man, mf, v, ev, rfl, ⟨hM1, hma.ex e1, hdj, hok⟩, DI.ex hev e1, hok2, fun ph' r H2 T2 u hres nw hph2 du => ?_, fun e he => ?_⟩
  · have hM2 := nw.at_
    have nw0 : NowH K H H2 h M (M.setT T2) := (NowH.of hM e1).trans nw
    obtain ⟨ea, exs, rfl, hes, he0⟩ := ev_tup hev
    have hes2 := SqT.le (fun b o k => (e1.immI k) |> nw.ex.imm b o) hes
    have fin : ∀ M', NowH K H H2 h M M' → M'.mgr = M.mgr → M'.T.ph = ph' → M'.evs = (if told ev r = true then M.evs ++ [ev] else M.evs) → Q u H2 := fun M' a b c d => hK.1 ph' r H2 M' u hres a b c d du
    obtain ⟨vs, hv1, hv2⟩ := hM2.evl
    have lt1 : M.es.length < sizeLine := ltL (m := 2000) (by rw [hM.len]; omega) (by decide)
    have lt2 : vs.length < sizeLine := ltL (m := 2000) (by rw [DpAll.length hv2, List.length_map]; show M.evs.length < 2000; omega) (by decide)
    obtain ⟨n1, n2, n3, n4, n5⟩ := hM.nes
    have ins2 : (upd H2 M.el (.lst (M.es ++ [.ref t']))) h = some (.ins (gA K "ManagedHeap") M.dx [("manager", .ref M.mgr), ("state", .ref M.t), ("earlier", .ref M.el), ("events", .ref M.vl)]) := by
      rw [upd_ne n2]
      exact hM2.ins
    have vl2 : (upd H2 M.el (.lst (M.es ++ [.ref t']))) M.vl = some (.lst vs) := by
      rw [upd_ne (Ne.symm hM.nel)]
      exact hv1
    refine ⟨_, rfl, ea, exs, 0, .str (wordE ev), rfl, rfl, hes2, atI_nat (j := 0) he0, rfl, _, rfl, ?_⟩
    by_cases hsl : ev = .slide
    · subst hsl
      refine itYn rfl ⟨_, rfl, rfl, _, rfl, ?_⟩
      by_cases hr0 : r = .none
      · subst hr0
        have hu := DI.non_inv du
        subst hu
        exact itYn rfl ⟨_, rfl, fin _ nw0 rfl hph2 rfl⟩
      · have hu : ¬ u = .non := fun z => by
          subst z
          cases du
          exact hr0 rfl
        have htold : told .slide r = true := by
          cases r <;> first | rfl | exact absurd rfl hr0
        refine itNn hu ?_
        refine ⟨_, rfl, h, _, _, _, _, rfl, hM2.ins, T.cls "ManagedHeap", T.noat "ManagedHeap" "earlier", rfl, .inl ⟨rfl, _, SqL.of hM2.erl⟩, _, rfl, M.el, _, _, rfl, rfl, hM2.erl, lt1, _, rfl, h, _, _, _, _, rfl, ins2, T.cls "ManagedHeap", T.noat "ManagedHeap" "events", rfl, .inl ⟨rfl, _, SqL.of vl2⟩, _, rfl, M.vl, _, _, rfl, rfl, vl2, lt2, _, rfl, ?_⟩
        exact hK.1 ph' r _ _ u hres (nw0.trans (hM2.snoc (x := .ref t') hv1 hv2 (DI.ex (DI.ex hev e1) nw.ex))) rfl hph2 (by rw [if_pos htold]; rfl) (DI.ex du (HeapAt.snoc (x := .ref t') hM2 hv1 hv2 (DI.ex (DI.ex hev e1) nw.ex)).ex)
    · have htold : told ev r = true := told_ne hsl
      refine itNn (wordE_ne hsl) (iteT ?_)
      refine ⟨_, rfl, h, _, _, _, _, rfl, hM2.ins, T.cls "ManagedHeap", T.noat "ManagedHeap" "earlier", rfl, .inl ⟨rfl, _, SqL.of hM2.erl⟩, _, rfl, M.el, _, _, rfl, rfl, hM2.erl, lt1, _, rfl, h, _, _, _, _, rfl, ins2, T.cls "ManagedHeap", T.noat "ManagedHeap" "events", rfl, .inl ⟨rfl, _, SqL.of vl2⟩, _, rfl, M.vl, _, _, rfl, rfl, vl2, lt2, _, rfl, ?_⟩
      exact hK.1 ph' r _ _ u hres (nw0.trans (hM2.snoc (x := .ref t') hv1 hv2 (DI.ex (DI.ex hev e1) nw.ex))) rfl hph2 (by rw [if_pos htold]; rfl) (DI.ex du (HeapAt.snoc (x := .ref t') hM2 hv1 hv2 (DI.ex (DI.ex hev e1) nw.ex)).ex)
  · refine rxE_intro fun x d H' hx eH hE => ⟨_, T.exm x (List.contains_iff_mem.mp hx) "HeapgameError" (by decide +kernel), fun _ => ?_, fun hb => ?_⟩
    · have e2 : Ex H H' := e1.trans eH
      refine ⟨_, rfl, _, rfl, h, _, _, _, rfl, (hM.ex e2).ins, T.cls "ManagedHeap", T.noat "ManagedHeap" "state", by show (4 : Nat) < 1000; decide, ?_⟩
      have nw := HeapAt.setB hM e2 (hT'.ex eH) hfr _ rfl
      refine hE E _ _ (hK.2 e he _ _ nw rfl hph rfl) (ExF.refl _ _) fun dd o ed hd => ?_
      rw [upd_ne (ne_of hd (hM.ex e2).ins (by intro z; cases z))]
      exact hd
    · unfold hits at hb
      rw [decide_eq_true (rfl : ("HeapgameError" : Str) = "HeapgameError"), Bool.or_true] at hb
      cases hb
end
end Hg
namespace Hg
open PySem PySem.Spec PyProof.Rows L2
/-! ### PolicyManager, ManagedHeap.__init__ -/
def manPol (size : Int) (policy : Str) : Man := ⟨size, false, fun l n cur => match placeF size l n policy cur with
  | none => .error (.mem n)
  | some s => .ok (l.map (·.1), s)⟩
def ph0 : PH := ⟨⟨[], [], 0⟩, [], 0⟩
section
variable {P : Program} {w : World} {K : PySem.W.Frag} {mg : Str → Option Value} {base : Heap}
abbrev CPol (K : PySem.W.Frag) : Addr := gA K "PolicyManager"
def polFs (size : Int) (policy : Str) : List (Str × V) := [("size", .int size), ("policy", .str policy), ("strategy", .bl false)]
def spPol0 (K : PySem.W.Frag) : Sp := fun vs H Q _ => ∃ (x dx : Addr) (size : Int) (policy : Str), vs = [.ref x, .int size, .str policy] ∧ H x = some (.ins (CPol K) dx []) ∧ Q .non (upd H x (.ins (CPol K) dx (polFs size policy)))
theorem sc_pol0 : FnScope ["self", "size", "policy"] ["self", "size", "policy"] (defScope s_PolicyManager_init) := ⟨rfl, rfl, rfl, by decide +kernel, rfl, by decide +kernel, by decide +kernel⟩
theorem w_pol0 (T : Txt P K mg) : Mr P w K mg base 1 "PolicyManager" (CPol K) (spPol0 K) := by
  have nd := sc_pol0.nd
  refine mr_of T (fn_mem 71 rfl) (by decide +kernel) (by decide +kernel) sc_pol0 (b3 fun _ _ _ _ _ _ _ _ _ => rfl) (fun vs H Q E ⟨_, _, _, _, e, _⟩ => by rw [e]; rfl) fun cdv A outer s H vs Q E hr ⟨x, dx, size, policy, e, hx, hq⟩ => ?_
  subst e
  refine ⟨_, (pss_cons (ps_fld (pv 0) (pv 1) rfl) (pss_cons (ps_fld (pv 0) (pv 2) rfl) (pss_one (ps_fld (pv 0) pe_bl rfl)))), ?_⟩
  refine ⟨_, rfl, _, rfl, x, _, _, _, rfl, hx, T.cls "PolicyManager", T.noat "PolicyManager" "size", by show (0 : Nat) < 1000; decide, ?_⟩
  refine ⟨_, rfl, _, rfl, x, _, _, _, rfl, upd_same, T.cls "PolicyManager", T.noat "PolicyManager" "policy", by show (1 : Nat) < 1000; decide, ?_⟩
  refine ⟨_, rfl, x, _, _, _, rfl, upd_same, T.cls "PolicyManager", T.noat "PolicyManager" "strategy", by show (2 : Nat) < 1000; decide, ?_⟩
  rw [upd_upd, upd_upd]
  exact hq
abbrev N_polp : List Str := ["self", "layout", "length", "cursor", "start", "block"]
theorem sc_polp : FnScope N_polp ["self", "layout", "length", "cursor"] (defScope s_PolicyManager_place) := ⟨rfl, rfl, rfl, by decide +kernel, rfl, by decide +kernel, by decide +kernel⟩
theorem w_polp (T : Txt P K mg) {size : Int} {policy : Str} {m dx : Addr} (h0 : 1 ≤ size) (h1 : size ≤ 25) : Mt P w K mg base 12 (CPol K) "place" (spMPlace K (manPol size policy) (fun H => H m = some (.ins (CPol K) dx (polFs size policy))) m) := by
  have nd := sc_polp.nd
  have c1 := w_place (w := w) (base := base) T
  refine mt_of T (fn_mem 72 rfl) (by decide +kernel) (by decide +kernel) sc_polp (b4 fun _ _ _ _ _ _ _ _ _ _ => rfl) (fun vs H Q E ⟨_, _, _, _, e, _⟩ => by rw [e]; rfl) fun cdv A outer s H vs Q E hr ⟨lv, l, n, cur, e, hm, dl, hg, hsrt, hll, n0, n1, hq, hE⟩ => ?_
  subst e
  obtain ⟨la, lxs, rfl, hls, hld⟩ := DI.lst_inv dl
  refine ⟨_, (pss_cons (ps_set (i := 4) nd rfl (.inl rfl) (pe_cl c1 hr takes0 (pa_cons (pe_fld (pv 0) rfl) (pa_cons (pv 1) (pa_cons (pv 2) (pa_cons (pe_fld (pv 0) rfl) (pa_cons (pv 3) pa_nil))))))) (pss_cons (ps_if (pt_cmpR op_isN (pv 4) pe_non (nomark _)) (pss_one (ps_raise1 (er_OutOfMemory T) hr rfl tk0 (pv 2))) pss_nil) (pss_one (ps_ret (pe_tup (pa_cons (pe_frz (pe_lc (own := [("block", 5)]) (g := gName 5) (tt := tYes) (te := tOp (rIxT K) (tVar 5) (tC (.int 0))) rfl nd (pi_list (pv 1)) (blkOk_by (N := N_polp) (sc := defScope s_PolicyManager_place) (by decide +kernel)) (fun _ _ _ _ _ => (pg_name (i := 5) nd rfl (.inl rfl) (.inr rfl))) (fun _ _ _ _ _ => pts_nil) (fun _ _ _ _ _ => (pe_ix ix_tup (pv 5) pe_int (fun _ _ => rfl))))) (pa_cons (pv 4) pa_nil))))))), ?_⟩
  refine ⟨_, rfl, m, _, _, _, _, rfl, hm, T.cls "PolicyManager", T.noat "PolicyManager" "size", rfl, _, rfl, _, rfl, _, rfl, m, _, _, _, _, rfl, hm, T.cls "PolicyManager", T.noat "PolicyManager" "policy", rfl, _, rfl, size, n, cur, policy, .ref la, l, rfl, dl, ⟨by omega, by omega, hg.inn, hll⟩, n0, n1, fun H1 e1 => ?_⟩
  have hq' := hq
  have hE' := hE
  unfold manPol at hq' hE'
  dsimp only at hq' hE'
  cases hp : placeF size l n policy cur with
  | none =>
    rw [hp] at hE'
    exact ⟨_, rfl, rfl, _, rfl, itY rfl ⟨_, rfl, .inr ⟨n, rfl, small_log ⟨by omega, by omega⟩⟩, fun d hd => hE' (.mem n) rfl _ d (e1.trans (Ex.new hd)) upd_same⟩⟩
  | some s =>
    rw [hp] at hq'
    refine ⟨_, rfl, rfl, _, rfl, itN intN ⟨_, rfl, la, rfl, ⟨lxs, SqL.le (Le.of e1) hls⟩, fun D nD => ?_⟩⟩
    have dl1 := DI.ex dl e1
    refine lc_d (l := l) (enc := encP) dl1 (fun pre G => Col K NoF H1 D ((pre.map fun b : Int × Int => b.1).map PyData.int) pre.length G) (Col.start nD) (fun pre G c => Le.of c.ex) (fun pre b post v G el c hv => ?_) fun G c => ?_
    · obtain ⟨ab, rfl, hsb⟩ := hv.pair_inv
      have hpl : pre.length < 1000 := by
        have := congrArg List.length el
        rw [List.length_append, List.length_cons] at this
        omega
      refine ⟨rfl, yes_ok ⟨_, rfl, ab, _, 0, .int b.1, rfl, rfl, SqT.le (Le.of c.ex) hsb, atI_nat (j := 0) rfl, ?_⟩⟩
      rw [List.map_append, List.map_append, List.length_append]
      exact c.add nD (ExF.refl _ _) (fun z => z) (.int _) (ltL (m := 1000) hpl (by decide))
    · obtain ⟨acc, ha, hd⟩ := c.at_
      refine ⟨D, acc, _, rfl, ha, hd, fun H3 k li d => ⟨_, rfl, sz2, fun t nt => ?_⟩⟩
      have e3 : Ex H1 H3 := c.ex.but nD k li
      exact hq' _ s _ (.ref t) rfl (e1.trans (e3.trans (Ex.new nt))) (DI.tupOf upd_same (.cons (DI.ex d (Ex.new (F := NoF) nt)) (.cons (.int _) .nil)))
theorem man_pol (T : Txt P K mg) {size : Int} {policy : Str} {H : Hp} {m dx : Addr} (h0 : 1 ≤ size) (h1 : size ≤ 25) (hm : H m = some (.ins (CPol K) dx (polFs size policy))) : ManAt P w K mg base H m (manPol size policy) [m] where
  s0 := h0
  s1 := h1
  mem := List.mem_singleton.mpr rfl
  live := fun b hb z => by
    rw [List.mem_singleton.mp hb, hm] at z
    cases z
  at_ := ⟨_, dx, polFs size policy, hm, T.cls "PolicyManager", T.noat "PolicyManager" "size", T.noat "PolicyManager" "strategy", rfl, rfl, rfl, fun H => H m = some (.ins (CPol K) dx (polFs size policy)), hm, fun F H H' e hF h => e.at h (hF m (List.mem_singleton.mpr rfl)), w_polp T h0 h1⟩
theorem mk_ex {H H2 : Hp} {y dx C : Addr} (ny : H y = none) (ndx : H dx = none) (eF : ExF (fun b => b = y) (upd (upd H dx (.own y)) y (.ins C dx [])) H2) : Ex H H2 := by
  have e0 : Ex H (upd (upd H dx (.own y)) y (.ins C dx [])) := Ex.updN (Ex.new ndx) ny
  exact ⟨fun b o k n q => eF.keep b o (e0.keep b o k n q) (fun z => by rw [z, ny] at k; cases k) q, fun b k => e0.live b (eF.live b k), fun p ps k t => by
    obtain ⟨qs, h2, t2⟩ := e0.tab p ps k t
    exact eF.tab p qs h2 t2, fun b o k => eF.imm b o (e0.immI k)⟩
/-! ManagedHeap(manager) -/
def spHeap0 (K : PySem.W.Frag) : Sp := fun vs H Q _ => ∃ (x dx m : Addr), vs = [.ref x, .ref m] ∧ H x = some (.ins (CHeap K) dx []) ∧ H dx = some (.own x) ∧
  ∀ H' M, ExF (fun b => b = x) H H' → HeapAt K H' x M → M.mgr = m → M.T.ph = ph0 → M.evs = [] → (∀ b ∈ M.foot x, b = x ∨ b = dx ∨ H b = none) → Q .non H'
theorem sc_heap0 : FnScope ["self", "manager"] ["self", "manager"] (defScope s_ManagedHeap_init) := ⟨rfl, rfl, rfl, by decide +kernel, rfl, by decide +kernel, by decide +kernel⟩
theorem w_heap0 (T : Txt P K mg) : Mr P w K mg base 3 "ManagedHeap" (CHeap K) (spHeap0 K) := by
  have nd := sc_heap0.nd
  have c1 := w_state0 (w := w) (base := base) T
  have c2 := w_store0 (w := w) (base := base) T
  refine mr_of T (fn_mem 77 rfl) (by decide +kernel) (by decide +kernel) sc_heap0 (b2 fun _ _ _ _ _ _ _ _ => rfl) (fun vs H Q E ⟨_, _, _, e, _⟩ => by rw [e]; rfl) fun cdv A outer s H vs Q E hr ⟨x, dx, m, e, hx, hdx, hq⟩ => ?_
  subst e
  refine ⟨_, (pss_cons (ps_fld (pv 0) (pv 1) rfl) (pss_cons (ps_fld (pv 0) (pe_mr c1 hr (pa_cons (pe_mr0 c2 hr) (pa_cons pe_dnewK (pa_cons pe_int pa_nil)))) rfl) (pss_cons (ps_fld (pv 0) (pe_lst pa_nil) rfl) (pss_one (ps_fld (pv 0) (pe_lst pa_nil) rfl))))), ?_⟩
  have ndxx : dx ≠ x := ne_of hdx hx (by intro z; cases z)
  refine ⟨_, rfl, _, rfl, x, _, _, _, rfl, hx, T.cls "ManagedHeap", T.noat "ManagedHeap" "manager", by show (0 : Nat) < 1000; decide, ?_⟩
  have hx1 : (upd H x (.ins (CHeap K) dx [("manager", .ref m)])) x = some (.ins (CHeap K) dx [("manager", .ref m)]) := upd_same
  have hd1 : (upd H x (.ins (CHeap K) dx [("manager", .ref m)])) dx = some (.own x) := by rw [upd_ne ndxx]; exact hdx
  have eX : ExF (fun b => b = x) H (upd H x (.ins (CHeap K) dx [("manager", .ref m)])) := (ExF.refl _ H).upd (.inr ⟨rfl, _, hx, rfl, rfl⟩)
  refine fun y ydx ny nydx nyd => ⟨y, ydx, rfl, upd_same, by rw [upd_ne nyd, upd_same], fun H2 od rl eF nod nrl hY => ⟨rfl, fun sd nsd => ?_⟩⟩
  have ny := ny
  have e12 := mk_ex ny nydx eF
  have e0 := Ex.updN (o := .ins (CStore K) ydx []) (Ex.new (o := .own y) nydx) ny
  have nod1 := e0.gone nod
  have nrl1 := e0.gone nrl
  have e23 : Ex H2 (upd H2 sd (.dK [])) := Ex.new nsd
  have e13 := e12.trans e23
  refine fun t tdx nt ntdx ntd => ⟨t, tdx, y, sd, y, 0, rfl, upd_same, rfl, ?_⟩
  rw [upd_upd]
  have e34 : Ex (upd H2 sd (.dK [])) (upd (upd (upd H2 sd (.dK [])) tdx (.own t)) t (.ins (gA K "State") tdx [("store", .ref y), ("starts", .ref sd), ("cursor", .int 0)])) := Ex.updN (Ex.new ntdx) nt
  have nsdt : sd ≠ t := fun z => by rw [← z, upd_same] at nt; cases nt
  have nsdx : sd ≠ tdx := fun z => by rw [← z, upd_same] at ntdx; cases ntdx
  have hT : StateAt K (upd (upd (upd H2 sd (.dK [])) tdx (.own t)) t (.ins (gA K "State") tdx [("store", .ref y), ("starts", .ref sd), ("cursor", .int 0)])) t ⟨y, tdx, sd, ⟨ydx, od, rl, [], [], 0⟩, [], 0⟩ := by
    have hY3 := hY.ex e23
    refine ⟨upd_same, ?_, ?_, hY3.ex e34, fun b hb => ⟨fun z => hY3.live b hb (by rw [z]; exact nt), fun z => hY3.live b hb (by rw [z]; exact ntdx), fun z => hY.live b hb (by rw [z]; exact nsd)⟩⟩
    · show upd _ _ _ tdx = _
      rw [upd_ne ntd, upd_same]
    · show upd _ _ _ sd = _
      rw [upd_ne nsdt, upd_ne nsdx, upd_same]
      rfl
  have e14 := e13.trans e34
  have hfr : ∀ b ∈ (⟨y, tdx, sd, ⟨ydx, od, rl, [], [], 0⟩, [], 0⟩ : Stt).foot t, (upd H x (.ins (CHeap K) dx [("manager", .ref m)])) b = none := by
    intro b hb
    rcases Stt.foot_cases hb with e | e | e | hb
    · rw [e]; exact e13.gone nt
    · rw [show b = tdx from e]; exact e13.gone ntdx
    · rw [show b = sd from e]; exact e12.gone nsd
    · rcases foot_cases hb with e | e | e | e | ⟨o, ho, _⟩
      · rw [show b = y from e]; exact ny
      · rw [show b = ydx from e]; exact nydx
      · rw [show b = od from e]; exact nod1
      · rw [show b = rl from e]; exact nrl1
      · cases ho
  generalize upd (upd (upd H2 sd (.dK [])) tdx (.own t)) t (.ins (gA K "State") tdx [("store", .ref y), ("starts", .ref sd), ("cursor", .int 0)]) = H4 at hT e14
  have hx4 := e14.at hx1
  have hd4 := e14.at hd1
  refine ⟨_, rfl, x, _, _, _, rfl, hx4, T.cls "ManagedHeap", T.noat "ManagedHeap" "state", by show (1 : Nat) < 1000; decide, Nat.zero_le _, fun el nel => ?_⟩
  have nelx : el ≠ x := fun z => by rw [z, upd_same] at nel; cases nel
  rw [upd_ne nelx] at nel
  refine ⟨_, rfl, x, _, _, _, rfl, by rw [upd_ne nelx.symm]; exact upd_same, T.cls "ManagedHeap", T.noat "ManagedHeap" "earlier", by show (2 : Nat) < 1000; decide, Nat.zero_le _, fun vl nvl => ?_⟩
  have nvlx : vl ≠ x := fun z => by rw [z, upd_same] at nvl; cases nvl
  rw [upd_ne nvlx] at nvl
  have nvle : vl ≠ el := fun z => by rw [z, upd_same] at nvl; cases nvl
  rw [upd_ne nvle, upd_ne nvlx] at nvl
  refine ⟨_, rfl, x, _, _, _, rfl, by rw [upd_ne nvlx.symm]; exact upd_same, T.cls "ManagedHeap", T.noat "ManagedHeap" "events", by show (3 : Nat) < 1000; decide, ?_⟩
  have hxx : ∃ u, H4 x = some u ∧ isImm u = false ∧ isTbl u = false := ⟨_, hx4, rfl, rfl⟩
  have eE := ((((ExF.refl (fun b => b = x) H4).upd (o := .ins (CHeap K) dx (putF "state" (.ref t) [("manager", .ref m)])) (.inr ⟨rfl, hxx⟩)).upd (o := .lst []) (.inl nel)).upd (o := .ins (CHeap K) dx (putF "earlier" (.ref el) (putF "state" (.ref t) [("manager", .ref m)]))) (.inr ⟨rfl, hxx⟩)).upd (o := .lst []) (.inl nvl)
  have eG := eE.upd (p := x) (o := .ins (CHeap K) dx (putF "events" (.ref vl) (putF "earlier" (.ref el) (putF "state" (.ref t) [("manager", .ref m)])))) (.inr ⟨rfl, hxx⟩)
  have nb : ∀ b ∈ (⟨y, tdx, sd, ⟨ydx, od, rl, [], [], 0⟩, [], 0⟩ : Stt).foot t, b ≠ x := fun b hb z => by
    have h1 := hfr b hb
    rw [z, hx1] at h1
    cases h1
  refine hq _ ⟨dx, m, t, el, vl, ⟨y, tdx, sd, ⟨ydx, od, rl, [], [], 0⟩, [], 0⟩, [], []⟩ ((eX.trans e14.of).trans eG) ⟨upd_same, ?_, hT.frame eG fun b hb z => nb b hb z, ?_, ⟨[], ?_, .nil⟩, fun b hb => ⟨nb b hb, fun z => ?_, fun z => ?_, fun z => ?_⟩, nvle.symm, rfl⟩ rfl rfl rfl fun b hb => ?_
  · exact eG.at hd4 ndxx
  · show upd _ _ _ el = _
    rw [upd_ne nelx, upd_ne nvle.symm, upd_ne nelx, upd_same]
  · show upd _ _ _ vl = _
    rw [upd_ne nvlx, upd_same]
  · have h1 := hfr b hb
    rw [show b = dx from z, hd1] at h1
    cases h1
  · have h1 := hT.live b hb
    rw [show b = el from z] at h1
    exact h1 nel
  · have h1 := hT.live b hb
    rw [show b = vl from z] at h1
    exact h1 nvl
  · rcases Hps.foot_cases hb with e | e | e | e | hb
    · exact .inl e
    · exact .inr (.inl e)
    · rw [show b = el from e]; exact .inr (.inr (eX.gone (e14.gone nel)))
    · rw [show b = vl from e]; exact .inr (.inr (eX.gone (e14.gone nvl)))
    · exact .inr (.inr (eX.gone (hfr b hb)))
end
end Hg
namespace Hg
open PySem PySem.Spec PyProof.Rows L2
/-! ### policy_heap, replay -/
inductive Reach (man : Man) : List Ev → PH → Prop
  | nil : Reach man [] ph0
  | snoc {evs : List Ev} {ph ph' : PH} {ev : Ev} {r : PyData} (h : Reach man evs ph) (hok : EvOk ev) (hp : performF man ph ev = .ok (ph', r)) (ht : told ev r = true) : Reach man (evs ++ [ev]) ph'
theorem Reach.inv {man : Man} {evs : List Ev} {ev : Ev} {ph' : PH} (h : Reach man (evs ++ [ev]) ph') : ∃ ph r, Reach man evs ph ∧ EvOk ev ∧ performF man ph ev = .ok (ph', r) ∧ told ev r = true := by
  generalize hl : evs ++ [ev] = l at h
  cases h with
  | nil => simp at hl
  | snoc h1 h2 h3 h4 =>
    obtain ⟨e1, e2⟩ := List.append_inj' hl rfl
    cases e2
    subst e1
    exact ⟨_, _, h1, h2, h3, h4⟩
theorem Reach.det {man : Man} {evs : List Ev} {p q : PH} (h : Reach man evs p) (k : Reach man evs q) : p = q := by
  induction h generalizing q with
  | nil =>
    generalize hl : ([] : List Ev) = l at k
    cases k with
    | nil => rfl
    | snoc => simp at hl
  | snoc h1 h2 h3 h4 ih =>
    obtain ⟨p2, r2, k1, k2, k3, k4⟩ := k.inv
    have e := ih k1
    subst e
    rw [h3] at k3
    cases k3
    rfl
theorem Reach.preN {man : Man} : ∀ (n : Nat) {a b : List Ev} {p : PH}, b.length = n → Reach man (a ++ b) p → ∃ q, Reach man a q
  | 0, a, b, p, hl, h => by
    rw [List.eq_nil_of_length_eq_zero hl, List.append_nil] at h
    exact ⟨p, h⟩
  | n + 1, a, b, p, hl, h => by
    rcases List.eq_nil_or_concat b with e | ⟨b', x, e⟩
    · rw [e] at hl; cases hl
    · rw [e, List.concat_eq_append, ← List.append_assoc] at h
      obtain ⟨q, r, k1, _⟩ := h.inv
      rw [e, List.concat_eq_append, List.length_append] at hl
      exact Reach.preN n (Nat.succ.inj hl) k1
theorem Reach.pre {man : Man} {a b : List Ev} {p : PH} (h : Reach man (a ++ b) p) : ∃ q, Reach man a q := Reach.preN _ rfl h
/-- the words keep what a heap is -/
def POk (man : Man) : Prop := (∀ (ph : PH) (ev : Ev) (ph' : PH) (r : PyData), ph.Ok man.size → EvOk ev → performF man ph ev = .ok (ph', r) → ph'.Ok man.size) ∧ ph0.Ok man.size
theorem Reach.ok {man : Man} (hp : POk man) {evs : List Ev} {ph : PH} (h : Reach man evs ph) : ph.Ok man.size := by
  induction h with
  | nil => exact hp.2
  | snoc h1 h2 h3 h4 ih => exact hp.1 _ _ _ _ ih h2 h3
section
variable {P : Program} {w : World} {K : PySem.W.Frag} {mg : Str → Option Value} {base : Heap}
def spPolHeap (P : Program) (w : World) (K : PySem.W.Frag) (mg : Str → Option Value) (base : Heap) : Sp := fun vs H Q _ => ∃ (size : Int) (policy : Str), vs = [.int size, .str policy] ∧ 1 ≤ size ∧ size ≤ 25 ∧
  ∀ H' h M mf, Ex H H' → HeapAt K H' h M → ManAt P w K mg base H' M.mgr (manPol size policy) mf → (∀ b ∈ mf, b ∉ M.foot h) → M.T.ph = ph0 → M.evs = [] → (∀ b ∈ M.foot h, H b = none) → (∀ b ∈ mf, H b = none) → Q (.ref h) H'
theorem sc_polheap : FnScope ["size", "policy"] ["size", "policy"] (defScope s_policy_heap) := ⟨rfl, rfl, rfl, by decide +kernel, rfl, by decide +kernel, by decide +kernel⟩
theorem w_polheap (T : Txt P K mg) : Cl P w K mg base 5 "policy_heap" (spPolHeap P w K mg base) := by
  have nd := sc_polheap.nd
  have c1 := w_heap0 (w := w) (base := base) T
  have c2 := w_pol0 (w := w) (base := base) T
  refine cl_of T (fn_mem 28 rfl) (by decide +kernel) sc_polheap (b2 fun _ _ _ _ _ _ _ _ => rfl) (fun vs H Q E ⟨_, _, e, _⟩ => by rw [e]; rfl) fun cdv A outer s H vs Q E hr ⟨size, policy, e, h0, h1, hq⟩ => ?_
  subst e
  refine ⟨_, (pss_one (ps_ret (pe_mr c1 hr (pa_cons (pe_mr c2 hr (pa_cons (pv 0) (pa_cons (pv 1) pa_nil))) pa_nil)))), ?_⟩
  refine ⟨_, rfl, _, rfl, fun m mdx nm nmdx nmd => ⟨m, mdx, size, policy, rfl, upd_same, rfl, ?_⟩⟩
  rw [upd_upd]
  have e1 : Ex H (upd (upd H mdx (.own m)) m (.ins (CPol K) mdx (polFs size policy))) := Ex.updN (Ex.new nmdx) nm
  generalize hH1 : upd (upd H mdx (.own m)) m (.ins (CPol K) mdx (polFs size policy)) = H1 at e1
  have hm1 : H1 m = some (.ins (CPol K) mdx (polFs size policy)) := by rw [← hH1, upd_same]
  refine fun x dx nx ndx nxd => ⟨x, dx, m, rfl, upd_same, by rw [upd_ne nxd, upd_same], fun H2 M eF hM hmg hph hev hfr => ⟨rfl, ?_⟩⟩
  have e2 := mk_ex nx ndx eF
  have hf2 : ∀ b ∈ M.foot x, H1 b = none := fun b hb => by
    rcases hfr b hb with e | e | e
    · rw [e]; exact nx
    · rw [e]; exact ndx
    · exact (Ex.updN (o := .ins (CHeap K) dx []) (Ex.new (o := .own x) ndx) nx).gone e
  refine hq H2 x M [m] (e1.trans e2) hM ?_ (fun b hb z => ?_) hph hev (fun b hb => e1.gone (hf2 b hb)) (fun b hb => by rw [List.mem_singleton.mp hb]; exact nm)
  · rw [hmg]
    exact man_pol T h0 h1 (e2.at hm1)
  · have := hf2 b z
    rw [List.mem_singleton.mp hb, hm1] at this
    cases this
/-! replay -/
def spReplay (P : Program) (w : World) (K : PySem.W.Frag) (mg : Str → Option Value) (base : Heap) : Sp := fun vs H Q _ => ∃ (h : Addr) (M : Hps) (man : Man) (mf : List Addr) (v : V) (evs : List Ev) (ph : PH), vs = [.ref h, v] ∧ HeapAt K H h M ∧ ManAt P w K mg base H M.mgr man mf ∧ (∀ b ∈ mf, b ∉ M.foot h) ∧ M.T.ph = ph0 ∧ M.evs = [] ∧
  POk man ∧ Reach man evs ph ∧ evs.length ≤ 1000 ∧ DI K H v (.list (evs.map encEv)) ∧ ∀ H' M' u, NowH K H H' h M M' → M'.mgr = M.mgr → M'.T.ph = ph → M'.evs = evs → DI K H' u (.tuple [.int (evs.length : Nat), .none]) → Q u H'
abbrev N_replay : List Str := ["heap", "events", "performed", "event", "error"]
theorem sc_replay : FnScope N_replay ["heap", "events"] (defScope s_replay) := ⟨rfl, rfl, rfl, by decide +kernel, rfl, by decide +kernel, by decide +kernel⟩
theorem w_replay (T : Txt P K mg) : Cl P w K mg base 16 "replay" (spReplay P w K mg base) := by
  have nd := sc_replay.nd
  have c1 := w_change (w := w) (base := base) T
  refine cl_of T (fn_mem 30 rfl) (by decide +kernel) sc_replay (b2 fun _ _ _ _ _ _ _ _ => rfl) (fun vs H Q E ⟨_, _, _, _, _, _, _, e, _⟩ => by rw [e]; rfl) fun cdv A outer s H vs Q E hr ⟨h, M, man, mf, v, evs, ph, e, hM, hma, hdj, hph, hev0, hpok, hre, hlen, dv, hq⟩ => ?_
  subst e
  refine ⟨_, (pss_cons (ps_set (i := 2) nd rfl (.inl rfl) pe_int) (pss_cons (ps_for ps0 rfl (pi_list (pv 1)) (pg_name (i := 3) nd rfl (.inl rfl)) (pss_cons (ps_try_mix (i := 4) (n := "error") (l := [(true, .ref (gA K "HeapgameError"), fun _ _ _ => tRet (tTup (tCons (tVar 2) (tCons (tVar 4) tNil))))]) rfl rfl nd rfl rfl tk0 (fun W pn xe htk hps => pss_one (ps_expr (pe_mt c1 hr htk (pv 0) (pa_cons (pv 3) pa_nil)))) (.as_ ⟨rfl, by decide, .inl (T.g "HeapgameError")⟩ (fun _ _ _ _ _ _ _ => pss_one (ps_ret (pe_tup (pa_cons (pv 2) (pa_cons (pv 4) pa_nil))))) .nil)) (pss_one (ps_aug (i := 2) nd rfl (.inl rfl) pe_int ip_add)))) (pss_one (ps_ret (pe_tup (pa_cons (pv 2) (pa_cons pe_non pa_nil))))))), ?_⟩
  obtain ⟨la, lxs, rfl, hls, hld⟩ := DI.lst_inv dv
  refine ⟨_, rfl, la, rfl, ⟨lxs, SqL.le (leI H) hls⟩, ?_⟩
  refine for_d (l := evs) (enc := encEv) dv (fun pre σ G => ∃ y3 y4 M1, σ = [some (.ref h), some (.ref la), some (.int (pre.length : Nat)), y3, y4] ∧ NowH K H G h M M1 ∧ M1.mgr = M.mgr ∧ Reach man pre M1.T.ph ∧ M1.evs = pre) ?_ ?_ ?_ ?_
  · exact ⟨_, _, M, rfl, NowH.of hM (ExF.refl _ _), rfl, by rw [hph]; exact .nil, hev0⟩
  · intro pre σ G ⟨_, _, _, _, nw, _⟩
    exact Le.of nw.ex
  · intro pre x post xv σ G el ⟨y3, y4, M1, e, nw, hmg, hr1, hev1⟩ dx
    subst e
    have hre2 : ∃ q, Reach man (pre ++ [x]) q := by
      rw [el, show pre ++ x :: post = (pre ++ [x]) ++ post by simp] at hre
      exact hre.pre
    obtain ⟨q, hq2⟩ := hre2
    obtain ⟨ph1, r, k1, k2, k3, k4⟩ := hq2.inv
    have e1 := k1.det hr1
    subst e1
    have hma1 : ManAt P w K mg base G M1.mgr man mf := by
      rw [hmg]
      exact hma.frame nw.ex hdj
    have hdj1 : ∀ b ∈ mf, b ∉ M1.foot h := fun b hb z => (nw.ft b z).elim (fun z => hdj b hb z) fun z => hma.live b hb z
    have hpl : pre.length < evs.length := by rw [el]; simp
    refine ⟨_, rfl, h, _, _, rfl, nw.at_.ins, rfl, _, rfl, h, M1, man, mf, xv, x, rfl, ⟨nw.at_, hma1, hdj1, hr1.ok hpok⟩, DI.ex dx nw.ex, k2, by rw [hev1]; omega, ⟨fun ph' r' H' M' u hres nw2 hmg2 hph2 hevs du => ?_, fun e he => by rw [k3] at he; cases he⟩⟩
    rw [k3] at hres
    cases hres
    refine ⟨_, rfl, _, _, rfl, rfl, some xv, y4, M', ?_, nw.trans nw2, hmg2.trans hmg, ?_, ?_⟩
    · rw [List.length_append]
      rfl
    · rw [hph2]
      exact .snoc hr1 k2 k3 k4
    · rw [hevs, k4, hev1]
      rfl
  · intro σ G ⟨y3, y4, M1, e, nw, hmg, hr1, hev1⟩
    subst e
    refine ⟨_, rfl, sz2, fun t nt => ?_⟩
    exact hq _ M1 (.ref t) (nw.trans (NowH.of nw.at_ (Ex.new nt))) hmg (hr1.det hre) hev1 (DI.tupOf upd_same (.cons (.int _) (.cons .non .nil)))
end
end Hg
namespace Hg
open PySem PySem.Spec PyProof.Rows L2
/-! ### the journal's records -/
def wideF (n : Int) : List Int := [n / 256, n % 256]
def valF : FV → List Int
  | .non => [0, 0, 0]
  | .num i => 1 :: wideF i
  | .obj n => 2 :: wideF n
def kindE : Ev → Nat
  | .alloc _ => 0
  | .write _ _ _ => 1
  | .release _ => 2
  | .addR _ => 3
  | .remR _ => 4
  | .coll => 5
  | .comp => 6
  | .room _ => 7
  | .slide => 8
def argsE : Ev → List Int
  | .alloc n => [n]
  | .release n => [n]
  | .addR n => [n]
  | .remR n => [n]
  | .room n => [n]
  | _ => []
def bodyF : Ev → List Int
  | .write n i f => [1] ++ wideF n ++ wideF i ++ valF f
  | e => (argsE e).foldl (fun b n => b ++ wideF n) [(kindE e : Int)]
def recF (e : Ev) : List Int := [((bodyF e).length : Int) + 1] ++ bodyF e ++ [170]
section
variable {P : Program} {w : World} {K : PySem.W.Frag} {mg : Str → Option Value} {base : Heap}
theorem DI.ints_sq {H : Hp} {v : V} {l : List Int} (h : DI K H v (encI l)) : ∃ a, v = .ref a ∧ SqL K (imm H) a (l.map V.int) := by
  obtain ⟨a, xs, e, hs, hd⟩ := DI.lst_inv h
  have := DpAll.ints_inv hd
  subst this
  exact ⟨a, e, hs⟩
def spWide (K : PySem.W.Frag) : Sp := fun vs H Q _ => ∃ (n : Int), vs = [.int n] ∧ ∀ H' u, Ex H H' → DI K H' u (encI (wideF n)) → Q u H'
theorem sc_wide : FnScope ["number"] ["number"] (defScope s_wide) := ⟨rfl, rfl, rfl, by decide +kernel, rfl, by decide +kernel, by decide +kernel⟩
theorem w_wide (T : Txt P K mg) : Cl P w K mg base 1 "wide" (spWide K) := by
  have nd := sc_wide.nd
  refine cl_of T (fn_mem 31 rfl) (by decide +kernel) sc_wide (b1 fun _ _ _ _ _ _ _ => rfl) (fun vs H Q E ⟨_, e, _⟩ => by rw [e]; rfl) fun cdv A outer s H vs Q E hr ⟨n, e, hq⟩ => ?_
  subst e
  refine ⟨_, (pss_one (ps_ret (pe_frz (pe_lst (pa_cons (pe_op op_fdiv (pv 0) pe_int) (pa_cons (pe_op op_mod (pv 0) pe_int) pa_nil)))))), ?_⟩
  refine ⟨_, rfl, _, _, rfl, rfl, ⟨by decide, by decide⟩, _, rfl, _, _, rfl, rfl, (show (0 : Int) < 256 by decide), sz2, fun p np => ⟨p, _, (wideF n).map PyData.int, rfl, upd_same, DpAll.ints (wideF n), fun H2 k l d => hq H2 _ ((Ex.new (o := .lst ((wideF n).map V.int)) np).but np k l) d⟩⟩
def spValOct (K : PySem.W.Frag) : Sp := fun vs H Q _ => ∃ (v : V) (f : FV), vs = [v] ∧ DI K H v (encF f) ∧ ∀ H' u, Ex H H' → DI K H' u (encI (valF f)) → Q u H'
theorem sc_valoct : FnScope ["value"] ["value"] (defScope s_value_octets) := ⟨rfl, rfl, rfl, by decide +kernel, rfl, by decide +kernel, by decide +kernel⟩
theorem w_valoct (T : Txt P K mg) : Cl P w K mg base 2 "value_octets" (spValOct K) := by
  have nd := sc_valoct.nd
  have c1 := w_wide (w := w) (base := base) T
  refine cl_of T (fn_mem 32 rfl) (by decide +kernel) sc_valoct (b1 fun _ _ _ _ _ _ _ => rfl) (fun vs H Q E ⟨_, _, e, _⟩ => by rw [e]; rfl) fun cdv A outer s H vs Q E hr ⟨v, f, e, dv, hq⟩ => ?_
  subst e
  refine ⟨_, (pss_cons (ps_if (pt_cmpR op_isN (pv 0) pe_non (nomark _)) (pss_one (ps_ret (pe_frz (pe_lst (pa_cons pe_int (pa_cons pe_int (pa_cons pe_int pa_nil))))))) pss_nil) (pss_cons (ps_if (pt_truth (pe_callB call_isi (by rfl) (T.n "isinstance") (by decide +kernel) (pa_cons (pv 0) (pa_cons (pe_bltn (v := .ty "tuple") (by rfl) (T.n "tuple") (by decide +kernel) rfl) pa_nil))) (by intro _; rfl)) (pss_one (ps_ret (pe_frz (pe_op op_catR (pe_lst (pa_cons pe_int pa_nil)) (pe_cl c1 hr takes0 (pa_cons (pe_ix ix_tup (pv 0) pe_int (fun _ _ => rfl)) pa_nil)))))) pss_nil) (pss_one (ps_ret (pe_frz (pe_op op_catR (pe_lst (pa_cons pe_int pa_nil)) (pe_cl c1 hr takes0 (pa_cons (pv 0) pa_nil)))))))), ?_⟩
  have tail : ∀ (k n : Int) (p : Addr) (H1 : Hp) (u : V), H p = none → Ex H H1 → H1 p = some (.lst [.int k]) → DI K H1 u (encI (wideF n)) → valF f = k :: wideF n →
      ∃ (l b : Addr) (xs zs : List V), V.ref p = .ref l ∧ u = .ref b ∧ SqL K H1 l xs ∧ SqL K H1 b zs ∧ xs.length + zs.length ≤ sizeLine ∧ ∀ q, H1 q = none → ∃ (p : Addr) (ys : List V) (ds : List PyData), V.ref q = .ref p ∧ (upd H1 q (.lst (xs ++ zs))) p = some (.lst ys) ∧ DIs K (upd H1 q (.lst (xs ++ zs))) ys ds ∧
        ∀ H2, (∀ b, b ≠ p → H2 b = (upd H1 q (.lst (xs ++ zs))) b) → H2 p ≠ none → DI K H2 (.ref p) (.list ds) → Q (.ref p) H2 := by
    intro k n p H1 u np e1 hp du hv
    obtain ⟨a, rfl, hs⟩ := du.ints_sq
    refine ⟨p, a, [.int k], _, rfl, rfl, SqL.of hp, SqL.le (leI H1) hs, sz3, fun q nq => ⟨q, _, (valF f).map PyData.int, rfl, upd_same, ?_, fun H2 kk l d => hq H2 _ ((e1.trans (Ex.new nq)).but (e1.gone nq) kk l) d⟩⟩
    rw [hv]
    exact DpAll.ints (k :: wideF n)
  cases f with
  | non =>
    cases dv
    exact ⟨_, rfl, rfl, _, rfl, itY rfl ⟨sz3, fun p np => ⟨p, _, [.int 0, .int 0, .int 0], rfl, upd_same, DpAll.ints [0, 0, 0], fun H2 k l d => hq H2 _ ((Ex.new (o := .lst [.int 0, .int 0, .int 0]) np).but np k l) d⟩⟩⟩
  | num i =>
    cases dv
    refine ⟨_, rfl, rfl, _, rfl, itN intN ⟨_, rfl, _, .ty "tuple", _, _, false, rfl, .ty _, .base (.int i), kit_ty (by decide +kernel), false, rfl, iteF ⟨sz1, fun p np => ⟨_, rfl, i, rfl, fun H1 u e1 du => ?_⟩⟩⟩⟩
    exact tail 1 i p H1 u np ((Ex.new np).trans e1) (Ex.at e1 upd_same) du rfl
  | obj n =>
    obtain ⟨a, rfl, hs⟩ := DI.obj_inv dv
    have hs0 := SqT.le (leI H) hs
    refine ⟨_, rfl, rfl, _, rfl, itN refN ⟨_, rfl, _, .ty "tuple", _, _, true, rfl, .ty _, tyT hs0, kit_ty (by decide +kernel), true, rfl, iteT ⟨sz1, fun p np => ?_⟩⟩⟩
    have e0 : Ex H (upd H p (.lst [.int 2])) := Ex.new np
    refine ⟨_, rfl, a, _, 1, .int n, rfl, rfl, SqT.le (Le.of e0) hs, atI_nat (j := 1) rfl, n, rfl, fun H1 u e1 du => ?_⟩
    exact tail 2 n p H1 u np (e0.trans e1) (Ex.at e1 upd_same) du rfl
end
end Hg
namespace Hg
open PySem PySem.Spec PyProof.Rows L2
/-! ### record_of -/
theorem kind_ok : ∀ (ev : Ev), wordL[kindE ev]? = some (wordE ev) ∧ ∀ m, m < kindE ev → wordL[m]? ≠ some (wordE ev)
  | .alloc _ => (by decide +kernel : wordL[0]? = some ("allocate" : Str) ∧ ∀ m, m < 0 → wordL[m]? ≠ some ("allocate" : Str))
  | .write _ _ _ => (by decide +kernel : wordL[1]? = some ("write" : Str) ∧ ∀ m, m < 1 → wordL[m]? ≠ some ("write" : Str))
  | .release _ => (by decide +kernel : wordL[2]? = some ("release" : Str) ∧ ∀ m, m < 2 → wordL[m]? ≠ some ("release" : Str))
  | .addR _ => (by decide +kernel : wordL[3]? = some ("addRoot" : Str) ∧ ∀ m, m < 3 → wordL[m]? ≠ some ("addRoot" : Str))
  | .remR _ => (by decide +kernel : wordL[4]? = some ("removeRoot" : Str) ∧ ∀ m, m < 4 → wordL[m]? ≠ some ("removeRoot" : Str))
  | .coll => (by decide +kernel : wordL[5]? = some ("collect" : Str) ∧ ∀ m, m < 5 → wordL[m]? ≠ some ("collect" : Str))
  | .comp => (by decide +kernel : wordL[6]? = some ("compact" : Str) ∧ ∀ m, m < 6 → wordL[m]? ≠ some ("compact" : Str))
  | .room _ => (by decide +kernel : wordL[7]? = some ("makeRoom" : Str) ∧ ∀ m, m < 7 → wordL[m]? ≠ some ("makeRoom" : Str))
  | .slide => (by decide +kernel : wordL[8]? = some ("slide" : Str) ∧ ∀ m, m < 8 → wordL[m]? ≠ some ("slide" : Str))
def isW : Ev → Bool
  | .write _ _ _ => true
  | _ => false
theorem wordE_w : ∀ {ev : Ev}, isW ev = false → ¬ V.str (wordE ev) = V.str "write"
  | .alloc _, _ => (by decide +kernel : ¬ V.str "allocate" = V.str "write")
  | .write _ _ _, h => by cases h
  | .release _, _ => (by decide +kernel : ¬ V.str "release" = V.str "write")
  | .addR _, _ => (by decide +kernel : ¬ V.str "addRoot" = V.str "write")
  | .remR _, _ => (by decide +kernel : ¬ V.str "removeRoot" = V.str "write")
  | .coll, _ => (by decide +kernel : ¬ V.str "collect" = V.str "write")
  | .comp, _ => (by decide +kernel : ¬ V.str "compact" = V.str "write")
  | .room _, _ => (by decide +kernel : ¬ V.str "makeRoom" = V.str "write")
  | .slide, _ => (by decide +kernel : ¬ V.str "slide" = V.str "write")
theorem bodyF_nw : ∀ {ev : Ev}, isW ev = false → bodyF ev = (argsE ev).foldl (fun b n => b ++ wideF n) [(kindE ev : Int)]
  | .alloc _, _ => rfl
  | .write _ _ _, h => by cases h
  | .release _, _ => rfl
  | .addR _, _ => rfl
  | .remR _, _ => rfl
  | .coll, _ => rfl
  | .comp, _ => rfl
  | .room _, _ => rfl
  | .slide, _ => rfl
theorem bodyF_len (ev : Ev) : (bodyF ev).length ≤ 10 := by
  cases ev with
  | write n i f => cases f <;> simp [bodyF, wideF, valF]
  | _ => simp [bodyF, argsE, wideF]
theorem argsE_len (ev : Ev) : (argsE ev).length ≤ 1 := by cases ev <;> simp [argsE]
theorem SqT.ex {K : PySem.W.Frag} {H G : Hp} {a : Addr} {xs : List V} (e : Ex H G) (h : SqT K H a xs) : SqT K G a xs := h.imp (fun r => r.imp (fun q => e.at q) fun ⟨o, q⟩ => ⟨o, e.at q⟩) id
section
variable {P : Program} {w : World} {K : PySem.W.Frag} {mg : Str → Option Value} {base : Heap}
theorem ev_args {H : Hp} {v : V} {ev : Ev} (h : DI K H v (encEv ev)) (hw : isW ev = false) : ∃ a, v = .ref a ∧ SqT K (imm H) a (.str (wordE ev) :: (argsE ev).map V.int) := by
  cases ev with
  | alloc n => exact DI.tup2 h
  | write n i f => cases hw
  | release n => exact DI.tup2 h
  | addR n => exact DI.tup2 h
  | remR n => exact DI.tup2 h
  | coll => exact DI.tup1 h
  | comp => exact DI.tup1 h
  | room n => exact DI.tup2 h
  | slide => exact DI.tup1 h
def spRec (K : PySem.W.Frag) : Sp := fun vs H Q _ => ∃ (v : V) (ev : Ev), vs = [v] ∧ DI K H v (encEv ev) ∧ ∀ H' u, Ex H H' → DI K H' u (encI (recF ev)) → Q u H'
abbrev N_rec : List Str := ["event", "kind", "body", "number"]
theorem sc_rec : FnScope N_rec ["event"] (defScope s_record_of) := ⟨rfl, rfl, rfl, by decide +kernel, rfl, by decide +kernel, by decide +kernel⟩
theorem w_rec (T : Txt P K mg) : Cl P w K mg base 3 "record_of" (spRec K) := by
  have nd := sc_rec.nd
  have c1 := w_wide (w := w) (base := base) T
  have c2 := w_valoct (w := w) (base := base) T
  obtain ⟨tm, hmk⟩ := T.mark
  obtain ⟨wo, wo1, wo2, wo3⟩ := T.wordsD
  refine cl_of T (fn_mem 33 rfl) (by decide +kernel) sc_rec (b1 fun _ _ _ _ _ _ _ => rfl) (fun vs H Q E ⟨_, _, e, _⟩ => by rw [e]; rfl) fun cdv A outer s H vs Q E hr ⟨v, ev, e, dv, hq⟩ => ?_
  subst e
  refine ⟨_, (pss_cons (ps_set (i := 1) nd rfl (.inl rfl) (pe_bm PySem.F.plainAttrs_tuple PySem.F.slot_tuple_index PySem.F.type_tuple_index mt_tup_index (pe_glob (v := .ref (gA K "WORDS")) (by rfl) (T.g "WORDS") rfl) (pa_cons (pe_ix ix_tup (pv 0) pe_int (fun _ _ => rfl)) pa_nil))) (pss_cons (ps_set (i := 2) nd rfl (.inl rfl) (pe_lst (pa_cons (pv 1) pa_nil))) (pss_cons (ps_if (pt_cmpR op_eq (pe_ix ix_tup (pv 0) pe_int (fun _ _ => rfl)) pe_str (nomark _)) (pss_one (ps_set (i := 2) nd rfl (.inl rfl) (pe_op op_catR (pe_op op_catR (pe_op op_catR (pv 2) (pe_cl c1 hr takes0 (pa_cons (pe_ix ix_tup (pv 0) pe_int (fun _ _ => rfl)) pa_nil))) (pe_cl c1 hr takes0 (pa_cons (pe_ix ix_tup (pv 0) pe_int (fun _ _ => rfl)) pa_nil))) (pe_cl c2 hr takes0 (pa_cons (pe_ix ix_tup (pv 0) pe_int (fun _ _ => rfl)) pa_nil))))) (pss_one (ps_for ps0 rfl (pi_tup (pe_slice sl_tup (pv 0) (po_some pe_int) po_none)) (pg_name (i := 3) nd rfl (.inl rfl)) (pss_one (ps_set (i := 2) nd rfl (.inl rfl) (pe_op op_catR (pv 2) (pe_cl c1 hr takes0 (pa_cons (pv 3) pa_nil)))))))) (pss_one (ps_ret (pe_frz (pe_op op_catR (pe_op op_catR (pe_lst (pa_cons (pe_op op_add (pe_callB call_len_seq (by rfl) (T.n "len") PySem.boot_len (pa_cons (pv 2) pa_nil)) pe_int) pa_nil)) (pv 2)) (pe_lst (pa_cons (pe_glob (v := .int 170) (by rfl) hmk ⟨tm, rfl⟩) pa_nil))))))))), ?_⟩
  by_cases hw : isW ev = true
  · cases ev with
    | write n i f =>
      obtain ⟨a, u, rfl, hes, du⟩ := DI.tup4 dv
      have hs := SqT.le (leI H) hes
      refine ⟨.inr (.inl ⟨rfl, wo, wo1, wo2, wo3⟩), _, rfl, a, _, 0, .str "write", rfl, rfl, hs, atI_nat (j := 0) rfl, gA K "WORDS", wordL, "write", 1, rfl, rfl, T.words H, (kind_ok (.write n i f)).1, (kind_ok (.write n i f)).2, _, rfl, sz1, fun b nb => ?_⟩
      have e1 : Ex H (upd H b (.lst [.int ((1 : Nat) : Int)])) := Ex.new nb
      have hs1 := SqT.le (Le.of e1) hes
      refine ⟨_, rfl, a, _, 0, .str "write", rfl, rfl, hs1, atI_nat (j := 0) rfl, rfl, _, rfl, itY rfl ?_⟩
      refine ⟨_, rfl, _, rfl, a, _, 1, .int n, rfl, rfl, hs1, atI_nat (j := 1) rfl, n, rfl, fun H2 u1 e2 d1 => ?_⟩
      obtain ⟨a1, rfl, s1⟩ := d1.ints_sq
      refine ⟨b, a1, [.int ((1 : Nat) : Int)], _, rfl, rfl, SqL.of (Ex.at e2 upd_same), SqL.le (leI H2) s1, sz3, fun r1 nr1 => ?_⟩
      have e3 := (e1.trans e2).trans (Ex.new (o := .lst ([.int ((1 : Nat) : Int)] ++ (wideF n).map V.int)) nr1)
      refine ⟨_, rfl, a, _, 2, .int i, rfl, rfl, SqT.le (Le.of e3) hes, atI_nat (j := 2) rfl, i, rfl, fun H3 u2 e4 d2 => ?_⟩
      obtain ⟨a2, rfl, s2⟩ := d2.ints_sq
      refine ⟨r1, a2, _, _, rfl, rfl, SqL.of (Ex.at e4 upd_same), SqL.le (leI H3) s2, leL (m := 100) (by simp [wideF]) (by decide), fun r2 nr2 => ?_⟩
      have e5 := (e3.trans e4).trans (Ex.new (o := .lst ([.int ((1 : Nat) : Int)] ++ (wideF n).map V.int ++ (wideF i).map V.int)) nr2)
      refine ⟨_, rfl, a, _, 3, u, rfl, rfl, SqT.le (Le.of e5) hes, atI_nat (j := 3) rfl, u, f, rfl, DI.ex du e5, fun H4 u3 e6 d3 => ?_⟩
      obtain ⟨a3, rfl, s3⟩ := d3.ints_sq
      refine ⟨r2, a3, _, _, rfl, rfl, SqL.of (Ex.at e6 upd_same), SqL.le (leI H4) s3, leL (m := 100) (by cases f <;> simp [wideF, valF]) (by decide), fun q nq => ?_⟩
      have eG : Ex H (upd H4 q (.lst ([.int ((1 : Nat) : Int)] ++ (wideF n).map V.int ++ (wideF i).map V.int ++ (valF f).map V.int))) := (e5.trans e6).trans (Ex.new nq)
      have hqG : (upd H4 q (.lst ([.int ((1 : Nat) : Int)] ++ (wideF n).map V.int ++ (wideF i).map V.int ++ (valF f).map V.int))) q = some (.lst ((bodyF (.write n i f)).map V.int)) := by
        rw [upd_same]
        unfold bodyF
        rw [List.map_append, List.map_append, List.map_append]
        rfl
      generalize upd H4 q (.lst ([.int ((1 : Nat) : Int)] ++ (wideF n).map V.int ++ (wideF i).map V.int ++ (valF f).map V.int)) = G at eG hqG ⊢
      generalize hev : Ev.write n i f = ev at hq hqG
      refine ⟨_, rfl, q, _, rfl, .inl (SqL.of hqG), _, _, rfl, rfl, sz1, fun p1 np1 => ?_⟩
      have f1 : Ex G (upd G p1 (.lst [.int ((((bodyF ev).map V.int).length : Nat) + 1 : Int)])) := Ex.new np1
      refine ⟨_, rfl, p1, q, [.int ((((bodyF ev).map V.int).length : Nat) + 1 : Int)], (bodyF ev).map V.int, rfl, rfl, SqL.of upd_same, SqL.of (f1.at hqG), leL (m := 1000) (by rw [List.length_map]; have := bodyF_len ev; show 1 + _ ≤ 1000; omega) (by decide), fun p2 np2 => ?_⟩
      have f2 := f1.trans (Ex.new (o := .lst ([.int ((((bodyF ev).map V.int).length : Nat) + 1 : Int)] ++ (bodyF ev).map V.int)) np2)
      refine ⟨sz1, fun p3 np3 => ?_⟩
      have f3 := f2.trans (Ex.new (o := .lst [.int 170]) np3)
      refine ⟨p2, p3, _, [.int 170], rfl, rfl, SqL.of (Ex.at (Ex.new (F := NoF) np3) upd_same), SqL.of upd_same, leL (m := 1000) (by rw [List.length_append, List.length_map]; have := bodyF_len ev; show 1 + _ + 1 ≤ 1000; omega) (by decide), fun p4 np4 => ?_⟩
      have f4 := f3.trans (Ex.new (o := .lst ([.int ((((bodyF ev).map V.int).length : Nat) + 1 : Int)] ++ (bodyF ev).map V.int ++ [.int 170])) np4)
      refine ⟨p4, _, (recF ev).map PyData.int, rfl, upd_same, ?_, fun H9 k l d => hq H9 _ ((eG.trans f4).but (eG.gone (f3.gone np4)) k l) d⟩
      have hr9 : [V.int ((((bodyF ev).map V.int).length : Nat) + 1 : Int)] ++ (bodyF ev).map V.int ++ [.int 170] = (recF ev).map V.int := by
        unfold recF
        rw [List.map_append, List.map_append, List.length_map]
        rfl
      rw [hr9]
      exact DpAll.ints _
    | _ => cases hw
  · have hw : isW ev = false := by simpa using hw
    obtain ⟨a, rfl, hes⟩ := ev_args dv hw
    have hs := SqT.le (leI H) hes
    refine ⟨.inr (.inl ⟨rfl, wo, wo1, wo2, wo3⟩), _, rfl, a, _, 0, .str (wordE ev), rfl, rfl, hs, atI_nat (j := 0) rfl, gA K "WORDS", wordL, wordE ev, kindE ev, rfl, rfl, T.words H, (kind_ok ev).1, (kind_ok ev).2, _, rfl, sz1, fun b nb => ?_⟩
    have e1 : Ex H (upd H b (.lst [.int ((kindE ev : Nat) : Int)])) := Ex.new nb
    have hs1 := SqT.le (Le.of e1) hes
    refine ⟨_, rfl, a, _, 0, .str (wordE ev), rfl, rfl, hs1, atI_nat (j := 0) rfl, rfl, _, rfl, itN (wordE_w hw) ?_⟩
    refine ⟨_, rfl, 1, rfl, a, _, rfl, hs1, fun z => absurd z.1 (by simp [HT.sIx]), fun t nt => ?_⟩
    have ecut : cutV (.str (wordE ev) :: (argsE ev).map V.int) (some 1) none = (argsE ev).map V.int := by
      unfold cutV
      simp [HT.sIx]
      (exact List.take_of_length_le (by simp))
    rw [ecut]
    have e2 : Ex H (upd (upd H b (.lst [.int ((kindE ev : Nat) : Int)])) t (.tup ((argsE ev).map V.int))) := e1.trans (Ex.new nt)
    have ntb : b ≠ t := fun z => by rw [← z, upd_same] at nt; cases nt
    refine ⟨t, rfl, ⟨_, SqT.of upd_same⟩, ?_⟩
    have hwk : Walk (Itt K t) (argsE ev).length (fun H => SqT K H t ((argsE ev).map V.int)) (YAt ((argsE ev).map V.int)) := by
      have := walk_tup (K := K) (a := t) (xs := (argsE ev).map V.int)
      rwa [List.length_map] at this
    refine for_l (argsE ev) hwk (fun pre σ G => ∃ q y3, σ = [some (.ref a), some (.int ((kindE ev : Nat) : Int)), some (.ref q), y3] ∧ Ex H G ∧ SqT K G t ((argsE ev).map V.int) ∧ G q = some (.lst ((pre.foldl (fun b n => b ++ wideF n) [(kindE ev : Int)]).map V.int))) ?_ ?_ ?_ ?_
    · exact ⟨b, _, rfl, e2, SqT.of upd_same, by rw [upd_ne ntb, upd_same]; rfl⟩
    · intro pre σ G ⟨_, _, _, _, h, _⟩
      exact h
    · intro pre n post v σ G G' el ⟨q, y3, e, eG, hT, hq1⟩ y
      obtain ⟨rfl, hy⟩ := y
      subst e
      have hv : v = .int n := by
        rw [el] at hy
        simpa using hy.symm
      subst hv
      refine ⟨_, rfl, _, rfl, n, rfl, fun H2 u e3 du => ?_⟩
      obtain ⟨a1, rfl, s1⟩ := du.ints_sq
      have hpl : pre.length ≤ 1 := by
        have h1 := argsE_len ev
        rw [el, List.length_append, List.length_cons] at h1
        omega
      have hfl : (pre.foldl (fun b n => b ++ wideF n) [(kindE ev : Int)]).length ≤ 10 := by
        match pre, hpl with
        | [], _ => exact (show 1 ≤ 10 by decide)
        | [x], _ => exact (show 3 ≤ 10 by decide)
      refine ⟨q, a1, _, _, rfl, rfl, SqL.of (Ex.at e3 hq1), SqL.le (leI H2) s1, leL (m := 100) (by rw [List.length_map, List.length_map]; show _ + 2 ≤ 100; omega) (by decide), fun r nr => ?_⟩
      have e4 : Ex G' (upd H2 r (.lst ((pre.foldl (fun b n => b ++ wideF n) [(kindE ev : Int)]).map V.int ++ (wideF n).map V.int))) := e3.trans (Ex.new nr)
      refine ⟨r, _, rfl, eG.trans e4, SqT.ex e4 hT, ?_⟩
      rw [upd_same, List.foldl_append, List.foldl_cons, List.foldl_nil, List.map_append]
    · intro σ G ⟨q, y3, e, eG, hT, hqG⟩
      subst e
      rw [← bodyF_nw hw] at hqG
      refine ⟨_, rfl, q, _, rfl, .inl (SqL.of hqG), _, _, rfl, rfl, sz1, fun p1 np1 => ?_⟩
      have f1 : Ex G (upd G p1 (.lst [.int ((((bodyF ev).map V.int).length : Nat) + 1 : Int)])) := Ex.new np1
      refine ⟨_, rfl, p1, q, [.int ((((bodyF ev).map V.int).length : Nat) + 1 : Int)], (bodyF ev).map V.int, rfl, rfl, SqL.of upd_same, SqL.of (f1.at hqG), leL (m := 1000) (by rw [List.length_map]; have := bodyF_len ev; show 1 + _ ≤ 1000; omega) (by decide), fun p2 np2 => ?_⟩
      have f2 := f1.trans (Ex.new (o := .lst ([.int ((((bodyF ev).map V.int).length : Nat) + 1 : Int)] ++ (bodyF ev).map V.int)) np2)
      refine ⟨sz1, fun p3 np3 => ?_⟩
      have f3 := f2.trans (Ex.new (o := .lst [.int 170]) np3)
      refine ⟨p2, p3, _, [.int 170], rfl, rfl, SqL.of (Ex.at (Ex.new (F := NoF) np3) upd_same), SqL.of upd_same, leL (m := 1000) (by rw [List.length_append, List.length_map]; have := bodyF_len ev; show 1 + _ + 1 ≤ 1000; omega) (by decide), fun p4 np4 => ?_⟩
      have f4 := f3.trans (Ex.new (o := .lst ([.int ((((bodyF ev).map V.int).length : Nat) + 1 : Int)] ++ (bodyF ev).map V.int ++ [.int 170])) np4)
      refine ⟨p4, _, (recF ev).map PyData.int, rfl, upd_same, ?_, fun H9 k l d => hq H9 _ ((eG.trans f4).but (eG.gone (f3.gone np4)) k l) d⟩
      have hr9 : [V.int ((((bodyF ev).map V.int).length : Nat) + 1 : Int)] ++ (bodyF ev).map V.int ++ [.int 170] = (recF ev).map V.int := by
        unfold recF
        rw [List.map_append, List.map_append, List.length_map]
        rfl
      rw [hr9]
      exact DpAll.ints _
end
end Hg
namespace Hg
open PySem PySem.Spec PyProof.Rows L2
/-! ### Device -/
theorem nat_log {n : Nat} (h : n ≤ 1000000) : ((n : Nat) : Int).natAbs.log2 < 1920 := by
  rw [Int.natAbs_natCast]
  by_cases h0 : n = 0
  · rw [h0]
    decide
  · have h1 : n < 2 ^ 20 := Nat.lt_of_le_of_lt h (by decide)
    have := (Nat.log2_lt h0).mpr h1
    omega
section
variable {P : Program} {w : World} {K : PySem.W.Frag} {mg : Str → Option Value} {base : Heap}
abbrev CDev (K : PySem.W.Frag) : Addr := gA K "Device"
def devFs (ol : Addr) (pw : Int) : List (Str × V) := [("octets", .ref ol), ("power", .int pw)]
def spDev0 (K : PySem.W.Frag) : Sp := fun vs H Q _ => ∃ (x dx : Addr) (v : V) (os : List Int) (pw : Int), vs = [.ref x, v, .int pw] ∧ H x = some (.ins (CDev K) dx []) ∧ (∃ a, v = .ref a ∧ SqL K H a (os.map V.int)) ∧
  ∀ ol, H ol = none → Q .non (upd (upd H ol (.lst (os.map V.int))) x (.ins (CDev K) dx (devFs ol pw)))
theorem sc_dev0 : FnScope ["self", "octets", "power"] ["self", "octets", "power"] (defScope s_Device_init) := ⟨rfl, rfl, rfl, by decide +kernel, rfl, by decide +kernel, by decide +kernel⟩
theorem w_dev0 (T : Txt P K mg) : Mr P w K mg base 1 "Device" (CDev K) (spDev0 K) := by
  have nd := sc_dev0.nd
  refine mr_of T (fn_mem 93 rfl) (by decide +kernel) (by decide +kernel) sc_dev0 (b3 fun _ _ _ _ _ _ _ _ _ => rfl) (fun vs H Q E ⟨_, _, _, _, _, e, _⟩ => by rw [e]; rfl) fun cdv A outer s H vs Q E hr ⟨x, dx, v, os, pw, e, hx, ⟨a, ev, hs⟩, hq⟩ => ?_
  subst e
  subst ev
  refine ⟨_, (pss_cons (ps_fld (pv 0) (pe_callTy call_list_of (by rfl) (T.n "list") (by decide +kernel) (pa_cons (pv 1) pa_nil)) rfl) (pss_one (ps_fld (pv 0) (pv 2) rfl))), ?_⟩
  refine ⟨_, rfl, a, _, rfl, .inl hs, fun ol nol => ?_⟩
  have nx : x ≠ ol := ne_of_none hx nol
  refine ⟨_, rfl, x, _, _, _, rfl, by rw [upd_ne nx]; exact hx, T.cls "Device", T.noat "Device" "octets", by show (0 : Nat) < 1000; decide, ?_⟩
  refine ⟨_, rfl, _, rfl, x, _, _, _, rfl, upd_same, T.cls "Device", T.noat "Device" "power", by show (1 : Nat) < 1000; decide, ?_⟩
  rw [upd_upd]
  exact hq ol nol
def spAppend (K : PySem.W.Frag) : Sp := fun vs H Q E => ∃ (d dx ol : Addr) (os : List Int) (pw o : Int), vs = [.ref d, .int o] ∧ H d = some (.ins (CDev K) dx (devFs ol pw)) ∧ H ol = some (.lst (os.map V.int)) ∧ os.length ≤ 1000000 ∧
  (0 < pw → Q .non (upd (upd H d (.ins (CDev K) dx (devFs ol (pw - 1)))) ol (.lst ((os ++ [o]).map V.int)))) ∧ (pw ≤ 0 → Rx K E H "PowerCut" [("written", .int (os.length : Nat))])
theorem sc_append : FnScope ["self", "octet"] ["self", "octet"] (defScope s_Device_append) := ⟨rfl, rfl, rfl, by decide +kernel, rfl, by decide +kernel, by decide +kernel⟩
theorem w_append (T : Txt P K mg) : Mt P w K mg base 3 (CDev K) "append" (spAppend K) := by
  have nd := sc_append.nd
  refine mt_of T (fn_mem 94 rfl) (by decide +kernel) (by decide +kernel) sc_append (b2 fun _ _ _ _ _ _ _ _ => rfl) (fun vs H Q E ⟨_, _, _, _, _, _, e, _⟩ => by rw [e]; rfl) fun cdv A outer s H vs Q E hr ⟨d, dx, ol, os, pw, o, e, hd, hol, hlen, hq, hE⟩ => ?_
  subst e
  refine ⟨_, (pss_cons (ps_if (pt_cmpR op_le (pe_fld (pv 0) rfl) pe_int (nomark _)) (pss_one (ps_raise1 (er_PowerCut T) hr rfl tk0 (pe_callB call_len_seq (by rfl) (T.n "len") PySem.boot_len (pa_cons (pe_fld (pv 0) rfl) pa_nil)))) pss_nil) (pss_cons (ps_fldaug (pv 0) pe_int in_sub) (pss_one (ps_expr (pe_bm PySem.F.plainAttrs_list PySem.F.slot_list_append PySem.F.type_list_append mt_append (pe_fld (pv 0) rfl) (pa_cons (pv 1) pa_nil)))))), ?_⟩
  refine ⟨_, rfl, d, _, _, _, _, rfl, hd, T.cls "Device", T.noat "Device" "power", rfl, _, _, rfl, rfl, _, rfl, iteD (fun h => ?_) fun h => ?_⟩
  · refine ⟨_, rfl, d, _, _, _, _, rfl, hd, T.cls "Device", T.noat "Device" "octets", rfl, ol, _, rfl, .inl (SqL.of hol), .inr ⟨_, rfl, ?_⟩, fun dd hdd => ?_⟩
    · exact nat_log (by rw [List.length_map]; exact hlen)
    · have h9 := hE h (upd H dd (.xd [("written", .int (((os.map V.int).length : Nat) : Int))])) dd (Ex.new hdd) (by rw [upd_same, List.length_map])
      exact h9
  · have ndo : ol ≠ d := ne_of hol hd (by intro z; cases z)
    refine ⟨_, rfl, d, _, _, _, _, rfl, hd, T.cls "Device", T.noat "Device" "power", rfl, _, _, rfl, rfl, dx, _, hd, by show (2 : Nat) < 1000; decide, _, rfl, d, _, _, _, _, rfl, upd_same, T.cls "Device", T.noat "Device" "octets", rfl, .inl ⟨rfl, _, SqL.of (by rw [upd_ne ndo]; exact hol)⟩, _, rfl, ol, _, _, rfl, rfl, by rw [upd_ne ndo]; exact hol, ltL (m := 2000000) (by rw [List.length_map]; omega) (by decide), ?_⟩
    have := hq (by omega)
    rw [List.map_append] at this
    exact this
end
end Hg
namespace Hg
open PySem PySem.Spec PyProof.Rows L2
/-! ### JournaledHeap -/
structure Jn where
  dx : Addr
  h : Addr
  d : Addr
  ddx : Addr
  ol : Addr
  M : Hps
  os : List Int
  pw : Int
  shut : Bool
def Jn.setM (J : Jn) (M : Hps) : Jn := ⟨J.dx, J.h, J.d, J.ddx, J.ol, M, J.os, J.pw, J.shut⟩
def Jn.setO (J : Jn) (os : List Int) (pw : Int) : Jn := ⟨J.dx, J.h, J.d, J.ddx, J.ol, J.M, os, pw, J.shut⟩
def Jn.setX (J : Jn) (b : Bool) : Jn := ⟨J.dx, J.h, J.d, J.ddx, J.ol, J.M, J.os, J.pw, b⟩
def Jn.foot (J : Jn) (j : Addr) : List Addr := j :: J.dx :: J.d :: J.ddx :: J.ol :: J.M.foot J.h
section
variable {K : PySem.W.Frag}
abbrev CJ (K : PySem.W.Frag) : Addr := gA K "JournaledHeap"
def jFs (h d : Addr) (b : Bool) : List (Str × V) := [("heap", .ref h), ("device", .ref d), ("shut", .bl b)]
structure JAt (K : PySem.W.Frag) (H : Hp) (j : Addr) (J : Jn) : Prop where
  ins : H j = some (.ins (CJ K) J.dx (jFs J.h J.d J.shut))
  own : H J.dx = some (.own j)
  dins : H J.d = some (.ins (CDev K) J.ddx (devFs J.ol J.pw))
  down : H J.ddx = some (.own J.d)
  oct : H J.ol = some (.lst (J.os.map V.int))
  hp : HeapAt K H J.h J.M
  dis : ∀ b ∈ J.M.foot J.h, b ≠ j ∧ b ≠ J.dx ∧ b ≠ J.d ∧ b ≠ J.ddx ∧ b ≠ J.ol
  njd : j ≠ J.d
structure NowJ (K : PySem.W.Frag) (H H' : Hp) (j : Addr) (J J' : Jn) : Prop where
  ex : ExF (InF (J.foot j)) H H'
  at_ : JAt K H' j J'
  ft : ∀ b ∈ J'.foot j, b ∈ J.foot j ∨ H b = none
variable {F : Addr → Prop} {H H' H1 H2 : Hp} {j : Addr} {J J1 J2 : Jn}
theorem Jn.foot_cases {b : Addr} (hb : b ∈ J.foot j) : b = j ∨ b = J.dx ∨ b = J.d ∨ b = J.ddx ∨ b = J.ol ∨ b ∈ J.M.foot J.h := by
  simpa only [Jn.foot, List.mem_cons] using hb
theorem Jn.foot_j : j ∈ J.foot j := by simp [Jn.foot]
theorem Jn.foot_dx : J.dx ∈ J.foot j := by simp [Jn.foot]
theorem Jn.foot_d : J.d ∈ J.foot j := by simp [Jn.foot]
theorem Jn.foot_ddx : J.ddx ∈ J.foot j := by simp [Jn.foot]
theorem Jn.foot_ol : J.ol ∈ J.foot j := by simp [Jn.foot]
theorem Jn.foot_M {b : Addr} (hb : b ∈ J.M.foot J.h) : b ∈ J.foot j := by
  simp only [Jn.foot, List.mem_cons]
  exact .inr (.inr (.inr (.inr (.inr hb))))
theorem JAt.frame (a : JAt K H j J) (e : ExF F H H') (hF : ∀ b ∈ J.foot j, ¬ F b) : JAt K H' j J where
  ins := e.at a.ins (hF _ Jn.foot_j)
  own := e.at a.own (hF _ Jn.foot_dx)
  dins := e.at a.dins (hF _ Jn.foot_d)
  down := e.at a.down (hF _ Jn.foot_ddx)
  oct := e.at a.oct (hF _ Jn.foot_ol)
  hp := a.hp.frame e fun b hb => hF b (Jn.foot_M hb)
  dis := a.dis
  njd := a.njd
theorem JAt.ex (a : JAt K H j J) (e : Ex H H') : JAt K H' j J := a.frame e fun _ _ z => z
theorem JAt.live (a : JAt K H j J) : ∀ b ∈ J.foot j, H b ≠ none := fun b hb z => by
  rcases Jn.foot_cases hb with rfl | rfl | rfl | rfl | rfl | hb
  · rw [a.ins] at z; cases z
  · rw [a.own] at z; cases z
  · rw [a.dins] at z; cases z
  · rw [a.down] at z; cases z
  · rw [a.oct] at z; cases z
  · exact a.hp.live b hb z
theorem NowJ.trans (a : NowJ K H H1 j J J1) (b : NowJ K H1 H2 j J1 J2) : NowJ K H H2 j J J2 where
  ex := ⟨fun c o k n q => b.ex.keep c o (a.ex.keep c o k n q) (fun z => (a.ft c z).elim n fun y => by rw [k] at y; cases y) q, fun c k => a.ex.live c (b.ex.live c k), fun p ps k t => by
    obtain ⟨qs, h2, t2⟩ := a.ex.tab p ps k t
    exact b.ex.tab p qs h2 t2, fun c o k => b.ex.imm c o (a.ex.immI k)⟩
  at_ := b.at_
  ft := fun c hc => (b.ft c hc).elim (fun z => a.ft c z) fun z => .inr (a.ex.gone z)
theorem NowJ.of (a : JAt K H j J) (e : Ex H H1) : NowJ K H H1 j J J := ⟨e.of, a.ex e, fun _ h => .inl h⟩
theorem JAt.hp' {M' : Hps} (a : JAt K H j J) (n : NowH K H H1 J.h J.M M') : NowJ K H H1 j J (J.setM M') := by
  have nf : ∀ b, (b = j ∨ b = J.dx ∨ b = J.d ∨ b = J.ddx ∨ b = J.ol) → b ∉ J.M.foot J.h := fun b hb z => by
    obtain ⟨y1, y2, y3, y4, y5⟩ := a.dis b z
    rcases hb with e | e | e | e | e
    · exact y1 e
    · exact y2 e
    · exact y3 e
    · exact y4 e
    · exact y5 e
  refine ⟨n.ex.mono fun b hb => Jn.foot_M hb, ⟨n.ex.at a.ins (nf _ (.inl rfl)), n.ex.at a.own (nf _ (.inr (.inl rfl))), n.ex.at a.dins (nf _ (.inr (.inr (.inl rfl)))), n.ex.at a.down (nf _ (.inr (.inr (.inr (.inl rfl))))), n.ex.at a.oct (nf _ (.inr (.inr (.inr (.inr rfl))))), n.at_, fun b hb => ?_, a.njd⟩, fun b hb => ?_⟩
  · rcases n.ft b hb with hb | hb
    · exact a.dis b hb
    · refine ⟨fun z => ?_, fun z => ?_, fun z => ?_, fun z => ?_, fun z => ?_⟩
      · rw [show b = j from z, a.ins] at hb; cases hb
      · rw [show b = J.dx from z, a.own] at hb; cases hb
      · rw [show b = J.d from z, a.dins] at hb; cases hb
      · rw [show b = J.ddx from z, a.down] at hb; cases hb
      · rw [show b = J.ol from z, a.oct] at hb; cases hb
  · rcases Jn.foot_cases hb with e | e | e | e | e | hb
    · exact .inl (by rw [e]; exact Jn.foot_j)
    · exact .inl (by rw [show b = J.dx from e]; exact Jn.foot_dx)
    · exact .inl (by rw [show b = J.d from e]; exact Jn.foot_d)
    · exact .inl (by rw [show b = J.ddx from e]; exact Jn.foot_ddx)
    · exact .inl (by rw [show b = J.ol from e]; exact Jn.foot_ol)
    · exact (n.ft b hb).imp (fun z => Jn.foot_M z) id
theorem JAt.nes (a : JAt K H j J) : j ≠ J.dx ∧ j ≠ J.ddx ∧ j ≠ J.ol ∧ J.dx ≠ J.d ∧ J.dx ≠ J.ddx ∧ J.dx ≠ J.ol ∧ J.d ≠ J.ddx ∧ J.d ≠ J.ol ∧ J.ddx ≠ J.ol := by
  refine ⟨ne_of a.ins a.own (by intro z; cases z), ne_of a.ins a.down (by intro z; cases z), ne_of a.ins a.oct (by intro z; cases z), ne_of a.own a.dins (by intro z; cases z), ne_of a.own a.down (fun z => a.njd ?_), ne_of a.own a.oct (by intro z; cases z), ne_of a.dins a.down (by intro z; cases z), ne_of a.dins a.oct (by intro z; cases z), ne_of a.down a.oct (by intro z; cases z)⟩
  cases z
  rfl
theorem JAt.app {os : List Int} {pw : Int} (a : JAt K H j J) : NowJ K H (upd (upd H J.d (.ins (CDev K) J.ddx (devFs J.ol pw))) J.ol (.lst (os.map V.int))) j J (J.setO os pw) := by
  obtain ⟨n1, n2, n3, n4, n5, n6, n7, n8, n9⟩ := a.nes
  have e1 : ExF (fun b => b = J.d ∨ b = J.ol) H (upd (upd H J.d (.ins (CDev K) J.ddx (devFs J.ol pw))) J.ol (.lst (os.map V.int))) :=
    ((ExF.refl _ H).upd (.inr ⟨.inl rfl, _, a.dins, rfl, rfl⟩)).upd (.inr ⟨.inr rfl, _, a.oct, rfl, rfl⟩)
  have nf : ∀ b, b ≠ J.d → b ≠ J.ol → ¬ (b = J.d ∨ b = J.ol) := fun b h1 h2 z => z.elim h1 h2
  refine ⟨e1.mono fun b hb => ?_, ⟨e1.at a.ins (nf _ a.njd n3), e1.at a.own (nf _ n4 n6), ?_, e1.at a.down (nf _ n7.symm n9), ?_, a.hp.frame e1 fun b hb => nf _ (a.dis b hb).2.2.1 (a.dis b hb).2.2.2.2, a.dis, a.njd⟩, fun b hb => .inl hb⟩
  · rcases hb with e | e
    · rw [e]; exact Jn.foot_d
    · rw [e]; exact Jn.foot_ol
  · show upd _ _ _ J.d = _
    rw [upd_ne n8, upd_same]
    rfl
  · show upd _ _ _ J.ol = _
    rw [upd_same]
    rfl
theorem JAt.setX {b : Bool} (a : JAt K H j J) (fs : List (Str × V)) (hfs : fs = jFs J.h J.d b) : NowJ K H (upd H j (.ins (CJ K) J.dx fs)) j J (J.setX b) := by
  subst hfs
  obtain ⟨n1, n2, n3, n4, n5, n6, n7, n8, n9⟩ := a.nes
  have e1 : ExF (fun b => b = j) H (upd H j (.ins (CJ K) J.dx (jFs J.h J.d b))) := (ExF.refl _ H).upd (.inr ⟨rfl, _, a.ins, rfl, rfl⟩)
  refine ⟨e1.mono fun b hb => by rw [hb]; exact Jn.foot_j, ⟨upd_same, e1.at a.own n1.symm, e1.at a.dins a.njd.symm, e1.at a.down n2.symm, e1.at a.oct n3.symm, a.hp.frame e1 fun b hb => (a.dis b hb).1, a.dis, a.njd⟩, fun b hb => .inl hb⟩
end
end Hg
namespace Hg
open PySem PySem.Spec PyProof.Rows L2
/-! ### JournaledHeap: __init__, change -/
section
variable {P : Program} {w : World} {K : PySem.W.Frag} {mg : Str → Option Value} {base : Heap}
def spJ0 (K : PySem.W.Frag) : Sp := fun vs H Q _ => ∃ (x dx h d : Addr), vs = [.ref x, .ref h, .ref d] ∧ H x = some (.ins (CJ K) dx []) ∧ Q .non (upd H x (.ins (CJ K) dx (jFs h d false)))
theorem sc_j0 : FnScope ["self", "heap", "device"] ["self", "heap", "device"] (defScope s_JournaledHeap_init) := ⟨rfl, rfl, rfl, by decide +kernel, rfl, by decide +kernel, by decide +kernel⟩
theorem w_j0 (T : Txt P K mg) : Mr P w K mg base 1 "JournaledHeap" (CJ K) (spJ0 K) := by
  have nd := sc_j0.nd
  refine mr_of T (fn_mem 95 rfl) (by decide +kernel) (by decide +kernel) sc_j0 (b3 fun _ _ _ _ _ _ _ _ _ => rfl) (fun vs H Q E ⟨_, _, _, _, e, _⟩ => by rw [e]; rfl) fun cdv A outer s H vs Q E hr ⟨x, dx, h, d, e, hx, hq⟩ => ?_
  subst e
  refine ⟨_, (pss_cons (ps_fld (pv 0) (pv 1) rfl) (pss_cons (ps_fld (pv 0) (pv 2) rfl) (pss_one (ps_fld (pv 0) pe_bl rfl)))), ?_⟩
  refine ⟨_, rfl, _, rfl, x, _, _, _, rfl, hx, T.cls "JournaledHeap", T.noat "JournaledHeap" "heap", by show (0 : Nat) < 1000; decide, ?_⟩
  refine ⟨_, rfl, _, rfl, x, _, _, _, rfl, upd_same, T.cls "JournaledHeap", T.noat "JournaledHeap" "device", by show (1 : Nat) < 1000; decide, ?_⟩
  refine ⟨_, rfl, x, _, _, _, rfl, upd_same, T.cls "JournaledHeap", T.noat "JournaledHeap" "shut", by show (2 : Nat) < 1000; decide, ?_⟩
  rw [upd_upd, upd_upd]
  exact hq
/-- the journaled heap's answer -/
structure JK (K : PySem.W.Frag) (H : Hp) (j : Addr) (J : Jn) (ev : Ev) (res : Ans) (Q : VK) (E : XK) : Prop where
  sh : J.shut = true → ∀ H', Ex H H' → E (.ref (gA K "ShutError")) none H'
  er : J.shut = false → ∀ e, res = .error e → ∀ H' M', NowJ K H H' j J (J.setM M') → M'.mgr = J.M.mgr → M'.T.ph = J.M.T.ph → M'.evs = J.M.evs → RxE K E H' e
  no : J.shut = false → ∀ ph' r H' M' u, res = .ok (ph', r) → told ev r = false → NowJ K H H' j J (J.setM M') → M'.mgr = J.M.mgr → M'.T.ph = ph' → M'.evs = J.M.evs → DI K H' u r → Q u H'
  yes : J.shut = false → ∀ ph' r H' M' u, res = .ok (ph', r) → told ev r = true → ((recF ev).length : Int) ≤ J.pw → NowJ K H H' j J ((J.setM M').setO (J.os ++ recF ev) (J.pw - (recF ev).length)) → M'.mgr = J.M.mgr → M'.T.ph = ph' → M'.evs = J.M.evs ++ [ev] → DI K H' u r → Q u H'
  cut : J.shut = false → ∀ ph' r H' M' d fs, res = .ok (ph', r) → told ev r = true → J.pw < (recF ev).length → NowJ K H H' j J (((J.setM M').setO (J.os ++ (recF ev).take J.pw.toNat) 0).setX true) → M'.mgr = J.M.mgr → M'.T.ph = ph' → M'.evs = J.M.evs ++ [ev] → H' d = some (.xd fs) → E (.ref (gA K "PowerCut")) (some d) H'
def spJChange (P : Program) (w : World) (K : PySem.W.Frag) (mg : Str → Option Value) (base : Heap) : Sp := fun vs H Q E => ∃ (j : Addr) (J : Jn) (man : Man) (mf : List Addr) (v : V) (ev : Ev), vs = [.ref j, v] ∧ JAt K H j J ∧ HIn P w K mg base H J.h J.M man mf ∧ DI K H v (encEv ev) ∧ EvOk ev ∧ J.M.evs.length ≤ 1000 ∧ J.os.length ≤ 100000 ∧ 0 ≤ J.pw ∧ JK K H j J ev (performF man J.M.T.ph ev) Q E
abbrev N_jchange : List Str := ["self", "event", "before", "result", "octet"]
theorem sc_jchange : FnScope N_jchange ["self", "event"] (defScope s_JournaledHeap_change) := ⟨rfl, rfl, rfl, by decide +kernel, rfl, by decide +kernel, by decide +kernel⟩
theorem recF_len (ev : Ev) : (recF ev).length ≤ 20 := by
  have := bodyF_len ev
  unfold recF
  rw [List.length_append, List.length_append]
  show 1 + _ + 1 ≤ 20
  omega
theorem w_jchange (T : Txt P K mg) : Mt P w K mg base 16 (CJ K) "change" (spJChange P w K mg base) := by
  have nd := sc_jchange.nd
  have c1 := w_change (w := w) (base := base) T
  have c2 := w_rec (w := w) (base := base) T
  have c3 := w_append (w := w) (base := base) T
  refine mt_of T (fn_mem 96 rfl) (by decide +kernel) (by decide +kernel) sc_jchange (b2 fun _ _ _ _ _ _ _ _ => rfl) (fun vs H Q E ⟨_, _, _, _, _, _, e, _⟩ => by rw [e]; rfl) fun cdv A outer s H vs Q E hr ⟨j, J, man, mf, v, ev, e, hJ, hI, hev, hok2, hel, hol, hpw, hK⟩ => ?_
  subst e
  refine ⟨_, (pss_cons (ps_if (pt_truth (pe_fld (pv 0) rfl) (by intro _; rfl)) (pss_one (ps_raise0 (er0_of T "ShutError" (by decide +kernel) (by decide +kernel) (by decide +kernel)) rfl tk0)) pss_nil) (pss_cons (ps_set (i := 2) nd rfl (.inl rfl) (pe_callB call_len_seq (by rfl) (T.n "len") PySem.boot_len (pa_cons (pe_fld (pe_fld (pv 0) rfl) rfl) pa_nil))) (pss_cons (ps_set (i := 3) nd rfl (.inl rfl) (pe_mt c1 hr tk0 (pe_fld (pv 0) rfl) (pa_cons (pv 1) pa_nil))) (pss_cons (ps_if (pt_cmpR op_eq (pe_callB call_len_seq (by rfl) (T.n "len") PySem.boot_len (pa_cons (pe_fld (pe_fld (pv 0) rfl) rfl) pa_nil)) (pv 2) (nomark _)) (pss_one (ps_ret (pv 3))) pss_nil) (pss_cons (ps_try_again (tb := fun W => tFor (iList K (tCallS (spRec K) (WE W) (tCons (tVar 1) tNil))) (gName 4) (tDrop (tMS (CDev K) "append" (spAppend K) W (tFld K (tVar 0) "device") (tCons (tVar 4) tNil)))) (t1 := sFld K (tVar 0) (tC (.bl true)) "shut") (x := "PowerCut") (c := .ref (gA K "PowerCut")) rfl rfl rfl ⟨rfl, by decide, .inl (T.g "PowerCut")⟩ (fun hd => passM rfl hd) tk0 (fun W pn xe htk hps => pss_one (ps_for hps rfl (pi_list (pe_cl c2 hr htk (pa_cons (pv 1) pa_nil))) (pg_name (i := 4) nd rfl (.inl rfl)) (pss_one (ps_expr (pe_mt c3 hr htk (pe_fld (pv 0) rfl) (pa_cons (pv 4) pa_nil)))))) (fun a oe pn => (ps_fld (pv 0) pe_bl rfl))) (pss_one (ps_ret (pv 3)))))))), ?_⟩
  obtain ⟨hM, hma, hdj, hok⟩ := hI
  cases hsh : J.shut with
  | true =>
    exact ⟨_, rfl, j, _, _, _, _, rfl, hJ.ins, T.cls "JournaledHeap", T.noat "JournaledHeap" "shut", rfl, J.shut, rfl, by rw [hsh]; exact iteT (hK.sh hsh H (ExF.refl _ _))⟩
  | false =>
    refine ⟨_, rfl, j, _, _, _, _, rfl, hJ.ins, T.cls "JournaledHeap", T.noat "JournaledHeap" "shut", rfl, J.shut, rfl, ?_⟩
    rw [hsh]
    obtain ⟨vs, hv1, hv2⟩ := hM.evl
    have hvl : vs.length = J.M.evs.length := by rw [DpAll.length hv2, List.length_map]
    refine iteF ⟨_, rfl, j, _, _, _, _, rfl, hJ.ins, T.cls "JournaledHeap", T.noat "JournaledHeap" "heap", rfl, J.h, _, _, _, _, rfl, hM.ins, T.cls "ManagedHeap", T.noat "ManagedHeap" "events", rfl, J.M.vl, vs, rfl, .inl (SqL.of hv1), ?_⟩
    refine ⟨_, rfl, j, _, _, _, _, rfl, hJ.ins, T.cls "JournaledHeap", T.noat "JournaledHeap" "heap", rfl, J.h, _, _, rfl, hM.ins, rfl, _, rfl, J.h, J.M, man, mf, v, ev, rfl, ⟨hM, hma, hdj, hok⟩, hev, hok2, hel, ⟨fun ph' r H1 M' u hres nw hmg hph hevs du => ?_, fun e he H1 M' nw hmg hph hevs => hK.er hsh e he H1 M' (hJ.hp' nw) hmg hph hevs⟩⟩
    have nj := hJ.hp' nw
    have hJ1 := nj.at_
    obtain ⟨ws, hw1, hw2⟩ := nw.at_.evl
    have hwl : ws.length = M'.evs.length := by rw [DpAll.length hw2, List.length_map]
    refine ⟨_, rfl, j, _, _, _, _, rfl, hJ1.ins, T.cls "JournaledHeap", T.noat "JournaledHeap" "heap", rfl, J.h, _, _, _, _, rfl, nw.at_.ins, T.cls "ManagedHeap", T.noat "ManagedHeap" "events", rfl, M'.vl, ws, rfl, .inl (SqL.of hw1), _, rfl, rfl, _, rfl, ?_⟩
    rw [hvl, hwl]
    cases ht : told ev r with
    | false =>
      rw [ht, if_neg (by decide)] at hevs
      exact itY (by rw [hevs]) ⟨_, rfl, hK.no hsh ph' r H1 M' u hres ht nj hmg hph hevs du⟩
    | true =>
      rw [ht, if_pos rfl] at hevs
      refine itN (fun z => ?_) ?_
      · rw [hevs, List.length_append] at z
        have := V.int.inj z
        have h2 : ([ev] : List Ev).length = 1 := rfl
        omega
      refine ⟨_, rfl, v, ev, rfl, DI.ex hev nw.ex, fun H2 rv e2 drv => ?_⟩
      obtain ⟨ra, rxs, rfl, hrs, hrd⟩ := DI.lst_inv drv
      refine ⟨ra, rfl, ⟨rxs, SqL.le (leI H2) hrs⟩, ?_⟩
      have hrl := recF_len ev
      refine for_d (l := recF ev) (enc := PyData.int) drv (fun pre σ G => ∃ y4, σ = [some (.ref j), some v, some (.int (J.M.evs.length : Nat)), some u, y4] ∧ NowJ K H G j J ((J.setM M').setO (J.os ++ pre) (J.pw - pre.length)) ∧ ExF (fun b => b = J.d ∨ b = J.ol) H2 G ∧ (pre.length : Int) ≤ J.pw) ?_ ?_ ?_ ?_
      · refine ⟨_, rfl, ?_, ExF.refl _ _, by simpa using hpw⟩
        have h9 := nj.trans (NowJ.of hJ1 e2)
        have h8 : (J.setM M').setO (J.os ++ []) (J.pw - (([] : List Int).length : Int)) = J.setM M' := by
          unfold Jn.setO Jn.setM
          simp
        rw [h8]
        exact h9
      · intro pre σ G ⟨_, _, _, e, _⟩
        exact Le.of e
      · intro pre o post ov σ G el ⟨y4, e, nG, eG, hle⟩ dv
        subst e
        cases dv
        have hJG := nG.at_
        have hJ2 := hJ1.ex e2
        have hpl : pre.length < (recF ev).length := by rw [el]; simp
        refine ⟨_, rfl, j, _, _, _, _, rfl, hJG.ins, T.cls "JournaledHeap", T.noat "JournaledHeap" "device", rfl, J.d, _, _, rfl, hJG.dins, rfl, _, rfl, J.d, J.ddx, J.ol, J.os ++ pre, J.pw - pre.length, o, rfl, hJG.dins, hJG.oct, by rw [List.length_append]; omega, fun hpos => ?_, fun hneg H' d eH hd => ?_⟩
        · refine ⟨_, rfl, ?_, (eG.upd (.inr ⟨.inl rfl, _, hJ2.dins, rfl, rfl⟩)).upd (.inr ⟨.inr rfl, _, hJ2.oct, rfl, rfl⟩), by rw [List.length_append]; show ((pre.length + 1 : Nat) : Int) ≤ J.pw; omega⟩
          have h9 := nG.trans (hJG.app (os := J.os ++ pre ++ [o]) (pw := J.pw - pre.length - 1))
          have h8 : (J.setM M').setO (J.os ++ (pre ++ [o])) (J.pw - ((pre ++ [o]).length : Nat)) = ((J.setM M').setO (J.os ++ pre) (J.pw - pre.length)).setO (J.os ++ pre ++ [o]) (J.pw - pre.length - 1) := by
            unfold Jn.setO Jn.setM
            rw [List.append_assoc, List.length_append]
            congr 1
            show J.pw - ((pre.length + 1 : Nat) : Int) = _
            omega
          rw [h8]
          exact h9
        · refine ⟨true, T_exm T "PowerCut" "PowerCut", fun _ => ?_, fun z => by cases z⟩
          have hJ3 := hJG.ex eH
          refine ⟨_, rfl, j, _, _, _, rfl, hJ3.ins, T.cls "JournaledHeap", T.noat "JournaledHeap" "shut", by show (3 : Nat) < 1000; decide, ?_⟩
          have h9 := (nG.trans (NowJ.of hJG eH)).trans (hJ3.setX (b := true) _ rfl)
          have hpe : J.pw = (pre.length : Int) := by omega
          have htk : (recF ev).take J.pw.toNat = pre := by
            rw [el, hpe, Int.toNat_natCast]
            simp
          have h8 : ((J.setM M').setO (J.os ++ (recF ev).take J.pw.toNat) 0).setX true = ((J.setM M').setO (J.os ++ pre) (J.pw - pre.length)).setX true := by
            rw [htk, hpe]
            simp
          refine hK.cut hsh ph' r _ M' d _ hres ht (by omega) ?_ hmg hph hevs (by rw [upd_ne (ne_of hd hJ3.ins (by intro z; cases z))]; exact hd)
          rw [h8]
          exact h9
      · intro σ G ⟨y4, e, nG, eG, hle⟩
        subst e
        exact ⟨_, rfl, hK.yes hsh ph' r G M' u hres ht hle nG hmg hph hevs (DI.ex (DI.ex du e2) eG)⟩
end
end Hg
namespace Hg
open PySem PySem.Spec PyProof.Rows L2
/-! ### value_read, numbers_read -/
section
variable {P : Program} {w : World} {K : PySem.W.Frag} {mg : Str → Option Value} {base : Heap}
theorem wide_back (n : Int) : n / 256 * 256 + n % 256 = n := by omega
theorem cmul256 (i : Int) : CMul i 256 := .inr ⟨by decide, by decide⟩
def numV (f : FV) : Int := match f with
  | .non => 0
  | .num i => i
  | .obj n => n
def kindV (f : FV) : Int := match f with
  | .non => 0
  | .num _ => 1
  | .obj _ => 2
theorem valF_eq (f : FV) : valF f = [kindV f, numV f / 256, numV f % 256] := by
  cases f <;> rfl
def spValRead (K : PySem.W.Frag) : Sp := fun vs H Q _ => ∃ (v : V) (f : FV), vs = [v] ∧ DI K H v (encI (valF f)) ∧ ∀ H' u, Ex H H' → DI K H' u (.list [encF f]) → Q u H'
theorem sc_valread : FnScope ["octets", "number"] ["octets"] (defScope s_value_read) := ⟨rfl, rfl, rfl, by decide +kernel, rfl, by decide +kernel, by decide +kernel⟩
theorem w_valread (T : Txt P K mg) : Cl P w K mg base 1 "value_read" (spValRead K) := by
  have nd := sc_valread.nd
  refine cl_of T (fn_mem 34 rfl) (by decide +kernel) sc_valread (b1 fun _ _ _ _ _ _ _ => rfl) (fun vs H Q E ⟨_, _, e, _⟩ => by rw [e]; rfl) fun cdv A outer s H vs Q E hr ⟨v, f, e, dv, hq⟩ => ?_
  subst e
  obtain ⟨a, rfl, hs⟩ := dv.ints_sq
  rw [valF_eq] at hs
  have hs0 := SqL.le (leI H) hs
  refine ⟨_, (pss_cons (ps_set (i := 1) nd rfl (.inl rfl) (pe_op op_add (pe_op op_mul (pe_ix ix_list (pv 0) pe_int (fun _ _ => rfl)) pe_int) (pe_ix ix_list (pv 0) pe_int (fun _ _ => rfl)))) (pss_cons (ps_if (PW.pt (pw_and (pt_cmpR op_eq (pe_ix ix_list (pv 0) pe_int (fun _ _ => rfl)) pe_int (nomark _)) (pw_and1 (pt_cmpR op_eq (pv 1) pe_int (nomark _))))) (pss_one (ps_ret (pe_frz (pe_lst (pa_cons pe_non pa_nil))))) pss_nil) (pss_cons (ps_if (pt_cmpR op_eq (pe_ix ix_list (pv 0) pe_int (fun _ _ => rfl)) pe_int (nomark _)) (pss_one (ps_ret (pe_frz (pe_lst (pa_cons (pv 1) pa_nil))))) pss_nil) (pss_cons (ps_if (pt_cmpR op_eq (pe_ix ix_list (pv 0) pe_int (fun _ _ => rfl)) pe_int (nomark _)) (pss_one (ps_ret (pe_frz (pe_lst (pa_cons (pe_tup (pa_cons pe_str (pa_cons (pv 1) pa_nil))) pa_nil))))) pss_nil) (pss_one (ps_ret (pe_lst pa_nil))))))), ?_⟩
  refine ⟨_, rfl, a, _, 1, .int (numV f / 256), rfl, rfl, hs0, atI_nat (j := 1) rfl, _, _, rfl, rfl, cmul256 _, _, rfl, a, _, 2, .int (numV f % 256), rfl, rfl, hs0, atI_nat (j := 2) rfl, _, _, rfl, rfl, ?_⟩
  simp only [wide_back]
  refine ⟨_, rfl, a, _, 0, .int (kindV f), rfl, rfl, hs0, atI_nat (j := 0) rfl, rfl, _, rfl, ?_⟩
  cases f with
  | non =>
    refine itY rfl ⟨_, rfl, rfl, _, rfl, itY rfl ⟨sz1, fun p np => ⟨p, _, [.none], rfl, upd_same, .cons .non .nil, fun H2 k l d => hq H2 _ ((Ex.new (o := .lst [.non]) np).but np k l) d⟩⟩⟩
  | num i =>
    refine itN (show ¬ V.int 1 = V.int 0 by decide +kernel) (iteF ⟨_, rfl, a, _, 0, .int 1, rfl, rfl, hs0, atI_nat (j := 0) rfl, rfl, _, rfl, itY rfl ⟨_, rfl, sz1, fun p np => ⟨p, _, [.int i], rfl, upd_same, .cons (.int _) .nil, fun H2 k l d => hq H2 _ ((Ex.new (o := .lst [.int i]) np).but np k l) d⟩⟩⟩)
  | obj n =>
    refine itN (show ¬ V.int 2 = V.int 0 by decide +kernel) (iteF ⟨_, rfl, a, _, 0, .int 2, rfl, rfl, hs0, atI_nat (j := 0) rfl, rfl, _, rfl, itN (show ¬ V.int 2 = V.int 1 by decide +kernel) ⟨_, rfl, a, _, 0, .int 2, rfl, rfl, hs0, atI_nat (j := 0) rfl, rfl, _, rfl, itY rfl ⟨_, rfl, sz2, fun t nt => ⟨sz1, fun p np => ?_⟩⟩⟩⟩)
    have e1 : Ex H (upd H t (.tup [.str "object", .int n])) := Ex.new nt
    exact ⟨p, _, [encF (.obj n)], rfl, upd_same, .cons (DI.ex (DI.tupOf (xs := [.str "object", .int n]) upd_same (.cons (.str _) (.cons (.int _) .nil))) (Ex.new (F := NoF) np)) .nil, fun H2 k l d => hq H2 _ ((e1.trans (Ex.new (o := .lst [.ref t]) np)).but (e1.gone np) k l) d⟩
end
end Hg
namespace Hg
open PySem PySem.Spec PyProof.Rows L2
/-! ### numbers_read -/
section
variable {P : Program} {w : World} {K : PySem.W.Frag} {mg : Str → Option Value} {base : Heap}
def spNumsRead (K : PySem.W.Frag) : Sp := fun vs H Q _ => ∃ (v : V) (l : List Int), vs = [v] ∧ DI K H v (encI (l.flatMap wideF)) ∧ l.length ≤ 1 ∧ ∀ H' p, Ex H H' → H' p = some (.lst (l.map V.int)) → H p = none → Q (.ref p) H'
theorem rg0 : RgC 0 (-1) 2 0 := ⟨by decide +kernel, by decide +kernel, by decide +kernel, by decide +kernel⟩
theorem rg1 : RgC 0 1 2 1 := ⟨by decide +kernel, by decide +kernel, by decide +kernel, by decide +kernel⟩
theorem sc_numsread : FnScope ["octets", "place"] ["octets"] (defScope s_numbers_read) := ⟨rfl, rfl, rfl, by decide +kernel, rfl, by decide +kernel, by decide +kernel⟩
theorem w_numsread (T : Txt P K mg) : Cl P w K mg base 1 "numbers_read" (spNumsRead K) := by
  have nd := sc_numsread.nd
  refine cl_of T (fn_mem 35 rfl) (by decide +kernel) sc_numsread (b1 fun _ _ _ _ _ _ _ => rfl) (fun vs H Q E ⟨_, _, e, _⟩ => by rw [e]; rfl) fun cdv A outer s H vs Q E hr ⟨v, l, e, dv, hl, hq⟩ => ?_
  subst e
  obtain ⟨a, rfl, hs⟩ := dv.ints_sq
  have hs0 := SqL.le (leI H) hs
  refine ⟨_, (pss_one (ps_ret (pe_lc (own := [("place", 1)]) (g := gName 1) (tt := tYes) (te := (tOp rAdd (tOp (rI CMul fun i j => .int (i * j)) (tOp (rIxL K) (tVar 0) (tVar 1)) (tC (.int 256))) (tOp (rIxL K) (tVar 0) (tOp rAdd (tVar 1) (tC (.int 1)))))) rfl nd (pi_range3 (by rfl) (T.n "range") (pa_cons pe_int (pa_cons (pe_op op_sub (pe_callB call_len_seq (by rfl) (T.n "len") PySem.boot_len (pa_cons (pv 0) pa_nil)) pe_int) (pa_cons pe_int pa_nil)))) (blkOk_by (N := (["octets", "place"] : List Str)) (sc := defScope s_numbers_read) (by decide +kernel)) (fun _ _ _ _ _ => (pg_name (i := 1) nd rfl (.inl rfl) (.inr rfl))) (fun _ _ _ _ _ => pts_nil) (fun _ _ _ _ _ => (pe_op op_add (pe_op op_mul (pe_ix ix_list (pv 0) (pv 1) (fun _ _ => rfl)) pe_int) (pe_ix ix_list (pv 0) (pe_op op_add (pv 1) pe_int) (fun _ _ => rfl))))))), ?_⟩
  have hc : l = [] ∨ ∃ n, l = [n] := by
    clear hq hs hs0 dv
    match l, hl with
    | [], _ => exact .inl rfl
    | [n], _ => exact .inr ⟨n, rfl⟩
  rcases hc with rfl | ⟨n, rfl⟩
  · refine ⟨_, rfl, a, _, rfl, .inl hs0, _, _, rfl, rfl, 0, -1, 2, 0, rfl, rg0, fun D nD => ?_⟩
    refine lc_l ([] : List Int) walk_rangeC (fun pre G => pre = [] ∧ Ex H G ∧ G D = some (.lst [])) ⟨rfl, Ex.new nD, upd_same⟩ (fun _ _ _ => trivial) (fun pre x post v G G' el => ?_) fun G ⟨_, e, hD⟩ => hq G D e hD nD
    exact absurd el (by simp)
  · have hs1 : SqL K H a [.int (n / 256), .int (n % 256)] := hs0
    refine ⟨_, rfl, a, _, rfl, .inl hs1, _, _, rfl, rfl, 0, 1, 2, 1, rfl, rg1, fun D nD => ?_⟩
    refine lc_l [n] walk_rangeC (fun pre G => Ex H G ∧ G D = some (.lst (pre.map V.int)) ∧ pre.length ≤ 1) ⟨Ex.new nD, upd_same, Nat.zero_le _⟩ (fun _ _ _ => trivial) (fun pre x post v G G' el ⟨e, hD, hp⟩ y => ?_) fun G ⟨e, hD, _⟩ => hq G D e hD nD
    obtain ⟨rfl, ev⟩ := y
    have hpre : pre = [] ∧ x = n := by
      cases pre with
      | nil => cases el; exact ⟨rfl, rfl⟩
      | cons y ys => simp at el
    obtain ⟨rfl, rfl⟩ := hpre
    subst ev
    refine ⟨rfl, yes_ok ⟨_, rfl, _, rfl, a, _, 0, .int (x / 256), rfl, rfl, SqL.ex e hs1, atI_nat (j := 0) rfl, _, _, rfl, rfl, cmul256 _, _, rfl, _, rfl, _, _, rfl, rfl, a, _, 1, .int (x % 256), rfl, rfl, SqL.ex e hs1, atI_nat (j := 1) rfl, _, _, rfl, rfl, _, hD, sz1, e.updN nD, ?_, Nat.le_refl _⟩⟩
    rw [upd_same]
    simp [wide_back]
end
end Hg
namespace Hg
open PySem PySem.Spec PyProof.Rows L2
/-! ### event_read -/
theorem bodyF_cons : ∀ {ev : Ev}, isW ev = false → bodyF ev = (kindE ev : Int) :: (argsE ev).flatMap wideF
  | .alloc _, _ => rfl
  | .write _ _ _, h => by cases h
  | .release _, _ => rfl
  | .addR _, _ => rfl
  | .remR _, _ => rfl
  | .coll, _ => rfl
  | .comp, _ => rfl
  | .room _, _ => rfl
  | .slide, _ => rfl
theorem encEv_cons : ∀ {ev : Ev}, isW ev = false → encEv ev = .tuple (.str (wordE ev) :: (argsE ev).map PyData.int)
  | .alloc _, _ => rfl
  | .write _ _ _, h => by cases h
  | .release _, _ => rfl
  | .addR _, _ => rfl
  | .remR _, _ => rfl
  | .coll, _ => rfl
  | .comp, _ => rfl
  | .room _, _ => rfl
  | .slide, _ => rfl
def shortL : List V := [.str "collect", .str "compact", .str "slide"]
theorem inV_short : ∀ {ev : Ev}, isW ev = false → inV (.str (wordE ev)) shortL = (argsE ev).isEmpty
  | .alloc _, _ => (by decide +kernel : inV (.str "allocate") shortL = false)
  | .write _ _ _, h => by cases h
  | .release _, _ => (by decide +kernel : inV (.str "release") shortL = false)
  | .addR _, _ => (by decide +kernel : inV (.str "addRoot") shortL = false)
  | .remR _, _ => (by decide +kernel : inV (.str "removeRoot") shortL = false)
  | .coll, _ => (by decide +kernel : inV (.str "collect") shortL = true)
  | .comp, _ => (by decide +kernel : inV (.str "compact") shortL = true)
  | .room _, _ => (by decide +kernel : inV (.str "makeRoom") shortL = false)
  | .slide, _ => (by decide +kernel : inV (.str "slide") shortL = true)
theorem kind_lt (ev : Ev) : kindE ev < 9 := by cases ev <;> simp [kindE]
theorem wordL_len : wordL.length = 9 := by decide +kernel
section
variable {P : Program} {w : World} {K : PySem.W.Frag} {mg : Str → Option Value} {base : Heap}
def spEvRead (K : PySem.W.Frag) : Sp := fun vs H Q _ => ∃ (a : Addr) (ev : Ev), vs = [.ref a] ∧ SqL K H a ((bodyF ev).map V.int) ∧ ∀ H' u, Ex H H' → DI K H' u (encEv ev) → Q u H'
abbrev N_evread : List Str := ["body", "word", "rest", "due"]
theorem sc_evread : FnScope N_evread ["body"] (defScope s_event_read) := ⟨rfl, rfl, rfl, by decide +kernel, rfl, by decide +kernel, by decide +kernel⟩
theorem w_evread (T : Txt P K mg) : Cl P w K mg base 2 "event_read" (spEvRead K) := by
  have nd := sc_evread.nd
  have c1 := w_valread (w := w) (base := base) T
  have c2 := w_numsread (w := w) (base := base) T
  refine cl_of T (fn_mem 36 rfl) (by decide +kernel) sc_evread (b1 fun _ _ _ _ _ _ _ => rfl) (fun vs H Q E ⟨_, _, e, _⟩ => by rw [e]; rfl) fun cdv A outer s H vs Q E hr ⟨a, ev, e, hs, hq⟩ => ?_
  subst e
  refine ⟨_, (pss_cons (ps_if (PW.pt (pw_or (pt_not (pt_truth (pv 0) (by intro _; rfl))) (pw_or1 (pt_cmpR op_ge (pe_ix ix_list (pv 0) pe_int (fun _ _ => rfl)) (pe_callB call_len_seq (by rfl) (T.n "len") PySem.boot_len (pa_cons (pe_glob (v := .ref (gA K "WORDS")) (by rfl) (T.g "WORDS") rfl) pa_nil)) (nomark _))))) (pss_one (ps_ret pe_non)) pss_nil) (pss_cons (ps_set (i := 1) nd rfl (.inl rfl) (pe_ix ix_tup (pe_glob (v := .ref (gA K "WORDS")) (by rfl) (T.g "WORDS") rfl) (pe_ix ix_list (pv 0) pe_int (fun _ _ => rfl)) (fun _ _ => rfl))) (pss_cons (ps_set (i := 2) nd rfl (.inl rfl) (pe_slice sl_list (pv 0) (po_some pe_int) po_none)) (pss_cons (ps_if (pt_cmpR op_eq (pv 1) pe_str (nomark _)) (pss_cons (ps_if (PW.pt (pw_or (pt_cmpR op_ne (pe_callB call_len_seq (by rfl) (T.n "len") PySem.boot_len (pa_cons (pv 2) pa_nil)) pe_int (nomark _)) (pw_or1 (pt_not (pt_truth (pe_cl c1 hr takes0 (pa_cons (pe_frz (pe_slice sl_list (pv 2) (po_some pe_int) po_none)) pa_nil)) (by intro _; rfl)))))) (pss_one (ps_ret pe_non)) pss_nil) (pss_one (ps_ret (pe_tup (pa_cons (pv 1) (pa_cons (pe_op op_add (pe_op op_mul (pe_ix ix_list (pv 2) pe_int (fun _ _ => rfl)) pe_int) (pe_ix ix_list (pv 2) pe_int (fun _ _ => rfl))) (pa_cons (pe_op op_add (pe_op op_mul (pe_ix ix_list (pv 2) pe_int (fun _ _ => rfl)) pe_int) (pe_ix ix_list (pv 2) pe_int (fun _ _ => rfl))) (pa_cons (pe_ix ix_list (pe_cl c1 hr takes0 (pa_cons (pe_frz (pe_slice sl_list (pv 2) (po_some pe_int) po_none)) pa_nil)) pe_int (fun _ _ => rfl)) pa_nil)))))))) pss_nil) (pss_cons (ps_set (i := 3) nd rfl (.inl rfl) pe_int) (pss_cons (ps_if (pt_cmpR op_in_seq (pv 1) (pe_tup (pa_cons pe_str (pa_cons pe_str (pa_cons pe_str pa_nil)))) (by rfl)) (pss_one (ps_set (i := 3) nd rfl (.inl rfl) pe_int)) pss_nil) (pss_cons (ps_if (pt_cmpR op_ne (pe_callB call_len_seq (by rfl) (T.n "len") PySem.boot_len (pa_cons (pv 2) pa_nil)) (pv 3) (nomark _)) (pss_one (ps_ret pe_non)) pss_nil) (pss_one (ps_ret (pe_callTy call_tuple_of (by rfl) (T.n "tuple") (by decide +kernel) (pa_cons (pe_op op_catR (pe_lst (pa_cons (pv 1) pa_nil)) (pe_cl c2 hr takes0 (pa_cons (pe_frz (pv 2)) pa_nil))) pa_nil))))))))))), ?_⟩
  by_cases hw : isW ev = true
  · cases ev with
    | write n i f =>
      have hs0 : SqL K H a [.int 1, .int (n / 256), .int (n % 256), .int (i / 256), .int (i % 256), .int (kindV f), .int (numV f / 256), .int (numV f % 256)] := by
        have h1 : bodyF (.write n i f) = [1, n / 256, n % 256, i / 256, i % 256, kindV f, numV f / 256, numV f % 256] := by
          show [1] ++ wideF n ++ wideF i ++ valF f = _
          rw [valF_eq]
          rfl
        rw [h1] at hs
        exact hs
      refine ⟨_, rfl, _, .inl ⟨_, hs0, rfl⟩, iteF ⟨_, rfl, a, _, 0, .int 1, rfl, rfl, hs0, atI_nat (j := 0) rfl, gA K "WORDS", wordL.map V.str, rfl, .inr (T.words H), _, _, rfl, rfl, _, rfl, itN (by decide +kernel) ?_⟩⟩
      refine ⟨_, rfl, a, _, 0, .int 1, rfl, rfl, hs0, atI_nat (j := 0) rfl, gA K "WORDS", _, 1, .str "write", rfl, rfl, T.words H, atI_nat (j := 1) rfl, ?_⟩
      refine ⟨_, rfl, 1, rfl, a, _, rfl, hs0, fun p np => ?_⟩
      have ecut : cutV [.int 1, .int (n / 256), .int (n % 256), .int (i / 256), .int (i % 256), .int (kindV f), .int (numV f / 256), .int (numV f % 256)] (some 1) none = [.int (n / 256), .int (n % 256), .int (i / 256), .int (i % 256), .int (kindV f), .int (numV f / 256), .int (numV f % 256)] := rfl
      rw [ecut]
      have e1 : Ex H (upd H p (.lst [.int (n / 256), .int (n % 256), .int (i / 256), .int (i % 256), .int (kindV f), .int (numV f / 256), .int (numV f % 256)])) := Ex.new np
      have hp1 : (upd H p (.lst [.int (n / 256), .int (n % 256), .int (i / 256), .int (i % 256), .int (kindV f), .int (numV f / 256), .int (numV f % 256)])) p = some (.lst [.int (n / 256), .int (n % 256), .int (i / 256), .int (i % 256), .int (kindV f), .int (numV f / 256), .int (numV f % 256)]) := upd_same
      refine ⟨_, rfl, rfl, _, rfl, itY rfl ⟨_, rfl, p, _, rfl, .inl (SqL.of hp1), rfl, _, rfl, itYn rfl ?_⟩⟩
      generalize (upd H p (.lst [.int (n / 256), .int (n % 256), .int (i / 256), .int (i % 256), .int (kindV f), .int (numV f / 256), .int (numV f % 256)])) = H1 at e1 hp1 ⊢
      refine ⟨_, rfl, 4, rfl, p, _, rfl, SqL.of hp1, fun q nq => ⟨q, [.int (kindV f), .int (numV f / 256), .int (numV f % 256)], [kindV f, numV f / 256, numV f % 256].map PyData.int, rfl, upd_same, DpAll.ints [kindV f, numV f / 256, numV f % 256], fun H2 k l d => ⟨_, f, rfl, (by unfold encI; rw [valF_eq]; exact d), fun H3 u e3 du => ?_⟩⟩⟩
      have e2 : Ex H1 H3 := Ex.trans ((Ex.new (o := .lst [.int (kindV f), .int (numV f / 256), .int (numV f % 256)]) nq).but nq k l) e3
      obtain ⟨b, xs, rfl, hb, hbd⟩ := DI.lst_inv du
      cases hbd with
      | cons hd1 hbd => cases hbd with
      | nil =>
      have hp3 := e2.at hp1
      refine ⟨_, .inl ⟨_, SqL.le (leI H3) hb, rfl⟩, iteF ?_⟩
      refine ⟨_, rfl, ?_⟩
      refine ⟨_, rfl, p, _, 0, .int (n / 256), rfl, rfl, SqL.of hp3, atI_nat (j := 0) rfl, _, _, rfl, rfl, cmul256 _, _, rfl, p, _, 1, .int (n % 256), rfl, rfl, SqL.of hp3, atI_nat (j := 1) rfl, _, _, rfl, rfl, ?_⟩
      refine ⟨_, rfl, p, _, 2, .int (i / 256), rfl, rfl, SqL.of hp3, atI_nat (j := 2) rfl, _, _, rfl, rfl, cmul256 _, _, rfl, p, _, 3, .int (i % 256), rfl, rfl, SqL.of hp3, atI_nat (j := 3) rfl, _, _, rfl, rfl, ?_⟩
      refine ⟨_, rfl, 4, rfl, p, _, rfl, SqL.of hp3, fun q2 nq2 => ⟨q2, [.int (kindV f), .int (numV f / 256), .int (numV f % 256)], [kindV f, numV f / 256, numV f % 256].map PyData.int, rfl, upd_same, DpAll.ints [kindV f, numV f / 256, numV f % 256], fun H4 k4 l4 d4 => ⟨_, f, rfl, (by unfold encI; rw [valF_eq]; exact d4), fun H5 u5 e5 du5 => ?_⟩⟩⟩
      have e4 : Ex H3 H5 := Ex.trans ((Ex.new (o := .lst [.int (kindV f), .int (numV f / 256), .int (numV f % 256)]) nq2).but nq2 k4 l4) e5
      obtain ⟨c, ys, rfl, hc, hcd⟩ := DI.lst_inv du5
      cases hcd with
      | cons hd2 hcd => cases hcd with
      | nil =>
      refine ⟨c, _, 0, _, rfl, rfl, SqL.le (leI H5) hc, atI_nat (j := 0) rfl, ?_⟩
      refine ⟨leL (m := 4) (Nat.le_refl _) (by decide), fun t nt => hq _ _ ((e1.trans (e2.trans e4)).trans (Ex.new nt)) (DI.tupOf upd_same (.cons (.str _) (.cons ?_ (.cons ?_ (.cons (DI.ex hd2 (Ex.new (F := NoF) nt)) .nil)))))⟩
      · show Dp K _ (.int (n / 256 * 256 + n % 256)) _
        rw [wide_back]
        exact .int _
      · show Dp K _ (.int (i / 256 * 256 + i % 256)) _
        rw [wide_back]
        exact .int _
    | _ => cases hw
  · have hw : isW ev = false := by simpa using hw
    rw [bodyF_cons hw] at hs
    have hs0 : SqL K H a (.int (kindE ev : Nat) :: ((argsE ev).flatMap wideF).map V.int) := hs
    have hk9 := kind_lt ev
    have hlw : (wordL.map V.str).length = 9 := by rw [List.length_map, wordL_len]
    have hkw : (wordL.map V.str)[kindE ev]? = some (.str (wordE ev)) := by rw [List.getElem?_map, (kind_ok ev).1]; rfl
    refine ⟨_, rfl, _, .inl ⟨_, hs0, rfl⟩, iteF ⟨_, rfl, a, _, 0, _, rfl, rfl, hs0, atI_nat (j := 0) rfl, gA K "WORDS", wordL.map V.str, rfl, .inr (T.words H), _, _, rfl, rfl, _, rfl, itN (by rw [hlw]; omega) ?_⟩⟩
    refine ⟨_, rfl, a, _, 0, _, rfl, rfl, hs0, atI_nat (j := 0) rfl, gA K "WORDS", _, _, .str (wordE ev), rfl, rfl, T.words H, atI_nat (j := kindE ev) hkw, ?_⟩
    refine ⟨_, rfl, 1, rfl, a, _, rfl, hs0, fun p np => ?_⟩
    have ecut : cutV (.int (kindE ev : Nat) :: ((argsE ev).flatMap wideF).map V.int) (some 1) none = ((argsE ev).flatMap wideF).map V.int := by
      unfold cutV
      simp [HT.sIx]
      (exact List.take_of_length_le (by simp))
    rw [ecut]
    have e1 : Ex H (upd H p (.lst (((argsE ev).flatMap wideF).map V.int))) := Ex.new np
    have hp1 : (upd H p (.lst (((argsE ev).flatMap wideF).map V.int))) p = some (.lst (((argsE ev).flatMap wideF).map V.int)) := upd_same
    generalize (upd H p (.lst (((argsE ev).flatMap wideF).map V.int))) = H1 at e1 hp1 ⊢
    refine ⟨_, rfl, rfl, _, rfl, itN (wordE_w hw) ?_⟩
    refine ⟨_, rfl, sz3, fun t nt => ⟨t, shortL, rfl, .inr (SqT.of upd_same), rfl, rfl, _, rfl, ?_⟩⟩
    have e2 : Ex H1 (upd H1 t (.tup shortL)) := Ex.new nt
    have hp2 := e2.at hp1
    have fin : ∀ y3 : V, y3 = .int (((argsE ev).flatMap wideF).map V.int).length → (tSeq (tIfS (tTest (tOp rNe (tCB (rLenQ K) (tCons (tVar 2) tNil)) (tVar 3))) (tRet (tC V.non)) tNext) (tRet (tCB (fun xs H_1 Q => ∃ p ys, xs = [V.ref p] ∧ ((SqL K H_1 p ys ∧ ∀ (l : Addr), H_1 l = none → Q (V.ref l) (upd H_1 l (HO.tup ys))) ∨ SqT K H_1 p ys ∧ Q (V.ref p) H_1)) (tCons (tOp (rCatR K) (tLst (tCons (tVar 1) tNil)) (tCallS (spNumsRead K) (WE fun x x_1 x_2 x_3 => False) (tCons (tFrz K (tVar 2)) tNil))) tNil)))) { nx := fun x H' => Q V.non H', rt := Q } [some (.ref a), some (.str (wordE ev)), some (.ref p), some y3] (upd H1 t (.tup shortL)) := by
      intro y3 hy
      subst hy
      refine ⟨_, rfl, p, _, rfl, .inl (SqL.of hp2), _, rfl, rfl, _, rfl, itYn rfl ?_⟩
      refine ⟨_, rfl, sz1, fun q nq => ?_⟩
      have e3 : Ex (upd H1 t (.tup shortL)) (upd (upd H1 t (.tup shortL)) q (.lst [.str (wordE ev)])) := Ex.new nq
      refine ⟨_, rfl, p, _, ((argsE ev).flatMap wideF).map PyData.int, rfl, e3.at hp2, DpAll.ints _, fun H2 k l d => ?_⟩
      have e5 : Ex H H2 := ((e1.trans e2).trans e3).but np k l
      have nqp : q ≠ p := fun z => by rw [z, hp2] at nq; cases nq
      have hq2 : H2 q = some (.lst [.str (wordE ev)]) := by rw [k q nqp, upd_same]
      refine ⟨_, argsE ev, rfl, d, argsE_len ev, fun H3 r e6 hr3 nr => ?_⟩
      have hal := argsE_len ev
      refine ⟨q, r, [.str (wordE ev)], (argsE ev).map V.int, rfl, rfl, SqL.of (e6.at hq2), SqL.of hr3, leL (m := 100) (by rw [List.length_map]; show 1 + _ ≤ 100; omega) (by decide), fun z nz => ⟨z, _, rfl, .inl ⟨SqL.of upd_same, fun l nl => ?_⟩⟩⟩
      refine hq _ _ ((e5.trans e6).trans ((Ex.new (o := .lst ([.str (wordE ev)] ++ (argsE ev).map V.int)) nz).trans (Ex.new nl))) ?_
      rw [encEv_cons hw]
      exact DI.tupOf upd_same (.cons (.str _) (DpAll.ints _))
    rw [inV_short hw]
    by_cases hz : (argsE ev).isEmpty = true
    · rw [hz]
      refine iteT (fin _ ?_)
      rw [List.isEmpty_iff.mp hz]
      rfl
    · rw [Bool.not_eq_true _ |>.mp hz]
      refine iteF (fin _ ?_)
      have hl1 : (argsE ev).length = 1 := by
        have h1 := argsE_len ev
        have h2 : (argsE ev).length ≠ 0 := fun z => hz (List.isEmpty_iff.mpr (List.eq_nil_of_length_eq_zero z))
        omega
      obtain ⟨x, hx⟩ := List.length_eq_one_iff.mp hl1
      rw [hx]
      rfl
end
end Hg
namespace Hg
open PySem PySem.Spec PyProof.Rows L2
/-! ### recovered -/
def octF (evs : List Ev) : List Int := evs.flatMap recF
theorem octF_cons (e : Ev) (l : List Ev) : octF (e :: l) = recF e ++ octF l := rfl
theorem octF_append (l m : List Ev) : octF (l ++ m) = octF l ++ octF m := by
  unfold octF
  rw [List.flatMap_append]
theorem recF_len1 (e : Ev) : (recF e).length = (bodyF e).length + 2 := by
  unfold recF
  rw [List.length_append, List.length_append]
  show 1 + _ + 1 = _
  omega
theorem bodyF_pos (e : Ev) : 1 ≤ (bodyF e).length := by
  cases e with
  | write n i f => cases f <;> simp [bodyF, wideF, valF]
  | _ => simp [bodyF, argsE, wideF]
theorem recF_at0 (e : Ev) (r : List Int) : (recF e ++ r)[0]? = some (((bodyF e).length : Int) + 1) := rfl
theorem recF_atE (e : Ev) (r : List Int) : (recF e ++ r)[(bodyF e).length + 1]? = some 170 := by
  rw [List.getElem?_append_left (by rw [recF_len1]; omega)]
  unfold recF
  rw [List.getElem?_append_right (by rw [List.length_append]; show 1 + _ ≤ _; omega)]
  rw [List.length_append, show (bodyF e).length + 1 - ([((bodyF e).length : Int) + 1].length + (bodyF e).length) = 0 by show _ - (1 + _) = 0; omega]
  rfl
theorem getPre {α : Type} (p r : List α) (i : Nat) : (p ++ r)[p.length + i]? = r[i]? := by
  rw [List.getElem?_append_right (by omega)]
  congr 1
  omega
theorem cut_body {α : Type} (p : List V) (x : V) (b r : List V) (lo hi : Int) (h1 : lo = (p.length : Int) + 1) (h2 : hi = (p.length : Int) + 1 + b.length) : cutV (p ++ x :: (b ++ r)) (some lo) (some hi) = b := by
  have e1 : lo = ((p.length + 1 : Nat) : Int) := by omega
  have e2 : hi = ((p.length + 1 + b.length : Nat) : Int) := by omega
  subst e1
  subst e2
  unfold cutV
  rw [HT.sIx_nat, HT.sIx_nat]
  have hl : (p ++ x :: (b ++ r)).length = p.length + 1 + b.length + r.length := by
    rw [List.length_append, List.length_cons, List.length_append]
    omega
  rw [hl, Nat.min_eq_left (by omega), Nat.min_eq_left (by omega)]
  have e3 : p ++ x :: (b ++ r) = (p ++ [x]) ++ (b ++ r) := by simp
  rw [e3, List.drop_append_of_le_length (by rw [List.length_append]; exact Nat.le_refl _), List.drop_of_length_le (by rw [List.length_append]; exact Nat.le_refl _), List.nil_append, show p.length + 1 + b.length - (p.length + 1) = b.length by omega, List.take_left]
theorem SqL.exL {K : PySem.W.Frag} {H G : Hp} {a : Addr} {xs : List V} (e : Ex H G) (h : SqL K H a xs) : SqL K G a xs := h.imp (fun r => r.imp (fun q => e.at q) fun ⟨o, q⟩ => ⟨o, e.at q⟩) id
section
variable {P : Program} {w : World} {K : PySem.W.Frag} {mg : Str → Option Value} {base : Heap}
def spRecov (K : PySem.W.Frag) : Sp := fun vs H Q _ => ∃ (a : Addr) (evs : List Ev) (e0 : Ev) (k : Nat), vs = [.ref a] ∧ SqL K H a ((octF evs ++ (recF e0).take k).map V.int) ∧ k < (recF e0).length ∧ evs.length ≤ 1000 ∧
  ∀ H' u, Ex H H' → DI K H' u (.tuple [.list (evs.map encEv), .int ((octF evs).length : Nat)]) → Q u H'
abbrev N_recov : List Str := ["octets", "events", "place", "end", "event"]
theorem sc_recov : FnScope N_recov ["octets"] (defScope s_recovered) := ⟨rfl, rfl, rfl, by decide +kernel, rfl, by decide +kernel, by decide +kernel⟩
theorem w_recov (T : Txt P K mg) : Cl P w K mg base 3 "recovered" (spRecov K) := by
  have nd := sc_recov.nd
  have c1 := w_evread (w := w) (base := base) T
  obtain ⟨tm, hmk⟩ := T.mark
  refine cl_of T (fn_mem 37 rfl) (by decide +kernel) sc_recov (b1 fun _ _ _ _ _ _ _ => rfl) (fun vs H Q E ⟨_, _, _, _, e, _⟩ => by rw [e]; rfl) fun cdv A outer s H vs Q E hr ⟨a, evs, e0, k, e, hs, hk, hlen, hq⟩ => ?_
  subst e
  refine ⟨_, (pss_cons (ps_set (i := 1) nd rfl (.inl rfl) (pe_lst pa_nil)) (pss_cons (ps_set (i := 2) nd rfl (.inl rfl) pe_int) (pss_cons (ps_while ps0 (pt_cmpR op_lt (pv 2) (pe_callB call_len_seq (by rfl) (T.n "len") PySem.boot_len (pa_cons (pv 0) pa_nil)) (nomark _)) (pss_cons (ps_set (i := 3) nd rfl (.inl rfl) (pe_op op_add (pe_op op_add (pv 2) pe_int) (pe_ix ix_list (pv 0) (pv 2) (fun _ _ => rfl)))) (pss_cons (ps_if (PW.pt (pw_or (pt_cmpR op_gt (pv 3) (pe_callB call_len_seq (by rfl) (T.n "len") PySem.boot_len (pa_cons (pv 0) pa_nil)) (nomark _)) (pw_or (pt_cmpR op_lt (pe_ix ix_list (pv 0) (pv 2) (fun _ _ => rfl)) pe_int (nomark _)) (pw_or1 (pt_cmpR op_ne (pe_ix ix_list (pv 0) (pe_op op_sub (pv 3) pe_int) (fun _ _ => rfl)) (pe_glob (v := .int 170) (by rfl) hmk ⟨tm, rfl⟩) (nomark _)))))) (pss_one ps_break) pss_nil) (pss_cons (ps_set (i := 4) nd rfl (.inl rfl) (pe_cl c1 hr takes0 (pa_cons (pe_slice sl_list (pv 0) (po_some (pe_op op_add (pv 2) pe_int)) (po_some (pe_op op_sub (pv 3) pe_int))) pa_nil))) (pss_cons (ps_if (pt_cmpR op_isN (pv 4) pe_non (nomark _)) (pss_one ps_break) pss_nil) (pss_cons (ps_expr (pe_bm PySem.F.plainAttrs_list PySem.F.slot_list_append PySem.F.type_list_append mt_append (pv 1) (pa_cons (pv 4) pa_nil))) (pss_one (ps_set (i := 2) nd rfl (.inl rfl) (pv 3))))))))) (pss_one (ps_ret (pe_tup (pa_cons (pe_frz (pv 1)) (pa_cons (pv 2) pa_nil)))))))), ?_⟩
  refine ⟨Nat.zero_le _, fun p np => ?_⟩
  refine ⟨fun m σ G => ∃ pre post y3 y4, evs = pre ++ post ∧ m = post.length ∧ σ = [some (.ref a), some (.ref p), some (.int ((octF pre).length : Nat)), y3, y4] ∧ Col K NoF H p (pre.map encEv) pre.length G, ⟨evs.length, [], evs, _, _, rfl, rfl, rfl, Col.start np⟩, ?_⟩
  rintro m σ G ⟨pre, post, y3, y4, eE, em, e, c⟩
  subst e
  subst em
  have hsG := SqL.exL c.ex hs
  have fin : ∀ y3 y4, post = [] → (tRet (tTup (tCons (tFrz K (tVar 1)) (tCons (tVar 2) tNil)))) { nx := fun x H' => Q V.non H', rt := Q } [some (.ref a), some (.ref p), some (.int ((octF pre).length : Nat)), y3, y4] G := by
    intro y3 y4 hp
    subst hp
    rw [List.append_nil] at eE
    subst eE
    obtain ⟨acc, ha, hd⟩ := c.at_
    refine ⟨_, rfl, p, acc, _, rfl, ha, hd, fun H2 kk l d => ⟨_, rfl, sz2, fun t nt => ?_⟩⟩
    exact hq _ _ ((c.ex.but np kk l).trans (Ex.new nt)) (DI.tupOf upd_same (.cons (DI.ex d (Ex.new (F := NoF) nt)) (.cons (.int _) .nil)))
  refine ⟨_, rfl, _, rfl, a, _, rfl, .inl hsG, _, _, rfl, rfl, _, rfl, ?_⟩
  have hL : ((octF evs ++ (recF e0).take k).map V.int).length = (octF pre).length + (octF post).length + k := by
    rw [eE, octF_append, List.length_map, List.length_append, List.length_append, List.length_take]
    omega
  rw [hL]
  cases post with
  | nil =>
    cases k with
    | zero => exact itN (by show ¬ _ < _; simp [octF]) (fin _ _ rfl)
    | succ k =>
      refine itY (by show _ < _; simp [octF]; omega) ⟨_, fun σ' H' h => h, ?_⟩
      have hr1 := recF_len1 e0
      have h0 : ((octF evs ++ (recF e0).take (k + 1)).map V.int)[(octF pre).length]? = some (.int ((bodyF e0).length + 1)) := by
        rw [eE, List.append_nil, List.getElem?_map, show (octF pre).length = (octF pre).length + 0 from rfl, getPre]
        rfl
      refine ⟨_, rfl, _, _, rfl, rfl, _, rfl, _, rfl, a, _, _, _, rfl, rfl, hsG, atI_nat (j := (octF pre).length) h0, _, _, rfl, rfl, ?_⟩
      refine ⟨_, rfl, _, rfl, a, _, rfl, .inl hsG, _, _, rfl, rfl, _, rfl, ?_⟩
      rw [hL]
      exact itY (by simp only [octF, List.flatMap_nil, List.length_nil]; show (_ : Int) < _; omega) (fin _ _ rfl)
  | cons ev post =>
    have hr1 := recF_len1 ev
    refine itY (by show _ < _; rw [octF_cons, List.length_append]; omega) ⟨_, fun σ' H' h => h, ?_⟩
    have eL : (octF evs ++ (recF e0).take k).map V.int = (octF pre).map V.int ++ .int ((bodyF ev).length + 1) :: ((bodyF ev).map V.int ++ ([170] ++ octF post ++ (recF e0).take k).map V.int) := by
      rw [eE, octF_append, octF_cons]
      simp [recF]
    have h0 : ((octF evs ++ (recF e0).take k).map V.int)[(octF pre).length]? = some (.int ((bodyF ev).length + 1)) := by
      rw [eE, octF_append, octF_cons, List.append_assoc, List.append_assoc, List.getElem?_map, show (octF pre).length = (octF pre).length + 0 from rfl, getPre, recF_at0]
      rfl
    have hE : ((octF evs ++ (recF e0).take k).map V.int)[(octF pre).length + ((bodyF ev).length + 1)]? = some (.int 170) := by
      rw [eE, octF_append, octF_cons, List.append_assoc, List.append_assoc, List.getElem?_map, getPre, recF_atE]
      rfl
    have hE2 := atI_nat hE
    rw [show (((octF pre).length + ((bodyF ev).length + 1) : Nat) : Int) = ((octF pre).length : Int) + 1 + ((bodyF ev).length + 1) - 1 by omega] at hE2
    have hbp := bodyF_pos ev
    have hol : (octF (ev :: post)).length = (bodyF ev).length + 2 + (octF post).length := by rw [octF_cons, List.length_append, hr1]
    refine ⟨_, rfl, _, _, rfl, rfl, _, rfl, _, rfl, a, _, _, _, rfl, rfl, hsG, atI_nat (j := (octF pre).length) h0, _, _, rfl, rfl, ?_⟩
    refine ⟨_, rfl, _, rfl, a, _, rfl, .inl hsG, _, _, rfl, rfl, _, rfl, ?_⟩
    rw [hL, hol]
    refine itN (by show ¬ ((_ : Int) < _); omega) ?_
    refine ⟨_, rfl, _, rfl, a, _, _, _, rfl, rfl, hsG, atI_nat (j := (octF pre).length) h0, _, _, rfl, rfl, _, rfl, itN (by show ¬ ((_ : Int) < _); omega) ?_⟩
    refine ⟨_, rfl, _, rfl, _, _, rfl, rfl, a, _, _, .int 170, rfl, rfl, hsG, hE2, rfl, _, rfl, itYn rfl ?_⟩
    refine ⟨_, rfl, _, rfl, _, _, rfl, rfl, _, rfl, _, rfl, _, _, rfl, rfl, _, rfl, a, _, rfl, hsG, fun q nq => ?_⟩
    rw [eL, cut_body (α := V) _ _ _ _ _ _ (by rw [List.length_map]) (by rw [List.length_map, List.length_map]; omega)]
    have e1 : Ex G (upd G q (.lst ((bodyF ev).map V.int))) := Ex.new nq
    refine ⟨q, ev, rfl, SqL.of upd_same, fun H2 u e2 du => ?_⟩
    obtain ⟨ea, exs, rfl, hes, _⟩ := ev_tup du
    obtain ⟨acc, ha, _⟩ := c.at_
    have hpl : pre.length < 1000000 := by
      have := congrArg List.length eE
      rw [List.length_append, List.length_cons] at this
      omega
    have e12 : Ex G H2 := e1.trans e2
    obtain ⟨acc2, h2, l2, c2⟩ := c.add np e12 (fun z => z) du (ltL hpl (by decide))
    refine ⟨_, rfl, rfl, _, rfl, itN refN ⟨_, rfl, .inl ⟨rfl, _, SqL.of h2⟩, _, rfl, p, _, _, rfl, rfl, h2, l2, _, rfl, ?_⟩⟩
    have hol2 : (((octF (pre ++ [ev])).length : Nat) : Int) = ((octF pre).length : Int) + 1 + ((bodyF ev).length + 1) := by
      rw [octF_append, List.length_append, show (octF [ev]).length = (bodyF ev).length + 2 by rw [octF_cons, List.length_append, hr1]; rfl]
      omega
    refine ⟨post.length, Nat.lt_succ_self _, pre ++ [ev], post, some (.int ((octF pre).length + 1 + ((bodyF ev).length + 1))), some (.ref ea), by rw [eE]; simp, rfl, ?_, by rw [List.map_append, List.length_append]; exact c2⟩
    rw [hol2]
    rfl
end
end Hg
namespace Hg
open PySem PySem.Spec PyProof.Rows L2
/-! ### opened -/
theorem cut_to (p r : List V) : cutV (p ++ r) none (some (p.length : Nat)) = p := by
  unfold cutV
  rw [HT.sIx_nat, HT.sIx_none, Nat.sub_zero, List.drop_zero, List.length_append, Nat.min_eq_left (by omega), List.take_left]
/-- a new instance of a class without a word of its own -/
theorem mk_ex2 {H G : Hp} {y dx C : Addr} {o : HO} (ny : H y = none) (ndx : H dx = none) : Ex H (upd (upd (upd H dx (.own y)) y (.ins C dx [])) y o) := by
  rw [upd_upd]
  exact Ex.updN (Ex.new ndx) ny
section
variable {P : Program} {w : World} {K : PySem.W.Frag} {mg : Str → Option Value} {base : Heap}
def spOpened (P : Program) (w : World) (K : PySem.W.Frag) (mg : Str → Option Value) (base : Heap) : Sp := fun vs H Q _ => ∃ (h a : Addr) (pw : Int) (M : Hps) (man : Man) (mf : List Addr) (evs : List Ev) (ph : PH) (e0 : Ev) (k : Nat), vs = [.ref h, .ref a, .int pw] ∧ HeapAt K H h M ∧ ManAt P w K mg base H M.mgr man mf ∧ (∀ b ∈ mf, b ∉ M.foot h) ∧ M.T.ph = ph0 ∧ M.evs = [] ∧
  POk man ∧ Reach man evs ph ∧ evs.length ≤ 1000 ∧ H a = some (.lst ((octF evs ++ (recF e0).take k).map V.int)) ∧ a ∉ M.foot h ∧ k < (recF e0).length ∧
  ∀ H' j J, ExF (InF (M.foot h)) H H' → JAt K H' j J → J.h = h → J.M.mgr = M.mgr → J.M.T.ph = ph → J.M.evs = evs → J.os = octF evs → J.pw = pw → J.shut = false → (∀ b ∈ J.foot j, b ∈ M.foot h ∨ H b = none) → Q (.ref j) H'
abbrev N_opened : List Str := ["heap", "octets", "power", "events", "end", "performed", "error"]
theorem sc_opened : FnScope N_opened ["heap", "octets", "power"] (defScope s_opened) := ⟨rfl, rfl, rfl, by decide +kernel, rfl, by decide +kernel, by decide +kernel⟩
theorem w_opened (T : Txt P K mg) : Cl P w K mg base 17 "opened" (spOpened P w K mg base) := by
  have nd := sc_opened.nd
  have c1 := w_recov (w := w) (base := base) T
  have c2 := w_replay (w := w) (base := base) T
  have c3 := w_j0 (w := w) (base := base) T
  have c4 := w_dev0 (w := w) (base := base) T
  refine cl_of T (fn_mem 38 rfl) (by decide +kernel) sc_opened (b3 fun _ _ _ _ _ _ _ _ _ => rfl) (fun vs H Q E ⟨_, _, _, _, _, _, _, _, _, _, e, _⟩ => by rw [e]; rfl) fun cdv A outer s H vs Q E hr ⟨h, a, pw, M, man, mf, evs, ph, e0, k, e, hM, hma, hdj, hph, hev0, hpok, hre, hlen, ha, haf, hk, hq⟩ => ?_
  subst e
  refine ⟨_, (pss_cons (ps_asg (pe_cl c1 hr takes0 (pa_cons (pv 1) pa_nil)) (pg_tup rfl (pgs_cons (pg_name (i := 3) nd rfl (.inl rfl)) (pgs_cons (pg_name (i := 4) nd rfl (.inl rfl)) pgs_nil)))) (pss_cons (ps_asg (pe_cl c2 hr takes0 (pa_cons (pv 0) (pa_cons (pv 3) pa_nil))) (pg_tup rfl (pgs_cons (pg_name (i := 5) nd rfl (.inl rfl)) (pgs_cons (pg_name (i := 6) nd rfl (.inl rfl)) pgs_nil)))) (pss_cons (ps_if (pt_cmpR op_notN (pv 6) pe_non (nomark _)) (pss_one (ps_raise0 (er0_of T "HeapgameError" (by decide +kernel) (by decide +kernel) (by decide +kernel)) rfl tk0)) pss_nil) (pss_one (ps_ret (pe_mr c3 hr (pa_cons (pv 0) (pa_cons (pe_mr c4 hr (pa_cons (pe_slice sl_list (pv 1) po_none (po_some (pv 4))) (pa_cons (pv 2) pa_nil))) pa_nil)))))))), ?_⟩
  refine ⟨_, rfl, a, evs, e0, k, rfl, SqL.of ha, hk, hlen, fun H1 u e1 du => ?_⟩
  obtain ⟨ua, uxs, rfl, hus, hud⟩ := DI.tup_inv du
  cases hud with
  | cons d1 hud => cases hud with
  | cons d2 hud => cases hud with
  | nil =>
  cases d2
  refine ⟨ua, _, rfl, SqT.le (leI H1) hus, rfl, _, _, rfl, _, _, rfl, rfl, ?_⟩
  have hM1 := hM.ex e1
  refine ⟨_, rfl, _, rfl, h, M, man, mf, _, evs, ph, rfl, hM1, hma.ex e1, hdj, hph, hev0, hpok, hre, hlen, d1, fun H2 M' u nw hmg hph2 hevs du => ?_⟩
  obtain ⟨va, vxs, rfl, hvs, hvd⟩ := DI.tup_inv du
  cases hvd with
  | cons f1 hvd => cases hvd with
  | cons f2 hvd => cases hvd with
  | nil =>
  cases f1
  cases f2
  refine ⟨va, _, rfl, SqT.le (leI H2) hvs, rfl, _, _, rfl, _, _, rfl, rfl, ?_⟩
  refine ⟨_, rfl, rfl, _, rfl, itYn rfl ?_⟩
  have ha2 := nw.ex.at (e1.at ha) haf
  refine ⟨_, rfl, _, rfl, _, rfl, _, rfl, a, _, rfl, SqL.of ha2, fun p np => ?_⟩
  have ecut : cutV ((octF evs ++ (recF e0).take k).map V.int) none (some ((octF evs).length : Nat)) = (octF evs).map V.int := by
    rw [List.map_append]
    have := cut_to ((octF evs).map V.int) (((recF e0).take k).map V.int)
    rwa [List.length_map] at this
  rw [ecut]
  have e3 : Ex H2 (upd H2 p (.lst ((octF evs).map V.int))) := Ex.new np
  have hp3 : (upd H2 p (.lst ((octF evs).map V.int))) p = some (.lst ((octF evs).map V.int)) := upd_same
  generalize (upd H2 p (.lst ((octF evs).map V.int))) = H3 at e3 hp3 ⊢
  refine ⟨_, rfl, fun d ddx nd2 nddx ndd => ⟨d, ddx, _, octF evs, pw, rfl, upd_same, ⟨p, rfl, SqL.of ?_⟩, fun ol nol => ⟨rfl, ?_⟩⟩⟩
  · exact (Ex.updN (Ex.new nddx) nd2).at hp3
  have ndol : ol ≠ d := fun z => by rw [z, upd_same] at nol; cases nol
  rw [upd_ne ndol] at nol
  have nxol : ol ≠ ddx := fun z => by rw [z, upd_same] at nol; cases nol
  rw [upd_ne nxol] at nol
  have e34 : Ex H3 (upd (upd (upd (upd H3 ddx (.own d)) d (.ins (CDev K) ddx [])) ol (.lst ((octF evs).map V.int))) d (.ins (CDev K) ddx (devFs ol pw))) := ((Ex.updN (Ex.new nddx) nd2).updN nol).updN nd2
  have g1 : (upd (upd (upd (upd H3 ddx (.own d)) d (.ins (CDev K) ddx [])) ol (.lst ((octF evs).map V.int))) d (.ins (CDev K) ddx (devFs ol pw))) d = some (.ins (CDev K) ddx (devFs ol pw)) := upd_same
  have g2 : (upd (upd (upd (upd H3 ddx (.own d)) d (.ins (CDev K) ddx [])) ol (.lst ((octF evs).map V.int))) d (.ins (CDev K) ddx (devFs ol pw))) ddx = some (.own d) := by rw [upd_ne ndd, upd_ne nxol.symm, upd_ne ndd, upd_same]
  have g3 : (upd (upd (upd (upd H3 ddx (.own d)) d (.ins (CDev K) ddx [])) ol (.lst ((octF evs).map V.int))) d (.ins (CDev K) ddx (devFs ol pw))) ol = some (.lst ((octF evs).map V.int)) := by rw [upd_ne ndol, upd_same]
  generalize (upd (upd (upd (upd H3 ddx (.own d)) d (.ins (CDev K) ddx [])) ol (.lst ((octF evs).map V.int))) d (.ins (CDev K) ddx (devFs ol pw))) = G at e34 g1 g2 g3 ⊢
  have eG : ExF (InF (M.foot h)) H G := ((e1.of.trans nw.ex).trans e3.of).trans e34.of
  have e13 : ExF (InF (M.foot h)) H H3 := (e1.of.trans nw.ex).trans e3.of
  have hMG := nw.at_.ex (e3.trans e34)
  refine fun j jdx nj njdx njd => ⟨j, jdx, h, d, rfl, upd_same, rfl, ?_⟩
  have e4 : Ex G (upd (upd (upd G jdx (.own j)) j (.ins (CJ K) jdx [])) j (.ins (CJ K) jdx (jFs h d false))) := ((Ex.updN (Ex.new njdx) nj).updN nj)
  have lv := nw.at_.live
  have nb : ∀ b ∈ M'.foot h, ∀ c, H3 c = none → b ≠ c := fun b hb c hc z => by
    rw [z] at hb
    exact lv c hb (e3.gone hc)
  refine hq _ j ⟨jdx, h, d, ddx, ol, M', octF evs, pw, false⟩ (eG.trans e4.of) ⟨upd_same, ?_, e4.at g1, e4.at g2, e4.at g3, hMG.ex e4, fun b hb => ⟨nb b hb _ (e34.gone nj), nb b hb _ (e34.gone njdx), nb b hb _ nd2, nb b hb _ nddx, nb b hb _ nol⟩, fun z => by rw [z, g1] at nj; cases nj⟩ rfl hmg hph2 hevs rfl rfl rfl fun b hb => ?_
  · show (upd (upd (upd G jdx (.own j)) j (.ins (CJ K) jdx [])) j (.ins (CJ K) jdx (jFs h d false))) jdx = _
    rw [upd_ne njd, upd_ne njd, upd_same]
  · rcases Jn.foot_cases hb with e | e | e | e | e | hb
    · rw [e]; exact .inr (eG.gone nj)
    · rw [show b = jdx from e]; exact .inr (eG.gone njdx)
    · rw [show b = d from e]; exact .inr (e13.gone nd2)
    · rw [show b = ddx from e]; exact .inr (e13.gone nddx)
    · rw [show b = ol from e]; exact .inr (e13.gone nol)
    · exact (nw.ft b hb).imp id fun z => e1.gone z
end
end Hg
namespace Hg
open PySem PySem.Spec PyProof.Rows L2
/-! ### the law's numbers -/
section
variable {P : Program} {w : World} {K : PySem.W.Frag} {mg : Str → Option Value} {base : Heap}
def spCell (K : PySem.W.Frag) : Sp := fun vs H Q _ => ∃ (a : Addr) (ns : List Int) (k : Int), vs = [.ref a, .int k] ∧ SqL K H a (ns.map V.int) ∧ 0 ≤ k ∧ ∀ x : Int, Q (.int x) H
theorem sc_cell : FnScope ["_law_script", "_law_k"] ["_law_script", "_law_k"] (defScope s_law_cell) := ⟨rfl, rfl, rfl, by decide +kernel, rfl, by decide +kernel, by decide +kernel⟩
theorem w_cell (T : Txt P K mg) : Cl P w K mg base 1 "_law_cell" (spCell K) := by
  have nd := sc_cell.nd
  refine cl_of T (fn_mem 39 rfl) (by decide +kernel) sc_cell (b2 fun _ _ _ _ _ _ _ _ => rfl) (fun vs H Q E ⟨_, _, _, e, _⟩ => by rw [e]; rfl) fun cdv A outer s H vs Q E hr ⟨a, ns, k, e, hs, h0, hq⟩ => ?_
  subst e
  refine ⟨_, (pss_cons (ps_if (pt_cmpR op_lt (pv 1) (pe_callB call_len_seq (by rfl) (T.n "len") PySem.boot_len (pa_cons (pv 0) pa_nil)) (nomark _)) (pss_one (ps_ret (pe_ix ix_list (pv 0) (pv 1) (fun _ _ => rfl)))) pss_nil) (pss_one (ps_ret pe_int))), ?_⟩
  refine ⟨_, rfl, _, rfl, a, _, rfl, .inl hs, _, _, rfl, rfl, _, rfl, iteD (fun h => ?_) fun h => hq 0⟩
  rw [List.length_map] at h
  obtain ⟨x, hx⟩ : ∃ x, ns[k.toNat]? = some x := ⟨_, List.getElem?_eq_getElem (by omega)⟩
  have hx2 := atI_nat (xs := ns.map V.int) (j := k.toNat) (v := .int x) (by rw [List.getElem?_map, hx]; rfl)
  rw [show ((k.toNat : Nat) : Int) = k by omega] at hx2
  exact ⟨_, rfl, _, rfl, a, _, k, .int x, rfl, rfl, hs, hx2, hq x⟩
/-! row -/
def spRow : Sp := fun vs H Q _ => ∃ (c k : Int), vs = [.int c, .int k, .int 12] ∧ ∀ H' p (l : List Int), Ex H H' → H p = none → H' p = some (.lst (l.map V.int)) → l.length ≤ 12 → Q (.ref p) H'
abbrev N_row : List Str := ["_law_cell_here", "_law_k", "_law_many", "_law_row_here", "_law_turn", "_law_seed"]
theorem sc_row : FnScope N_row ["_law_cell_here", "_law_k", "_law_many"] (defScope s_law_row) := ⟨rfl, rfl, rfl, by decide +kernel, rfl, by decide +kernel, by decide +kernel⟩
theorem w_row (T : Txt P K mg) : Cl P w K mg base 1 "_law_row" spRow := by
  have nd := sc_row.nd
  refine cl_of T (fn_mem 40 rfl) (by decide +kernel) sc_row (b3 fun _ _ _ _ _ _ _ _ _ => rfl) (fun vs H Q E ⟨_, _, e, _⟩ => by rw [e]; rfl) fun cdv A outer s H vs Q E hr ⟨c, k, e, hq⟩ => ?_
  subst e
  refine ⟨_, (pss_cons (ps_set (i := 3) nd rfl (.inl rfl) (pe_lst pa_nil)) (pss_cons (ps_if (pt_cmpR op_lt (pv 0) pe_int (nomark _)) (pss_one (ps_set (i := 0) nd rfl (.inl rfl) (pe_op op_sub pe_int (pe_op op_mul pe_int (pv 0))))) pss_nil) (pss_cons (ps_if (pt_cmpR op_ge (pv 0) (pe_op op_pow pe_int pe_int) (nomark _)) (pss_cons (ps_for ps0 rfl (pi_range1 (by rfl) (T.n "range") (pa_cons pe_int pa_nil)) (pg_name (i := 4) nd rfl (.inl rfl)) (pss_one (ps_if (PW.pt (pw_and (pt_cmpR op_gt (pv 0) pe_int (nomark _)) (pw_and1 (pt_cmpR op_lt (pe_callB call_len_seq (by rfl) (T.n "len") PySem.boot_len (pa_cons (pv 3) pa_nil)) (pv 2) (nomark _))))) (pss_cons (ps_expr (pe_bm PySem.F.plainAttrs_list PySem.F.slot_list_append PySem.F.type_list_append mt_append (pv 3) (pa_cons (pe_op op_mod (pe_callTy call_int1 (by rfl) (T.n "int") (by decide +kernel) (pa_cons (pv 0) pa_nil)) pe_int) pa_nil))) (pss_one (ps_set (i := 0) nd rfl (.inl rfl) (pe_op op_fdiv (pv 0) pe_int)))) pss_nil))) (pss_one (ps_ret (pv 3)))) pss_nil) (pss_cons (ps_set (i := 5) nd rfl (.inl rfl) (pe_op op_mod (pe_callTy call_int1 (by rfl) (T.n "int") (by decide +kernel) (pa_cons (pe_op op_add (pe_op op_add (pe_op op_mul (pv 0) pe_int) (pe_op op_mul (pv 1) pe_int)) pe_int) pa_nil)) pe_int)) (pss_cons (ps_for ps0 rfl (pi_range1 (by rfl) (T.n "range") (pa_cons (pv 2) pa_nil)) (pg_name (i := 4) nd rfl (.inl rfl)) (pss_cons (ps_set (i := 5) nd rfl (.inl rfl) (pe_op op_mod (pe_callTy call_int1 (by rfl) (T.n "int") (by decide +kernel) (pa_cons (pe_op op_add (pe_op op_add (pe_op op_mul (pv 5) pe_int) (pe_op op_mul pe_int (pv 4))) pe_int) pa_nil)) pe_int)) (pss_one (ps_expr (pe_bm PySem.F.plainAttrs_list PySem.F.slot_list_append PySem.F.type_list_append mt_append (pv 3) (pa_cons (pe_op op_mod (pe_callTy call_int1 (by rfl) (T.n "int") (by decide +kernel) (pa_cons (pe_op op_fdiv (pv 5) pe_int) pa_nil)) pe_int) pa_nil)))))) (pss_one (ps_ret (pv 3)))))))), ?_⟩
  refine ⟨Nat.zero_le _, fun p np => ?_⟩
  have e0 : Ex H (upd H p (.lst [])) := Ex.new np
  have hp0 : (upd H p (.lst [])) p = some (.lst (([] : List Int).map V.int)) := upd_same
  generalize upd H p (.lst []) = H1 at e0 hp0 ⊢
  refine ⟨_, rfl, _, _, rfl, rfl, _, rfl, iteD (fun h => ⟨_, rfl, _, _, rfl, rfl, .inl ⟨by decide, by decide⟩, _, _, rfl, rfl, ?_⟩) fun h => ?_⟩
  · skip
    refine ⟨_, rfl, _, _, rfl, rfl, ⟨by decide, by decide, by decide⟩, _, _, rfl, rfl, _, rfl, iteD (fun h => ?_) fun h => ?_⟩
    · refine ⟨60, rfl, by decide, by decide, for_r (lo := 0) (hi := 60) rfl (fun pre σ G => ∃ (c : Int) (l : List Int) (y4 y5 : Option V), σ = [some (.int c), some (.int k), some (.int 12), some (.ref p), y4, y5] ∧ Ex H G ∧ G p = some (.lst (l.map V.int)) ∧ l.length ≤ 12) ⟨_, [], _, _, rfl, e0, hp0, Nat.zero_le _⟩ (fun pre x post σ G el ⟨c, l, y4, y5, e, eG, hp, hl⟩ => ?_) fun σ G ⟨c, l, y4, y5, e, eG, hp, hl⟩ => ?_⟩
      · subst e
        refine ⟨_, rfl, _, _, rfl, rfl, _, rfl, iteD (fun h => ⟨_, rfl, p, _, rfl, .inl (SqL.of hp), _, rfl, _, _, rfl, rfl, _, rfl, iteD (fun h2 => ?_) fun h2 => ?_⟩) fun h => ?_⟩
        · rw [List.length_map] at h2
          refine ⟨_, rfl, .inl ⟨rfl, _, SqL.of hp⟩, _, rfl, .inl ⟨_, rfl, _, _, rfl, rfl, (show (0 : Int) < 1000 by decide), p, _, _, rfl, rfl, hp, ltL (m := 1000) (by rw [List.length_map]; omega) (by decide), _, rfl, _, _, rfl, rfl, ⟨by decide, by decide⟩, ?_⟩⟩
          exact ⟨c / 1000, l ++ [c % 1000], _, _, rfl, eG.updN np, by rw [upd_same, List.map_append]; rfl, by rw [List.length_append]; show _ + 1 ≤ 12; omega⟩
        · exact ⟨c, l, _, _, rfl, eG, hp, hl⟩
        · exact ⟨c, l, _, _, rfl, eG, hp, hl⟩
      · subst e
        exact ⟨_, rfl, hq G p l eG np hp hl⟩
    · refine ⟨_, rfl, _, _, rfl, rfl, .inr ⟨by decide, by decide⟩, _, rfl, _, _, rfl, rfl, .inr ⟨by decide, by decide⟩, _, _, rfl, rfl, _, _, rfl, rfl, .inl ⟨_, rfl, _, _, rfl, rfl, (show (0 : Int) < 2147483647 by decide), ?_⟩⟩
      refine ⟨_, rfl, _, rfl, by decide, by decide, for_r (lo := 0) (hi := 12) rfl (fun pre σ G => ∃ (z : Int) (l : List Int) (y4 : Option V), σ = [some (.int (1 - 2 * c)), some (.int k), some (.int 12), some (.ref p), y4, some (.int z)] ∧ Ex H G ∧ G p = some (.lst (l.map V.int)) ∧ l.length = pre.length) ⟨_, [], _, rfl, e0, hp0, rfl⟩ (fun pre x post σ G el ⟨z, l, y4, e, eG, hp, hl⟩ => ?_) fun σ G ⟨z, l, y4, e, eG, hp, hl⟩ => ?_⟩
      · subst e
        obtain ⟨_, hpl⟩ := rangeL_at el
        refine ⟨_, rfl, _, _, rfl, rfl, .inr ⟨by decide, by decide⟩, _, rfl, _, _, rfl, rfl, .inl ⟨by decide, by decide⟩, _, _, rfl, rfl, _, _, rfl, rfl, .inl ⟨_, rfl, _, _, rfl, rfl, (show (0 : Int) < 2147483647 by decide), ?_⟩⟩
        refine ⟨_, rfl, .inl ⟨rfl, _, SqL.of hp⟩, _, rfl, _, _, rfl, rfl, ⟨by decide, by decide⟩, .inl ⟨_, rfl, _, _, rfl, rfl, (show (0 : Int) < 1000 by decide), p, _, _, rfl, rfl, hp, ltL (m := 1000) (by rw [List.length_map]; have : pre.length < (12 - 0 : Int).toNat := hpl; have : (12 - 0 : Int).toNat = 12 := rfl; omega) (by decide), ?_⟩⟩
        exact ⟨_, l ++ [_], _, rfl, eG.updN np, by rw [upd_same, List.map_append]; rfl, by rw [List.length_append, List.length_append, hl]; rfl⟩
      · subst e
        refine ⟨_, rfl, hq G p l eG np hp ?_⟩
        rw [hl, rangeL_len]
        decide
  · skip
    refine ⟨_, rfl, _, _, rfl, rfl, ⟨by decide, by decide, by decide⟩, _, _, rfl, rfl, _, rfl, iteD (fun h => ?_) fun h => ?_⟩
    · refine ⟨60, rfl, by decide, by decide, for_r (lo := 0) (hi := 60) rfl (fun pre σ G => ∃ (c : Int) (l : List Int) (y4 y5 : Option V), σ = [some (.int c), some (.int k), some (.int 12), some (.ref p), y4, y5] ∧ Ex H G ∧ G p = some (.lst (l.map V.int)) ∧ l.length ≤ 12) ⟨_, [], _, _, rfl, e0, hp0, Nat.zero_le _⟩ (fun pre x post σ G el ⟨c, l, y4, y5, e, eG, hp, hl⟩ => ?_) fun σ G ⟨c, l, y4, y5, e, eG, hp, hl⟩ => ?_⟩
      · subst e
        refine ⟨_, rfl, _, _, rfl, rfl, _, rfl, iteD (fun h => ⟨_, rfl, p, _, rfl, .inl (SqL.of hp), _, rfl, _, _, rfl, rfl, _, rfl, iteD (fun h2 => ?_) fun h2 => ?_⟩) fun h => ?_⟩
        · rw [List.length_map] at h2
          refine ⟨_, rfl, .inl ⟨rfl, _, SqL.of hp⟩, _, rfl, .inl ⟨_, rfl, _, _, rfl, rfl, (show (0 : Int) < 1000 by decide), p, _, _, rfl, rfl, hp, ltL (m := 1000) (by rw [List.length_map]; omega) (by decide), _, rfl, _, _, rfl, rfl, ⟨by decide, by decide⟩, ?_⟩⟩
          exact ⟨c / 1000, l ++ [c % 1000], _, _, rfl, eG.updN np, by rw [upd_same, List.map_append]; rfl, by rw [List.length_append]; show _ + 1 ≤ 12; omega⟩
        · exact ⟨c, l, _, _, rfl, eG, hp, hl⟩
        · exact ⟨c, l, _, _, rfl, eG, hp, hl⟩
      · subst e
        exact ⟨_, rfl, hq G p l eG np hp hl⟩
    · refine ⟨_, rfl, _, _, rfl, rfl, .inr ⟨by decide, by decide⟩, _, rfl, _, _, rfl, rfl, .inr ⟨by decide, by decide⟩, _, _, rfl, rfl, _, _, rfl, rfl, .inl ⟨_, rfl, _, _, rfl, rfl, (show (0 : Int) < 2147483647 by decide), ?_⟩⟩
      refine ⟨_, rfl, _, rfl, by decide, by decide, for_r (lo := 0) (hi := 12) rfl (fun pre σ G => ∃ (z : Int) (l : List Int) (y4 : Option V), σ = [some (.int c), some (.int k), some (.int 12), some (.ref p), y4, some (.int z)] ∧ Ex H G ∧ G p = some (.lst (l.map V.int)) ∧ l.length = pre.length) ⟨_, [], _, rfl, e0, hp0, rfl⟩ (fun pre x post σ G el ⟨z, l, y4, e, eG, hp, hl⟩ => ?_) fun σ G ⟨z, l, y4, e, eG, hp, hl⟩ => ?_⟩
      · subst e
        obtain ⟨_, hpl⟩ := rangeL_at el
        refine ⟨_, rfl, _, _, rfl, rfl, .inr ⟨by decide, by decide⟩, _, rfl, _, _, rfl, rfl, .inl ⟨by decide, by decide⟩, _, _, rfl, rfl, _, _, rfl, rfl, .inl ⟨_, rfl, _, _, rfl, rfl, (show (0 : Int) < 2147483647 by decide), ?_⟩⟩
        refine ⟨_, rfl, .inl ⟨rfl, _, SqL.of hp⟩, _, rfl, _, _, rfl, rfl, ⟨by decide, by decide⟩, .inl ⟨_, rfl, _, _, rfl, rfl, (show (0 : Int) < 1000 by decide), p, _, _, rfl, rfl, hp, ltL (m := 1000) (by rw [List.length_map]; have : pre.length < (12 - 0 : Int).toNat := hpl; have : (12 - 0 : Int).toNat = 12 := rfl; omega) (by decide), ?_⟩⟩
        exact ⟨_, l ++ [_], _, rfl, eG.updN np, by rw [upd_same, List.map_append]; rfl, by rw [List.length_append, List.length_append, hl]; rfl⟩
      · subst e
        refine ⟨_, rfl, hq G p l eG np hp ?_⟩
        rw [hl, rangeL_len]
        decide
end
end Hg
namespace Hg
open PySem PySem.Spec PyProof.Rows L2
/-! ### the law's box of numbers -/
structure BoxAt (H : Hp) (b r : Addr) (l : List Int) (n : Int) : Prop where
  at_ : H b = some (.lst [.ref r, .int n])
  row : H r = some (.lst (l.map V.int))
  nn : 0 ≤ n
  ne : r ≠ b
abbrev Only (b : Addr) : Addr → Prop := fun x => x = b
theorem BoxAt.frame {F : Addr → Prop} {H H' : Hp} {b r : Addr} {l : List Int} {n : Int} (x : BoxAt H b r l n) (e : ExF F H H') (h1 : ¬ F b) (h2 : ¬ F r) : BoxAt H' b r l n := ⟨e.at x.at_ h1, e.at x.row h2, x.nn, x.ne⟩
theorem BoxAt.ex {H H' : Hp} {b r : Addr} {l : List Int} {n : Int} (x : BoxAt H b r l n) (e : Ex H H') : BoxAt H' b r l n := x.frame e (fun z => z) fun z => z
theorem BoxAt.next {H : Hp} {b r : Addr} {l : List Int} {n : Int} (x : BoxAt H b r l n) : BoxAt (upd H b (.lst [.ref r, .int (n + 1)])) b r l (n + 1) ∧ ExF (Only b) H (upd H b (.lst [.ref r, .int (n + 1)])) := by
  refine ⟨⟨upd_same, ?_, by have := x.nn; omega, x.ne⟩, (ExF.refl _ H).upd (.inr ⟨rfl, _, x.at_, rfl, rfl⟩)⟩
  rw [upd_ne x.ne]
  exact x.row
section
variable {P : Program} {w : World} {K : PySem.W.Frag} {mg : Str → Option Value} {base : Heap}
def spBox (K : PySem.W.Frag) : Sp := fun vs H Q _ => ∃ (a : Addr) (ns : List Int), vs = [.ref a, .int 0, .int 20] ∧ SqL K H a (ns.map V.int) ∧ ∀ H' b r l, Ex H H' → H b = none → H r = none → BoxAt H' b r l 0 → Q (.ref b) H'
abbrev N_box : List Str := ["_law_script", "_law_first", "_law_last", "_law_row_here", "_law_k"]
theorem sc_box : FnScope N_box ["_law_script", "_law_first", "_law_last"] (defScope s_law_box) := ⟨rfl, rfl, rfl, by decide +kernel, rfl, by decide +kernel, by decide +kernel⟩
theorem w_box (T : Txt P K mg) : Cl P w K mg base 2 "_law_box" (spBox K) := by
  have nd := sc_box.nd
  have c1 := w_cell (w := w) (base := base) T
  have c2 := w_row (w := w) (base := base) T
  refine cl_of T (fn_mem 41 rfl) (by decide +kernel) sc_box (b3 fun _ _ _ _ _ _ _ _ _ => rfl) (fun vs H Q E ⟨_, _, e, _⟩ => by rw [e]; rfl) fun cdv A outer s H vs Q E hr ⟨a, ns, e, hs, hq⟩ => ?_
  subst e
  refine ⟨_, (pss_cons (ps_set (i := 3) nd rfl (.inl rfl) (pe_lst pa_nil)) (pss_cons (ps_for ps0 rfl (pi_range2 (by rfl) (T.n "range") (pa_cons (pv 1) (pa_cons (pv 2) pa_nil))) (pg_name (i := 4) nd rfl (.inl rfl)) (pss_one (ps_set (i := 3) nd rfl (.inl rfl) (pe_op op_catR (pv 3) (pe_cl c2 hr takes0 (pa_cons (pe_cl c1 hr takes0 (pa_cons (pv 0) (pa_cons (pv 4) pa_nil))) (pa_cons (pv 4) (pa_cons pe_int pa_nil)))))))) (pss_one (ps_ret (pe_lst (pa_cons (pv 3) (pa_cons pe_int pa_nil))))))), ?_⟩
  refine ⟨Nat.zero_le _, fun p np => ?_⟩
  have e0 : Ex H (upd H p (.lst [])) := Ex.new np
  have hp0 : (upd H p (.lst [])) p = some (.lst (([] : List Int).map V.int)) := upd_same
  generalize upd H p (.lst []) = H1 at e0 hp0 ⊢
  refine ⟨_, rfl, _, rfl, 0, 20, rfl, ⟨by decide, by decide, by decide, by decide⟩, for_r (lo := 0) (hi := 20) rfl (fun pre σ G => ∃ (q : Addr) (l : List Int) (y4 : Option V), σ = [some (.ref a), some (.int 0), some (.int 20), some (.ref q), y4] ∧ Ex H G ∧ H q = none ∧ G q = some (.lst (l.map V.int)) ∧ l.length ≤ 12 * pre.length) ⟨p, [], _, rfl, e0, np, hp0, Nat.zero_le _⟩ (fun pre x post σ G el ⟨q, l, y4, e, eG, nq, hp, hl⟩ => ?_) fun σ G ⟨q, l, y4, e, eG, nq, hp, hl⟩ => ?_⟩
  · subst e
    obtain ⟨hx, hpl⟩ := rangeL_at el
    have hpl2 : pre.length < 20 := hpl
    refine ⟨_, rfl, _, rfl, _, rfl, a, ns, x, rfl, SqL.exL eG hs, by omega, fun c => ⟨_, rfl, c, x, rfl, fun H2 p2 l2 e2 np2 hp2 hl2 => ?_⟩⟩
    refine ⟨q, p2, l.map V.int, l2.map V.int, rfl, rfl, SqL.of (e2.at hp), SqL.of hp2, leL (m := 1000) (by rw [List.length_map, List.length_map]; omega) (by decide), fun p3 np3 => ⟨p3, l ++ l2, _, rfl, (eG.trans e2).updN (eG.gone (e2.gone np3)), eG.gone (e2.gone np3), ?_, ?_⟩⟩
    · rw [upd_same, List.map_append]
    · rw [List.length_append, List.length_append]
      show _ ≤ 12 * (_ + 1)
      omega
  · subst e
    refine ⟨_, rfl, sz2, fun b nb => hq _ b q l (eG.updN (eG.gone nb)) (eG.gone nb) nq ⟨upd_same, ?_, Int.le_refl _, ?_⟩⟩
    · rw [upd_ne (fun z => by rw [z, nb] at hp; cases hp)]
      exact hp
    · intro z
      rw [z, nb] at hp
      cases hp
/-! draw -/
def spDraw : Sp := fun vs H Q _ => ∃ (b r : Addr) (l : List Int) (n m : Int), vs = [.ref b, .int m] ∧ BoxAt H b r l n ∧ 0 < m ∧ ∀ x H', 0 ≤ x → x < m → BoxAt H' b r l (n + 1) → ExF (Only b) H H' → Q (.int x) H'
abbrev N_draw : List Str := ["_law_box_here", "_law_many", "_law_at"]
theorem sc_draw : FnScope N_draw ["_law_box_here", "_law_many"] (defScope s_law_draw) := ⟨rfl, rfl, rfl, by decide +kernel, rfl, by decide +kernel, by decide +kernel⟩
theorem w_draw (T : Txt P K mg) : Cl P w K mg base 1 "_law_draw" spDraw := by
  have nd := sc_draw.nd
  refine cl_of T (fn_mem 42 rfl) (by decide +kernel) sc_draw (b2 fun _ _ _ _ _ _ _ _ => rfl) (fun vs H Q E ⟨_, _, _, _, _, e, _⟩ => by rw [e]; rfl) fun cdv A outer s H vs Q E hr ⟨b, r, l, n, m, e, hb, hm, hq⟩ => ?_
  subst e
  refine ⟨_, (pss_cons (ps_set (i := 2) nd rfl (.inl rfl) (pe_ix ix_list (pv 0) pe_int (fun _ _ => rfl))) (pss_cons (ps_asg (pe_op op_add (pv 2) pe_int) (pg_sub (pv 0) pe_int set_list)) (pss_cons (ps_if (pt_cmpR op_lt (pv 2) (pe_callB call_len_seq (by rfl) (T.n "len") PySem.boot_len (pa_cons (pe_ix ix_list (pv 0) pe_int (fun _ _ => rfl)) pa_nil)) (nomark _)) (pss_one (ps_ret (pe_op op_mod (pe_callTy call_int1 (by rfl) (T.n "int") (by decide +kernel) (pa_cons (pe_ix ix_list (pe_ix ix_list (pv 0) pe_int (fun _ _ => rfl)) (pv 2) (fun _ _ => rfl)) pa_nil)) (pv 1)))) pss_nil) (pss_one (ps_ret (pe_op op_mod (pe_callTy call_int1 (by rfl) (T.n "int") (by decide +kernel) (pa_cons (pe_op op_add (pe_op op_mul (pv 2) pe_int) pe_int) pa_nil)) (pv 1))))))), ?_⟩
  obtain ⟨hn, eN⟩ := hb.next
  have hnn := hb.nn
  refine ⟨_, rfl, b, _, 1, .int n, rfl, rfl, SqL.of hb.at_, atI_nat (j := 1) rfl, ?_⟩
  refine ⟨_, rfl, _, _, rfl, rfl, _, rfl, b, _, 1, 1, rfl, rfl, hb.at_, rfl, ?_⟩
  refine ⟨_, rfl, _, rfl, b, _, 0, .ref r, rfl, rfl, SqL.of hn.at_, atI_nat (j := 0) rfl, r, _, rfl, .inl (SqL.of hn.row), _, _, rfl, rfl, _, rfl, iteD (fun h => ?_) fun h => ?_⟩
  · rw [List.length_map] at h
    obtain ⟨x, hx⟩ : ∃ x, l[n.toNat]? = some x := ⟨_, List.getElem?_eq_getElem (by omega)⟩
    have hx2 := atI_nat (xs := l.map V.int) (j := n.toNat) (v := .int x) (by rw [List.getElem?_map, hx]; rfl)
    rw [show ((n.toNat : Nat) : Int) = n by omega] at hx2
    exact ⟨_, rfl, b, _, 0, .ref r, rfl, rfl, SqL.of hn.at_, atI_nat (j := 0) rfl, _, rfl, r, _, _, _, rfl, rfl, SqL.of hn.row, hx2, .inl ⟨_, rfl, _, rfl, _, _, rfl, rfl, hm, hq _ _ (Int.emod_nonneg _ (by omega)) (Int.emod_lt_of_pos _ hm) hn eN⟩⟩
  · exact ⟨_, rfl, _, _, rfl, rfl, .inr ⟨by decide, by decide⟩, _, _, rfl, rfl, .inl ⟨_, rfl, _, rfl, _, _, rfl, rfl, hm, hq _ _ (Int.emod_nonneg _ (by omega)) (Int.emod_lt_of_pos _ hm) hn eN⟩⟩
end
end Hg
namespace Hg
open PySem PySem.Spec PyProof.Rows L2
/-! ### the law's deeds -/
section
variable {P : Program} {w : World} {K : PySem.W.Frag} {mg : Str → Option Value} {base : Heap}
theorem fok_obj {n : Int} (h0 : 0 ≤ n) (h1 : n < 6) : FOk (.obj n) := ⟨h0, by omega⟩
def spLVal (K : PySem.W.Frag) : Sp := fun vs H Q _ => ∃ (b r : Addr) (l : List Int) (n : Int), vs = [.ref b, .int 6] ∧ BoxAt H b r l n ∧ ∀ H' u f n', FOk f → DI K H' u (encF f) → BoxAt H' b r l n' → ExF (Only b) H H' → Q u H'
abbrev N_lval : List Str := ["_law_box_here", "_law_most", "_law_kind"]
theorem sc_lval : FnScope N_lval ["_law_box_here", "_law_most"] (defScope s_law_value) := ⟨rfl, rfl, rfl, by decide +kernel, rfl, by decide +kernel, by decide +kernel⟩
theorem w_lval (T : Txt P K mg) : Cl P w K mg base 2 "_law_value" (spLVal K) := by
  have nd := sc_lval.nd
  have c1 := w_draw (w := w) (base := base) T
  refine cl_of T (fn_mem 44 rfl) (by decide +kernel) sc_lval (b2 fun _ _ _ _ _ _ _ _ => rfl) (fun vs H Q E ⟨_, _, _, _, e, _⟩ => by rw [e]; rfl) fun cdv A outer s H vs Q E hr ⟨b, r, l, n, e, hb, hq⟩ => ?_
  subst e
  refine ⟨_, (pss_cons (ps_set (i := 2) nd rfl (.inl rfl) (pe_cl c1 hr takes0 (pa_cons (pv 0) (pa_cons pe_int pa_nil)))) (pss_cons (ps_if (pt_cmpR op_eq (pv 2) pe_int (nomark _)) (pss_one (ps_ret pe_non)) pss_nil) (pss_cons (ps_if (pt_cmpR op_eq (pv 2) pe_int (nomark _)) (pss_one (ps_ret (pe_op op_add (pe_op op_mul (pe_cl c1 hr takes0 (pa_cons (pv 0) (pa_cons pe_int pa_nil))) pe_int) (pe_cl c1 hr takes0 (pa_cons (pv 0) (pa_cons pe_int pa_nil)))))) pss_nil) (pss_one (ps_ret (pe_tup (pa_cons pe_str (pa_cons (pe_cl c1 hr takes0 (pa_cons (pv 0) (pa_cons (pv 1) pa_nil))) pa_nil)))))))), ?_⟩
  refine ⟨_, rfl, b, r, l, n, 4, rfl, hb, by decide, fun x H1 x0 x1 hb1 e1 => ?_⟩
  refine ⟨_, rfl, rfl, _, rfl, iteD (fun h => hq _ _ .non _ trivial .non hb1 e1) fun h => ?_⟩
  refine ⟨_, rfl, rfl, _, rfl, iteD (fun h2 => ?_) fun h2 => ?_⟩
  · refine ⟨_, rfl, b, r, l, _, 1000, rfl, hb1, by decide, fun y H2 y0 y1 hb2 e2 => ⟨_, _, rfl, rfl, .inr ⟨by decide, by decide⟩, ?_⟩⟩
    refine ⟨_, rfl, b, r, l, _, 600, rfl, hb2, by decide, fun z H3 z0 z1 hb3 e3 => ⟨_, _, rfl, rfl, ?_⟩⟩
    exact hq _ _ (.num (y * 65 + z)) _ ⟨by omega, by omega⟩ (.int _) hb3 ((e1.trans e2).trans e3)
  · refine ⟨_, rfl, _, rfl, b, r, l, _, 6, rfl, hb1, by decide, fun y H2 y0 y1 hb2 e2 => ⟨sz2, fun t nt => ?_⟩⟩
    have et : Ex H2 (upd H2 t (.tup [.str "object", .int y])) := Ex.new nt
    exact hq _ _ (.obj y) _ (fok_obj y0 y1) (DI.tupOf upd_same (.cons (.str _) (.cons (.int _) .nil))) (hb2.ex et) ((e1.trans e2).trans et.of)
/-! deed -/
def spDeed (K : PySem.W.Frag) : Sp := fun vs H Q _ => ∃ (b r : Addr) (l : List Int) (n : Int), vs = [.ref b, .int 6] ∧ BoxAt H b r l n ∧ ∀ H' u ev n', EvOk ev → DI K H' u (encEv ev) → BoxAt H' b r l n' → ExF (Only b) H H' → Q u H'
abbrev N_deed : List Str := ["_law_box_here", "_law_most", "_law_kind", "_law_number"]
theorem sc_deed : FnScope N_deed ["_law_box_here", "_law_most"] (defScope s_law_deed) := ⟨rfl, rfl, rfl, by decide +kernel, rfl, by decide +kernel, by decide +kernel⟩
theorem w_deed (T : Txt P K mg) : Cl P w K mg base 3 "_law_deed" (spDeed K) := by
  have nd := sc_deed.nd
  have c1 := w_draw (w := w) (base := base) T
  have c2 := w_lval (w := w) (base := base) T
  refine cl_of T (fn_mem 45 rfl) (by decide +kernel) sc_deed (b2 fun _ _ _ _ _ _ _ _ => rfl) (fun vs H Q E ⟨_, _, _, _, e, _⟩ => by rw [e]; rfl) fun cdv A outer s H vs Q E hr ⟨b, r, l, n, e, hb, hq⟩ => ?_
  subst e
  refine ⟨_, (pss_cons (ps_set (i := 2) nd rfl (.inl rfl) (pe_cl c1 hr takes0 (pa_cons (pv 0) (pa_cons pe_int pa_nil)))) (pss_cons (ps_set (i := 3) nd rfl (.inl rfl) (pe_cl c1 hr takes0 (pa_cons (pv 0) (pa_cons (pv 1) pa_nil)))) (pss_cons (ps_if (pt_cmpR op_lt (pv 2) pe_int (nomark _)) (pss_one (ps_ret (pe_tup (pa_cons pe_str (pa_cons (pe_op op_add pe_int (pe_cl c1 hr takes0 (pa_cons (pv 0) (pa_cons pe_int pa_nil)))) pa_nil))))) pss_nil) (pss_cons (ps_if (pt_cmpR op_lt (pv 2) pe_int (nomark _)) (pss_one (ps_ret (pe_tup (pa_cons pe_str (pa_cons (pv 3) (pa_cons (pe_cl c1 hr takes0 (pa_cons (pv 0) (pa_cons pe_int pa_nil))) (pa_cons (pe_cl c2 hr takes0 (pa_cons (pv 0) (pa_cons (pv 1) pa_nil))) pa_nil))))))) pss_nil) (pss_cons (ps_if (pt_cmpR op_lt (pv 2) pe_int (nomark _)) (pss_one (ps_ret (pe_tup (pa_cons pe_str (pa_cons (pv 3) pa_nil))))) pss_nil) (pss_one (ps_ret (pe_ix ix_list (pe_lst (pa_cons (pe_tup (pa_cons pe_str (pa_cons (pv 3) pa_nil))) (pa_cons (pe_tup (pa_cons pe_str (pa_cons (pv 3) pa_nil))) (pa_cons (pe_tup (pa_cons pe_str pa_nil)) (pa_cons (pe_tup (pa_cons pe_str pa_nil)) (pa_cons (pe_tup (pa_cons pe_str (pa_cons (pe_op op_add pe_int (pe_cl c1 hr takes0 (pa_cons (pv 0) (pa_cons pe_int pa_nil)))) pa_nil))) (pa_cons (pe_tup (pa_cons pe_str pa_nil)) pa_nil))))))) (pe_op op_mod (pe_callTy call_int1 (by rfl) (T.n "int") (by decide +kernel) (pa_cons (pe_op op_add (pv 2) (pe_cl c1 hr takes0 (pa_cons (pv 0) (pa_cons pe_int pa_nil)))) pa_nil)) pe_int) (fun _ _ => rfl))))))))), ?_⟩
  refine ⟨_, rfl, b, r, l, n, 16, rfl, hb, by decide, fun kd H1 k0 k1 hb1 e1 => ?_⟩
  refine ⟨_, rfl, _, rfl, b, r, l, _, 6, rfl, hb1, by decide, fun nu H2 n0 n1 hb2 e2 => ?_⟩
  have e12 := e1.trans e2
  have sn : smallN nu := ⟨n0, by omega⟩
  refine ⟨_, rfl, _, _, rfl, rfl, _, rfl, iteD (fun h => ?_) fun h => ?_⟩
  · refine ⟨_, rfl, b, r, l, _, 3, rfl, hb2, by decide, fun y H3 y0 y1 hb3 e3 => ⟨_, _, rfl, rfl, sz2, fun t nt => ?_⟩⟩
    have et : Ex H3 (upd H3 t (.tup [.str "allocate", .int (1 + y)])) := Ex.new nt
    exact hq _ _ (.alloc (1 + y)) _ ⟨by omega, by omega⟩ (DI.tupOf upd_same (.cons (.str _) (.cons (.int _) .nil))) (hb3.ex et) ((e12.trans e3).trans et.of)
  refine ⟨_, rfl, _, _, rfl, rfl, _, rfl, iteD (fun h2 => ?_) fun h2 => ?_⟩
  · refine ⟨_, rfl, _, rfl, b, r, l, _, 4, rfl, hb2, by decide, fun y H3 y0 y1 hb3 e3 => ?_⟩
    refine ⟨_, rfl, _, rfl, b, r, l, _, rfl, hb3, fun H4 u f n4 fok du hb4 e4 => ⟨leL (m := 4) (Nat.le_refl _) (by decide), fun t nt => ?_⟩⟩
    have et : Ex H4 (upd H4 t (.tup [.str "write", .int nu, .int y, u])) := Ex.new nt
    exact hq _ _ (.write nu y f) _ ⟨sn, ⟨y0, by omega⟩, fok⟩ (DI.tupOf upd_same (.cons (.str _) (.cons (.int _) (.cons (.int _) (.cons (DI.ex du et) .nil))))) (hb4.ex et) (((e12.trans e3).trans e4).trans et.of)
  refine ⟨_, rfl, _, _, rfl, rfl, _, rfl, iteD (fun h3 => ?_) fun h3 => ?_⟩
  · refine ⟨_, rfl, sz2, fun t nt => ?_⟩
    have et : Ex H2 (upd H2 t (.tup [.str "addRoot", .int nu])) := Ex.new nt
    exact hq _ _ (.addR nu) _ sn (DI.tupOf upd_same (.cons (.str _) (.cons (.int _) .nil))) (hb2.ex et) (e12.trans et.of)
  refine ⟨_, rfl, sz2, fun t1 nt1 => ⟨_, rfl, sz2, fun t2 nt2 => ⟨sz1, fun t3 nt3 => ⟨sz1, fun t4 nt4 => ?_⟩⟩⟩⟩
  have f1 : Ex H2 (upd H2 t1 (.tup [.str "release", .int nu])) := Ex.new nt1
  have d1 : DI K (upd H2 t1 (.tup [.str "release", .int nu])) (.ref t1) (encEv (.release nu)) := DI.tupOf upd_same (.cons (.str _) (.cons (.int _) .nil))
  generalize upd H2 t1 (.tup [.str "release", .int nu]) = G1 at f1 d1 nt2 nt3 nt4 ⊢
  have f2 : Ex G1 (upd G1 t2 (.tup [.str "removeRoot", .int nu])) := Ex.new nt2
  have d2 : DI K (upd G1 t2 (.tup [.str "removeRoot", .int nu])) (.ref t2) (encEv (.remR nu)) := DI.tupOf upd_same (.cons (.str _) (.cons (.int _) .nil))
  generalize upd G1 t2 (.tup [.str "removeRoot", .int nu]) = G2 at f2 d2 nt3 nt4 ⊢
  have f3 : Ex G2 (upd G2 t3 (.tup [.str "collect"])) := Ex.new nt3
  have d3 : DI K (upd G2 t3 (.tup [.str "collect"])) (.ref t3) (encEv .coll) := DI.tupOf upd_same (.cons (.str _) .nil)
  generalize upd G2 t3 (.tup [.str "collect"]) = G3 at f3 d3 nt4 ⊢
  have f4 : Ex G3 (upd G3 t4 (.tup [.str "compact"])) := Ex.new nt4
  have d4 : DI K (upd G3 t4 (.tup [.str "compact"])) (.ref t4) (encEv .comp) := DI.tupOf upd_same (.cons (.str _) .nil)
  generalize upd G3 t4 (.tup [.str "compact"]) = G4 at f4 d4 ⊢
  have fA : Ex H2 G4 := ((f1.trans f2).trans f3).trans f4
  refine ⟨_, rfl, b, r, l, _, 4, rfl, hb2.ex fA, by decide, fun y H3 y0 y1 hb3 e3 => ⟨_, _, rfl, rfl, sz2, fun t5 nt5 => ⟨sz1, fun t6 nt6 => ?_⟩⟩⟩
  have f5 : Ex H3 (upd H3 t5 (.tup [.str "makeRoom", .int (1 + y)])) := Ex.new nt5
  have d5 : DI K (upd H3 t5 (.tup [.str "makeRoom", .int (1 + y)])) (.ref t5) (encEv (.room (1 + y))) := DI.tupOf upd_same (.cons (.str _) (.cons (.int _) .nil))
  generalize upd H3 t5 (.tup [.str "makeRoom", .int (1 + y)]) = G5 at f5 d5 nt6 ⊢
  have f6 : Ex G5 (upd G5 t6 (.tup [.str "slide"])) := Ex.new nt6
  have d6 : DI K (upd G5 t6 (.tup [.str "slide"])) (.ref t6) (encEv .slide) := DI.tupOf upd_same (.cons (.str _) .nil)
  refine ⟨leL (m := 6) (Nat.le_refl _) (by decide), fun q nq => ?_⟩
  have eA : ExF (Only b) H2 (upd G5 t6 (.tup [.str "slide"])) := ((fA.of.trans e3).trans f5.of).trans f6.of
  have hb6 : BoxAt (upd G5 t6 (.tup [.str "slide"])) b r l (n + 1 + 1 + 1) := (hb3.ex f5).ex f6
  have e3x : ExF (Only b) H2 H3 := fA.of.trans e3
  have dAll : DIs K (upd G5 t6 (.tup [.str "slide"])) [.ref t1, .ref t2, .ref t3, .ref t4, .ref t5, .ref t6] ([Ev.release nu, .remR nu, .coll, .comp, .room (1 + y), .slide].map encEv) :=
    .cons (DI.ex (DI.ex (DI.ex (DI.ex (DI.ex (DI.ex d1 f2) f3) f4) e3) f5) f6) (.cons (DI.ex (DI.ex (DI.ex (DI.ex (DI.ex d2 f3) f4) e3) f5) f6) (.cons (DI.ex (DI.ex (DI.ex (DI.ex d3 f4) e3) f5) f6) (.cons (DI.ex (DI.ex (DI.ex d4 e3) f5) f6) (.cons (DI.ex d5 f6) (.cons d6 .nil)))))
  generalize upd G5 t6 (.tup [.str "slide"]) = G6 at eA hb6 dAll nq ⊢
  have f7 : Ex G6 (upd G6 q (.lst [.ref t1, .ref t2, .ref t3, .ref t4, .ref t5, .ref t6])) := Ex.new nq
  have nqb : ¬ Only b q := fun z => by
    have h9 := hb6.at_
    rw [show b = q from z.symm, nq] at h9
    cases h9
  refine ⟨_, rfl, _, rfl, b, r, l, _, 2, rfl, hb6.ex f7, by decide, fun z H7 z0 z1 hb7 e7 => ⟨_, _, rfl, rfl, .inl ⟨_, rfl, _, _, rfl, rfl, (show (0 : Int) < 6 by decide), ?_⟩⟩⟩
  have h60 : 0 ≤ (kd + z) % 6 := Int.emod_nonneg _ (by decide)
  have h61 : (kd + z) % 6 < 6 := Int.emod_lt_of_pos _ (by decide)
  have eall : ∀ e ∈ [Ev.release nu, .remR nu, .coll, .comp, .room (1 + y), .slide], EvOk e := by
    intro e he
    simp only [List.mem_cons, List.not_mem_nil, or_false] at he
    rcases he with rfl | rfl | rfl | rfl | rfl | rfl
    · exact sn
    · exact sn
    · trivial
    · trivial
    · exact ⟨by omega, by omega⟩
    · trivial
  obtain ⟨ev, hev⟩ : ∃ ev, [Ev.release nu, .remR nu, .coll, .comp, .room (1 + y), .slide][((kd + z) % 6).toNat]? = some ev := ⟨_, List.getElem?_eq_getElem (by show _ < 6; omega)⟩
  obtain ⟨v, hv, dv⟩ := DpAll.at_ dAll (i := ((kd + z) % 6).toNat) (d := encEv ev) (by rw [List.getElem?_map, hev]; rfl)
  have hv2 := atI_nat hv
  rw [show ((((kd + z) % 6).toNat : Nat) : Int) = (kd + z) % 6 by omega] at hv2
  refine ⟨q, _, _, v, rfl, rfl, SqL.of (e7.at (upd_same) nqb), hv2, ?_⟩
  exact hq _ _ ev _ (eall ev (List.mem_of_getElem? hev)) (DI.ex (DI.ex dv f7) e7) hb7 (((e12.trans eA).trans f7.of).trans e7)
end
end Hg
namespace Hg
open PySem PySem.Spec PyProof.Rows L2
/-! ### the law's change and journal -/
def encErr : Err → PyData
  | .mem n => .tuple [.str "memory", .int n]
  | .notAllowed n => .tuple [.str "not allowed", .int n]
  | .room n => .tuple [.str "room", .int n]
  | .obj n => .tuple [.str "object", .int n]
  | .field i => .tuple [.str "field", .int i]
  | .used n r => .tuple [.str "used", .int n, .str (whyV r)]
  | .strat => .tuple [.str "strategy"]
def ansD : Ans → PyData
  | .error e => encErr e
  | .ok r => .tuple [.str "told", r.2]
def nextP (ph : PH) : Ans → PH
  | .error _ => ph
  | .ok r => r.1
def nextE (evs : List Ev) (ev : Ev) : Ans → List Ev
  | .error _ => evs
  | .ok r => if told ev r.2 = true then evs ++ [ev] else evs
def shutD : PyData := .tuple [.str "shut"]
def cutD : PyData := .tuple [.str "cut"]
section
variable {P : Program} {w : World} {K : PySem.W.Frag} {mg : Str → Option Value} {base : Heap}
theorem Txt.xf (T : Txt P K mg) (x : Str) (h : excL.contains x = true := by decide +kernel) : XfC K (gA K x) := (T.exc x (List.contains_iff_mem.mp h)).2
def exPair : List (Str × Str) := exiL.flatMap fun p => p.2.map fun f => (p.1, f)
theorem Txt.xn (T : Txt P K mg) (x f : Str) (h : exPair.contains (x, f) = true := by decide +kernel) : PySem.W.findIn K (.ref (gA K x)) f = some none := by
  have h1 := List.contains_iff_mem.mp h
  unfold exPair at h1
  obtain ⟨p, hp, h2⟩ := List.mem_flatMap.mp h1
  obtain ⟨y, hy, e⟩ := List.mem_map.mp h2
  cases e
  exact T.exn p hp _ hy
def lcL (K : PySem.W.Frag) : List Cl3 := [(true, .ref (gA K "NoSuchObject"), fun ea kl dd => tRet (tTup (tCons (tC (.str "object")) (tCons (tXf ea kl dd (gA K "NoSuchObject") "number" (tVar 2)) tNil)))), (true, .ref (gA K "NoSuchField"), fun ea kl dd => tRet (tTup (tCons (tC (.str "field")) (tCons (tXf ea kl dd (gA K "NoSuchField") "index" (tVar 2)) tNil)))), (true, .ref (gA K "StillUsed"), fun ea kl dd => tRet (tTup (tCons (tC (.str "used")) (tCons (tXf ea kl dd (gA K "StillUsed") "number" (tVar 2)) (tCons (tXf ea kl dd (gA K "StillUsed") "reason" (tVar 2)) tNil))))), (true, .ref (gA K "OutOfMemory"), fun ea kl dd => tRet (tTup (tCons (tC (.str "memory")) (tCons (tXf ea kl dd (gA K "OutOfMemory") "length" (tVar 2)) tNil)))), (true, .ref (gA K "NotAllowed"), fun ea kl dd => tRet (tTup (tCons (tC (.str "not allowed")) (tCons (tXf ea kl dd (gA K "NotAllowed") "length" (tVar 2)) tNil)))), (true, .ref (gA K "NoRoom"), fun ea kl dd => tRet (tTup (tCons (tC (.str "room")) (tCons (tXf ea kl dd (gA K "NoRoom") "length" (tVar 2)) tNil)))), (false, .ref (gA K "StrategyDecides"), fun _ _ _ => tRet (tTup (tCons (tC (.str "strategy")) tNil)))]
def spLChgP (P : Program) (w : World) (K : PySem.W.Frag) (mg : Str → Option Value) (base : Heap) : Sp := fun vs H Q _ => ∃ (h : Addr) (M : Hps) (man : Man) (mf : List Addr) (v : V) (ev : Ev), vs = [.ref h, v] ∧ HIn P w K mg base H h M man mf ∧ DI K H v (encEv ev) ∧ EvOk ev ∧ M.evs.length ≤ 1000 ∧
  ∀ H' M' u, NowH K H H' h M M' → M'.mgr = M.mgr → M'.T.ph = nextP M.T.ph (performF man M.T.ph ev) → M'.evs = nextE M.evs ev (performF man M.T.ph ev) → DI K H' u (ansD (performF man M.T.ph ev)) → Q u H'
abbrev N_lchg : List Str := ["_law_heap_here", "_law_event", "fault"]
theorem sc_lchg : FnScope N_lchg ["_law_heap_here", "_law_event"] (defScope s_law_change) := ⟨rfl, rfl, rfl, by decide +kernel, rfl, by decide +kernel, by decide +kernel⟩
theorem w_lchgP (T : Txt P K mg) : Cl P w K mg base 16 "_law_change" (spLChgP P w K mg base) := by
  have nd := sc_lchg.nd
  have c1 := w_change (w := w) (base := base) T
  refine cl_of T (fn_mem 46 rfl) (by decide +kernel) sc_lchg (b2 fun _ _ _ _ _ _ _ _ => rfl) (fun vs H Q E ⟨_, _, _, _, _, _, e, _⟩ => by rw [e]; rfl) fun cdv A outer s H vs Q E hr ⟨h, M, man, mf, v, ev, e, hI, hev, hok, hel, hq⟩ => ?_
  subst e
  refine ⟨_, (pss_one (ps_try_mix (i := 2) (n := "fault") (l := lcL K) rfl rfl nd rfl rfl tk0 (fun W pn xe htk hps => pss_one (ps_ret (pe_tup (pa_cons pe_str (pa_cons (pe_mt c1 hr htk (pv 0) (pa_cons (pv 1) pa_nil)) pa_nil))))) (.as_ ⟨rfl, by decide, .inl (T.g "NoSuchObject")⟩ (fun ea oe kl dd pn hz hf => pss_one (ps_ret (pe_tup (pa_cons pe_str (pa_cons (pe_xf (T.xf "NoSuchObject") (T.xn "NoSuchObject" "number") hz hf (pv 2)) pa_nil))))) (.as_ ⟨rfl, by decide, .inl (T.g "NoSuchField")⟩ (fun ea oe kl dd pn hz hf => pss_one (ps_ret (pe_tup (pa_cons pe_str (pa_cons (pe_xf (T.xf "NoSuchField") (T.xn "NoSuchField" "index") hz hf (pv 2)) pa_nil))))) (.as_ ⟨rfl, by decide, .inl (T.g "StillUsed")⟩ (fun ea oe kl dd pn hz hf => pss_one (ps_ret (pe_tup (pa_cons pe_str (pa_cons (pe_xf (T.xf "StillUsed") (T.xn "StillUsed" "number") hz hf (pv 2)) (pa_cons (pe_xf (T.xf "StillUsed") (T.xn "StillUsed" "reason") hz hf (pv 2)) pa_nil)))))) (.as_ ⟨rfl, by decide, .inl (T.g "OutOfMemory")⟩ (fun ea oe kl dd pn hz hf => pss_one (ps_ret (pe_tup (pa_cons pe_str (pa_cons (pe_xf (T.xf "OutOfMemory") (T.xn "OutOfMemory" "length") hz hf (pv 2)) pa_nil))))) (.as_ ⟨rfl, by decide, .inl (T.g "NotAllowed")⟩ (fun ea oe kl dd pn hz hf => pss_one (ps_ret (pe_tup (pa_cons pe_str (pa_cons (pe_xf (T.xf "NotAllowed") (T.xn "NotAllowed" "length") hz hf (pv 2)) pa_nil))))) (.as_ ⟨rfl, by decide, .inl (T.g "NoRoom")⟩ (fun ea oe kl dd pn hz hf => pss_one (ps_ret (pe_tup (pa_cons pe_str (pa_cons (pe_xf (T.xf "NoRoom") (T.xn "NoRoom" "length") hz hf (pv 2)) pa_nil))))) (.one ⟨rfl, by decide, .inl (T.g "StrategyDecides")⟩ (fun _ _ _ _ _ _ _ => pss_one (ps_ret (pe_tup (pa_cons pe_str pa_nil)))) .nil))))))))), ?_⟩
  refine ⟨_, rfl, h, _, _, rfl, hI.hp.ins, rfl, _, rfl, h, M, man, mf, v, ev, rfl, hI, hev, hok, hel, ⟨fun ph' r H' M' u hres nw hmg hph hevs du => ⟨sz2, fun t nt => ?_⟩, fun e he H1 M' nw hmg hph hevs => ?_⟩⟩
  · rw [hres] at hq
    refine hq _ M' _ (nw.trans (NowH.of nw.at_ (Ex.new nt))) hmg hph hevs (DI.tupOf upd_same (.cons (.str _) (.cons (DI.ex du (Ex.new (F := NoF) nt)) .nil)))
  · rw [he] at hq
    have fin : ∀ (H' : Hp) (t : Addr) {xs : List V}, Ex H1 H' → H' t = none → DI K (upd H' t (.tup xs)) (.ref t) (encErr e) → Q (.ref t) (upd H' t (.tup xs)) := fun H' t xs eH nt d => hq _ M' _ (nw.trans (NowH.of nw.at_ (eH.trans (Ex.new nt)))) hmg hph hevs d
    clear hq he
    cases e with
    | mem n => exact fun H' d eH hd => ⟨false, T_exm T "OutOfMemory" "NoSuchObject", fun z => Bool.noConfusion z, fun _ => ⟨false, T_exm T "OutOfMemory" "NoSuchField", fun z => Bool.noConfusion z, fun _ => ⟨false, T_exm T "OutOfMemory" "StillUsed", fun z => Bool.noConfusion z, fun _ => ⟨true, T_exm T "OutOfMemory" "OutOfMemory", fun _ ea na => iteT ⟨_, rfl, rfl, rfl, d, _, _, rfl, hd, rfl, sz2, fun t nt => fin _ t eH nt (DI.tupOf upd_same (.cons (.str _) (.cons (.int _) .nil)))⟩, fun z => Bool.noConfusion z⟩⟩⟩⟩
    | notAllowed n => exact fun H' d eH hd => ⟨false, T_exm T "NotAllowed" "NoSuchObject", fun z => Bool.noConfusion z, fun _ => ⟨false, T_exm T "NotAllowed" "NoSuchField", fun z => Bool.noConfusion z, fun _ => ⟨false, T_exm T "NotAllowed" "StillUsed", fun z => Bool.noConfusion z, fun _ => ⟨false, T_exm T "NotAllowed" "OutOfMemory", fun z => Bool.noConfusion z, fun _ => ⟨true, T_exm T "NotAllowed" "NotAllowed", fun _ ea na => iteT ⟨_, rfl, rfl, rfl, d, _, _, rfl, hd, rfl, sz2, fun t nt => fin _ t eH nt (DI.tupOf upd_same (.cons (.str _) (.cons (.int _) .nil)))⟩, fun z => Bool.noConfusion z⟩⟩⟩⟩⟩
    | room n => exact fun H' d eH hd => ⟨false, T_exm T "NoRoom" "NoSuchObject", fun z => Bool.noConfusion z, fun _ => ⟨false, T_exm T "NoRoom" "NoSuchField", fun z => Bool.noConfusion z, fun _ => ⟨false, T_exm T "NoRoom" "StillUsed", fun z => Bool.noConfusion z, fun _ => ⟨false, T_exm T "NoRoom" "OutOfMemory", fun z => Bool.noConfusion z, fun _ => ⟨false, T_exm T "NoRoom" "NotAllowed", fun z => Bool.noConfusion z, fun _ => ⟨true, T_exm T "NoRoom" "NoRoom", fun _ ea na => iteT ⟨_, rfl, rfl, rfl, d, _, _, rfl, hd, rfl, sz2, fun t nt => fin _ t eH nt (DI.tupOf upd_same (.cons (.str _) (.cons (.int _) .nil)))⟩, fun z => Bool.noConfusion z⟩⟩⟩⟩⟩⟩
    | obj n => exact fun H' d eH hd => ⟨true, T_exm T "NoSuchObject" "NoSuchObject", fun _ ea na => iteT ⟨_, rfl, rfl, rfl, d, _, _, rfl, hd, rfl, sz2, fun t nt => fin _ t eH nt (DI.tupOf upd_same (.cons (.str _) (.cons (.int _) .nil)))⟩, fun z => Bool.noConfusion z⟩
    | field n => exact fun H' d eH hd => ⟨false, T_exm T "NoSuchField" "NoSuchObject", fun z => Bool.noConfusion z, fun _ => ⟨true, T_exm T "NoSuchField" "NoSuchField", fun _ ea na => iteT ⟨_, rfl, rfl, rfl, d, _, _, rfl, hd, rfl, sz2, fun t nt => fin _ t eH nt (DI.tupOf upd_same (.cons (.str _) (.cons (.int _) .nil)))⟩, fun z => Bool.noConfusion z⟩⟩
    | used n r => exact fun H' d eH hd => ⟨false, T_exm T "StillUsed" "NoSuchObject", fun z => Bool.noConfusion z, fun _ => ⟨false, T_exm T "StillUsed" "NoSuchField", fun z => Bool.noConfusion z, fun _ => ⟨true, T_exm T "StillUsed" "StillUsed", fun _ ea na => iteT ⟨_, rfl, rfl, rfl, d, _, _, rfl, hd, rfl, _, rfl, rfl, rfl, d, _, _, rfl, hd, rfl, sz3, fun t nt => fin _ t eH nt (DI.tupOf upd_same (.cons (.str _) (.cons (.int _) (.cons (.str _) .nil))))⟩, fun z => Bool.noConfusion z⟩⟩⟩
    | strat => exact fun H' eH => ⟨false, T_exm T "StrategyDecides" "NoSuchObject", fun z => Bool.noConfusion z, fun _ => ⟨false, T_exm T "StrategyDecides" "NoSuchField", fun z => Bool.noConfusion z, fun _ => ⟨false, T_exm T "StrategyDecides" "StillUsed", fun z => Bool.noConfusion z, fun _ => ⟨false, T_exm T "StrategyDecides" "OutOfMemory", fun z => Bool.noConfusion z, fun _ => ⟨false, T_exm T "StrategyDecides" "NotAllowed", fun z => Bool.noConfusion z, fun _ => ⟨false, T_exm T "StrategyDecides" "NoRoom", fun z => Bool.noConfusion z, fun _ => ⟨true, T_exm T "StrategyDecides" "StrategyDecides", fun _ ea na => iteF ⟨sz1, fun t nt => fin _ t eH nt (DI.tupOf upd_same (.cons (.str _) .nil))⟩, fun z => Bool.noConfusion z⟩⟩⟩⟩⟩⟩⟩

end
end Hg
namespace Hg
open PySem PySem.Spec PyProof.Rows L2
/-! ### the law's change of a journaled heap, and the law's journal -/
def wrote (ev : Ev) : Ans → Bool
  | .error _ => false
  | .ok r => told ev r.2
def wroteL (ev : Ev) (res : Ans) : List Int := if wrote ev res = true then recF ev else []
theorem wroteL_no {ev : Ev} {ph' : PH} {r : PyData} (h : told ev r = false) : wroteL ev (.ok (ph', r)) = [] := by
  show (if told ev r = true then _ else _) = _
  rw [h]
  rfl
theorem wroteL_yes {ev : Ev} {ph' : PH} {r : PyData} (h : told ev r = true) : wroteL ev (.ok (ph', r)) = recF ev := by
  show (if told ev r = true then _ else _) = _
  rw [h]
  rfl
theorem nextE_no {evs : List Ev} {ev : Ev} {ph' : PH} {r : PyData} (h : told ev r = false) : nextE evs ev (.ok (ph', r)) = evs := by
  show (if told ev r = true then _ else _) = _
  rw [h]
  rfl
theorem nextE_yes {evs : List Ev} {ev : Ev} {ph' : PH} {r : PyData} (h : told ev r = true) : nextE evs ev (.ok (ph', r)) = evs ++ [ev] := by
  show (if told ev r = true then _ else _) = _
  rw [h]
  rfl
structure JK2 (K : PySem.W.Frag) (H : Hp) (j : Addr) (J : Jn) (ev : Ev) (res : Ans) (Q : VK) (QS QC : Hp → Prop) : Prop where
  sh : J.shut = true → ∀ H', Ex H H' → QS H'
  an : J.shut = false → ((wroteL ev res).length : Int) ≤ J.pw → ∀ H' J' u, NowJ K H H' j J J' → J'.h = J.h → J'.M.mgr = J.M.mgr → J'.M.T.ph = nextP J.M.T.ph res → J'.M.evs = nextE J.M.evs ev res → J'.os = J.os ++ wroteL ev res → J'.pw = J.pw - (wroteL ev res).length → J'.shut = false → DI K H' u (ansD res) → Q u H'
  cut : J.shut = false → J.pw < (wroteL ev res).length → ∀ H' J', NowJ K H H' j J J' → J'.h = J.h → J'.M.mgr = J.M.mgr → J'.M.T.ph = nextP J.M.T.ph res → J'.M.evs = nextE J.M.evs ev res → J'.os = J.os ++ (wroteL ev res).take J.pw.toNat → J'.pw = 0 → J'.shut = true → QC H'
section
variable {P : Program} {w : World} {K : PySem.W.Frag} {mg : Str → Option Value} {base : Heap}
structure JIn (P : Program) (w : World) (K : PySem.W.Frag) (mg : Str → Option Value) (base : Heap) (H : Hp) (j : Addr) (J : Jn) (man : Man) (mf : List Addr) (v : V) (ev : Ev) : Prop where
  ja : JAt K H j J
  hi : HIn P w K mg base H J.h J.M man mf
  dv : DI K H v (encEv ev)
  ok : EvOk ev
  le : J.M.evs.length ≤ 1000
  lo : J.os.length ≤ 100000
  pw : 0 ≤ J.pw
def spLChgJ (P : Program) (w : World) (K : PySem.W.Frag) (mg : Str → Option Value) (base : Heap) : Sp := fun vs H Q E => ∃ (j : Addr) (J : Jn) (man : Man) (mf : List Addr) (v : V) (ev : Ev), vs = [.ref j, v] ∧ JIn P w K mg base H j J man mf v ev ∧
  JK2 K H j J ev (performF man J.M.T.ph ev) Q (fun H' => E (.ref (gA K "ShutError")) none H') (fun H' => ∀ d fs, H' d = some (.xd fs) → E (.ref (gA K "PowerCut")) (some d) H')
theorem w_lchgJ (T : Txt P K mg) : Cl P w K mg base 17 "_law_change" (spLChgJ P w K mg base) := by
  have nd := sc_lchg.nd
  have c1 := w_jchange (w := w) (base := base) T
  refine cl_of T (fn_mem 46 rfl) (by decide +kernel) sc_lchg (b2 fun _ _ _ _ _ _ _ _ => rfl) (fun vs H Q E ⟨_, _, _, _, _, _, e, _⟩ => by rw [e]; rfl) fun cdv A outer s H vs Q E hr ⟨j, J, man, mf, v, ev, e, hI, hK⟩ => ?_
  subst e
  refine ⟨_, (pss_one (ps_try_mix (i := 2) (n := "fault") (l := lcL K) rfl rfl nd rfl rfl tk0 (fun W pn xe htk hps => pss_one (ps_ret (pe_tup (pa_cons pe_str (pa_cons (pe_mt c1 hr htk (pv 0) (pa_cons (pv 1) pa_nil)) pa_nil))))) (.as_ ⟨rfl, by decide, .inl (T.g "NoSuchObject")⟩ (fun ea oe kl dd pn hz hf => pss_one (ps_ret (pe_tup (pa_cons pe_str (pa_cons (pe_xf (T.xf "NoSuchObject") (T.xn "NoSuchObject" "number") hz hf (pv 2)) pa_nil))))) (.as_ ⟨rfl, by decide, .inl (T.g "NoSuchField")⟩ (fun ea oe kl dd pn hz hf => pss_one (ps_ret (pe_tup (pa_cons pe_str (pa_cons (pe_xf (T.xf "NoSuchField") (T.xn "NoSuchField" "index") hz hf (pv 2)) pa_nil))))) (.as_ ⟨rfl, by decide, .inl (T.g "StillUsed")⟩ (fun ea oe kl dd pn hz hf => pss_one (ps_ret (pe_tup (pa_cons pe_str (pa_cons (pe_xf (T.xf "StillUsed") (T.xn "StillUsed" "number") hz hf (pv 2)) (pa_cons (pe_xf (T.xf "StillUsed") (T.xn "StillUsed" "reason") hz hf (pv 2)) pa_nil)))))) (.as_ ⟨rfl, by decide, .inl (T.g "OutOfMemory")⟩ (fun ea oe kl dd pn hz hf => pss_one (ps_ret (pe_tup (pa_cons pe_str (pa_cons (pe_xf (T.xf "OutOfMemory") (T.xn "OutOfMemory" "length") hz hf (pv 2)) pa_nil))))) (.as_ ⟨rfl, by decide, .inl (T.g "NotAllowed")⟩ (fun ea oe kl dd pn hz hf => pss_one (ps_ret (pe_tup (pa_cons pe_str (pa_cons (pe_xf (T.xf "NotAllowed") (T.xn "NotAllowed" "length") hz hf (pv 2)) pa_nil))))) (.as_ ⟨rfl, by decide, .inl (T.g "NoRoom")⟩ (fun ea oe kl dd pn hz hf => pss_one (ps_ret (pe_tup (pa_cons pe_str (pa_cons (pe_xf (T.xf "NoRoom") (T.xn "NoRoom" "length") hz hf (pv 2)) pa_nil))))) (.one ⟨rfl, by decide, .inl (T.g "StrategyDecides")⟩ (fun _ _ _ _ _ _ _ => pss_one (ps_ret (pe_tup (pa_cons pe_str pa_nil)))) .nil))))))))), ?_⟩
  refine ⟨_, rfl, j, _, _, rfl, hI.ja.ins, rfl, _, rfl, j, J, man, mf, v, ev, rfl, hI.ja, hI.hi, hI.dv, hI.ok, hI.le, hI.lo, hI.pw, ⟨fun hs H' eH => ?_, fun hs e he H1 M' nw hmg hph hevs => ?_, fun hs ph' r H' M' u hres ht nw hmg hph hevs du => ⟨sz2, fun t nt => ?_⟩, fun hs ph' r H' M' u hres ht hle nw hmg hph hevs du => ⟨sz2, fun t nt => ?_⟩, fun hs ph' r H' M' d fs hres ht hlt nw hmg hph hevs hd => ?_⟩⟩
  · exact ⟨false, T_exm T "ShutError" "NoSuchObject", fun z => Bool.noConfusion z, fun _ => ⟨false, T_exm T "ShutError" "NoSuchField", fun z => Bool.noConfusion z, fun _ => ⟨false, T_exm T "ShutError" "StillUsed", fun z => Bool.noConfusion z, fun _ => ⟨false, T_exm T "ShutError" "OutOfMemory", fun z => Bool.noConfusion z, fun _ => ⟨false, T_exm T "ShutError" "NotAllowed", fun z => Bool.noConfusion z, fun _ => ⟨false, T_exm T "ShutError" "NoRoom", fun z => Bool.noConfusion z, fun _ => ⟨false, T_exm T "ShutError" "StrategyDecides", fun z => Bool.noConfusion z, fun _ => hK.sh hs H' eH⟩⟩⟩⟩⟩⟩⟩
  · rw [he] at hK
    have hpw := hI.pw
    have fin : ∀ (H' : Hp) (t : Addr) {xs : List V}, Ex H1 H' → H' t = none → DI K (upd H' t (.tup xs)) (.ref t) (encErr e) → Q (.ref t) (upd H' t (.tup xs)) := fun H' t xs eH nt d => hK.an hs (by simpa [wroteL, wrote] using hpw) _ (J.setM M') _ (nw.trans (NowJ.of nw.at_ (eH.trans (Ex.new nt)))) rfl hmg hph hevs (by simp [wroteL, wrote, Jn.setM]) (by simp [wroteL, wrote, Jn.setM]) hs d
    clear hK he
    cases e with
    | mem n => exact fun H' d eH hd => ⟨false, T_exm T "OutOfMemory" "NoSuchObject", fun z => Bool.noConfusion z, fun _ => ⟨false, T_exm T "OutOfMemory" "NoSuchField", fun z => Bool.noConfusion z, fun _ => ⟨false, T_exm T "OutOfMemory" "StillUsed", fun z => Bool.noConfusion z, fun _ => ⟨true, T_exm T "OutOfMemory" "OutOfMemory", fun _ ea na => iteT ⟨_, rfl, rfl, rfl, d, _, _, rfl, hd, rfl, sz2, fun t nt => fin _ t eH nt (DI.tupOf upd_same (.cons (.str _) (.cons (.int _) .nil)))⟩, fun z => Bool.noConfusion z⟩⟩⟩⟩
    | notAllowed n => exact fun H' d eH hd => ⟨false, T_exm T "NotAllowed" "NoSuchObject", fun z => Bool.noConfusion z, fun _ => ⟨false, T_exm T "NotAllowed" "NoSuchField", fun z => Bool.noConfusion z, fun _ => ⟨false, T_exm T "NotAllowed" "StillUsed", fun z => Bool.noConfusion z, fun _ => ⟨false, T_exm T "NotAllowed" "OutOfMemory", fun z => Bool.noConfusion z, fun _ => ⟨true, T_exm T "NotAllowed" "NotAllowed", fun _ ea na => iteT ⟨_, rfl, rfl, rfl, d, _, _, rfl, hd, rfl, sz2, fun t nt => fin _ t eH nt (DI.tupOf upd_same (.cons (.str _) (.cons (.int _) .nil)))⟩, fun z => Bool.noConfusion z⟩⟩⟩⟩⟩
    | room n => exact fun H' d eH hd => ⟨false, T_exm T "NoRoom" "NoSuchObject", fun z => Bool.noConfusion z, fun _ => ⟨false, T_exm T "NoRoom" "NoSuchField", fun z => Bool.noConfusion z, fun _ => ⟨false, T_exm T "NoRoom" "StillUsed", fun z => Bool.noConfusion z, fun _ => ⟨false, T_exm T "NoRoom" "OutOfMemory", fun z => Bool.noConfusion z, fun _ => ⟨false, T_exm T "NoRoom" "NotAllowed", fun z => Bool.noConfusion z, fun _ => ⟨true, T_exm T "NoRoom" "NoRoom", fun _ ea na => iteT ⟨_, rfl, rfl, rfl, d, _, _, rfl, hd, rfl, sz2, fun t nt => fin _ t eH nt (DI.tupOf upd_same (.cons (.str _) (.cons (.int _) .nil)))⟩, fun z => Bool.noConfusion z⟩⟩⟩⟩⟩⟩
    | obj n => exact fun H' d eH hd => ⟨true, T_exm T "NoSuchObject" "NoSuchObject", fun _ ea na => iteT ⟨_, rfl, rfl, rfl, d, _, _, rfl, hd, rfl, sz2, fun t nt => fin _ t eH nt (DI.tupOf upd_same (.cons (.str _) (.cons (.int _) .nil)))⟩, fun z => Bool.noConfusion z⟩
    | field n => exact fun H' d eH hd => ⟨false, T_exm T "NoSuchField" "NoSuchObject", fun z => Bool.noConfusion z, fun _ => ⟨true, T_exm T "NoSuchField" "NoSuchField", fun _ ea na => iteT ⟨_, rfl, rfl, rfl, d, _, _, rfl, hd, rfl, sz2, fun t nt => fin _ t eH nt (DI.tupOf upd_same (.cons (.str _) (.cons (.int _) .nil)))⟩, fun z => Bool.noConfusion z⟩⟩
    | used n r => exact fun H' d eH hd => ⟨false, T_exm T "StillUsed" "NoSuchObject", fun z => Bool.noConfusion z, fun _ => ⟨false, T_exm T "StillUsed" "NoSuchField", fun z => Bool.noConfusion z, fun _ => ⟨true, T_exm T "StillUsed" "StillUsed", fun _ ea na => iteT ⟨_, rfl, rfl, rfl, d, _, _, rfl, hd, rfl, _, rfl, rfl, rfl, d, _, _, rfl, hd, rfl, sz3, fun t nt => fin _ t eH nt (DI.tupOf upd_same (.cons (.str _) (.cons (.int _) (.cons (.str _) .nil))))⟩, fun z => Bool.noConfusion z⟩⟩⟩
    | strat => exact fun H' eH => ⟨false, T_exm T "StrategyDecides" "NoSuchObject", fun z => Bool.noConfusion z, fun _ => ⟨false, T_exm T "StrategyDecides" "NoSuchField", fun z => Bool.noConfusion z, fun _ => ⟨false, T_exm T "StrategyDecides" "StillUsed", fun z => Bool.noConfusion z, fun _ => ⟨false, T_exm T "StrategyDecides" "OutOfMemory", fun z => Bool.noConfusion z, fun _ => ⟨false, T_exm T "StrategyDecides" "NotAllowed", fun z => Bool.noConfusion z, fun _ => ⟨false, T_exm T "StrategyDecides" "NoRoom", fun z => Bool.noConfusion z, fun _ => ⟨true, T_exm T "StrategyDecides" "StrategyDecides", fun _ ea na => iteF ⟨sz1, fun t nt => fin _ t eH nt (DI.tupOf upd_same (.cons (.str _) .nil))⟩, fun z => Bool.noConfusion z⟩⟩⟩⟩⟩⟩⟩

  · have hpw := hI.pw
    rw [hres] at hK
    have hw : wroteL ev (.ok (ph', r)) = [] := wroteL_no ht
    refine hK.an hs (by rw [hw]; exact hpw) _ (J.setM M') _ (nw.trans (NowJ.of nw.at_ (Ex.new nt))) rfl hmg hph (hevs.trans (nextE_no ht).symm) (by rw [hw, List.append_nil]; rfl) (by rw [hw]; show J.pw = J.pw - 0; omega) hs (DI.tupOf upd_same (.cons (.str _) (.cons (DI.ex du (Ex.new (F := NoF) nt)) .nil)))
  · rw [hres] at hK
    have hw : wroteL ev (.ok (ph', r)) = recF ev := wroteL_yes ht
    refine hK.an hs (by rw [hw]; exact hle) _ ((J.setM M').setO (J.os ++ recF ev) (J.pw - (recF ev).length)) _ (nw.trans (NowJ.of nw.at_ (Ex.new nt))) rfl hmg hph (hevs.trans (nextE_yes ht).symm) (by rw [hw]; rfl) (by rw [hw]; rfl) hs (DI.tupOf upd_same (.cons (.str _) (.cons (DI.ex du (Ex.new (F := NoF) nt)) .nil)))
  · rw [hres] at hK
    have hw : wroteL ev (.ok (ph', r)) = recF ev := wroteL_yes ht
    have h9 : E (.ref (gA K "PowerCut")) (some d) H' := by
      refine hK.cut hs (by rw [hw]; exact hlt) _ _ nw rfl hmg hph (hevs.trans (nextE_yes ht).symm) (by rw [hw]; rfl) rfl rfl d fs hd
    exact ⟨false, T_exm T "PowerCut" "NoSuchObject", fun z => Bool.noConfusion z, fun _ => ⟨false, T_exm T "PowerCut" "NoSuchField", fun z => Bool.noConfusion z, fun _ => ⟨false, T_exm T "PowerCut" "StillUsed", fun z => Bool.noConfusion z, fun _ => ⟨false, T_exm T "PowerCut" "OutOfMemory", fun z => Bool.noConfusion z, fun _ => ⟨false, T_exm T "PowerCut" "NotAllowed", fun z => Bool.noConfusion z, fun _ => ⟨false, T_exm T "PowerCut" "NoRoom", fun z => Bool.noConfusion z, fun _ => ⟨false, T_exm T "PowerCut" "StrategyDecides", fun z => Bool.noConfusion z, fun _ => h9⟩⟩⟩⟩⟩⟩⟩
/-! _law_journal -/
def spLJrn (P : Program) (w : World) (K : PySem.W.Frag) (mg : Str → Option Value) (base : Heap) : Sp := fun vs H Q _ => ∃ (j : Addr) (J : Jn) (man : Man) (mf : List Addr) (v : V) (ev : Ev), vs = [.ref j, v] ∧ JIn P w K mg base H j J man mf v ev ∧
  JK2 K H j J ev (performF man J.M.T.ph ev) Q (fun H' => ∀ u H2, Ex H' H2 → DI K H2 u shutD → Q u H2) (fun H' => ∀ u H2, Ex H' H2 → DI K H2 u cutD → Q u H2)
theorem sc_ljrn : FnScope ["_law_journaled", "_law_event"] ["_law_journaled", "_law_event"] (defScope s_law_journal) := ⟨rfl, rfl, rfl, by decide +kernel, rfl, by decide +kernel, by decide +kernel⟩
theorem w_ljrn (T : Txt P K mg) : Cl P w K mg base 18 "_law_journal" (spLJrn P w K mg base) := by
  have nd := sc_ljrn.nd
  have c1 := w_lchgJ (w := w) (base := base) T
  refine cl_of T (fn_mem 48 rfl) (by decide +kernel) sc_ljrn (b2 fun _ _ _ _ _ _ _ _ => rfl) (fun vs H Q E ⟨_, _, _, _, _, _, e, _⟩ => by rw [e]; rfl) fun cdv A outer s H vs Q E hr ⟨j, J, man, mf, v, ev, e, hI, hK⟩ => ?_
  subst e
  refine ⟨_, (pss_one (ps_try_mix (i := 0) (n := "_law_journaled") (l := [(false, .ref (gA K "PowerCut"), fun _ _ _ => tRet (tTup (tCons (tC (.str "cut")) tNil))), (false, .ref (gA K "ShutError"), fun _ _ _ => tRet (tTup (tCons (tC (.str "shut")) tNil)))]) rfl rfl nd rfl rfl tk0 (fun W pn xe htk hps => pss_one (ps_ret (pe_cl c1 hr htk (pa_cons (pv 0) (pa_cons (pv 1) pa_nil))))) (.one ⟨rfl, by decide, .inl (T.g "PowerCut")⟩ (fun _ _ _ _ _ _ _ => pss_one (ps_ret (pe_tup (pa_cons pe_str pa_nil)))) (.one ⟨rfl, by decide, .inl (T.g "ShutError")⟩ (fun _ _ _ _ _ _ _ => pss_one (ps_ret (pe_tup (pa_cons pe_str pa_nil)))) .nil)))), ?_⟩
  refine ⟨_, rfl, _, rfl, j, J, man, mf, v, ev, rfl, hI, ⟨fun hs H' eH => ?_, fun hs hle H' J' u nw h1 h2 h3 h4 h5 h6 h7 du => hK.an hs hle H' J' u nw h1 h2 h3 h4 h5 h6 h7 du, fun hs hlt H' J' nw h1 h2 h3 h4 h5 h6 h7 d fs hd => ?_⟩⟩
  · exact ⟨false, T_exm T "ShutError" "PowerCut", fun z => Bool.noConfusion z, fun _ => ⟨true, T_exm T "ShutError" "ShutError", fun _ ea na => iteF ⟨sz1, fun t nt => hK.sh hs H' eH _ _ (Ex.new nt) (DI.tupOf upd_same (.cons (.str _) .nil))⟩, fun z => Bool.noConfusion z⟩⟩
  · exact ⟨true, T_exm T "PowerCut" "PowerCut", fun _ ea na => iteF ⟨sz1, fun t nt => hK.cut hs hlt H' J' nw h1 h2 h3 h4 h5 h6 h7 _ _ (Ex.new nt) (DI.tupOf upd_same (.cons (.str _) .nil))⟩, fun z => Bool.noConfusion z⟩
end
end Hg
namespace Hg
open PySem PySem.Spec PyProof.Rows L2 GxR
/-! ### any and all of a generator expression over a list -/
section
variable {X : Cx} {pins : List (Addr × Obj)} {σ : L2.St} {G : Hp} {z : Shared} {c T : Addr} {ts : Array Value}
/-- the code of the expression is there or is made; the table may have grown -/
theorem gen_mid (B : TabB X.base X.mg c T) (hc : X.env.code = .ref c) (J : Inv X pins σ G z) (hT : G T = some (.tbl ts)) (ok : TriplesOk ts.toList) {ob : Obj} {ps : Pos} {sc : Scope} {R : Value → Addr → Shared → Prop}
    (k : ∀ (cd : Value) (bi : Addr) (g : Heap) (n : Nat) (us : Array Value), Heap.ExtBut T (z.heap.push ob) g → z.heap.objs.size + 1 ≤ g.objs.size → g.get? T = some { cls := .none, data := .fields us } → (∃ more, us = ts ++ more) → TriplesOk us.toList → R cd bi { z with heap := g, toks := n }) :
    wpAny (model X.prog X.w) X.A (genexprCode X.env ps (X.env.qual ++ "<genexpr>") sc) (fun cd z1 => wpAny (model X.prog X.w) X.A (builtinsFor X.env.globals X.env.builtins) (R cd) X.xe z1) X.xe { z with heap := z.heap.push ob } := by
  have tT : z.heap.get? T = some { cls := .none, data := .fields ts } := J.hok T _ hT
  have tT2 : (z.heap.push ob).get? T = some { cls := .none, data := .fields ts } := Heap.get?_push_of_some _ tT
  have hd : PySem.W.CodeHd (z.heap.push ob) c T := B.code.keeps fun b u e => Heap.get?_push_of_some _ (J.bk b u e)
  have sz : (z.heap.push ob).objs.size = z.heap.objs.size + 1 := Heap.size_push ..
  have go : ∀ (cd : Value) (g : Heap) (n : Nat) (us : Array Value), Heap.ExtBut T (z.heap.push ob) g → z.heap.objs.size + 1 ≤ g.objs.size → g.get? T = some { cls := .none, data := .fields us } → (∃ more, us = ts ++ more) → TriplesOk us.toList →
      wpAny (model X.prog X.w) X.A (builtinsFor X.env.globals X.env.builtins) (R cd) X.xe { z with heap := g, toks := n } := by
    intro cd g n us ex ge tg mo tr
    obtain ⟨bm, bo, i1, i2, i3, i4, i5, i6, i7, i8⟩ := B.bm
    refine wpAny_builtinsFor (m := X.mg) ?_ i1 i2 (ex _ _ i4 (Heap.get?_push_of_some _ (J.bk _ _ i5))) i6 i7 i8 (k cd _ g n us ex ge tg mo tr)
    rw [J.ok.glob]
    exact ((J.mod.glob.keeps J.bk).push ob).extBut ex B.gP
  cases e : codeAmong ps ts.toList with
  | none =>
    refine wpAny_genexprCodeX hc (hd.code tT2 ok) (hd.tab tT2) e fun c2 g n ex ge lt co _ tb _ => ?_
    obtain ⟨y1, y2, y3, y4, y5, y6, y7, y8, y9, y10, _, _, _, _, _, _, _, _, _, tr, _⟩ := co
    exact go _ g n _ ex (by rw [← sz]; exact Nat.le_trans ge (Nat.le_of_lt lt)) tb.2 ⟨_, rfl⟩ tr
  | some cv =>
    refine wpAny_genexprCode_hit hc (hd.code tT2 ok) e ?_
    exact go cv _ _ ts (Heap.ExtBut.refl _ _) (Nat.le_of_eq sz.symm) tT2 ⟨#[], by simp⟩ ok
/-- what a generator that is ready gives: n tests, the j-th p j -/
def GenIs (X : Cx) (pins : List (Addr × Obj)) (σ : L2.St) (G : Hp) (T : Addr) (n : Nat) (p : Nat → Bool) (g : Addr) (z : Shared) : Prop :=
  ∃ (fp wr : List Addr) (M : Array GenState → Array GenState → Prop) (F : Nat → Value → Prop) (St : Nat → Shared → Prop), WalksS X.prog X.w X.A.in1 g fp wr M n F St ∧ St 0 z ∧ TruthOf X.prog X.w X.A.in1 F p ∧ ∀ y, Moved wr M z y → ∃ G2, Tabbed T G G2 ∧ Inv X pins σ G2 y
end
/-- the scope of an expression with one name; with two -/
structure GenS2 (env : Env) (sc : Scope) (xa xb : Str) : Prop where
  kind : sc.kind = .function
  co : sc.isCoroutine = false
  cell : ∀ y ∈ sc.names, y.2 ≠ .cell
  dot : sc.names.lookup (".0" : Str) = some NameKind.local
  la : sc.names.lookup xa = some .local
  lb : sc.names.lookup xb = some .local
  ne : xa ≠ xb
  free : ∀ y ∈ sc.names, y.2 = .free → ∃ c, env.cells.lookup y.1 = some c
/-- the test of a number, of a pair; what the frame's cells hold is told by I -/
def EltN (X : Cx) (sc : Scope) (x : Str) (elt : Expr) (p : Int → Bool) : Prop :=
  ∀ (ce : Env) (A' : Around) (E' : Value → Shared → Prop) (i : Int) (t : Tok) (z : Shared) (m : Str → Option Value), ce.scope = sc → z.heap.Ns ce.locals m → m x = some (.int i t) → wpAny (model X.prog X.w) A' (eval elt ce) (fun y z2 => y = .bool (p i) ∧ Keeps z z2) E' z
/-- cells: what they hold stays while the objects below n stay -/
def EltP2 (X : Cx) (h0 : Heap) (sc : Scope) (xa xb : Str) (elt : Expr) (p : Int × Int → Bool) : Prop :=
  ∀ (ce : Env) (A' : Around) (E' : Value → Shared → Prop) (i j : Int) (t u : Tok) (z : Shared) (m : Str → Option Value), ce.scope = sc → ce.cells = cloFrom X.env.cells sc.names [] → (∀ c v, h0.IsCell c v → z.heap.IsCell c v) → z.heap.Ns ce.locals m → m xa = some (.int i t) → m xb = some (.int j u) →
    wpAny (model X.prog X.w) A' (eval elt ce) (fun y z2 => y = .bool (p (i, j)) ∧ Keeps z z2) E' z
section
variable {X : Cx} {pins : List (Addr × Obj)} {σ : L2.St} {H : Hp} {s : Shared} {c T : Addr} {elt iter : Expr} {x xa xb : Str} {px pa pb pt p pos gp : Pos} {kt : Nat} {sc : Scope} {te : TE} {k : Nat}
/-- the truth at place j -/
def atB {α : Type} (q : α → Bool) (l : List α) (j : Nat) : Bool := ((l[j]?).map q).getD false
theorem atB_some {α : Type} {q : α → Bool} {l : List α} {j : Nat} {b : α} (h : l[j]? = some b) : atB q l j = q b := by
  unfold atB
  rw [h]
  rfl
theorem any_atB {α : Type} (q : α → Bool) (l : List α) : (List.range l.length).any (atB q l) = l.any q := by
  rw [Bool.eq_iff_iff]
  simp only [List.any_eq_true, List.mem_range]
  constructor
  · rintro ⟨j, hj, h⟩
    rw [atB_some (List.getElem?_eq_getElem hj)] at h
    exact ⟨_, List.getElem_mem hj, h⟩
  · rintro ⟨b, hb, h⟩
    (obtain ⟨j, hj, rfl⟩ := List.getElem_of_mem hb)
    exact ⟨j, hj, by rw [atB_some (List.getElem?_eq_getElem hj)]; exact h⟩
theorem all_atB {α : Type} (q : α → Bool) (l : List α) : (List.range l.length).all (atB q l) = l.all q := by
  rw [Bool.eq_iff_iff]
  simp only [List.all_eq_true, List.mem_range]
  constructor
  · intro h b hb
    (obtain ⟨j, hj, rfl⟩ := List.getElem_of_mem hb)
    have := h j hj
    rwa [atB_some (List.getElem?_eq_getElem hj)] at this
  · intro h j hj
    rw [atB_some (List.getElem?_eq_getElem hj)]
    exact h _ (List.getElem_mem hj)
/-- over a list of numbers -/
theorem gen_ints {pz : Int → Bool} {Q' : Value → Shared → Prop} {R : List Int → Hp → Prop} (hr : Room k X.A) (B : TabB X.base X.mg c T) (hc : X.env.code = .ref c) (S : GenS X.env sc x) (hi : PE X iter te) (hel : EltN X sc x elt pz)
    (hs : ∀ v, genFold iter X.env v = pure v) (I : Inv X pins σ H s) (h : te σ H fun v G => ∃ (a : Addr) (l : List Int), v = .ref a ∧ SqL X.K G a (l.map V.int) ∧ TabG G T ∧ R l G)
    (hQ : ∀ l G g z, R l G → GenIs X pins σ G T l.length (atB pz l) g z → Q' (.ref g) z) :
    wpAny (model X.prog X.w) X.A (eval (.GeneratorExp elt [⟨.Name x px, iter, [], 0⟩] sc gp) X.env) Q' X.xe s := by
  (refine wpAny_GeneratorExp_walksQ hr.hd S.co (closure_ok S.free) S.cell S.dot S.loc S.kind (by have := hr.dp; omega) ?_ hs)
  refine thn (hi.run pins s σ H _ I h) fun u z ⟨v, G, J, rv, a, l, ev, hl, ⟨ts, hT, ok⟩, hR⟩ => ?_
  subst ev
  cases rv
  obtain ⟨its, ri, pl, hz⟩ := J.list hl
  have hIL := pl.isList
  have hln : its.length = l.length := by rw [← ri.length, List.length_map]
  have hat : ∀ (i : Nat) (v : Value), its.toArray[i]? = some v → ∃ (b : Int) (t : Tok), l[i]? = some b ∧ v = .int b t := by
    intro i v hv
    (have hv2 : its[i]? = some v := by simpa using hv)
    have hi2 := (List.getElem?_eq_some_iff.mp hv2).1
    have hb : l[i]? = some (l[i]'(by omega)) := List.getElem?_eq_getElem (by omega)
    obtain ⟨w9, hw, rw9⟩ := ri.get (show (l.map V.int)[i]? = some (V.int (l[i]'(by omega))) by rw [List.getElem?_map, hb]; rfl)
    rw [hv2] at hw
    cases hw
    obtain ⟨t, e⟩ := (show ∃ t, v = Value.int _ t from rw9)
    exact ⟨_, t, hb, e⟩
  (refine wpAny_pyIter_list hIL ?_)
  refine ⟨J.nolimit.push _, gen_mid B hc J hT ok fun cd bi g n us ex ge tg mo tr => ?_⟩
  have tT : z.heap.get? T = some { cls := .none, data := .fields ts } := J.hok T _ hT
  have ltT : T < z.heap.objs.size := Heap.lt_size tT
  have lta : a < z.heap.objs.size := by
    obtain ⟨_, e, _⟩ := hIL
    exact Heap.lt_size e
  have naT : a ≠ T := fun q => by
    obtain ⟨_, e, _, _, d⟩ := hIL
    rw [q, tT] at e
    cases e
    cases d
  have hcT : cStatics ≠ T := fun q => by
    obtain ⟨_, ⟨o', es, ep, ho, d, _⟩, _⟩ := J.nolimit
    rw [q, tT] at ho
    cases ho
    cases d
  have ltc : cStatics < z.heap.objs.size := let ⟨_, q, _⟩ := J.nolimit; q.lt
  have kp : ∀ b u, b ≠ T → z.heap.get? b = some u → g.get? b = some u := fun b u hb e => ex b u hb (Heap.get?_push_of_some _ e)
  have hIL3 : g.IsList a its.toArray := by
    obtain ⟨ob, e, r⟩ := hIL
    exact ⟨ob, kp _ _ naT e, r⟩
  have hIt3 : g.IsListIter z.heap.objs.size a 0 := ⟨_, ex _ _ (Nat.ne_of_gt ltT) (Heap.get?_push_size _ rfl), rfl, rfl⟩
  refine ⟨z.heap.objs.size, [z.heap.objs.size, a], [z.heap.objs.size], its.toArray.size, fun i v => its.toArray[i]? = some v, fun i h => h.IsListIter z.heap.objs.size a i ∧ h.IsList a its.toArray, fun _ => true,
    fun i y => ∃ b, l[i]? = some b ∧ y = .bool (pz b), rfl, fun A' hA => Walks.list hA _ _ (Nat.ne_of_lt lta) _, ⟨hIt3, hIL3⟩, ?_, (J.nolimit.push _).extBut ex hcT, ?_, ?_, ?_⟩
  · intro b hb
    (simp only [List.mem_cons, List.not_mem_nil, or_false] at hb)
    show b < g.objs.size
    rcases hb with q | q
    · rw [q]
      exact Nat.lt_of_lt_of_le (Nat.lt_succ_self _) ge
    · rw [q]
      exact Nat.lt_of_lt_of_le (Nat.lt_succ_of_lt lta) ge
  · simp only [List.mem_cons, List.not_mem_nil, or_false]
    exact Nat.ne_of_lt ltc
  · intro hf hhf
    refine ⟨fun A' E' i v z2 m2 hA hv hn hm hk2 => ?_, fun A' E' i v z2 m2 hA hv _ hn hm hk2 => ?_⟩
    · simp only [List.forIn_nil]
      (exact wpAny_pure ⟨rfl, keeps_refl _⟩)
    · obtain ⟨b, t, hb, rfl⟩ := hat i v hv
      exact wpAny_mono (hel _ A' E' b t z2 m2 rfl hn hm) (fun y z3 r => ⟨⟨b, hb, r.1⟩, r.2⟩) fun _ _ e => e
  · intro a5 h5 n5 gs hgb hag hs5 hk5 W5 st5
    (simp only [GxR.passing_true, List.length_range] at W5)
    have hn5 : its.toArray.size = l.length := by rw [List.size_toArray, hln]
    rw [hn5] at W5 st5
    refine hQ l G a5 _ hR ⟨_, _, _, _, _, W5.in4_1, st5, ?_, fun y hm => ?_⟩
    · intro j y zj Qj Ej hy hQj
      obtain ⟨i, hij, b, hb, rfl⟩ := hy
      obtain ⟨_, ej⟩ := List.getElem?_eq_some_iff.mp hij
      rw [List.getElem_range] at ej
      subst ej
      have hQ2 : Qj (atB pz l j) zj := hQj
      rw [atB_some hb] at hQ2
      exact wpAny_truthy_bool hQ2
    · obtain ⟨more, em⟩ := mo
      have nw : ∀ b u, z.heap.get? b = some u → b ∉ g.objs.size :: [z.heap.objs.size] := fun b u e hb => by
        have hlt := Heap.lt_size e
        (simp only [List.mem_cons, List.not_mem_nil, or_false] at hb)
        rcases hb with q | q
        · rw [q] at hlt
          have h9 : (g.objs.size : Nat) < z.heap.objs.size := hlt
          omega
        · rw [q] at hlt
          exact Nat.lt_irrefl _ hlt
      have K9 := inv_tab (more := more) (h' := y.heap) (g' := y.gens) (d' := y.drawn) (t' := y.toks) J hT (fun b u hb e => hm.heap b u (nw b u e) (hk5 b u (kp b u hb e)))
        (by rw [← em]; exact hm.heap T _ (nw T _ tT) (hk5 T _ tg)) (AllBare.movedS (J.bare.push hgb) hm)
      rw [sh_eta z y hm.os] at K9
      exact ⟨upd G T (.tbl (ts ++ more)), ⟨⟨ts ++ more, upd_same, by rw [← em]; exact tr⟩, fun b hb => upd_ne hb⟩, K9⟩
/-- any(test of x for x in numbers); behind it the def's table may have grown -/
def tAnyN (K : PySem.W.Frag) (T : Addr) (q : Int → Bool) (te : TE) : TE := fun σ H Q => te σ H fun v G => ∃ (a : Addr) (l : List Int), v = .ref a ∧ SqL K G a (l.map V.int) ∧ TabG G T ∧ ∀ G2, Tabbed T G G2 → Q (.bl (l.any q)) G2
theorem pe_anyN {q : Int → Bool} (hr : Room k X.A) (hg : Gl X "any") (hm : X.mg "any" = none) (B : TabB X.base X.mg c T) (hc : X.env.code = .ref c) (S : GenS X.env sc x) (hi : PE X iter te) (hel : EltN X sc x elt q) (hs : ∀ v, genFold iter X.env v = pure v)
    (he : starEach [.GeneratorExp elt [⟨.Name x px, iter, [], 0⟩] sc gp] X.env = (false, eval (.GeneratorExp elt [⟨.Name x px, iter, [], 0⟩] sc gp) X.env) :: starEach [] X.env := by rfl) :
    PE X (.Call (.Name "any" p) [.GeneratorExp elt [⟨.Name x px, iter, [], 0⟩] sc gp] [] pos) (tAnyN X.K T q te) := by
  refine ⟨fun pins s σ H Q I h => wpAny_Call_Name_kw (ld_blt I hg hm boot_any (PyProof.Rows.callWith_builtin1 ?_ he (by rfl)))⟩
  rw [he]
  show wpAny _ _ (spliced ((false, eval (.GeneratorExp elt [⟨.Name x px, iter, [], 0⟩] sc gp) X.env) :: backTo pos (starEach [] X.env))) _ _ s
  refine Calls.spliced_cons (gen_ints (R := fun l G => ∀ G2, Tabbed T G G2 → Q (.bl (l.any q)) G2) hr B hc S hi hel hs I h fun l G g z hR ⟨fp, wr, M, F, Sx, W, st, tr, hI⟩ => Calls.spliced_nil ?_)
  refine call_any_walkS (W.self 0 _ _ _ st ⟨g, fp, wr, M, _, F, Sx, _, rfl, W, st, tr, fun y hmv => ?_⟩)
  obtain ⟨G2, hT, J⟩ := hI y hmv
  rw [any_atB]
  exact ⟨.bl _, G2, J, rfl, hR G2 hT⟩
/-- over a list of pairs of numbers -/
theorem gen_pairs {cond : Prop} {q : Int × Int → Bool} {Q' : Value → Shared → Prop} {R : Lay → Hp → Prop} (hr : Room k X.A) (B : TabB X.base X.mg c T) (hc : X.env.code = .ref c) (S : GenS2 X.env sc xa xb) (hi : PE X iter te)
    (hel : ∀ G z, Inv X pins σ G z → cond → EltP2 X z.heap sc xa xb elt q) (hs : ∀ v, genFold iter X.env v = pure v) (I : Inv X pins σ H s) (h : te σ H fun v G => ∃ (a : Addr) (l : Lay), v = .ref a ∧ DI X.K G (.ref a) (encL l) ∧ TabG G T ∧ cond ∧ R l G)
    (hQ : ∀ l G g z, R l G → GenIs X pins σ G T l.length (atB q l) g z → Q' (.ref g) z) :
    wpAny (model X.prog X.w) X.A (eval (.GeneratorExp elt [⟨.Tuple [.Name xa pa, .Name xb pb] kt pt, iter, [], 0⟩] sc gp) X.env) Q' X.xe s := by
  refine wpAny_GeneratorExp_walksQT hr.hd S.co (closure_ok S.free) S.cell S.dot S.la S.lb S.ne S.kind (by have := hr.dp; omega) ?_ hs
  refine thn (hi.run pins s σ H _ I h) fun u z ⟨v, G, J, rv, a, l, ev, hl, ⟨ts, hT, ok⟩, hel0, hR⟩ => ?_
  subst ev
  cases rv
  have hel := hel G z J hel0
  obtain ⟨a', xs, ea, hxs, hxd⟩ := DI.lst_inv hl
  cases ea
  obtain ⟨its, ri, pl, hz⟩ := J.list (SqL.le (leI G) hxs)
  have hIL := pl.isList
  have hln : its.length = l.length := by rw [← ri.length, DpAll.length hxd, List.length_map]
  have hat : ∀ (i : Nat) (v : Value), its.toArray[i]? = some v → ∃ (b : Int × Int) (t : Addr) (n m : Tok), l[i]? = some b ∧ v = .ref t ∧ z.heap.IsTuple t #[.int b.1 n, .int b.2 m] := by
    intro i v hv
    (have hv2 : its[i]? = some v := by simpa using hv)
    have hi2 := (List.getElem?_eq_some_iff.mp hv2).1
    have hb : l[i]? = some (l[i]'(by omega)) := List.getElem?_eq_getElem (by omega)
    obtain ⟨y, hy, dy⟩ := DpAll.at_ hxd (i := i) (d := encP (l[i]'(by omega))) (by rw [List.getElem?_map, hb]; rfl)
    obtain ⟨w9, hw, rw9⟩ := ri.get hy
    rw [hv2] at hw
    cases hw
    obtain ⟨t, rfl, hst⟩ := DI.pair_inv dy
    obtain ⟨is2, r2, p2, _⟩ := J.tuple (SqT.le (leI G) hst)
    cases rw9
    cases r2 with
    | cons ra r2 => cases r2 with
      | cons rb r2 =>
        cases r2
        obtain ⟨n, rfl⟩ := (show ∃ n, _ = Value.int _ n from ra)
        obtain ⟨m, rfl⟩ := (show ∃ m, _ = Value.int _ m from rb)
        exact ⟨_, t, n, m, hb, rfl, p2⟩
  (refine wpAny_pyIter_list hIL ?_)
  refine ⟨J.nolimit.push _, gen_mid B hc J hT ok fun cd bi g n us ex ge tg mo tr => ?_⟩
  have tT : z.heap.get? T = some { cls := .none, data := .fields ts } := J.hok T _ hT
  have ltT : T < z.heap.objs.size := Heap.lt_size tT
  have lta : a < z.heap.objs.size := by
    obtain ⟨_, e, _⟩ := hIL
    exact Heap.lt_size e
  have naT : a ≠ T := fun q => by
    obtain ⟨_, e, _, _, d⟩ := hIL
    rw [q, tT] at e
    cases e
    cases d
  have hcT : cStatics ≠ T := fun q => by
    obtain ⟨_, ⟨o', es, ep, ho, d, _⟩, _⟩ := J.nolimit
    rw [q, tT] at ho
    cases ho
    cases d
  have ltc : cStatics < z.heap.objs.size := let ⟨_, q, _⟩ := J.nolimit; q.lt
  have kp : ∀ b u, b ≠ T → z.heap.get? b = some u → g.get? b = some u := fun b u hb e => ex b u hb (Heap.get?_push_of_some _ e)
  have hIL3 : g.IsList a its.toArray := by
    obtain ⟨ob, e, r⟩ := hIL
    exact ⟨ob, kp _ _ naT e, r⟩
  have hIt3 : g.IsListIter z.heap.objs.size a 0 := ⟨_, ex _ _ (Nat.ne_of_gt ltT) (Heap.get?_push_size _ rfl), rfl, rfl⟩
  -- the pairs' addresses and items
  obtain ⟨Ts, vals, hTs⟩ : ∃ (Ts : Nat → Addr) (vals : Nat → Array Value), ∀ j, j < its.toArray.size → ∃ (b : Int × Int) (n m : Tok), l[j]? = some b ∧ its.toArray[j]? = some (.ref (Ts j)) ∧ vals j = #[.int b.1 n, .int b.2 m] ∧ z.heap.IsTuple (Ts j) (vals j) := by
    have hex : ∀ j : Nat, ∃ (t : Addr) (vs : Array Value), j < its.toArray.size → ∃ (b : Int × Int) (n m : Tok), l[j]? = some b ∧ its.toArray[j]? = some (.ref t) ∧ vs = #[.int b.1 n, .int b.2 m] ∧ z.heap.IsTuple t vs := by
      intro j
      by_cases hj : j < its.toArray.size
      · obtain ⟨b, t, n, m, h1, h2, h3⟩ := hat j _ (Array.getElem?_eq_getElem hj)
        exact ⟨t, _, fun _ => ⟨b, n, m, h1, by rw [Array.getElem?_eq_getElem hj, h2], rfl, h3⟩⟩
      · exact ⟨0, #[], fun z => absurd z hj⟩
    refine ⟨fun j => (hex j).choose, fun j => (hex j).choose_spec.choose, fun j hj => (hex j).choose_spec.choose_spec hj⟩
  have ltTs : ∀ j, j < its.toArray.size → Ts j < z.heap.objs.size := fun j hj => by
    obtain ⟨_, _, _, _, _, _, ⟨_, e, _⟩⟩ := hTs j hj
    exact Heap.lt_size e
  have tup3 : ∀ j, j < its.toArray.size → g.IsTuple (Ts j) (vals j) := fun j hj => by
    obtain ⟨_, _, _, _, _, _, ⟨o9, e, c9, d9⟩⟩ := hTs j hj
    refine ⟨o9, kp _ _ (fun q => ?_) e, c9, d9⟩
    rw [q, tT] at e
    cases e
    obtain ⟨_, d9⟩ := d9
    cases d9
  refine ⟨z.heap.objs.size, z.heap.objs.size :: a :: (List.range its.toArray.size).map Ts, [z.heap.objs.size], its.toArray.size, fun j v => j < its.toArray.size ∧ v = vals j, fun j h => h.IsListIter z.heap.objs.size a j ∧ h.IsList a its.toArray ∧ ∀ k, k < its.toArray.size → h.IsTuple (Ts k) (vals k), fun j T9 h => (j < its.toArray.size ∧ T9 = Ts j) ∧ h.IsListIter z.heap.objs.size a (j + 1) ∧ h.IsList a its.toArray ∧ ∀ k, k < its.toArray.size → h.IsTuple (Ts k) (vals k), fun _ => true,
    fun i y => ∃ b, l[i]? = some b ∧ y = .bool (q b), rfl, fun A' hA => ?_, ?_, ⟨hIt3, hIL3, tup3⟩, ?_, (J.nolimit.push _).extBut ex hcT, ?_, ?_, ?_⟩
  · exact (WalksU.listOfTuples (prog := X.prog) (w := X.w) hA z.heap.objs.size a (Nat.ne_of_lt lta) its.toArray Ts vals (fun j hj => by obtain ⟨_, _, _, _, e, _⟩ := hTs j hj; exact e) fun j hj => Nat.ne_of_lt (ltTs j hj)).bound
  · intro i vs hv
    obtain ⟨hi2, rfl⟩ := hv
    obtain ⟨b, n9, m9, _, _, e, _⟩ := hTs i hi2
    exact ⟨_, _, e⟩
  · intro b hb
    simp only [List.mem_cons, List.mem_map, List.mem_range] at hb
    show b < g.objs.size
    rcases hb with q | q | ⟨j, hj, q⟩
    · rw [q]
      exact Nat.lt_of_lt_of_le (Nat.lt_succ_self _) ge
    · rw [q]
      exact Nat.lt_of_lt_of_le (Nat.lt_succ_of_lt lta) ge
    · rw [← q]
      exact Nat.lt_of_lt_of_le (Nat.lt_succ_of_lt (ltTs j hj)) ge
  · simp only [List.mem_cons, List.not_mem_nil, or_false]
    exact Nat.ne_of_lt ltc
  · intro hf hhf
    refine ⟨fun A' E' i va vb z2 m2 hA hv hn hm1 hm2 hk2 => ?_, fun A' E' i va vb z2 m2 hA hv _ hn hm1 hm2 hk2 => ?_⟩
    · simp only [List.forIn_nil]
      (exact wpAny_pure ⟨rfl, keeps_refl _⟩)
    · obtain ⟨hi2, ev⟩ := hv
      obtain ⟨b, n9, m9, hb, _, e, _⟩ := hTs i hi2
      rw [e] at ev
      cases ev
      refine wpAny_mono (hel _ A' E' b.1 b.2 n9 m9 z2 m2 rfl rfl (fun c9 v9 ⟨o9, e9, d9⟩ => ?_) hn hm1 hm2) (fun y z3 r => ⟨⟨b, hb, r.1⟩, r.2⟩) fun _ _ e => e
      have l9 := Heap.lt_size e9
      have n9T : c9 ≠ T := fun q => by
        rw [q, tT] at e9
        cases e9
        cases d9
      refine ⟨o9, hk2 c9 (List.mem_range.mpr (Nat.lt_of_lt_of_le (Nat.lt_succ_of_lt l9) ge)) ?_ o9 (hhf _ _ (kp _ _ n9T e9)), d9⟩
      simp only [List.mem_cons, List.not_mem_nil, or_false]
      exact Nat.ne_of_lt l9
  · intro a5 h5 n5 gs hgb hag hs5 hk5 W5 st5
    (simp only [GxR.passing_true, List.length_range] at W5)
    have hn5 : its.toArray.size = l.length := by rw [List.size_toArray, hln]
    rw [hn5] at W5 st5
    refine hQ l G a5 _ hR ⟨_, _, _, _, _, W5.in4_1, st5, ?_, fun y hm => ?_⟩
    · intro j y zj Qj Ej hy hQj
      obtain ⟨i, hij, b, hb, rfl⟩ := hy
      obtain ⟨_, ej⟩ := List.getElem?_eq_some_iff.mp hij
      rw [List.getElem_range] at ej
      subst ej
      have hQ2 : Qj (atB q l j) zj := hQj
      rw [atB_some hb] at hQ2
      exact wpAny_truthy_bool hQ2
    · obtain ⟨more, em⟩ := mo
      have nw : ∀ b u, z.heap.get? b = some u → b ∉ g.objs.size :: [z.heap.objs.size] := fun b u e hb => by
        have hlt := Heap.lt_size e
        (simp only [List.mem_cons, List.not_mem_nil, or_false] at hb)
        rcases hb with q | q
        · rw [q] at hlt
          have h9 : (g.objs.size : Nat) < z.heap.objs.size := hlt
          omega
        · rw [q] at hlt
          exact Nat.lt_irrefl _ hlt
      have K9 := inv_tab (more := more) (h' := y.heap) (g' := y.gens) (d' := y.drawn) (t' := y.toks) J hT (fun b u hb e => hm.heap b u (nw b u e) (hk5 b u (kp b u hb e)))
        (by rw [← em]; exact hm.heap T _ (nw T _ tT) (hk5 T _ tg)) (AllBare.movedS (J.bare.push hgb) hm)
      rw [sh_eta z y hm.os] at K9
      exact ⟨upd G T (.tbl (ts ++ more)), ⟨⟨ts ++ more, upd_same, by rw [← em]; exact tr⟩, fun b hb => upd_ne hb⟩, K9⟩
/-- all(test of a, b for a, b in pairs) -/
def tAllP (K : PySem.W.Frag) (T : Addr) (cond : L2.St → Prop) (q : L2.St → Int × Int → Bool) (te : TE) : TE := fun σ H Q => te σ H fun v G => ∃ (a : Addr) (l : Lay), v = .ref a ∧ DI K G (.ref a) (encL l) ∧ TabG G T ∧ cond σ ∧ ∀ G2, Tabbed T G G2 → Q (.bl (l.all (q σ))) G2
theorem pe_allP {cond : L2.St → Prop} {q : L2.St → Int × Int → Bool} (hr : Room k X.A) (hg : Gl X "all") (hm : X.mg "all" = none) (B : TabB X.base X.mg c T) (hc : X.env.code = .ref c) (S : GenS2 X.env sc xa xb) (hi : PE X iter te)
    (hel : ∀ pins σ G z, Inv X pins σ G z → cond σ → EltP2 X z.heap sc xa xb elt (q σ)) (hs : ∀ v, genFold iter X.env v = pure v)
    (he : starEach [.GeneratorExp elt [⟨.Tuple [.Name xa pa, .Name xb pb] kt pt, iter, [], 0⟩] sc gp] X.env = (false, eval (.GeneratorExp elt [⟨.Tuple [.Name xa pa, .Name xb pb] kt pt, iter, [], 0⟩] sc gp) X.env) :: starEach [] X.env := by rfl) :
    PE X (.Call (.Name "all" p) [.GeneratorExp elt [⟨.Tuple [.Name xa pa, .Name xb pb] kt pt, iter, [], 0⟩] sc gp] [] pos) (tAllP X.K T cond q te) := by
  refine ⟨fun pins s σ H Q I h => wpAny_Call_Name_kw (ld_blt I hg hm (show bootBuiltins "all" = some (.builtin "all") by decide +kernel) (PyProof.Rows.callWith_builtin1 ?_ he (by rfl)))⟩
  rw [he]
  show wpAny _ _ (spliced ((false, eval (.GeneratorExp elt [⟨.Tuple [.Name xa pa, .Name xb pb] kt pt, iter, [], 0⟩] sc gp) X.env) :: backTo pos (starEach [] X.env))) _ _ s
  refine Calls.spliced_cons (gen_pairs (q := q σ) (R := fun l G => ∀ G2, Tabbed T G G2 → Q (.bl (l.all (q σ))) G2) hr B hc S hi (fun G z J => hel pins σ G z J) hs I h fun l G g z hR ⟨fp, wr, M, F, Sx, W, st, tr, hI⟩ => Calls.spliced_nil ?_)
  refine call_all_walkS (W.self 0 _ _ _ st ⟨g, fp, wr, M, _, F, Sx, _, rfl, W, st, tr, fun y hmv => ?_⟩)
  obtain ⟨G2, hT, J⟩ := hI y hmv
  rw [all_atB]
  exact ⟨.bl _, G2, J, rfl, hR G2 hT⟩
end
end Hg
namespace Hg
open PySem PySem.Spec PyProof.Rows L2 GxR
/-! ### fits, is_relocation: defs with a generator expression -/
/-- the def x stands with its code object at c, the table of that at T -/
structure TabD (K : PySem.W.Frag) (mg : Str → Option Value) (base : Heap) (x : Str) (st : Stmt) (c T : Addr) : Prop where
  fn : ∃ (oc : Value) (od : Option Addr) (dV kV doc pm : Value) (an : Option Addr) (ct : Value) (osl : Array (Option Value)), K.lookup (gA K x) = some ⟨oc, od, .func (PySem.W.fnOf x x (defArgs st) (defBody st) (defScope st) dV kV doc pm an (.ref c) ct), osl⟩ ∧ PySem.W.codeIn K (.ref c) x = true
  tb : GxR.TabB base mg c T
section
variable {P : Program} {w : World} {K : PySem.W.Frag} {mg : Str → Option Value} {base : Heap}
theorem cl_ofT (T : Txt P K mg) {x : Str} {st : Stmt} {k : Nat} {sp : Sp} {N ps : List Str} {c Ta : Addr} (D : TabD K mg base x st c Ta) (hm : mkF x st ∈ fn) (hx : globs.contains x = true) (S : FnScope N ps (defScope st)) (hb : ∀ fd, FunD K x x (defArgs st) (defBody st) (defScope st) [] [] (He.fAd K (x, none)) fd → Binds K fd ps []) (len : ∀ vs H Q E, sp vs H Q E → vs.length = ps.length)
    (hbody : ∀ (A : Around) (outer : List Env) (s : Shared) (H : Hp) (vs : List V) (Q : VK) (E : XK), Room k (A.deeper (envOfC x (defScope st) s.heap.objs.size (gA K x) (.ref c))) → sp vs H Q E →
      ∃ t, PSs (bx P w K mg base N x (defScope st) (gA K x) (.ref c) A outer s H E) (defBody st) t ∧ t { nx := fun _ H' => Q .non H', rt := Q } (start N vs) H) : Cl P w K mg base (k + 1) x sp := by
  obtain ⟨fd, F⟩ := T.defs _ hm
  obtain ⟨oc, od, dV, kV, doc, pm, an, ct, osl, lk, cd⟩ := D.fn
  obtain ⟨_, _, _, _, _, _, _, _, _, _, _, lk2, _⟩ := F.ex
  have e : fd = PySem.W.fnOf x x (defArgs st) (defBody st) (defScope st) dV kV doc pm an (.ref c) ct := by
    have lk3 : K.lookup (gA K x) = some ⟨_, _, .func fd, _⟩ := lk2
    rw [lk] at lk3
    cases lk3
    rfl
  have hbf := hb fd F
  rw [e] at hbf
  exact ⟨gA K x, _, ps, fn_of lk cd S len hbody, T.glo x (List.contains_iff_mem.mp hx), F.kp, hbf⟩
/-! is_relocation's test -/
theorem elt_neg {X : Cx} {sc : Scope} {x : Str} {p1 p2 p3 : Pos} {kk : Nat} (hk : sc.kind = .function) (hl : sc.names.lookup x = some .local) (hd : (x == ("__debug__" : Str)) = false := by decide) : EltN X sc x (.Compare (.Name x p1) [.Lt] [.Constant (.int 0) kk p2] p3) fun i => decide (i < 0) := by
  intro ce A' E' i t z m hs hn hm
  refine wpAny_Compare1 (wpAny_Name (wpAny_loadName_local (by rw [hs]; exact hk) (show ce.scope.names.lookup x = some .local by rw [hs]; exact hl) hn hm ?_) hd)
  exact wpAny_Constant_int (lt_int ⟨rfl, keeps_tok _ _⟩)
theorem elt_fits {X : Cx} {h0 : Heap} {sc : Scope} {xs xl xo xw : Str} {cs cl : Addr} {i j : Int} {t1 t2 : Tok} {q1 q2 q3 q4 q5 q6 q7 q8 q9 qa qb : Pos} (hk : sc.kind = .function) (ls : sc.names.lookup xs = some .free) (ll : sc.names.lookup xl = some .free) (lo : sc.names.lookup xo = some .local) (lw : sc.names.lookup xw = some .local)
    (es : (cloFrom X.env.cells sc.names []).lookup xs = some cs) (el : (cloFrom X.env.cells sc.names []).lookup xl = some cl) (hs : h0.IsCell cs (some (.int i t1))) (hl : h0.IsCell cl (some (.int j t2)))
    (d1 : (xs == ("__debug__" : Str)) = false := by decide) (d2 : (xl == ("__debug__" : Str)) = false := by decide) (d3 : (xo == ("__debug__" : Str)) = false := by decide) (d4 : (xw == ("__debug__" : Str)) = false := by decide)
    (c1 : (xs == ("__classdict__" : Str)) = false := by decide) (c2 : (xl == ("__classdict__" : Str)) = false := by decide) :
    EltP2 X h0 sc xo xw (.BoolOp .Or [.Compare (.BinOp (.Name xs q1) .Add (.Name xl q2) q3) [.LtE] [.Name xo q4] q5, .Compare (.BinOp (.Name xo q6) .Add (.Name xw q7) q8) [.LtE] [.Name xs q9] qa] qb) fun b => decide (i + j ≤ b.1) || decide (b.1 + b.2 ≤ i) := by
  intro ce A' E' a b t u z m hsc hce hkp hn ha hb
  have kd : ce.scope.kind = .function := by rw [hsc]; exact hk
  have fs : ∀ {z2 : Shared} {Q : Value → Shared → Prop} {p : Pos}, z2.heap = z.heap → Q (.int i t1) z2 → wpAny (model X.prog X.w) A' (eval (.Name xs p) ce) Q E' z2 := fun {z2 Q p} hz q =>
    wpAny_Name (wpAny_loadName_free kd (show ce.scope.names.lookup xs = some .free by rw [hsc]; exact ls) (by rw [hce]; exact es) (by rw [hz]; exact hkp _ _ hs) q c1) d1
  have fl : ∀ {z2 : Shared} {Q : Value → Shared → Prop} {p : Pos}, z2.heap = z.heap → Q (.int j t2) z2 → wpAny (model X.prog X.w) A' (eval (.Name xl p) ce) Q E' z2 := fun {z2 Q p} hz q =>
    wpAny_Name (wpAny_loadName_free kd (show ce.scope.names.lookup xl = some .free by rw [hsc]; exact ll) (by rw [hce]; exact el) (by rw [hz]; exact hkp _ _ hl) q c2) d2
  have fo : ∀ {z2 : Shared} {Q : Value → Shared → Prop} {p : Pos}, z2.heap = z.heap → Q (.int a t) z2 → wpAny (model X.prog X.w) A' (eval (.Name xo p) ce) Q E' z2 := fun {z2 Q p} hz q =>
    wpAny_Name (wpAny_loadName_local kd (show ce.scope.names.lookup xo = some .local by rw [hsc]; exact lo) (by rw [hz]; exact hn) ha q) d3
  have fw : ∀ {z2 : Shared} {Q : Value → Shared → Prop} {p : Pos}, z2.heap = z.heap → Q (.int b u) z2 → wpAny (model X.prog X.w) A' (eval (.Name xw p) ce) Q E' z2 := fun {z2 Q p} hz q =>
    wpAny_Name (wpAny_loadName_local kd (show ce.scope.names.lookup xw = some .local by rw [hsc]; exact lw) (by rw [hz]; exact hn) hb q) d4
  refine BoolOp_or (wpAny_Compare1 (wpAny_BinOp (fs rfl (fl rfl (add_int (fo rfl (PyProof.Rows.le_int (wpAny_truthy_bool ?_))))))))
  by_cases h : i + j ≤ a
  · rw [decide_eq_true h]
    refine iteT ⟨?_, keeps_tok _ _⟩
    simp [h]
  · rw [decide_eq_false h]
    refine iteF (BoolOp_one (wpAny_Compare1 (wpAny_BinOp (fo rfl (fw rfl (add_int (fs rfl (PyProof.Rows.le_int ⟨?_, keeps_tok _ _⟩))))))))
    simp [h]
end
end Hg
namespace Hg
open PySem PySem.Spec PyProof.Rows L2 GxR
section
variable {P : Program} {w : World} {K : PySem.W.Frag} {mg : Str → Option Value} {base : Heap}
theorem Tabbed.ex {T : Addr} {H H' : Hp} (h : TabG H T) (t : Tabbed T H H') : Ex H H' := by
  obtain ⟨ps, hp, _⟩ := h
  obtain ⟨⟨qs, hq, ok⟩, k⟩ := t
  refine ⟨fun b o e _ it => ?_, fun b e => ?_, fun p us e tu => ?_, fun b o e => ?_⟩
  · have hb : b ≠ T := fun z => by
      rw [z, hp] at e
      cases e
      cases it
    rw [k b hb]
    exact e
  · have hb : b ≠ T := fun z => by
      rw [z, hq] at e
      cases e
    rw [← k b hb]
    exact e
  · by_cases hb : p = T
    · exact ⟨qs, by rw [hb]; exact hq, ok⟩
    · exact ⟨us, by rw [k p hb]; exact e, tu⟩
  · have e2 := imm_le e
    have hb : b ≠ T := fun z => by
      rw [z, hp] at e2
      cases e2
      have := imm_some e
      cases this
    rw [k b hb]
    exact e2
theorem TabG.ex {F : Addr → Prop} {T : Addr} {H H' : Hp} (h : TabG H T) (e : ExF F H H') : TabG H' T := by
  obtain ⟨ps, hp, ok⟩ := h
  exact e.tab T ps hp ok
def slI (σ : L2.St) (j : Nat) : Int := match σ[j]? with
  | some (some (.int i)) => i
  | _ => 0
theorem slI_at {σ : L2.St} {j : Nat} {i : Int} (h : σ[j]? = some (some (.int i))) : slI σ j = i := by
  unfold slI
  rw [h]
def fitsF (size : Int) (l : Lay) (s n : Int) : Bool := if s < 0 ∨ size < s + n then false else l.all fun b => decide (s + n ≤ b.1) || decide (b.1 + b.2 ≤ s)
def spFits (K : PySem.W.Frag) (Ta : Addr) : Sp := fun vs H Q _ => ∃ (size s n : Int) (v : V) (l : Lay), vs = [.int size, v, .int s, .int n] ∧ DI K H v (encL l) ∧ TabG H Ta ∧ ∀ H', Ex H H' → Q (.bl (fitsF size l s n)) H'
abbrev N_fits : List Str := ["size", "layout", "start", "length"]
theorem sc_fits : FnScope N_fits N_fits (defScope s_fits) := ⟨rfl, rfl, rfl, by decide +kernel, rfl, by decide +kernel, by decide +kernel⟩
theorem w_fits (T : Txt P K mg) {c Ta : Addr} (D : TabD K mg base "fits" s_fits c Ta) : Cl P w K mg base 1 "fits" (spFits K Ta) := by
  have nd := sc_fits.nd
  refine cl_ofT T D (fn_mem 4 rfl) (by decide +kernel) sc_fits (b4 fun _ _ _ _ _ _ _ _ _ _ => rfl) (fun vs H Q E ⟨_, _, _, _, _, e, _⟩ => by rw [e]; rfl) fun A outer s H vs Q E hr ⟨size, st, n, v, l, e, dl, ht, hq⟩ => ?_
  subst e
  have hcl : ∀ m, cellsFrom m (defScope s_fits).names [] = [(("length" : Str), m + 1), (("start" : Str), m)] := fun m => rfl
  refine ⟨_, (pss_cons (ps_if (PW.pt (pw_or (pt_cmpR op_lt (pv 2) pe_int (nomark _)) (pw_or1 (pt_cmpR op_gt (pe_op op_add (pv 2) (pv 3)) (pv 0) (nomark _))))) (pss_one (ps_ret pe_bl)) pss_nil) (pss_one (ps_ret (pe_allP (cond := fun σ => ∃ i j, σ[2]? = some (some (.int i)) ∧ σ[3]? = some (some (.int j))) (q := fun σ b => decide (slI σ 2 + slI σ 3 ≤ b.1) || decide (b.1 + b.2 ≤ slI σ 2)) (T := Ta) hr (by rfl) (T.n "all") D.tb rfl ⟨rfl, rfl, by decide +kernel, rfl, rfl, rfl, by decide +kernel, ?_⟩ (pv 1) ?_ (fun _ => rfl))))), ?_⟩
  · intro y hy e
    simp only [List.mem_cons, List.not_mem_nil, or_false] at hy
    rcases hy with rfl | rfl | rfl | rfl | rfl
    · cases e
    · cases e
    · cases e
    · exact ⟨_, rfl⟩
    · exact ⟨_, rfl⟩
  · rintro pins σ G z J ⟨i, j, e2, e3⟩
    obtain ⟨m, hm, hv⟩ := J.loc
    obtain ⟨u2, ⟨t2, hu2⟩, lk2⟩ := hv 2 "start" (.int i) rfl e2 (.inr (.inl rfl))
    obtain ⟨u3, ⟨t3, hu3⟩, lk3⟩ := hv 3 "length" (.int j) rfl e3 (.inr (.inl rfl))
    subst hu2
    subst hu3
    rcases lk2 with ⟨k2, _⟩ | ⟨_, c2, hc2, cell2⟩
    · cases k2
    rcases lk3 with ⟨k3, _⟩ | ⟨_, c3, hc3, cell3⟩
    · cases k3
    rw [slI_at e2, slI_at e3]
    exact elt_fits rfl rfl rfl rfl rfl (by show some _ = _; exact congrArg some (by rw [hc2]; rfl)) (by show some _ = _; exact congrArg some (by rw [hc3]; rfl)) cell2 cell3
  · refine ⟨_, rfl, _, _, rfl, rfl, _, rfl, iteD (fun h => ?_) fun h => ?_⟩
    · have := hq H (ExF.refl _ _)
      unfold fitsF at this
      rw [if_pos (.inl h)] at this
      exact this
    · refine ⟨_, rfl, _, rfl, _, _, rfl, rfl, _, rfl, _, _, rfl, rfl, _, rfl, iteD (fun h2 => ?_) fun h2 => ?_⟩
      · have := hq H (ExF.refl _ _)
        unfold fitsF at this
        rw [if_pos (.inr h2)] at this
        exact this
      · obtain ⟨a, xs, rfl, hs, hd⟩ := DI.lst_inv dl
        refine ⟨_, rfl, a, l, rfl, dl, ht, ⟨_, _, rfl, rfl⟩, fun G2 tb => ?_⟩
        have := hq G2 (Tabbed.ex ht tb)
        unfold fitsF at this
        rw [if_neg (fun z => z.elim h h2)] at this
        exact this
end
end Hg
namespace Hg
open PySem PySem.Spec PyProof.Rows L2 GxR
/-! ### without, placed, relocated, is_relocation, cost, after_reply, requestable -/
theorem cut_take {xs : List V} (j : Nat) : cutV xs none (some (j : Int)) = xs.take j := by
  unfold cutV
  rw [HT.sIx_nat, HT.sIx_none, List.drop_zero, Nat.sub_zero]
  by_cases h : j ≤ xs.length
  · rw [Nat.min_eq_left h]
  · rw [Nat.min_eq_right (by omega), List.take_of_length_le (by omega), List.take_of_length_le (by omega)]
theorem cut_drop {xs : List V} (j : Nat) : cutV xs (some (j : Int)) none = xs.drop j := by
  unfold cutV
  rw [HT.sIx_nat, HT.sIx_none]
  by_cases h : j ≤ xs.length
  · rw [Nat.min_eq_left h, List.take_of_length_le (by rw [List.length_drop]; omega)]
  · rw [Nat.min_eq_right (by omega), List.drop_of_length_le (by omega), List.drop_of_length_le (by omega), List.take_nil]
def withoutF (l : Lay) (j : Nat) : Lay := l.take j ++ l.drop (j + 1)
def placedF (l : Lay) (ss : List Int) : Lay := (ss.zip l).map fun x => (x.1, x.2.2)
def relocdF (l : Lay) (ss : List Int) : Lay := (placedF l ss).mergeSort leP
def isRelF (size : Int) (l : Lay) (ss : List Int) : Bool := if ss.length ≠ l.length ∨ ss.any (fun i => decide (i < 0)) = true then false else isLayF size (relocdF l ss)
def costF (l : Lay) (ss : List Int) : Int := (((ss.zip l).filter fun x => decide (x.1 ≠ x.2.1)).map fun x => x.2.2).sum
structure Ctr where
  size : Int
  limit : Int
  lengths : List Int
  budget : Int
abbrev CCtr (K : PySem.W.Frag) : Addr := gA K "Contract"
structure CtrAt (K : PySem.W.Frag) (H : Hp) (c : Addr) (C : Ctr) : Prop where
  ins : ∃ dx lv, H c = some (.ins (CCtr K) dx [("size", .int C.size), ("limit", .int C.limit), ("lengths", lv), ("budget", .int C.budget)]) ∧ DI K H lv (encI C.lengths)
theorem CtrAt.frame {K : PySem.W.Frag} {F : Addr → Prop} {H H' : Hp} {c : Addr} {C : Ctr} (h : CtrAt K H c C) (e : ExF F H H') (hF : ¬ F c) : CtrAt K H' c C := by
  obtain ⟨dx, lv, h1, h2⟩ := h.ins
  exact ⟨dx, lv, e.at h1 hF, DI.ex h2 e⟩
theorem CtrAt.ex {K : PySem.W.Frag} {H H' : Hp} {c : Addr} {C : Ctr} (h : CtrAt K H c C) (e : Ex H H') : CtrAt K H' c C := h.frame e fun z => z
def reqF (C : Ctr) (l : Lay) : List Int := C.lengths.filter fun n => decide (liveF l + n ≤ C.limit)
section
variable {P : Program} {w : World} {K : PySem.W.Frag} {mg : Str → Option Value} {base : Heap}
def spWithout (K : PySem.W.Frag) : Sp := fun vs H Q _ => ∃ (v : V) (j : Nat) (l : Lay), vs = [v, .int (j : Nat)] ∧ DI K H v (encL l) ∧ l.length ≤ 1000 ∧ ∀ H' u, Ex H H' → DI K H' u (encL (withoutF l j)) → Q u H'
theorem sc_without : FnScope ["layout", "index"] ["layout", "index"] (defScope s_without) := ⟨rfl, rfl, rfl, by decide +kernel, rfl, by decide +kernel, by decide +kernel⟩
theorem w_without (T : Txt P K mg) : Cl P w K mg base 1 "without" (spWithout K) := by
  have nd := sc_without.nd
  refine cl_of T (fn_mem 6 rfl) (by decide +kernel) sc_without (b2 fun _ _ _ _ _ _ _ _ => rfl) (fun vs H Q E ⟨_, _, _, e, _⟩ => by rw [e]; rfl) fun cdv A outer s H vs Q E hr ⟨v, j, l, e, hl, hz, hq⟩ => ?_
  subst e
  obtain ⟨a, xs0, rfl, hs0, hd0⟩ := DI.lst_inv hl
  refine ⟨_, (pss_one (ps_ret (pe_frz (pe_op op_catR (pe_slice sl_list (pv 0) po_none (po_some (pv 1))) (pe_slice sl_list (pv 0) (po_some (pe_op op_add (pv 1) pe_int)) po_none))))), ?_⟩
  have hlen : xs0.length ≤ 1000 := by rw [DpAll.length hd0, List.length_map]; exact hz
  refine ⟨_, rfl, _, rfl, _, rfl, a, _, rfl, SqL.le (leI H) hs0, fun p np => ?_⟩
  rw [cut_take]
  have e1 : Ex H (upd H p (.lst (xs0.take j))) := Ex.new np
  refine ⟨_, rfl, _, rfl, _, _, rfl, rfl, _, rfl, a, _, rfl, SqL.le (Le.of e1) hs0, fun q nq => ?_⟩
  have ec := cut_drop (xs := xs0) (j + 1)
  rw [show ((j + 1 : Nat) : Int) = (j : Int) + 1 by omega] at ec
  rw [ec]
  have e2 := e1.trans (Ex.new (o := .lst (xs0.drop (j + 1))) nq)
  have npq : p ≠ q := fun z => by rw [← z, upd_same] at nq; cases nq
  refine ⟨p, q, _, _, rfl, rfl, SqL.of (by rw [upd_ne npq, upd_same]), SqL.of upd_same, leL (m := 2000) (by rw [List.length_take, List.length_drop]; omega) (by decide), fun r nr => ?_⟩
  have e3 := e2.trans (Ex.new (o := .lst (xs0.take j ++ xs0.drop (j + 1))) nr)
  refine ⟨r, _, (withoutF l j).map encP, rfl, upd_same, ?_, fun H2 k li d => hq H2 _ (e3.but (e2.gone nr) k li) d⟩
  unfold withoutF
  rw [List.map_append, List.map_take, List.map_drop]
  exact DpAll.append (DpAll.take j (DIs.ex hd0 e3)) (DpAll.drop (j + 1) (DIs.ex hd0 e3))
/-! placed -/
def spPlaced (K : PySem.W.Frag) : Sp := fun vs H Q _ => ∃ (v sv : V) (l : Lay) (ss : List Int), vs = [v, sv] ∧ DI K H v (encL l) ∧ DI K H sv (encI ss) ∧ l.length ≤ 1000 ∧ ∀ H' u, Ex H H' → DI K H' u (encL (placedF l ss)) → Q u H'
abbrev N_placed : List Str := ["layout", "starts", "start", "old", "length"]
theorem sc_placed : FnScope N_placed ["layout", "starts"] (defScope s_placed) := ⟨rfl, rfl, rfl, by decide +kernel, rfl, by decide +kernel, by decide +kernel⟩
theorem w_placed (T : Txt P K mg) : Cl P w K mg base 1 "placed" (spPlaced K) := by
  have nd := sc_placed.nd
  refine cl_of T (fn_mem 7 rfl) (by decide +kernel) sc_placed (b2 fun _ _ _ _ _ _ _ _ => rfl) (fun vs H Q E ⟨_, _, _, _, e, _⟩ => by rw [e]; rfl) fun cdv A outer s H vs Q E hr ⟨v, sv, l, ss, e, hl, hst, hz, hq⟩ => ?_
  subst e
  obtain ⟨a, xs0, rfl, hs0, hd0⟩ := DI.lst_inv hl
  obtain ⟨sa, ss0, rfl, hss, hds⟩ := DI.lst_inv hst
  refine ⟨_, (pss_one (ps_ret (pe_frz (pe_lc (own := [("start", 2), ("old", 3), ("length", 4)]) (g := (gTup K 2 (gCons (gName 2) (gCons (gTup K 2 (gCons (gName 3) (gCons (gName 4) gNil))) gNil)))) (tt := tYes) (te := (tTup (tCons (tVar 2) (tCons (tVar 4) tNil)))) rfl nd (pi_zip (by rfl) (T.n "zip") (pa_cons (pv 1) (pa_cons (pv 0) pa_nil))) (blkOk_by (N := N_placed) (sc := defScope s_placed) (by decide +kernel)) (fun _ _ _ _ _ => (pg_tup rfl (pgs_cons (pg_name (i := 2) nd rfl (.inl rfl) (.inr rfl)) (pgs_cons (pg_tup rfl (pgs_cons (pg_name (i := 3) nd rfl (.inl rfl) (.inr rfl)) (pgs_cons (pg_name (i := 4) nd rfl (.inl rfl) (.inr rfl)) pgs_nil))) pgs_nil)))) (fun _ _ _ _ _ => pts_nil) (fun _ _ _ _ _ => (pe_tup (pa_cons (pv 2) (pa_cons (pv 4) pa_nil)))))))), ?_⟩
  refine ⟨_, rfl, _, rfl, sa, a, ss0, xs0, rfl, SqL.le (leI H) hss, SqL.le (leI H) hs0, fun D nD => ?_⟩
  refine lc_z (l1 := ss) (l2 := l) (e1 := PyData.int) (e2 := encP) hst hl (fun pre G => Col K NoF H D ((pre.map fun x : Int × Int × Int => (x.1, x.2.2)).map encP) pre.length G) (Col.start nD) (fun pre G c => Le.of c.ex) (fun pre x post Tz v1 v2 G el c nT hv1 hv2 => ?_) fun G c => c.out nD hq
  cases hv1
  obtain ⟨ab, rfl, hsb⟩ := hv2.pair_inv
  have eT : Ex G (upd G Tz (.tup [.int x.1, .ref ab])) := Ex.new nT
  have hpl : pre.length < 1000000 := by
    have h1 := congrArg List.length el
    rw [List.length_zip, List.length_append, List.length_cons] at h1
    omega
  refine ⟨Tz, _, rfl, SqT.of upd_same, rfl, _, _, rfl, _, _, rfl, ab, _, rfl, SqT.le (Le.of (c.ex.trans eT)) hsb, rfl, _, _, rfl, _, _, rfl, rfl, rfl, rfl, yes_ok ⟨_, rfl, _, rfl, sz2, fun t nt => ?_⟩⟩
  rw [List.map_append, List.map_append, List.length_append]
  exact c.add nD (eT.trans (Ex.new nt)) (fun z => z) (DI.pairOf upd_same) (ltL hpl (by decide))
/-! relocated -/
theorem placedF_len (l : Lay) (ss : List Int) : (placedF l ss).length ≤ l.length := by
  unfold placedF
  rw [List.length_map, List.length_zip]
  omega
def spRelocd (K : PySem.W.Frag) : Sp := fun vs H Q _ => ∃ (v sv : V) (l : Lay) (ss : List Int), vs = [v, sv] ∧ DI K H v (encL l) ∧ DI K H sv (encI ss) ∧ l.length ≤ 1000 ∧ ∀ H' u, Ex H H' → DI K H' u (encL (relocdF l ss)) → Q u H'
theorem sc_relocd : FnScope ["layout", "starts"] ["layout", "starts"] (defScope s_relocated) := ⟨rfl, rfl, rfl, by decide +kernel, rfl, by decide +kernel, by decide +kernel⟩
theorem w_relocd (T : Txt P K mg) : Cl P w K mg base 2 "relocated" (spRelocd K) := by
  have nd := sc_relocd.nd
  have c1 := w_placed (w := w) (base := base) T
  refine cl_of T (fn_mem 8 rfl) (by decide +kernel) sc_relocd (b2 fun _ _ _ _ _ _ _ _ => rfl) (fun vs H Q E ⟨_, _, _, _, e, _⟩ => by rw [e]; rfl) fun cdv A outer s H vs Q E hr ⟨v, sv, l, ss, e, hl, hst, hz, hq⟩ => ?_
  subst e
  refine ⟨_, (pss_one (ps_ret (pe_frz (pe_callB (cr_sortD hr) (by rfl) (T.n "sorted") (by decide +kernel) (pa_cons (pe_cl c1 hr takes0 (pa_cons (pv 0) (pa_cons (pv 1) pa_nil))) pa_nil))))), ?_⟩
  refine ⟨_, rfl, _, rfl, v, sv, l, ss, rfl, hl, hst, hz, fun H1 u e1 du => ?_⟩
  obtain ⟨a, xs, rfl, hs, hd⟩ := DI.lst_inv du
  refine ⟨a, xs, (placedF l ss).map encP, rfl, SqL.le (leI H1) hs, hd, alikeP _, sortableP _, depthP _, fun q ys nq dys => ?_⟩
  rw [sort_enc] at dys
  exact ⟨q, ys, _, rfl, upd_same, DIs.ex dys (Ex.new (F := NoF) nq), fun H2 k li d => hq H2 _ (e1.trans ((Ex.new (o := .lst ys) nq).but nq k li)) d⟩
/-! is_relocation -/
def spIsRel (K : PySem.W.Frag) (Ta : Addr) : Sp := fun vs H Q _ => ∃ (size : Int) (v sv : V) (l : Lay) (ss : List Int), vs = [.int size, v, sv] ∧ DI K H v (encL l) ∧ DI K H sv (encI ss) ∧ l.length ≤ 1000 ∧ TabG H Ta ∧ ∀ H', Ex H H' → Q (.bl (isRelF size l ss)) H'
theorem sc_isrel : FnScope ["size", "layout", "starts"] ["size", "layout", "starts"] (defScope s_is_relocation) := ⟨rfl, rfl, rfl, by decide +kernel, rfl, by decide +kernel, by decide +kernel⟩
theorem w_isrel (T : Txt P K mg) {c Ta : Addr} (D : TabD K mg base "is_relocation" s_is_relocation c Ta) : Cl P w K mg base 3 "is_relocation" (spIsRel K Ta) := by
  have nd := sc_isrel.nd
  have c1 := w_relocd (w := w) (base := base) T
  have c2 := w_isLay (w := w) (base := base) T
  refine cl_ofT T D (fn_mem 9 rfl) (by decide +kernel) sc_isrel (b3 fun _ _ _ _ _ _ _ _ _ => rfl) (fun vs H Q E ⟨_, _, _, _, _, e, _⟩ => by rw [e]; rfl) fun A outer s H vs Q E hr ⟨size, v, sv, l, ss, e, hl, hst, hz, ht, hq⟩ => ?_
  subst e
  obtain ⟨a, xs0, rfl, hs0, hd0⟩ := DI.lst_inv hl
  obtain ⟨sa, rfl, hss⟩ := hst.ints_sq
  have hss0 := SqL.le (leI H) hss
  have hs00 := SqL.le (leI H) hs0
  have hlen : xs0.length = l.length := by rw [DpAll.length hd0, List.length_map]
  refine ⟨_, (pss_cons (ps_if (PW.pt (pw_or (pt_cmpR op_ne (pe_callB call_len_seq (by rfl) (T.n "len") PySem.boot_len (pa_cons (pv 2) pa_nil)) (pe_callB call_len_seq (by rfl) (T.n "len") PySem.boot_len (pa_cons (pv 1) pa_nil)) (nomark _)) (pw_or1 (pt_val (pe_anyN (T := Ta) (q := fun i => decide (i < 0)) hr (by rfl) (T.n "any") D.tb rfl ⟨rfl, rfl, by decide +kernel, rfl, rfl, ?_⟩ (pv 2) (elt_neg rfl rfl) (fun _ => rfl)))))) (pss_one (ps_ret pe_bl)) pss_nil) (pss_one (ps_ret (pe_cl c2 hr takes0 (pa_cons (pv 0) (pa_cons (pe_cl c1 hr takes0 (pa_cons (pv 1) (pa_cons (pv 2) pa_nil))) pa_nil)))))), ?_⟩
  · intro y hy e
    simp only [List.mem_cons, List.not_mem_nil, or_false] at hy
    rcases hy with rfl | rfl
    · cases e
    · cases e
  · refine ⟨_, rfl, sa, _, rfl, .inl hss0, _, rfl, a, _, rfl, .inl hs00, rfl, _, rfl, ?_⟩
    rw [List.length_map, hlen]
    by_cases h : ss.length = l.length
    · refine itYn (by rw [h]) ⟨_, rfl, sa, ss, rfl, hss0, ht, fun G2 tb => ⟨_, rfl, ?_⟩⟩
      have e1 := Tabbed.ex ht tb
      cases hb : ss.any fun i => decide (i < 0) with
      | true =>
        have := hq G2 e1
        unfold isRelF at this
        rw [if_pos (.inr hb)] at this
        exact iteT this
      | false =>
        refine iteF ⟨_, rfl, _, rfl, _, rfl, _, _, l, ss, rfl, DI.ex hl e1, DI.ex hst e1, hz, fun H2 u e2 du => ⟨size, _, u, rfl, du, ?_⟩⟩
        have := hq H2 (e1.trans e2)
        unfold isRelF at this
        rw [if_neg (fun z => z.elim (fun y => y h) fun y => by rw [hb] at y; cases y)] at this
        exact this
    · refine itNn (fun z => h ?_) (iteT ?_)
      · have := V.int.inj z
        omega
      · have := hq H (ExF.refl _ _)
        unfold isRelF at this
        rw [if_pos (.inl h)] at this
        exact this
end
end Hg
namespace Hg
open PySem PySem.Spec PyProof.Rows L2 GxR
section
variable {P : Program} {w : World} {K : PySem.W.Frag} {mg : Str → Option Value} {base : Heap}
/-! ### cost, requestable, after_reply -/
def spCost (K : PySem.W.Frag) : Sp := fun vs H Q _ => ∃ (v sv : V) (l : Lay) (ss : List Int), vs = [v, sv] ∧ DI K H v (encL l) ∧ DI K H sv (encI ss) ∧ l.length ≤ 1000 ∧ ∀ H', Ex H H' → Q (.int (costF l ss)) H'
abbrev N_cost : List Str := ["layout", "starts", "start", "old", "length"]
theorem sc_cost : FnScope N_cost ["layout", "starts"] (defScope s_cost) := ⟨rfl, rfl, rfl, by decide +kernel, rfl, by decide +kernel, by decide +kernel⟩
theorem w_cost (T : Txt P K mg) : Cl P w K mg base 1 "cost" (spCost K) := by
  have nd := sc_cost.nd
  refine cl_of T (fn_mem 10 rfl) (by decide +kernel) sc_cost (b2 fun _ _ _ _ _ _ _ _ => rfl) (fun vs H Q E ⟨_, _, _, _, e, _⟩ => by rw [e]; rfl) fun cdv A outer s H vs Q E hr ⟨v, sv, l, ss, e, hl, hst, hz, hq⟩ => ?_
  subst e
  obtain ⟨a, xs0, rfl, hs0, hd0⟩ := DI.lst_inv hl
  obtain ⟨sa, ss0, rfl, hss, hds⟩ := DI.lst_inv hst
  refine ⟨_, (pss_one (ps_ret (pe_callB (cr_sum rfl) (by rfl) (T.n "sum") (by decide +kernel) (pa_cons (pe_lc (own := [("start", 2), ("old", 3), ("length", 4)]) (g := (gTup K 2 (gCons (gName 2) (gCons (gTup K 2 (gCons (gName 3) (gCons (gName 4) gNil))) gNil)))) (tt := (tTest (tOp rNe (tVar 2) (tVar 3)))) (te := _) rfl nd (pi_zip (by rfl) (T.n "zip") (pa_cons (pv 1) (pa_cons (pv 0) pa_nil))) (blkOk_by (N := N_cost) (sc := defScope s_cost) (by decide +kernel)) (fun _ _ _ _ _ => (pg_tup rfl (pgs_cons (pg_name (i := 2) nd rfl (.inl rfl) (.inr rfl)) (pgs_cons (pg_tup rfl (pgs_cons (pg_name (i := 3) nd rfl (.inl rfl) (.inr rfl)) (pgs_cons (pg_name (i := 4) nd rfl (.inl rfl) (.inr rfl)) pgs_nil))) pgs_nil)))) (fun _ _ _ _ _ => pts_one (pt_cmpR op_ne (pv 2) (pv 3) (nomark _))) (fun _ _ _ _ _ => pv 4)) pa_nil)))), ?_⟩
  refine ⟨_, rfl, _, rfl, sa, a, ss0, xs0, rfl, SqL.le (leI H) hss, SqL.le (leI H) hs0, fun D nD => ?_⟩
  refine lc_z (l1 := ss) (l2 := l) (e1 := PyData.int) (e2 := encP) hst hl (fun pre G => Ex H G ∧ G D = some (.lst (((pre.filter fun x : Int × Int × Int => decide (x.1 ≠ x.2.1)).map fun x => x.2.2).map V.int))) ⟨Ex.new nD, upd_same⟩ (fun pre G c => Le.of c.1) (fun pre x post Tz v1 v2 G el c nT hv1 hv2 => ?_) fun G c => ?_
  · obtain ⟨eG, hD⟩ := c
    cases hv1
    obtain ⟨ab, rfl, hsb⟩ := hv2.pair_inv
    have eT : Ex G (upd G Tz (.tup [.int x.1, .ref ab])) := Ex.new nT
    have hpl : pre.length < 1000000 := by
      have h1 := congrArg List.length el
      rw [List.length_zip, List.length_append, List.length_cons] at h1
      omega
    refine ⟨Tz, _, rfl, SqT.of upd_same, rfl, _, _, rfl, _, _, rfl, ab, _, rfl, SqT.le (Le.of (eG.trans eT)) hsb, rfl, _, _, rfl, _, _, rfl, rfl, rfl, rfl, ?_⟩
    refine ⟨_, rfl, _, rfl, rfl, _, rfl, ?_⟩
    by_cases h : x.1 = x.2.1
    · refine itYn (by rw [h]) ⟨eG.trans eT, ?_⟩
      rw [List.filter_append, List.filter_cons_of_neg (by simp [h]), List.filter_nil, List.append_nil]
      exact eT.at hD
    · refine itNn (fun z => h (V.int.inj z)) ⟨_, rfl, _, eT.at hD, ltL (m := 1000000) ?_ (by decide), (eG.trans eT).updN nD, ?_⟩
      · rw [List.length_map, List.length_map]
        have := List.length_filter_le (fun x : Int × Int × Int => decide (x.1 ≠ x.2.1)) pre
        omega
      · rw [upd_same, List.filter_append, List.filter_cons_of_pos (by simp [h]), List.map_append, List.map_append]
        rfl
  · exact ⟨D, _, rfl, SqL.of c.2, hq _ c.1⟩
/-! requestable -/
def spReq (K : PySem.W.Frag) : Sp := fun vs H Q _ => ∃ (c : Addr) (C : Ctr) (v : V) (l : Lay), vs = [.ref c, v] ∧ CtrAt K H c C ∧ C.lengths.length ≤ 1000 ∧ DI K H v (encL l) ∧ l.length ≤ 1000 ∧ ∀ H' u, Ex H H' → DI K H' u (encI (reqF C l)) → Q u H'
abbrev N_req : List Str := ["contract", "layout", "live", "length"]
theorem sc_req : FnScope N_req ["contract", "layout"] (defScope s_requestable) := ⟨rfl, rfl, rfl, by decide +kernel, rfl, by decide +kernel, by decide +kernel⟩
theorem w_req (T : Txt P K mg) : Cl P w K mg base 2 "requestable" (spReq K) := by
  have nd := sc_req.nd
  have c1 := w_live (w := w) (base := base) T
  refine cl_of T (fn_mem 12 rfl) (by decide +kernel) sc_req (b2 fun _ _ _ _ _ _ _ _ => rfl) (fun vs H Q E ⟨_, _, _, _, e, _⟩ => by rw [e]; rfl) fun cdv A outer s H vs Q E hr ⟨c, C, v, l, e, hc, hcl, hl, hz, hq⟩ => ?_
  subst e
  refine ⟨_, (pss_cons (ps_set (i := 2) nd rfl (.inr rfl) (pe_cl c1 hr takes0 (pa_cons (pv 1) pa_nil))) (pss_one (ps_ret (pe_frz (pe_lc (own := [("length", 3)]) (g := gName 3) (tt := (tTest (tOp (rI0 fun i j => .bl (decide (i ≤ j))) (tOp rAdd (tVar 2) (tVar 3)) (tFld K (tVar 0) "limit")))) (te := _) rfl nd (pi_list (pe_fld (pv 0) rfl)) (blkOk_by (N := N_req) (sc := defScope s_requestable) (by decide +kernel)) (fun _ _ _ _ _ => (pg_name (i := 3) nd rfl (.inl rfl) (.inr rfl))) (fun _ _ _ _ _ => pts_one (pt_cmpR op_le (pe_op op_add (pv 2) (pv 3)) (pe_fld (pv 0) rfl) (nomark _))) (fun _ _ _ _ _ => pv 3)))))), ?_⟩
  refine ⟨_, rfl, l, v, rfl, hl, hz, fun H1 e1 => ?_⟩
  obtain ⟨dx, lv, hi, dlv⟩ := (hc.ex e1).ins
  obtain ⟨la, rfl, hls⟩ := dlv.ints_sq
  refine ⟨_, rfl, c, _, _, _, _, rfl, hi, T.cls "Contract", T.noat "Contract" "lengths", rfl, la, rfl, ⟨_, SqL.le (leI H1) hls⟩, fun D nD => ?_⟩
  refine lc_d (l := C.lengths) (enc := PyData.int) dlv (fun pre G => Ex H1 G ∧ G D = some (.lst ((pre.filter fun n => decide (liveF l + n ≤ C.limit)).map V.int))) ⟨Ex.new nD, upd_same⟩ (fun pre G c => Le.of c.1) (fun pre n post nv G el cc hv => ?_) fun G cc => ?_
  · obtain ⟨eG, hD⟩ := cc
    cases hv
    have hpl : pre.length < 1000 := by
      have h1 := congrArg List.length el
      rw [List.length_append, List.length_cons] at h1
      omega
    refine ⟨rfl, _, rfl, _, rfl, _, _, rfl, rfl, _, rfl, c, _, _, _, _, rfl, eG.at hi, T.cls "Contract", T.noat "Contract" "limit", rfl, _, _, rfl, rfl, _, rfl, iteD (fun h => ?_) fun h => ?_⟩
    · refine ⟨_, rfl, _, hD, ltL (m := 1000) ?_ (by decide), eG.updN nD, ?_⟩
      · rw [List.length_map]
        have := List.length_filter_le (fun n => decide (liveF l + n ≤ C.limit)) pre
        omega
      · rw [upd_same, List.filter_append, List.filter_cons_of_pos (by simp [h]), List.map_append]
        rfl
    · refine ⟨eG, ?_⟩
      rw [List.filter_append, List.filter_cons_of_neg (by simp [h]), List.filter_nil, List.append_nil]
      exact hD
  · exact ⟨D, _, (reqF C l).map PyData.int, rfl, cc.2, DpAll.ints (reqF C l), fun H2 k li d => hq H2 _ (e1.trans (cc.1.but nD k li)) d⟩
/-! after_reply -/
abbrev Rep : Type := List Int × Int × Int
def encR (r : Rep) : PyData := .tuple [encI r.1, .int r.2.1, .int r.2.2]
def afterF (l : Lay) (n : Int) (r : Rep) : Lay := withF (relocdF l r.1) r.2.1 n
theorem DI.rep_inv {H : Hp} {v : V} {r : Rep} (h : DI K H v (encR r)) : ∃ a u, v = .ref a ∧ SqT K (imm H) a [u, .int r.2.1, .int r.2.2] ∧ DI K H u (encI r.1) := by
  obtain ⟨a, xs, e, hs, hd⟩ := DI.tup_inv h
  cases hd with
  | cons h1 t => cases t with
    | cons h2 t2 => cases t2 with
      | cons h3 t3 =>
        cases t3
        cases h2
        cases h3
        exact ⟨a, _, e, hs, h1⟩
theorem relocdF_len (l : Lay) (ss : List Int) : (relocdF l ss).length ≤ l.length := by
  unfold relocdF
  rw [List.length_mergeSort]
  exact placedF_len l ss
def spAfter (K : PySem.W.Frag) : Sp := fun vs H Q _ => ∃ (v rv : V) (l : Lay) (n : Int) (r : Rep), vs = [v, .int n, rv] ∧ DI K H v (encL l) ∧ DI K H rv (encR r) ∧ l.length ≤ 1000 ∧ ∀ H' u, Ex H H' → DI K H' u (encL (afterF l n r)) → Q u H'
theorem sc_after : FnScope ["layout", "length", "reply"] ["layout", "length", "reply"] (defScope s_after_reply) := ⟨rfl, rfl, rfl, by decide +kernel, rfl, by decide +kernel, by decide +kernel⟩
theorem w_after (T : Txt P K mg) : Cl P w K mg base 3 "after_reply" (spAfter K) := by
  have nd := sc_after.nd
  have c1 := w_relocd (w := w) (base := base) T
  have c2 := w_with (w := w) (base := base) T
  refine cl_of T (fn_mem 17 rfl) (by decide +kernel) sc_after (b3 fun _ _ _ _ _ _ _ _ _ => rfl) (fun vs H Q E ⟨_, _, _, _, _, e, _⟩ => by rw [e]; rfl) fun cdv A outer s H vs Q E hr ⟨v, rv, l, n, r, e, hl, dr, hz, hq⟩ => ?_
  subst e
  obtain ⟨ra, u, rfl, hrs, du⟩ := dr.rep_inv
  refine ⟨_, (pss_one (ps_ret (pe_cl c2 hr takes0 (pa_cons (pe_cl c1 hr takes0 (pa_cons (pv 0) (pa_cons (pe_ix ix_tup (pv 2) pe_int (fun _ _ => rfl)) pa_nil))) (pa_cons (pe_ix ix_tup (pv 2) pe_int (fun _ _ => rfl)) (pa_cons (pv 1) pa_nil)))))), ?_⟩
  refine ⟨_, rfl, _, rfl, ra, _, 0, u, rfl, rfl, SqT.le (leI H) hrs, atI_nat (j := 0) rfl, v, u, l, r.1, rfl, hl, du, hz, fun H1 u1 e1 d1 => ?_⟩
  refine ⟨_, rfl, ra, _, 1, .int r.2.1, rfl, rfl, SqT.le (Le.of e1) hrs, atI_nat (j := 1) rfl, _, rfl, u1, r.2.1, n, relocdF l r.1, rfl, d1, Nat.le_trans (relocdF_len l r.1) hz, fun H2 u2 e2 d2 => hq H2 u2 (e1.trans e2) d2⟩
end
end Hg
namespace Hg
open PySem PySem.Spec PyProof.Rows L2 GxR
/-! ### starts_within, relocations -/
abbrev Row : Type := List Int × Int
def encRow (r : Row) : PyData := .tuple [encI r.1, .int r.2]
def stp (b : Int × Int) (r : Row) (p : Int) : List Row := if p = b.1 then [(r.1 ++ [p], r.2)] else if b.2 ≤ r.2 then [(r.1 ++ [p], r.2 - b.2)] else []
def swRow (size : Int) (b : Int × Int) (r : Row) : List Row := (rangeL 0 (size + 1 - b.2)).flatMap (stp b r)
def swStep (size : Int) (rows : List Row) (b : Int × Int) : List Row := rows.flatMap (swRow size b)
def swF (size budget : Int) (l : Lay) : List (List Int) := (l.foldl (swStep size) [([], budget)]).map (·.1)
theorem stp_len (b : Int × Int) (r : Row) (p : Int) : (stp b r p).length ≤ 1 := by
  unfold stp
  split
  · exact Nat.le_refl _
  · split
    · exact Nat.le_refl _
    · exact Nat.zero_le _
theorem flat_le {α β : Type} {f : α → List β} {m : Nat} (h : ∀ x, (f x).length ≤ m) : ∀ l : List α, (l.flatMap f).length ≤ l.length * m
  | [] => Nat.zero_le _
  | x :: l => by
    have h1 := h x
    have h2 := flat_le h l
    rw [List.flatMap_cons, List.length_append, List.length_cons, Nat.add_mul]
    omega
theorem swRow_len {size : Int} {b : Int × Int} (r : Row) (h1 : 1 ≤ b.2) (h8 : size ≤ 8) : (swRow size b r).length ≤ 8 := by
  have h := flat_le (m := 1) (stp_len b r) (rangeL 0 (size + 1 - b.2))
  rw [rangeL_len] at h
  unfold swRow
  omega
theorem swFold_len {size : Int} (h8 : size ≤ 8) : ∀ (l : Lay) (rows : List Row), (∀ b ∈ l, 1 ≤ b.2) → (l.foldl (swStep size) rows).length ≤ rows.length * 8 ^ l.length
  | [], rows, _ => by simp
  | b :: l, rows, h => by
    have h1 := swFold_len h8 l (swStep size rows b) fun x hx => h x (List.mem_cons_of_mem _ hx)
    have h2 : (swStep size rows b).length ≤ rows.length * 8 := flat_le (fun r => swRow_len r (h b (List.mem_cons_self ..)) h8) rows
    (rw [List.foldl_cons, List.length_cons, Nat.pow_succ])
    refine Nat.le_trans h1 ?_
    rw [Nat.mul_comm (8 ^ l.length) 8, ← Nat.mul_assoc]
    exact Nat.mul_le_mul_right _ h2
theorem stp_row {b : Int × Int} {r s : Row} {p : Int} (h : s ∈ stp b r p) : s.1 = r.1 ++ [p] := by
  unfold stp at h
  split at h
  · rw [List.mem_singleton.mp h]
  · split at h
    · rw [List.mem_singleton.mp h]
    · cases h
theorem swFold_row {size : Int} : ∀ (l : Lay) (rows : List Row) (n : Nat), (∀ r ∈ rows, r.1.length = n) → ∀ r ∈ l.foldl (swStep size) rows, r.1.length = n + l.length
  | [], rows, n, h, r, hr => h r hr
  | b :: l, rows, n, h, r, hr => by
    have h2 : ∀ r ∈ swStep size rows b, r.1.length = n + 1 := by
      intro s hs
      obtain ⟨r0, h0, h1⟩ := List.mem_flatMap.mp hs
      obtain ⟨p, hp, h3⟩ := List.mem_flatMap.mp h1
      rw [stp_row h3, List.length_append, h r0 h0]
      rfl
    have := swFold_row l (swStep size rows b) (n + 1) h2 r hr
    rw [List.length_cons]
    omega
theorem pow4 {n : Nat} (h : n ≤ 4) : 8 ^ n ≤ 4096 := by
  have : 8 ^ n ≤ 8 ^ 4 := Nat.pow_le_pow_right (by decide) h
  exact this
section
variable {P : Program} {w : World} {K : PySem.W.Frag} {mg : Str → Option Value} {base : Heap}
theorem DI.row_inv {H : Hp} {v : V} {r : Row} (h : DI K H v (encRow r)) : ∃ a u, v = .ref a ∧ SqT K (imm H) a [u, .int r.2] ∧ DI K H u (encI r.1) := by
  obtain ⟨a, xs, e, hs, hd⟩ := DI.tup_inv h
  cases hd with
  | cons h1 t => cases t with
    | cons h2 t2 =>
      cases t2
      cases h2
      exact ⟨a, _, e, hs, h1⟩
structure SmL (size : Int) (l : Lay) : Prop where
  s8 : size ≤ 8
  b1 : ∀ b ∈ l, 1 ≤ b.2
  l4 : l.length ≤ 4
def spSW (K : PySem.W.Frag) : Sp := fun vs H Q _ => ∃ (size budget : Int) (v : V) (l : Lay), vs = [.int size, .int budget, v] ∧ DI K H v (encL l) ∧ SmL size l ∧ (∀ b ∈ l, b.2 ≤ 1000) ∧ -1000 ≤ size ∧ ∀ H' u, Ex H H' → DI K H' u (.list ((swF size budget l).map encI)) → Q u H'
abbrev N_sw : List Str := ["size", "budget", "layout", "rows", "start", "length", "longer", "row", "left", "place"]
theorem sc_sw : FnScope N_sw ["size", "budget", "layout"] (defScope s_starts_within) := ⟨rfl, rfl, rfl, by decide +kernel, rfl, by decide +kernel, by decide +kernel⟩
theorem w_sw (T : Txt P K mg) : Cl P w K mg base 1 "starts_within" (spSW K) := by
  have nd := sc_sw.nd
  refine cl_of T (fn_mem 13 rfl) (by decide +kernel) sc_sw (b3 fun _ _ _ _ _ _ _ _ _ => rfl) (fun vs H Q E ⟨_, _, _, _, e, _⟩ => by rw [e]; rfl) fun cdv A outer s H vs Q E hr ⟨size, budget, v, l, e, hl, hsm, hb9, hs9, hq⟩ => ?_
  subst e
  obtain ⟨a, xs0, rfl, hs0, hd0⟩ := DI.lst_inv hl
  refine ⟨_, (pss_cons (ps_frz (i := 3) (ps_set (i := 3) nd rfl (.inl rfl) (pe_lst (pa_cons (pe_tup (pa_cons (pe_frz (pe_lst pa_nil)) (pa_cons (pv 1) pa_nil))) pa_nil)))) (pss_cons (ps_for ps0 rfl (pi_list (pv 2)) (pg_tup rfl (pgs_cons (pg_name (i := 4) nd rfl (.inl rfl)) (pgs_cons (pg_name (i := 5) nd rfl (.inl rfl)) pgs_nil))) (pss_cons (ps_set (i := 6) nd rfl (.inl rfl) (pe_lst pa_nil)) (pss_cons (ps_for ps0 rfl (pi_list (pv 3)) (pg_tup rfl (pgs_cons (pg_name (i := 7) nd rfl (.inl rfl)) (pgs_cons (pg_name (i := 8) nd rfl (.inl rfl)) pgs_nil))) (pss_one (ps_for ps0 rfl (pi_range1 (by rfl) (T.n "range") (pa_cons (pe_op op_sub (pe_op op_add (pv 0) pe_int) (pv 5)) pa_nil)) (pg_name (i := 9) nd rfl (.inl rfl)) (pss_one (ps_if (pt_cmpR op_eq (pv 9) (pv 4) (nomark _)) (pss_one (ps_expr (pe_bm PySem.F.plainAttrs_list PySem.F.slot_list_append PySem.F.type_list_append mt_append (pv 6) (pa_cons (pe_tup (pa_cons (pe_frz (pe_op op_catR (pv 7) (pe_lst (pa_cons (pv 9) pa_nil)))) (pa_cons (pv 8) pa_nil))) pa_nil)))) (pss_one (ps_if (pt_cmpR op_le (pv 5) (pv 8) (nomark _)) (pss_one (ps_expr (pe_bm PySem.F.plainAttrs_list PySem.F.slot_list_append PySem.F.type_list_append mt_append (pv 6) (pa_cons (pe_tup (pa_cons (pe_frz (pe_op op_catR (pv 7) (pe_lst (pa_cons (pv 9) pa_nil)))) (pa_cons (pe_op op_sub (pv 8) (pv 5)) pa_nil))) pa_nil)))) pss_nil))))))) (pss_one (ps_frz (i := 3) (ps_set (i := 3) nd rfl (.inl rfl) (pv 6))))))) (pss_one (ps_ret (pe_frz (pe_lc (own := [("row", 7), ("left", 8)]) (g := (gTup K 2 (gCons (gName 7) (gCons (gName 8) gNil)))) (tt := tYes) (te := tVar 7) rfl nd (pi_list (pv 3)) (blkOk_by (N := N_sw) (sc := defScope s_starts_within) (by decide +kernel)) (fun _ _ _ _ _ => (pg_tup rfl (pgs_cons (pg_name (i := 7) nd rfl (.inl rfl)) (pgs_cons (pg_name (i := 8) nd rfl (.inl rfl)) pgs_nil)))) (fun _ _ _ _ _ => pts_nil) (fun _ _ _ _ _ => pv 7))))))), ?_⟩
  refine ⟨Nat.zero_le _, fun p1 np1 => ⟨p1, [], [], rfl, upd_same, .nil, fun G1 k1 l1 d1 => ?_⟩⟩
  have e1 : Ex H G1 := (Ex.new (o := .lst []) np1).but np1 k1 l1
  refine ⟨_, rfl, sz2, fun t nt => ⟨sz1, fun p2 np2 => ?_⟩⟩
  have e2 : Ex H (upd (upd G1 t (.tup [.ref p1, .int budget])) p2 (.lst [.ref t])) := (e1.trans (Ex.new nt)).trans (Ex.new np2)
  have dr0 : DIs K (upd (upd G1 t (.tup [.ref p1, .int budget])) p2 (.lst [.ref t])) [.ref t] [encRow ([], budget)] := .cons (DI.ex (DI.tupOf upd_same (.cons (DI.ex d1 (Ex.new (F := NoF) nt)) (.cons (.int _) .nil))) (Ex.new (F := NoF) np2)) .nil
  refine ⟨p2, [.ref t], [encRow ([], budget)], rfl, upd_same, dr0, fun G2 k2 l2 d2 => ?_⟩
  have e3 : Ex H G2 := ((e1.trans (Ex.new nt)).trans (Ex.new np2)).but (e1.gone ((Ex.new (F := NoF) nt).gone np2)) k2 l2
  refine ⟨_, rfl, a, rfl, ⟨xs0, SqL.le (Le.of e3) hs0⟩, ?_⟩
  refine for_d (l := l) (enc := encP) hl (fun pre σ G => ∃ (rp : Addr) (x4 x5 x6 x7 x8 x9 : Option V), σ = [some (.int size), some (.int budget), some (.ref a), some (.ref rp), x4, x5, x6, x7, x8, x9] ∧ Ex H G ∧ DI K G (.ref rp) (.list ((pre.foldl (swStep size) [([], budget)]).map encRow))) ?_ ?_ ?_ ?_
  · exact ⟨p2, _, _, _, _, _, _, rfl, e3, d2⟩
  · intro pre σ G ⟨_, _, _, _, _, _, _, _, e, _⟩
    exact Le.of e
  · intro pre b post v σ G el ⟨rp, x4, x5, x6, x7, x8, x9, e, eG, dr⟩ hv
    subst e
    obtain ⟨ab, rfl, hsb⟩ := hv.pair_inv
    have hb1 : 1 ≤ b.2 := hsm.b1 b (by rw [el]; simp)
    have hb2 : b.2 ≤ 1000 := hb9 b (by rw [el]; simp)
    have h8 := hsm.s8
    have hpre4 : pre.length ≤ 4 := by
      have h1 := hsm.l4
      rw [el, List.length_append, List.length_cons] at h1
      omega
    have hrl : (pre.foldl (swStep size) [([], budget)]).length ≤ 4096 := by
      have h1 := swFold_len h8 pre [([], budget)] fun x hx => hsm.b1 x (by rw [el]; simp [hx])
      have h2 := pow4 hpre4
      (simp only [List.length_cons, List.length_nil] at h1)
      omega
    have hrr : ∀ r ∈ pre.foldl (swStep size) [([], budget)], r.1.length ≤ 4 := fun r hr => by
      have := swFold_row (size := size) pre [([], budget)] 0 (fun r hr => by rw [List.mem_singleton.mp hr]; rfl) r hr
      omega
    refine ⟨ab, _, rfl, SqT.le (Le.of eG) hsb, rfl, _, _, rfl, _, _, rfl, rfl, ?_⟩
    refine ⟨Nat.zero_le _, fun q nq => ?_⟩
    obtain ⟨rp', rxs, er, hrs, hrd⟩ := DI.lst_inv dr
    cases er
    have eq0 : Ex G (upd G q (.lst [])) := Ex.new nq
    refine ⟨_, rfl, rp, rfl, ⟨rxs, SqL.le (Le.of eq0) hrs⟩, ?_⟩
    generalize hrows : pre.foldl (swStep size) [([], budget)] = rows at dr hrd hrl hrr
    refine for_d (l := rows) (enc := encRow) dr (fun pre2 σ G3 => ∃ (x7 x8 x9 : Option V), σ = [some (.int size), some (.int budget), some (.ref a), some (.ref rp), some (.int b.1), some (.int b.2), some (.ref q), x7, x8, x9] ∧ Col K NoF G q ((pre2.flatMap (swRow size b)).map encRow) (pre2.length * 8) G3) ?_ ?_ ?_ ?_
    · exact ⟨_, _, _, rfl, Col.start nq⟩
    · intro pre2 σ G3 ⟨_, _, _, _, c⟩
      exact Le.of c.ex
    · intro pre2 r post2 v2 σ G3 el2 ⟨x7, x8, x9, e, c⟩ hv2
      subst e
      obtain ⟨ra, u, rfl, hrs2, du⟩ := hv2.row_inv
      obtain ⟨ua, rfl, hus⟩ := du.ints_sq
      have hr4 : r.1.length ≤ 4 := hrr r (by rw [el2]; simp)
      have hp2 : pre2.length < 4096 := by
        rw [el2, List.length_append, List.length_cons] at hrl
        omega
      refine ⟨ra, _, rfl, SqT.le (Le.of c.ex) hrs2, rfl, _, _, rfl, _, _, rfl, rfl, ?_⟩
      refine ⟨_, rfl, _, _, rfl, rfl, _, rfl, _, _, rfl, rfl, size + 1 - b.2, rfl, by omega, by omega, ?_⟩
      refine for_r (lo := 0) (hi := size + 1 - b.2) (by rw [Int.sub_zero]) (fun pre3 σ G4 => ∃ (x9 : Option V), σ = [some (.int size), some (.int budget), some (.ref a), some (.ref rp), some (.int b.1), some (.int b.2), some (.ref q), some (.ref ua), some (.int r.2), x9] ∧ Col K NoF G q ((pre2.flatMap (swRow size b) ++ pre3.flatMap (stp b r)).map encRow) (pre2.length * 8 + pre3.length) G4) ?_ ?_ ?_
      · refine ⟨_, rfl, ?_⟩
        rw [List.flatMap_nil, List.append_nil]
        exact c
      · intro pre3 p post3 σ G4 el3 ⟨x9, e, c4⟩
        subst e
        have hp3 : pre3.length < 8 := by
          have := (rangeL_at el3).2
          omega
        have cs : ∀ y : List Row, y = stp b r p → (pre2.flatMap (swRow size b) ++ (pre3 ++ [p]).flatMap (stp b r)).map encRow = (pre2.flatMap (swRow size b) ++ pre3.flatMap (stp b r)).map encRow ++ y.map encRow := fun y hy => by
          rw [hy, List.flatMap_append, ← List.append_assoc, List.map_append]
          simp
        obtain ⟨acc, hacc, _⟩ := c4.at_
        refine ⟨_, rfl, _, rfl, rfl, _, rfl, iteD (fun h => ?_) fun h => ?_⟩
        · have hpb : p = b.1 := V.int.inj h
          have hst : stp b r p = [(r.1 ++ [p], r.2)] := by unfold stp; rw [if_pos hpb]
          refine ⟨_, rfl, .inl ⟨rfl, _, SqL.of hacc⟩, _, rfl, _, rfl, sz1, fun z nz => ?_⟩
          have f1 : Ex G4 (upd G4 z (.lst [.int p])) := Ex.new nz
          refine ⟨ua, z, _, [.int p], rfl, rfl, SqL.le (Le.of (c4.ex.trans f1)) hus, SqL.of upd_same, leL (m := 100) (by rw [List.length_map]; show _ + 1 ≤ 100; omega) (by decide), fun y ny => ?_⟩
          have f2 := f1.trans (Ex.new (o := .lst (r.1.map V.int ++ [.int p])) ny)
          have hyi : r.1.map V.int ++ [V.int p] = (r.1 ++ [p]).map V.int := by rw [List.map_append]; rfl
          refine ⟨y, _, (r.1 ++ [p]).map PyData.int, rfl, upd_same, by rw [hyi]; exact DpAll.ints _, fun G5 k5 l5 d5 => ?_⟩
          have f3 : Ex G4 G5 := f2.but (f1.gone ny) k5 l5
          refine ⟨_, rfl, sz2, fun t nt => ?_⟩
          have f4 : Ex G4 (upd G5 t (.tup [.ref y, .int (r.2)])) := f3.trans (Ex.new nt)
          have drow : DI K (upd G5 t (.tup [.ref y, .int (r.2)])) (.ref t) (encRow (r.1 ++ [p], r.2)) := DI.tupOf upd_same (.cons (DI.ex d5 (Ex.new (F := NoF) nt)) (.cons (.int _) .nil))
          obtain ⟨acc2, h2, l2, c2⟩ := c4.add nq f4 (fun z => z) drow (ltL (m := 100000) (by omega) (by decide))
          refine ⟨q, _, _, rfl, rfl, h2, l2, ?_⟩
          refine ⟨_, rfl, ?_⟩
          rw [cs _ hst.symm, List.length_append]
          exact c2
        · have hpb : ¬ p = b.1 := fun z => h (by rw [z])
          refine ⟨_, rfl, _, rfl, _, _, rfl, rfl, _, rfl, iteD (fun h2 => ?_) fun h2 => ?_⟩
          · have hst : stp b r p = [(r.1 ++ [p], r.2 - b.2)] := by unfold stp; rw [if_neg hpb, if_pos h2]
            refine ⟨_, rfl, .inl ⟨rfl, _, SqL.of hacc⟩, _, rfl, _, rfl, sz1, fun z nz => ?_⟩
            have f1 : Ex G4 (upd G4 z (.lst [.int p])) := Ex.new nz
            refine ⟨ua, z, _, [.int p], rfl, rfl, SqL.le (Le.of (c4.ex.trans f1)) hus, SqL.of upd_same, leL (m := 100) (by rw [List.length_map]; show _ + 1 ≤ 100; omega) (by decide), fun y ny => ?_⟩
            have f2 := f1.trans (Ex.new (o := .lst (r.1.map V.int ++ [.int p])) ny)
            have hyi : r.1.map V.int ++ [V.int p] = (r.1 ++ [p]).map V.int := by rw [List.map_append]; rfl
            refine ⟨y, _, (r.1 ++ [p]).map PyData.int, rfl, upd_same, by rw [hyi]; exact DpAll.ints _, fun G5 k5 l5 d5 => ?_⟩
            have f3 : Ex G4 G5 := f2.but (f1.gone ny) k5 l5
            refine ⟨_, rfl, _, rfl, _, _, rfl, rfl, sz2, fun t nt => ?_⟩
            have f4 : Ex G4 (upd G5 t (.tup [.ref y, .int ((r.2 - b.2))])) := f3.trans (Ex.new nt)
            have drow : DI K (upd G5 t (.tup [.ref y, .int ((r.2 - b.2))])) (.ref t) (encRow (r.1 ++ [p], (r.2 - b.2))) := DI.tupOf upd_same (.cons (DI.ex d5 (Ex.new (F := NoF) nt)) (.cons (.int _) .nil))
            obtain ⟨acc2, h2, l2, c2⟩ := c4.add nq f4 (fun z => z) drow (ltL (m := 100000) (by omega) (by decide))
            refine ⟨q, _, _, rfl, rfl, h2, l2, ?_⟩
            refine ⟨_, rfl, ?_⟩
            rw [cs _ hst.symm, List.length_append]
            exact c2
          · have hst : stp b r p = [] := by unfold stp; rw [if_neg hpb, if_neg h2]
            refine ⟨_, rfl, ?_⟩
            rw [cs [] hst.symm, List.map_nil, List.append_nil, List.length_append]
            exact c4.skip (ExF.refl _ _) fun z => z
      · intro σ G4 ⟨x9, e, c4⟩
        subst e
        refine ⟨_, _, _, rfl, c4.ex, ?_, ?_⟩
        · obtain ⟨acc, h1, h2⟩ := c4.at_
          refine ⟨acc, h1, ?_⟩
          rw [List.flatMap_append, show ([r] : List Row).flatMap (swRow size b) = swRow size b r by simp]
          exact h2
        · have h1 := flat_le (fun r => swRow_len r hb1 h8) (pre2 ++ [r])
          rw [List.length_map]
          exact h1
    · intro σ G3 ⟨x7, x8, x9, e, c⟩
      subst e
      obtain ⟨acc, h1, h2⟩ := c.at_
      refine ⟨_, rfl, q, acc, _, rfl, h1, h2, fun G5 k5 l5 d5 => ⟨q, _, _, _, _, _, _, rfl, eG.trans (c.ex.but nq k5 l5), ?_⟩⟩
      rw [List.foldl_append, hrows]
      exact d5
  · intro σ G ⟨rp, x4, x5, x6, x7, x8, x9, e, eG, dr⟩
    subst e
    obtain ⟨rp', rxs, er, hrs, hrd⟩ := DI.lst_inv dr
    cases er
    have hrl : (l.foldl (swStep size) [([], budget)]).length ≤ 4096 := by
      have h1 := swFold_len hsm.s8 l [([], budget)] hsm.b1
      have h2 := pow4 hsm.l4
      (simp only [List.length_cons, List.length_nil] at h1)
      omega
    refine ⟨_, rfl, rp, rfl, ⟨rxs, SqL.le (leI G) hrs⟩, fun D nD => ?_⟩
    refine lc_d (l := l.foldl (swStep size) [([], budget)]) (enc := encRow) dr (fun pre G2 => Col K NoF G D ((pre.map fun r : Row => r.1).map encI) pre.length G2) (Col.start nD) (fun pre G2 c => Le.of c.ex) (fun pre r post v G2 el c hv => ?_) fun G2 c => ?_
    · obtain ⟨ra, u, rfl, hrs2, du⟩ := hv.row_inv
      refine ⟨ra, _, rfl, SqT.le (Le.of c.ex) hrs2, rfl, _, _, rfl, _, _, rfl, rfl, rfl, yes_ok ⟨_, rfl, ?_⟩⟩
      rw [List.map_append, List.map_append, List.length_append]
      refine c.add nD (ExF.refl _ _) (fun z => z) (DI.ex du c.ex) (ltL (m := 4096) ?_ (by decide))
      rw [el, List.length_append, List.length_cons] at hrl
      omega
    · obtain ⟨acc, h1, h2⟩ := c.at_
      exact ⟨D, acc, _, rfl, h1, h2, fun H2 k li d => hq H2 _ (eG.trans (c.ex.but nD k li)) d⟩
end
end Hg
namespace Hg
open PySem PySem.Spec PyProof.Rows L2 GxR
/-! ### relocations, reply_key -/
def relsF (C : Ctr) (l : Lay) : List (List Int) := (swF C.size C.budget l).filter fun row => isRelF C.size l row
theorem swF_len {size budget : Int} {l : Lay} (h : SmL size l) : (swF size budget l).length ≤ 4096 := by
  unfold swF
  rw [List.length_map]
  have h1 := swFold_len h.s8 l [([], budget)] h.b1
  have h2 := pow4 h.l4
  (simp only [List.length_cons, List.length_nil] at h1)
  omega
section
variable {P : Program} {w : World} {K : PySem.W.Frag} {mg : Str → Option Value} {base : Heap}
/-- what the game's words want of a layout -/
structure GL (C : Ctr) (l : Lay) : Prop where
  sm : SmL C.size l
  b9 : ∀ b ∈ l, b.2 ≤ 1000
  s0 : 0 ≤ C.size
def spRels (K : PySem.W.Frag) (Tr : Addr) : Sp := fun vs H Q _ => ∃ (c : Addr) (C : Ctr) (v : V) (l : Lay), vs = [.ref c, v] ∧ CtrAt K H c C ∧ TabG H Tr ∧ DI K H v (encL l) ∧ GL C l ∧ ∀ H' u, Ex H H' → DI K H' u (.list ((relsF C l).map encI)) → Q u H'
abbrev N_rels : List Str := ["contract", "layout", "rows", "row"]
theorem sc_rels : FnScope N_rels ["contract", "layout"] (defScope s_relocations) := ⟨rfl, rfl, rfl, by decide +kernel, rfl, by decide +kernel, by decide +kernel⟩
theorem w_rels (T : Txt P K mg) {cr Tr : Addr} (D2 : TabD K mg base "is_relocation" s_is_relocation cr Tr) : Cl P w K mg base 4 "relocations" (spRels K Tr) := by
  have nd := sc_rels.nd
  have c1 := w_sw (w := w) (base := base) T
  have c2 := w_isrel (w := w) (base := base) T D2
  refine cl_of T (fn_mem 14 rfl) (by decide +kernel) sc_rels (b2 fun _ _ _ _ _ _ _ _ => rfl) (fun vs H Q E ⟨_, _, _, _, e, _⟩ => by rw [e]; rfl) fun cdv A outer s H vs Q E hr ⟨c, C, v, l, e, hc, ht, hl, hg, hq⟩ => ?_
  subst e
  refine ⟨_, (pss_cons (ps_set (i := 2) nd rfl (.inl rfl) (pe_cl c1 hr takes0 (pa_cons (pe_fld (pv 0) rfl) (pa_cons (pe_fld (pv 0) rfl) (pa_cons (pv 1) pa_nil))))) (pss_one (ps_ret (pe_frz (pe_lc (own := [("row", 3)]) (g := gName 3) (tt := (tTest (tCallS (spIsRel K Tr) (WE fun _ _ _ _ => False) (tCons (tFld K (tVar 0) "size") (tCons (tVar 1) (tCons (tVar 3) tNil)))))) (te := tVar 3) rfl nd (pi_list (pv 2)) (blkOk_by (N := N_rels) (sc := defScope s_relocations) (by decide +kernel)) (fun _ _ _ _ _ => (pg_name (i := 3) nd rfl (.inl rfl) (.inr rfl))) (fun _ _ _ _ _ => pts_one (pt_val (pe_cl c2 hr takes0 (pa_cons (pe_fld (pv 0) rfl) (pa_cons (pv 1) (pa_cons (pv 3) pa_nil)))))) (fun _ _ _ _ _ => pv 3)))))), ?_⟩
  obtain ⟨dx, lv, hi, dlv⟩ := hc.ins
  refine ⟨_, rfl, c, _, _, _, _, rfl, hi, T.cls "Contract", T.noat "Contract" "size", rfl, _, rfl, c, _, _, _, _, rfl, hi, T.cls "Contract", T.noat "Contract" "budget", rfl, _, rfl, C.size, C.budget, v, l, rfl, hl, hg.sm, hg.b9, by have := hg.s0; omega, fun H1 u e1 du => ?_⟩
  obtain ⟨a, xs, rfl, hs, hd⟩ := DI.lst_inv du
  refine ⟨_, rfl, a, rfl, ⟨xs, SqL.le (leI H1) hs⟩, fun D nD => ?_⟩
  have hln := swF_len (budget := C.budget) hg.sm
  refine lc_d (l := swF C.size C.budget l) (enc := encI) du (fun pre G => Col K NoF H1 D ((pre.filter fun row => isRelF C.size l row).map encI) pre.length G) (Col.start nD) (fun pre G cc => Le.of cc.ex) (fun pre row post rv G el cc hv => ?_) fun G cc => ?_
  · have eG := cc.ex
    have hiG := (hc.ex e1).ex eG
    obtain ⟨dx2, lv2, hi2, _⟩ := hiG.ins
    have hpl : pre.length < 4096 := by
      rw [el, List.length_append, List.length_cons] at hln
      omega
    refine ⟨rfl, _, rfl, c, _, _, _, _, rfl, hi2, T.cls "Contract", T.noat "Contract" "size", rfl, _, rfl, _, rfl, C.size, v, rv, l, row, rfl, DI.ex hl (e1.trans eG), DI.ex hv eG, Nat.le_trans hg.sm.l4 (by decide), TabG.ex (TabG.ex ht e1) eG, fun G2 e2 => ⟨_, rfl, ?_⟩⟩
    cases hb : isRelF C.size l row with
    | true =>
      refine iteT ⟨_, rfl, ?_⟩
      rw [List.filter_append, List.filter_cons_of_pos (by simpa using hb), List.filter_nil, List.map_append, List.length_append]
      exact cc.add nD e2 (fun z => z) (DI.ex (DI.ex hv eG) e2) (ltL (m := 4096) hpl (by decide))
    | false =>
      refine iteF ?_
      rw [List.filter_append, List.filter_cons_of_neg (by simp [hb]), List.filter_nil, List.append_nil, List.length_append]
      exact cc.skip e2 fun z => z
  · obtain ⟨acc, h1, h2⟩ := cc.at_
    exact ⟨D, acc, _, rfl, h1, h2, fun H2 k li d => hq H2 _ (e1.trans (cc.ex.but nD k li)) d⟩
end
end Hg
namespace Hg
open PySem PySem.Spec PyProof.Rows L2 PySem.W
/-! ### sorted(xs, key=f), f a def of the program, the keys any data that never change -/
theorem each_ofF {β : Type} {enc : β → PyData} {K : PySem.W.Frag} {H : Hp} : ∀ {xs : List V} {l : List β} {us : List Value}, DIs K H xs (l.map enc) → Vals xs us → EachIs (fun (u : Value) (p : V × β) => RelV p.1 u ∧ DI K H p.1 (enc p.2)) us (xs.zip l)
  | _, [], _, .nil, .nil => .nil
  | _, _ :: _, _, .cons a t, .cons r q => .cons ⟨r, a⟩ (each_ofF t q)
theorem of_eachF {β : Type} {enc : β → PyData} {K : PySem.W.Frag} {H : Hp} : ∀ {us : List Value} {bs : List (V × β)}, EachIs (fun (u : Value) (p : V × β) => RelV p.1 u ∧ DI K H p.1 (enc p.2)) us bs → Vals (bs.map Prod.fst) us ∧ DIs K H (bs.map Prod.fst) (bs.map (enc ∘ Prod.snd))
  | _, _, .nil => ⟨.nil, .nil⟩
  | _, _, .cons h t => ⟨.cons h.1 (of_eachF t).1, .cons h.2 (of_eachF t).2⟩
section
variable {X : Cx} {pins : List (Addr × Obj)} {σ : L2.St} {H : Hp} {s : Shared} {A : Around} {E : Value → Shared → Prop} {R : PySem.Fin → Shared → Prop} {a kS : Addr} {e1 : Nat} {vs : List Value} {kz : List PyData}
/-- what f(x) leaves: a key, the tracked things as they were, our own records as they were -/
def KeyIs (X : Cx) (pins : List (Addr × Obj)) (σ : L2.St) (H : Hp) (s : Shared) (d : PyData) (u : Value) (z : Shared) : Prop :=
  ∃ (y : V) (G : Hp), Inv X pins σ G z ∧ RelV y u ∧ Ex H G ∧ DI X.K G y d ∧ ∀ b o, FpOk X pins H b → s.heap.get? b = some o → z.heap.get? b = some o ∧ FpOk X pins G b
abbrev KV9 (X : Cx) (G : Hp) (u : Value) (d : PyData) : Prop := ∃ y, RelV y u ∧ DI X.K G y d
theorem keyB_rest {f : Value} (I : Inv X pins σ H s) (nk : s.heap.get? kS = some (seqObj "list" #[] 0)) (na : s.heap.get? a = some (seqObj "list" #[] e1)) (hka : kS ≠ a) (uk : FpOk X pins H kS) (ua : FpOk X pins H a)
    (hlen : kz.length = vs.length)
    (hZ : vs.length ≤ sizeLine) (hal : AllAlike kz) (hsk : Sortable kz) (hu : ∀ d, d ∈ kz → A.units + d.depth < cLine)
    (turn : ∀ (i : Nat) (v : Value) (d : PyData), vs[i]? = some v → kz[i]? = some d → ∀ (G : Hp) (z : Shared), Inv X pins σ G z → Ex H G → wpAny (model X.prog X.w) A (call f [v]) (KeyIs X pins σ G z d) (fun _ _ => False) z)
    (done : ∀ (z : Shared) (G : Hp) (out : List Value) (c : Nat), Inv X pins σ G z → Ex H G → FpOk X pins G a → z.heap.get? a = some (seqObj "list" out.toArray c) → KeyedOut false kz vs out → R (.done (.ret .none)) z) :
    wpAny (model X.prog X.w) A (ksk_rest a f false vs.toArray e1 (.ref kS)) R E s := by
  unfold ksk_rest
  (refine wpAny_bind (wpAny_rule ?_))
  rw [List.forIn_toArray]
  refine wpAny_bind (ksk_fold (fun i z => ∃ (G : Hp) (ka : Array Value) (e : Nat), Inv X pins σ G z ∧ Ex H G ∧ FpOk X pins G kS ∧ FpOk X pins G a ∧ z.heap.get? kS = some (seqObj "list" ka e) ∧ z.heap.get? a = some (seqObj "list" #[] e1) ∧ EachIs (KV9 X G) ka.toList (kz.take i)) vs 0 s
    ⟨H, #[], 0, I, ExF.refl _ _, uk, ua, nk, na, by rw [List.take_zero]; exact EachIs.nil⟩ ?turns ?last)
  case turns =>
    rintro j x z hx ⟨G, ka, e, J, eG, fk, fa, gk, ga, hk⟩
    (simp only [Nat.zero_add] at hk ⊢)
    (have hj : j < vs.length := (List.getElem?_eq_some_iff.mp hx).1)
    obtain ⟨d, hd⟩ : ∃ d, kz[j]? = some d := ⟨_, List.getElem?_eq_getElem (by omega)⟩
    have hsz : ka.size ≤ vs.length := by
      have h1 := hk.length
      (rw [Array.length_toList, List.length_take] at h1)
      omega
    refine wpAny_bind (wpAny_attempt (wpAny_mono (turn j x d hx hd G z J eG) (fun v z2 he => ?_) fun _ _ q => q.elim))
    obtain ⟨y, G2, J2, ry, e2, dy, kp⟩ := he
    try dsimp only
    obtain ⟨gk2, fk2⟩ := kp kS _ fk gk
    obtain ⟨ga2, fa2⟩ := kp a _ fa ga
    have sb := Heap.SameBut.update z2.heap kS (Obj.mapSeq (·.push v))
    obtain ⟨c2, hc2⟩ : ∃ c2, (z2.heap.update kS (Obj.mapSeq (·.push v))).get? kS = some (seqObj "list" (ka.push v) c2) := ⟨_, get?_update_seq gk2 (·.push v)⟩
    have ek : kz.take (j + 1) = kz.take j ++ [d] := by rw [List.take_add_one, hd]; simp
    have ea : (ka.push v).toList = ka.toList ++ [v] := by simp
    refine wpAny_bind (listUpdate_at gk2 rfl ?_ (Nat.le_trans hsz hZ) (Nat.le_trans (Nat.le_of_eq (Array.size_push ..)) (Nat.succ_le_succ (Nat.le_trans hsz hZ))))
    have J3 : Inv X pins σ G2 { z2 with heap := z2.heap.update kS (Obj.mapSeq (·.push v)) } := J2.turned (t' := z2.toks) (fun b o hb e => (sb.2 b hb).trans e) fk2.1 fk2.2.1 fk2.2.2.2.1 fk2.2.2.2.2.1 fk2.2.2.2.2.2
    refine wpAny_pure ⟨rfl, G2, ka.push v, c2, J3, eG.trans e2, fk2, fa2, hc2, (sb.2 a hka.symm).trans ga2, ?_⟩
    rw [ea, ek]
    exact each_snoc (R := KV9 X G2) ⟨y, ry, dy⟩ (hk.mono fun u d ⟨y9, r9, d9⟩ => ⟨y9, r9, DI.ex d9 e2⟩)
  case last =>
    rintro z ⟨G, ka, e, J, eG, fk, fa, gk, ga, hk⟩
    (have e3 : kz.take (0 + vs.length) = kz := List.take_of_length_le (by omega))
    rw [e3] at hk
    have hk2 : EachIs (fun v d => ∃ as, Reads z.heap v d as) ka.toList kz := hk.mono fun v d ⟨y, ry, dy⟩ => Dp.readsD J dy ry
    have hsz : ka.size = vs.length := by
      have h1 := hk2.length
      (rw [Array.length_toList] at h1)
      omega
    obtain ⟨g0, g1, g2⟩ := restrict z.heap fun b => decide (b ≠ kS)
    try dsimp only
    refine wpAny_bind (listItems_at gk rfl ?_)
    refine keyH_end (κ := dataKind z.heap kz) (h₁ := g0) (fun b o hb q => ?_) (g2 kS (by simp)) gk ga hka (SortsAt.data (s := z) hk2 hal hsk hu) hsz hZ fun h3 tk3 c k3 n3 => ?_
    · by_cases hbk : b = kS
      · rw [hbk, g2 kS (by simp)] at q
        cases q
      · rw [← g1 b (by simp [hbk])]
        exact q
    · have J3 : Inv X pins σ G { z with heap := h3, toks := tk3 } := J.turnedL (t' := tk3) (ch := [a, kS]) (fun b o hb q => ?_) fun b hb => ?_
      · exact done _ G _ c J3 eG fa n3 ⟨z.heap, ka.toList, hal, rfl, hk2⟩
      · simp only [List.mem_cons, List.not_mem_nil, or_false, not_or] at hb
        exact k3 b o hb.1 (by rw [g1 b (by simp [hb.2])]; exact q)
      · simp only [List.mem_cons, List.not_mem_nil, or_false] at hb
        rcases hb with q | q
        · rw [q]; exact fa
        · rw [q]; exact fk
theorem keyB_tree {q n : Nat} (J : ∀ h2, (∀ b o, s.heap.get? b = some o → b ≠ a → h2.get? b = some o) → Inv X pins σ H { s with heap := h2 }) (fp : ∀ b, b = a ∨ s.heap.objs.size ≤ b → FpOk X pins H b) (ho : s.heap.get? a = some (seqObj "list" vs.toArray n))
    (hlen : kz.length = vs.length)
    (hZ : vs.length ≤ sizeLine) (hal : AllAlike kz) (hsk : Sortable kz) (hu : ∀ d, d ∈ kz → A.units + d.depth < cLine)
    (turn : ∀ (i : Nat) (v : Value) (d : PyData), vs[i]? = some v → kz[i]? = some d → ∀ (G : Hp) (z : Shared), Inv X pins σ G z → Ex H G → wpAny (model X.prog X.w) A (call (.ref q) [v]) (KeyIs X pins σ G z d) (fun _ _ => False) z)
    (done : ∀ (z : Shared) (G : Hp) (out : List Value) (c : Nat), Inv X pins σ G z → Ex H G → FpOk X pins G a → z.heap.get? a = some (seqObj "list" out.toArray c) → KeyedOut false kz vs out → R (.done (.ret .none)) z) :
    wpAny (model X.prog X.w) A (ksk_tree a (.ref q) false) R E s := by
  have lta : a < s.heap.objs.size := Heap.lt_size ho
  obtain ⟨e1, h1⟩ : ∃ e1, (s.heap.update a (Obj.mapSeq fun _ => (#[] : Array Value))).get? a = some (seqObj "list" #[] e1) := ⟨_, get?_update_seq ho fun _ => #[]⟩
  have sz : ((s.heap.update a (Obj.mapSeq fun _ => (#[] : Array Value))).push (seqObj "tuple" vs.toArray 0)).objs.size = s.heap.objs.size + 1 := by rw [size_push', Heap.size_update]
  unfold ksk_tree
  refine wpAny_bind (listItems_at ho rfl (wpAny_bind (listUpdate_at ho rfl ?_ (by rw [List.size_toArray]; exact hZ) (Nat.zero_le _))))
  refine wpAny_bind (seqEpoch_at h1 rfl (wpAny_bind (wpAny_newTuple ?_ (by show vs.length ≤ _; exact hZ))))
  refine wpAny_bind (wpAny_newList (wpAny_holding ?_) (Nat.zero_le _))
  have J2 := J (((s.heap.update a (Obj.mapSeq fun _ => (#[] : Array Value))).push (seqObj "tuple" vs.toArray 0)).push (seqObj "list" #[] 0)) fun b o hb nb => sortingHeap_old nb hb
  exact keyB_rest (s := { s with heap := ((s.heap.update a (Obj.mapSeq fun _ => (#[] : Array Value))).push (seqObj "tuple" vs.toArray 0)).push (seqObj "list" #[] 0) }) J2 (Heap.get?_push_size _ rfl) (Heap.get?_push_of_some _ (Heap.get?_push_of_some _ h1)) (by rw [sz]; exact Nat.ne_of_gt (Nat.lt_succ_of_lt lta))
    (fp _ (.inr (by rw [sz]; exact Nat.le_succ _))) (fp a (.inl rfl)) hlen hZ hal hsk hu turn done
/-- an object of ours is tracked from now on -/
theorem Inv.track {o : HO} (J : Inv X pins σ H s) (fa : FpOk X pins H a) (new : ObjOk X.prog X.w (upd H a o) s.heap a o) : Inv X pins σ (upd H a o) s := by
  have ne : ∀ b u, H b = some u → b ≠ a := fun b u e z => by rw [z, fa.1] at e; cases e
  have K9 := Inv.step (H' := upd H a o) (h' := s.heap) (g' := s.gens) (t' := s.toks) (d' := s.drawn) (ch := [a]) J
    (fun b hb => by
      rw [List.mem_singleton.mp hb]
      exact ⟨fa.2.2.2.1, fa.2.1, fa.2.2.2.2.1, fa.2.2.2.2.2⟩)
    (fun b o _ _ _ e _ => e) (fun b o _ _ _ e _ => ⟨o.slots, e⟩) (fun b u hb _ e => by rw [upd_ne (fun z => hb (List.mem_singleton.mpr z))]; exact e) (fun b u _ e => ⟨u, e⟩)
    (fun b xs e => by rw [upd_ne (ne _ _ e)]; exact e) (fun b u v e => by rw [upd_ne (ne _ _ e)]; exact e) (fun b ps e => ⟨#[], by rw [upd_ne (ne _ _ e), e]; simp⟩) (fun m hm => hm) (fun b u e => ?_) J.bare
  · exact K9
  · by_cases hb : b = a
    · rw [hb, upd_same] at e
      cases e
      rw [hb]
      exact new
    · rw [upd_ne hb] at e
      exact (J.hok b u e).stay (fun c v _ q => q) (fun c q => by rw [upd_ne (ne _ _ q)]; exact q) fun c xs q => by rw [upd_ne (ne _ _ q)]; exact q
/-- sorted(xs, key=f) -/
def rSortF {β : Type} (K : PySem.W.Frag) (f : Addr) (sp : Sp) (enc k : β → PyData) : List V → List V → Hp → VK → Prop := fun vs zs H Q => ∃ (a : Addr) (l : List β) (xs : List V), vs = [.ref a] ∧ zs = [.ref f] ∧ SqL K H a xs ∧ DIs K H xs (l.map enc) ∧ AllAlike (l.map k) ∧ Sortable (l.map k) ∧ (∀ d ∈ l.map k, d.depth ≤ 60) ∧
  (∀ (b : β) (v : V) (G : Hp) (Q2 : VK), b ∈ l → Ex H G → DI K G v (enc b) → (∀ G2 u, Ex G G2 → DI K G2 u (k b) → Q2 u G2) → sp [v] G Q2 fun _ _ _ => False) ∧
  ∀ G p ys, Ex H G → G p = none → DIs K G ys ((l.mergeSort (dataLe false k)).map enc) → Q (.ref p) (upd G p (.lst ys))
theorem cr_sortF {β : Type} {f : Addr} {fd : FuncData} {ps : List Str} {sp : Sp} {enc k : β → PyData} {j n : Nat} (F : FnOk X.prog X.w X.K X.mg X.base (L2.CX X.prog X.w) j f fd ps sp) (hb : Binds X.K fd ps []) (hr : Room n X.A) (hj : j + 2 ≤ n) : CallRK X (.builtin "sorted") [Str.ofString "key"] (rSortF X.K f sp enc k) := by
  intro pins s σ H vs zs us ws Q I rv rz h
  obtain ⟨a, l, xs, rfl, rfl, hs, hd, hal, hk, hz, hsp, q⟩ := h
  rw [Vals.ref1 rv, Vals.ref1 rz]
  obtain ⟨its, ri, pl, hsz⟩ := I.list hs
  have hlx : xs.length = l.length := by rw [DpAll.length hd, List.length_map]
  have hli : its.length = l.length := by rw [← ri.length]; exact hlx
  have hL : its.length ≤ sizeLine := by rw [hli, ← hlx]; exact hsz
  show wpAny _ _ (call (.builtin "sorted") [.ref a] [(Str.ofString "key", .ref f)]) _ _ s
  refine sorted_of_sort pl.isList hL (ksk_s1 _ _) (fun x => ksk_l1 _ _) fun E' => ?_
  rw [ksk_t1]
  have e3 : (s.heap.objs.size : Nat) < s.heap.objs.size + 1 := Nat.lt_succ_self _
  have r2 : Room j X.A.in1.in1 := ((hr.mono hj).in1).in1
  have fpo : ∀ b, s.heap.objs.size ≤ b → FpOk X pins H b := fun b hb => I.fpOk hb (I.hok.fresh hb)
  refine keyB_tree (s := { s with heap := copyHeap s.heap its }) (kz := l.map k) (H := H) (fun h2 kp => I.kept (t' := s.toks) fun b o e => kp b o (copyHeap_old e) (Nat.ne_of_lt (Nat.lt_succ_of_lt (Heap.lt_size e)))) (fun b hb => fpo b ?_) (copyHeap_at s.heap its) (by rw [List.length_map]; exact hli.symm) hL hal hk (fun d hd2 => ?_) (fun i v d hv hd2 G z J eG => ?_) fun z G out c J eG fa gz ko => ⟨rfl, ?_⟩
  · rcases hb with e | e
    · rw [e]
      exact Nat.le_succ _
    · have hc := Heap.lt_size (copyHeap_at s.heap its)
      exact Nat.le_trans (Nat.le_of_lt (Nat.lt_of_succ_lt hc)) e
  · have h1 := r2.un
    have h2 := hz d hd2
    omega
  · obtain ⟨b, hb1⟩ : ∃ b, l[i]? = some b := by
      have hi : i < l.length := by
        have h1 := (List.getElem?_eq_some_iff.mp hv).1
        omega
      exact ⟨_, List.getElem?_eq_getElem hi⟩
    rw [List.getElem?_map, hb1] at hd2
    cases hd2
    obtain ⟨y, hy, dy⟩ := DpAll.at_ hd (i := i) (d := enc b) (by rw [List.getElem?_map, hb1]; rfl)
    obtain ⟨u9, hu9, ru⟩ := ri.get hy
    rw [hv] at hu9
    cases hu9
    have hbd : BindsTo z fd ⟨[v], []⟩ (ps.zip [v]) := by
      have hl1 : ([v] : List Value).length = ps.length := F.len _ _ _ _ (hsp b y G (fun _ _ => True) (List.mem_of_getElem? hb1) eG (DI.ex dy eG) fun _ _ _ _ => trivial)
      have := hb z [v] J.kIn (by rw [List.append_nil]; exact hl1)
      rwa [List.append_nil] at this
    refine wpAny_call (codeAny_mono (F.run X.A.in1.in1 X.stack z G ⟨[v], []⟩ [v] [y] (fun u G2 => Ex G G2 ∧ DI X.K G2 u (k b)) (fun _ _ _ => False) r2 J.env0.in1.in1 hbd (.cons ru .nil) (hsp b y G _ (List.mem_of_getElem? hb1) eG (DI.ex dy eG) fun G2 u e d => ⟨e, d⟩)) fun r z2 hq => ?_)
    cases r with
    | error e =>
      obtain ⟨_, _, _, _, _, _, _, _, _, _, _, _, w9⟩ := hq
      exact w9.elim
    | ok fl =>
      cases fl with
      | next => exact False.elim hq
      | brk => exact False.elim hq
      | cont => exact False.elim hq
      | ret u =>
        obtain ⟨y2, G2, os, bare, un, hok, ry, e2, d2⟩ := hq
        have J2 : Inv X pins σ G2 z2 := J.call' os un hok bare fun b z => absurd z (by simp)
        refine ⟨y2, G2, J2, ry, e2, d2, fun b o fb hb => ?_⟩
        have nst : b ∉ frs X.stack := fun z => (List.mem_cons.mp (J.stkSub b z)).elim fb.2.1 fb.2.2.1
        exact ⟨un.keep b o hb fb.1 nst (by simp), un.free b o hb fb.1 (by simp), fb.2⟩
  · have hE : EachIs (fun (u : Value) (p : V × β) => RelV p.1 u ∧ DI X.K H p.1 (enc p.2)) its (xs.zip l) := each_ofF hd ri
    have ek : (xs.zip l).map (fun p => k p.2) = l.map k := by
      rw [show (fun p : V × β => k p.2) = k ∘ Prod.snd from rfl, ← List.map_map, List.map_snd_zip (by omega)]
    have ko2 : KeyedOut false ((xs.zip l).map fun p => k p.2) its out := by rw [ek]; exact ko
    have hO := keyedOut_each (fun p : V × β => k p.2) ko2 hE
    obtain ⟨h1, h2⟩ := of_eachF hO
    have e5 : ((xs.zip l).mergeSort (dataLe false fun p : V × β => k p.2)).map Prod.snd = l.mergeSort (dataLe false k) := by
      rw [sort_maps (r := dataLe false fun p : V × β => k p.2) (s := dataLe false k) Prod.snd (fun _ _ _ _ => rfl), List.map_snd_zip (by omega)]
    have h3 : DIs X.K H (((xs.zip l).mergeSort (dataLe false fun p : V × β => k p.2)).map Prod.fst) ((l.mergeSort (dataLe false k)).map enc) := by
      rw [← e5, List.map_map]
      exact h2
    refine ⟨.ref _, _, Inv.track (o := .lst (((xs.zip l).mergeSort (dataLe false fun p : V × β => k p.2)).map Prod.fst)) J fa ⟨?_, out, c, h1, gz⟩, rfl, q G _ _ eG fa.1 (DIs.ex h3 eG)⟩
    rw [List.length_map, List.length_mergeSort, List.length_zip]
    omega
end
end Hg
namespace Hg
open PySem PySem.Spec PyProof.Rows L2 GxR
/-! ### reply_key, replies -/
def keyD (r : Rep) : PyData := .tuple [.int r.2.2, encI r.1, .int r.2.1]
def leR : Rep → Rep → Bool := PySem.W.dataLe false keyD
def repRow (C : Ctr) (l : Lay) (n : Int) (ss : List Int) : List Rep := (rangeL 0 (C.size + 1 - n)).flatMap fun st => if fitsF C.size (relocdF l ss) st n = true then [(ss, st, costF l ss)] else []
def rep0F (C : Ctr) (l : Lay) (n : Int) : List Rep := (relsF C l).flatMap (repRow C l n)
def repsF (C : Ctr) (l : Lay) (n : Int) : List Rep := (rep0F C l n).mergeSort leR
theorem relsF_len {C : Ctr} {l : Lay} (h : GL C l) : (relsF C l).length ≤ 4096 := Nat.le_trans (List.length_filter_le _ _) (swF_len h.sm)
theorem repRow_len {C : Ctr} {l : Lay} {n : Int} (h : GL C l) (hn : 1 ≤ n) (ss : List Int) : (repRow C l n ss).length ≤ 8 := by
  have h1 := flat_le (f := fun st => if fitsF C.size (relocdF l ss) st n = true then [(ss, st, costF l ss)] else []) (m := 1) (fun st => by split <;> simp) (rangeL 0 (C.size + 1 - n))
  rw [rangeL_len] at h1
  have := h.sm.s8
  unfold repRow
  omega
theorem rep0F_len {C : Ctr} {l : Lay} {n : Int} (h : GL C l) (hn : 1 ≤ n) : (rep0F C l n).length ≤ 32768 := by
  have h1 := flat_le (repRow_len h hn) (relsF C l)
  have h2 := relsF_len h
  unfold rep0F
  omega
theorem alikeAllI : ∀ l m : List Int, PySem.W.alikeAll (l.map PyData.int) (m.map PyData.int) = true
  | [], _ => by simp [PySem.W.alikeAll]
  | _ :: _, [] => by simp [PySem.W.alikeAll]
  | _ :: l, _ :: m => by simp [PySem.W.alikeAll, PySem.W.alike, alikeAllI l m]
theorem alikeK (l : List Rep) : PySem.W.AllAlike (l.map keyD) := by
  intro d hd d' hd'
  obtain ⟨p, _, rfl⟩ := List.mem_map.mp hd
  obtain ⟨q, _, rfl⟩ := List.mem_map.mp hd'
  simp [keyD, encI, PySem.W.alike, PySem.W.alikeAll, alikeAllI]
theorem sortableK (l : List Rep) : PySem.W.Sortable (l.map keyD) := .inl fun d hd => by
  obtain ⟨p, _, rfl⟩ := List.mem_map.mp hd
  exact ⟨_, _, rfl⟩
theorem depthAllI : ∀ l : List Int, PyData.depthAll (l.map PyData.int) ≤ 1
  | [] => by (simp [PyData.depthAll])
  | _ :: l => by
    have := depthAllI l
    (simp only [List.map_cons, PyData.depthAll, PyData.depth])
    omega
theorem depthK (l : List Rep) : ∀ d ∈ l.map keyD, d.depth ≤ 60 := fun d hd => by
  obtain ⟨p, _, rfl⟩ := List.mem_map.mp hd
  have := depthAllI p.1
  simp only [keyD, encI, PyData.depth, PyData.depthAll]
  omega
section
variable {P : Program} {w : World} {K : PySem.W.Frag} {mg : Str → Option Value} {base : Heap}
def spKey (K : PySem.W.Frag) : Sp := fun vs H Q _ => ∃ (v : V) (r : Rep), vs = [v] ∧ DI K H v (encR r) ∧ ∀ H' u, Ex H H' → DI K H' u (keyD r) → Q u H'
theorem sc_key : FnScope ["reply"] ["reply"] (defScope s_reply_key) := ⟨rfl, rfl, rfl, by decide +kernel, rfl, by decide +kernel, by decide +kernel⟩
theorem w_key (T : Txt P K mg) : Cl P w K mg base 1 "reply_key" (spKey K) := by
  have nd := sc_key.nd
  refine cl_of T (fn_mem 16 rfl) (by decide +kernel) sc_key (b1 fun _ _ _ _ _ _ _ => rfl) (fun vs H Q E ⟨_, _, e, _⟩ => by rw [e]; rfl) fun cdv A outer s H vs Q E hr ⟨v, r, e, dr, hq⟩ => ?_
  subst e
  obtain ⟨a, u, rfl, hs, du⟩ := dr.rep_inv
  have hs0 := SqT.le (leI H) hs
  refine ⟨_, (pss_one (ps_ret (pe_tup (pa_cons (pe_ix ix_tup (pv 0) pe_int (fun _ _ => rfl)) (pa_cons (pe_ix ix_tup (pv 0) pe_int (fun _ _ => rfl)) (pa_cons (pe_ix ix_tup (pv 0) pe_int (fun _ _ => rfl)) pa_nil)))))), ?_⟩
  refine ⟨_, rfl, a, _, 2, .int r.2.2, rfl, rfl, hs0, atI_nat (j := 2) rfl, _, rfl, a, _, 0, u, rfl, rfl, hs0, atI_nat (j := 0) rfl, _, rfl, a, _, 1, .int r.2.1, rfl, rfl, hs0, atI_nat (j := 1) rfl, sz3, fun t nt => ?_⟩
  exact hq _ _ (Ex.new nt) (DI.tupOf upd_same (.cons (.int _) (.cons (DI.ex du (Ex.new (F := NoF) nt)) (.cons (.int _) .nil))))
structure Tabs (K : PySem.W.Frag) (mg : Str → Option Value) (base : Heap) (Tf Tr : Addr) : Prop where
  f : ∃ c, TabD K mg base "fits" s_fits c Tf
  r : ∃ c, TabD K mg base "is_relocation" s_is_relocation c Tr
structure TabH (H : Hp) (Tf Tr : Addr) : Prop where
  f : TabG H Tf
  r : TabG H Tr
theorem TabH.ex {F : Addr → Prop} {H H' : Hp} {Tf Tr : Addr} (h : TabH H Tf Tr) (e : ExF F H H') : TabH H' Tf Tr := ⟨TabG.ex h.f e, TabG.ex h.r e⟩
def spReps (K : PySem.W.Frag) (Tf Tr : Addr) : Sp := fun vs H Q E => ∃ (c : Addr) (C : Ctr) (v : V) (l : Lay) (n : Int), vs = [.ref c, v, .int n] ∧ CtrAt K H c C ∧ C.lengths.length ≤ 1000 ∧ TabH H Tf Tr ∧ DI K H v (encL l) ∧ GL C l ∧ 1 ≤ n ∧ n ≤ 1000 ∧
  (n ∈ reqF C l → ∀ H' u, Ex H H' → DI K H' u (.list ((repsF C l n).map encR)) → Q u H') ∧ (n ∉ reqF C l → Rx K E H "NotAllowed" [("length", .int n)])
abbrev N_reps : List Str := ["contract", "layout", "length", "found", "starts", "moved", "price", "start"]
theorem sc_reps : FnScope N_reps ["contract", "layout", "length"] (defScope s_replies) := ⟨rfl, rfl, rfl, by decide +kernel, rfl, by decide +kernel, by decide +kernel⟩
theorem w_reps (T : Txt P K mg) {Tf Tr : Addr} (D : Tabs K mg base Tf Tr) : Cl P w K mg base 5 "replies" (spReps K Tf Tr) := by
  have nd := sc_reps.nd
  obtain ⟨cf, Df⟩ := D.f
  obtain ⟨cr, Dr⟩ := D.r
  have c1 := w_req (w := w) (base := base) T
  have c2 := w_rels (w := w) (base := base) T Dr
  have c3 := w_relocd (w := w) (base := base) T
  have c4 := w_cost (w := w) (base := base) T
  have c5 := w_fits (w := w) (base := base) T Df
  obtain ⟨f6, fd6, ps6, F6, hm6, hk6, hb6⟩ := w_key (w := w) (base := base) T
  refine cl_of T (fn_mem 15 rfl) (by decide +kernel) sc_reps (b3 fun _ _ _ _ _ _ _ _ _ => rfl) (fun vs H Q E ⟨_, _, _, _, _, e, _⟩ => by rw [e]; rfl) fun cdv A outer s H vs Q E hr ⟨c, C, v, l, n, e, hc, hcl, ht, hl, hg, hn1, hn9, hq, hE⟩ => ?_
  subst e
  refine ⟨_, (pss_cons (ps_if (pt_cmpR op_notIn_seq (pv 2) (pe_cl c1 hr takes0 (pa_cons (pv 0) (pa_cons (pv 1) pa_nil))) (by rfl)) (pss_one (ps_raise1 (er_NotAllowed T) hr rfl tk0 (pv 2))) pss_nil) (pss_cons (ps_set (i := 3) nd rfl (.inl rfl) (pe_lst pa_nil)) (pss_cons (ps_for ps0 rfl (pi_list (pe_cl c2 hr takes0 (pa_cons (pv 0) (pa_cons (pv 1) pa_nil)))) (pg_name (i := 4) nd rfl (.inl rfl)) (pss_cons (ps_set (i := 5) nd rfl (.inl rfl) (pe_cl c3 hr takes0 (pa_cons (pv 1) (pa_cons (pv 4) pa_nil)))) (pss_cons (ps_set (i := 6) nd rfl (.inl rfl) (pe_cl c4 hr takes0 (pa_cons (pv 1) (pa_cons (pv 4) pa_nil)))) (pss_one (ps_for ps0 rfl (pi_range1 (by rfl) (T.n "range") (pa_cons (pe_op op_sub (pe_op op_add (pe_fld (pv 0) rfl) pe_int) (pv 2)) pa_nil)) (pg_name (i := 7) nd rfl (.inl rfl)) (pss_one (ps_if (pt_val (pe_cl c5 hr takes0 (pa_cons (pe_fld (pv 0) rfl) (pa_cons (pv 5) (pa_cons (pv 7) (pa_cons (pv 2) pa_nil)))))) (pss_one (ps_expr (pe_bm PySem.F.plainAttrs_list PySem.F.slot_list_append PySem.F.type_list_append mt_append (pv 3) (pa_cons (pe_tup (pa_cons (pv 4) (pa_cons (pv 7) (pa_cons (pv 6) pa_nil)))) pa_nil)))) pss_nil))))))) (pss_one (ps_ret (pe_frz (pe_callBK (cr_sortF (enc := encR) (k := keyD) F6 hb6 hr (by decide)) (by rfl) (T.n "sorted") (by decide +kernel) (pa_cons (pv 3) pa_nil) (pk_cons (pe_glob (v := .ref f6) (by rfl) hm6 rfl) pk_nil)))))))), ?_⟩
  obtain ⟨la, lxs, rfl, hls, hld⟩ := DI.lst_inv hl
  have hl4 : l.length ≤ 1000 := Nat.le_trans hg.sm.l4 (by decide)
  refine ⟨_, rfl, _, rfl, _, rfl, c, C, _, l, rfl, hc, hcl, hl, hl4, fun H1 u e1 du => ?_⟩
  obtain ⟨ra, rfl, hrs⟩ := du.ints_sq
  refine ⟨ra, _, rfl, .inl (SqL.le (leI H1) hrs), rfl, flat_ints _, _, rfl, ?_⟩
  rw [show (if true = true then !inV (.int n) ((reqF C l).map V.int) else inV (.int n) ((reqF C l).map V.int)) = !decide (n ∈ reqF C l) by rw [if_pos rfl, inV_ints]]
  by_cases hin : n ∈ reqF C l
  · refine itYn hin ⟨Nat.zero_le _, fun p np => ?_⟩
    have ep : Ex H1 (upd H1 p (.lst [])) := Ex.new np
    have e1p := e1.trans ep
    refine ⟨_, rfl, _, rfl, c, C, _, l, rfl, hc.ex e1p, TabG.ex ht.r e1p, DI.ex hl e1p, hg, fun H2 u2 e2 du2 => ?_⟩
    obtain ⟨sa, sxs, rfl, hss, hsd⟩ := DI.lst_inv du2
    refine ⟨sa, rfl, ⟨sxs, SqL.le (leI H2) hss⟩, ?_⟩
    have e12 : Ex H1 H2 := ep.trans e2
    refine for_d (l := relsF C l) (enc := encI) du2 (fun pre σ G => ∃ (x4 x5 x6 x7 : Option V), σ = [some (.ref c), some (.ref la), some (.int n), some (.ref p), x4, x5, x6, x7] ∧ Col K NoF H1 p ((pre.flatMap (repRow C l n)).map encR) (pre.length * 8) G ∧ ExF (Only p) H2 G) ?_ ?_ ?_ ?_
    · exact ⟨_, _, _, _, rfl, ⟨e12, ⟨[], e2.at upd_same, .nil⟩, Nat.le_refl _⟩, ExF.refl _ _⟩
    · intro pre σ G ⟨_, _, _, _, _, _, e⟩
      exact Le.of e
    · intro pre ss post sv σ G el ⟨x4, x5, x6, x7, e, cc, eo⟩ hv
      subst e
      have eG : Ex H G := e1.trans cc.ex
      have dss : DI K G sv (encI ss) := DI.ex hv eo
      have hpl : pre.length < 4096 := by
        have := relsF_len hg
        rw [el, List.length_append, List.length_cons] at this
        omega
      refine ⟨_, rfl, _, rfl, _, _, l, ss, rfl, DI.ex hl eG, dss, hl4, fun G1 u3 f1 d3 => ?_⟩
      refine ⟨_, rfl, _, rfl, _, _, l, ss, rfl, DI.ex hl (eG.trans f1), DI.ex dss f1, hl4, fun G2 f2 => ?_⟩
      have f12 := f1.trans f2
      have eG2 := eG.trans f12
      obtain ⟨dx, lv, hi, _⟩ := (hc.ex eG2).ins
      have hs8 := hg.sm.s8
      have hs0 := hg.s0
      refine ⟨_, rfl, c, _, _, _, _, rfl, hi, T.cls "Contract", T.noat "Contract" "size", rfl, _, _, rfl, rfl, _, rfl, _, _, rfl, rfl, C.size + 1 - n, rfl, by omega, by omega, ?_⟩
      have c2' : Col K NoF H1 p ((pre.flatMap (repRow C l n)).map encR) (pre.length * 8) G2 := ⟨cc.ex.trans f12, by obtain ⟨acc, h1, h2⟩ := cc.at_; exact ⟨acc, f12.at h1, DIs.ex h2 f12⟩, cc.sz⟩
      refine for_r (lo := 0) (hi := C.size + 1 - n) (by rw [Int.sub_zero]) (fun pre3 σ G3 => ∃ (x7 : Option V), σ = [some (.ref c), some (.ref la), some (.int n), some (.ref p), some sv, some u3, some (.int (costF l ss)), x7] ∧ Col K NoF H1 p ((pre.flatMap (repRow C l n) ++ pre3.flatMap fun st => if fitsF C.size (relocdF l ss) st n = true then [(ss, st, costF l ss)] else []).map encR) (pre.length * 8 + pre3.length) G3 ∧ ExF (Only p) H2 G3 ∧ ExF (Only p) G2 G3) ?_ ?_ ?_
      · refine ⟨_, rfl, ?_, eo.trans f12.of, ExF.refl _ _⟩
        rw [List.flatMap_nil, List.append_nil]
        exact c2'
      · intro pre3 st post3 σ G3 el3 ⟨x7, e, c3, eo3, eg3⟩
        subst e
        have hp3 : pre3.length < 8 := by
          have := (rangeL_at el3).2
          omega
        have eG3 : Ex H G3 := e1.trans c3.ex
        obtain ⟨dx3, lv3, hi3, _⟩ := (hc.ex eG3).ins
        refine ⟨_, rfl, c, _, _, _, _, rfl, hi3, T.cls "Contract", T.noat "Contract" "size", rfl, _, rfl, _, rfl, _, rfl, C.size, st, n, u3, relocdF l ss, rfl, DI.ex (DI.ex d3 f2) eg3, TabG.ex ht.f eG3, fun G4 f4 => ⟨_, rfl, ?_⟩⟩
        rw [List.flatMap_append, ← List.append_assoc, List.length_append]
        cases hf : fitsF C.size (relocdF l ss) st n with
        | true =>
          obtain ⟨acc, hacc, _⟩ := c3.at_
          have hp4 := f4.at hacc
          refine iteT ⟨_, rfl, .inl ⟨rfl, _, SqL.of hp4⟩, _, rfl, _, rfl, _, rfl, sz3, fun t nt => ?_⟩
          have f5 : Ex G3 (upd G4 t (.tup [sv, .int st, .int (costF l ss)])) := f4.trans (Ex.new nt)
          have drep : DI K (upd G4 t (.tup [sv, .int st, .int (costF l ss)])) (.ref t) (encR (ss, st, costF l ss)) := DI.tupOf upd_same (.cons (DI.ex (DI.ex (DI.ex dss f12) eg3) f5) (.cons (.int _) (.cons (.int _) .nil)))
          obtain ⟨acc2, h2, l2, c4'⟩ := c3.add np f5 (fun z => z) drep (ltL (m := 100000) (by omega) (by decide))
          refine ⟨p, _, _, rfl, rfl, h2, l2, _, rfl, ?_, ?_, ?_⟩
          · rw [List.flatMap_cons, List.flatMap_nil, List.append_nil, hf, if_pos rfl, List.map_append, ← Nat.add_assoc]
            exact c4'
          · exact (eo3.trans f5.of).upd (.inr ⟨rfl, _, e2.at upd_same, rfl, rfl⟩)
          · obtain ⟨acc9, h9, _⟩ := c2'.at_
            exact (eg3.trans f5.of).upd (.inr ⟨rfl, _, h9, rfl, rfl⟩)
        | false =>
          refine iteF ⟨_, rfl, ?_, eo3.trans f4.of, eg3.trans f4.of⟩
          rw [List.flatMap_cons, List.flatMap_nil, List.append_nil, hf, if_neg (by decide), List.append_nil]
          exact c3.skip f4 fun z => z
      · intro σ G3 ⟨x7, e, c3, eo3, eg3⟩
        subst e
        refine ⟨_, _, _, _, rfl, ⟨c3.ex, ?_, ?_⟩, eo3⟩
        · obtain ⟨acc, h1, h2⟩ := c3.at_
          refine ⟨acc, h1, ?_⟩
          rw [List.flatMap_append, show ([ss] : List (List Int)).flatMap (repRow C l n) = repRow C l n ss by simp]
          exact h2
        · have h1 := flat_le (repRow_len hg hn1) (pre ++ [ss])
          rw [List.length_map]
          exact h1
    · intro σ G ⟨x4, x5, x6, x7, e, cc, eo⟩
      subst e
      obtain ⟨acc, h1, h2⟩ := cc.at_
      refine ⟨_, rfl, p, rep0F C l n, acc, rfl, rfl, SqL.of h1, h2, alikeK _, sortableK _, depthK _, fun b v9 G9 Q2 _ e9 d9 k9 => ⟨v9, b, rfl, d9, k9⟩, fun G2 p2 ys f2 np2 dys => ?_⟩
      have f3 : Ex G2 (upd G2 p2 (.lst ys)) := Ex.new np2
      refine ⟨p2, ys, (repsF C l n).map encR, rfl, upd_same, DIs.ex dys f3, fun H3 k li d => hq hin H3 _ ?_ d⟩
      exact ((e1.trans cc.ex).trans f2).trans (f3.but np2 k li)
  · refine itNn hin ⟨_, rfl, .inr ⟨n, rfl, small_log ⟨by omega, by omega⟩⟩, fun d hd => hE hin _ d (e1.trans (Ex.new hd)) upd_same⟩
end
end Hg
namespace Hg
open PySem PySem.Spec PyProof.Rows L2 GxR
/-! ### positions -/
def endF (l : Lay) : Int := match l.getLast? with
  | none => 0
  | some b => b.1 + b.2
def kid1 (C : Ctr) (l : Lay) (st n : Int) : List Lay := if st + n ≤ C.size ∧ liveF l + n ≤ C.limit then [l ++ [(st, n)]] else []
def kidsAt (C : Ctr) (l : Lay) (st : Int) : List Lay := C.lengths.flatMap (kid1 C l st)
def posKids (C : Ctr) (l : Lay) : List Lay := (rangeL (endF l) C.size).flatMap (kidsAt C l)
def posStep (C : Ctr) (st : List Lay × List Lay) : List Lay × List Lay := match st.2.getLast? with
  | none => st
  | some l => (st.1 ++ [l], st.2.dropLast ++ posKids C l)
def posGo (C : Ctr) : Nat → List Lay × List Lay → List Lay × List Lay
  | 0, st => st
  | n + 1, st => posGo C n (posStep C st)
def pos0F (C : Ctr) (N : Nat) : List Lay := (posGo C N ([], [[]])).1
def leLay (a b : Lay) : Bool := leD (encL a) (encL b)
def posF (C : Ctr) (N : Nat) : List Lay := (pos0F C N).mergeSort leLay
/-- a contract of ours, and how many turns its positions take -/
structure CtrOk (C : Ctr) (N : Nat) : Prop where
  s1 : 1 ≤ C.size
  s8 : C.size ≤ 8
  n3 : C.lengths.length ≤ 3
  ln : ∀ n ∈ C.lengths, 1 ≤ n ∧ n ≤ 1000
  N9 : N ≤ 1000
  fin : (posGo C N ([], [[]])).2 = []
theorem posGo_nil {C : Ctr} {f : List Lay} : ∀ n, posGo C n (f, []) = (f, [])
  | 0 => rfl
  | n + 1 => by
    show posGo C n (posStep C (f, [])) = _
    exact posGo_nil n
theorem endF_app (l : Lay) (b : Int × Int) : endF (l ++ [b]) = b.1 + b.2 := by
  unfold endF
  rw [List.getLast?_concat]
theorem kid1_len (C : Ctr) (l : Lay) (st n : Int) : (kid1 C l st n).length ≤ 1 := by
  unfold kid1
  split <;> simp
theorem kidsAt_len {C : Ctr} {N : Nat} (h : CtrOk C N) (l : Lay) (st : Int) : (kidsAt C l st).length ≤ 3 := by
  have h1 := flat_le (kid1_len C l st) C.lengths
  have := h.n3
  unfold kidsAt
  omega
theorem kid1_mem {C : Ctr} {l m : Lay} {st n : Int} (h : m ∈ kid1 C l st n) : m = l ++ [(st, n)] ∧ st + n ≤ C.size := by
  unfold kid1 at h
  split at h
  · rename_i q
    exact ⟨List.mem_singleton.mp h, q.1⟩
  · cases h
theorem posKids_mem {C : Ctr} {N : Nat} (h : CtrOk C N) {l m : Lay} (hm : m ∈ posKids C l) (h0 : 0 ≤ endF l) : m.length = l.length + 1 ∧ 0 ≤ endF m ∧ endF m ≤ C.size := by
  obtain ⟨st, hs, h1⟩ := List.mem_flatMap.mp hm
  obtain ⟨n, hn, h2⟩ := List.mem_flatMap.mp h1
  obtain ⟨rfl, h3⟩ := kid1_mem h2
  have h4 := rangeL_mem hs
  have h5 := h.ln n hn
  rw [List.length_append, endF_app]
  refine ⟨rfl, ?_, h3⟩
  show 0 ≤ st + n
  omega
theorem posKids_len {C : Ctr} {N : Nat} (h : CtrOk C N) (l : Lay) (h0 : 0 ≤ endF l) : (posKids C l).length ≤ 24 := by
  have h1 := flat_le (kidsAt_len h l) (rangeL (endF l) C.size)
  rw [rangeL_len] at h1
  have := h.s8
  unfold posKids
  omega
structure PosSt (C : Ctr) (N m : Nat) (st : List Lay × List Lay) : Prop where
  le : m ≤ N
  go : posGo C m st = posGo C N ([], [[]])
  f : st.1.length ≤ N - m
  g : st.2.length ≤ 1 + 24 * (N - m)
  each : ∀ l ∈ st.2, l.length ≤ N - m ∧ 0 ≤ endF l ∧ endF l ≤ C.size
theorem PosSt.start {C : Ctr} {N : Nat} (h : CtrOk C N) : PosSt C N N ([], [[]]) :=
  ⟨Nat.le_refl _, rfl, Nat.zero_le _, by show 1 ≤ _; omega, fun l hl => by
    rw [List.mem_singleton.mp hl]
    exact ⟨Nat.zero_le _, Int.le_refl _, by have := h.s1; show (0 : Int) ≤ C.size; omega⟩⟩
theorem PosSt.pos {C : Ctr} {N m : Nat} {st : List Lay × List Lay} (h : CtrOk C N) (p : PosSt C N m st) {l : Lay} (hl : st.2.getLast? = some l) : 0 < m := by
  cases m with
  | zero =>
    have h1 := p.go
    have h2 := h.fin
    rw [← h1] at h2
    have h3 : st.2 = [] := h2
    rw [h3] at hl
    cases hl
  | succ m => exact Nat.succ_pos _
theorem PosSt.next {C : Ctr} {N m : Nat} {st : List Lay × List Lay} (h : CtrOk C N) (p : PosSt C N (m + 1) st) {l : Lay} (hl : st.2.getLast? = some l) : PosSt C N m (st.1 ++ [l], st.2.dropLast ++ posKids C l) := by
  have hlm : l ∈ st.2 := List.mem_of_getLast? hl
  obtain ⟨e1, e2, e3⟩ := p.each l hlm
  have hle := p.le
  refine ⟨by omega, ?_, ?_, ?_, fun x hx => ?_⟩
  · rw [← p.go]
    show _ = posGo C m (posStep C st)
    unfold posStep
    rw [hl]
  · have := p.f
    show (st.1 ++ [l]).length ≤ _
    rw [List.length_append]
    show _ + 1 ≤ _
    omega
  · have h1 := p.g
    have h2 := posKids_len h l e2
    have h3 : 0 < st.2.length := List.length_pos_of_mem hlm
    show (st.2.dropLast ++ posKids C l).length ≤ _
    rw [List.length_append, List.length_dropLast]
    omega
  · (rcases List.mem_append.mp hx with hx | hx)
    · have := p.each x (List.dropLast_subset _ hx)
      exact ⟨by omega, this.2⟩
    · have := posKids_mem h hx e2
      exact ⟨by omega, this.2⟩
theorem encL_alike : ∀ l m : Lay, PySem.W.alikeAll (l.map encP) (m.map encP) = true
  | [], _ => by simp [PySem.W.alikeAll]
  | _ :: _, [] => by simp [PySem.W.alikeAll]
  | _ :: l, _ :: m => by simp [encP, PySem.W.alikeAll, PySem.W.alike, encL_alike l m]
theorem alikeLs (ls : List Lay) : PySem.W.AllAlike (ls.map encL) := by
  intro d hd d' hd'
  obtain ⟨p, _, rfl⟩ := List.mem_map.mp hd
  obtain ⟨q, _, rfl⟩ := List.mem_map.mp hd'
  simp [encL, PySem.W.alike, encL_alike]
theorem sortableLs (ls : List Lay) : PySem.W.Sortable (ls.map encL) := .inr fun d hd => by
  obtain ⟨p, _, rfl⟩ := List.mem_map.mp hd
  exact ⟨fun z => (by cases z), fun _ z => (by cases z)⟩
theorem depthAllP : ∀ l : Lay, PyData.depthAll (l.map encP) ≤ 4
  | [] => by (simp [PyData.depthAll])
  | b :: l => by
    have h1 := depthAllP l
    have h2 := encP_depth b
    (simp only [List.map_cons, PyData.depthAll])
    omega
theorem depthLs (ls : List Lay) : ∀ d ∈ ls.map encL, d.depth ≤ 60 := fun d hd => by
  obtain ⟨p, _, rfl⟩ := List.mem_map.mp hd
  have := depthAllP p
  simp only [encL, PyData.depth]
  omega
section
variable {P : Program} {w : World} {K : PySem.W.Frag} {mg : Str → Option Value} {base : Heap}
theorem hc_ne {H : Hp} {c pg : Addr} {C : Ctr} (n : H pg = none) (h : CtrAt K H c C) : c ≠ pg := fun z => by
  obtain ⟨_, _, h1, _⟩ := h.ins
  rw [z, n] at h1
  cases h1
def spPos (K : PySem.W.Frag) : Sp := fun vs H Q _ => ∃ (c : Addr) (C : Ctr) (N : Nat), vs = [.ref c] ∧ CtrAt K H c C ∧ CtrOk C N ∧ ∀ H' u, Ex H H' → DI K H' u (.list ((posF C N).map encL)) → Q u H'
abbrev N_pos : List Str := ["contract", "found", "grown", "layout", "begin", "start", "length"]
theorem sc_pos : FnScope N_pos ["contract"] (defScope s_positions) := ⟨rfl, rfl, rfl, by decide +kernel, rfl, by decide +kernel, by decide +kernel⟩
theorem w_pos (T : Txt P K mg) : Cl P w K mg base 2 "positions" (spPos K) := by
  have nd := sc_pos.nd
  have c1 := w_live (w := w) (base := base) T
  refine cl_of T (fn_mem 11 rfl) (by decide +kernel) sc_pos (b1 fun _ _ _ _ _ _ _ => rfl) (fun vs H Q E ⟨_, _, _, e, _⟩ => by rw [e]; rfl) fun cdv A outer s H vs Q E hr ⟨c, C, N, e, hc, hok, hq⟩ => ?_
  subst e
  refine ⟨_, (pss_cons (ps_set (i := 1) nd rfl (.inl rfl) (pe_lst pa_nil)) (pss_cons (ps_set (i := 2) nd rfl (.inl rfl) (pe_lst (pa_cons (pe_frz (pe_lst pa_nil)) pa_nil))) (pss_cons (ps_while ps0 (pt_truth (pv 2) (by intro _; rfl)) (pss_cons (ps_set (i := 3) nd rfl (.inl rfl) (pe_bm0 PySem.F.plainAttrs_list PySem.F.slot_list_pop PySem.F.type_list_pop mt_pop (pv 2))) (pss_cons (ps_expr (pe_bm PySem.F.plainAttrs_list PySem.F.slot_list_append PySem.F.type_list_append mt_append (pv 1) (pa_cons (pv 3) pa_nil))) (pss_cons (ps_set (i := 4) nd rfl (.inl rfl) pe_int) (pss_cons (ps_if (pt_truth (pv 3) (by intro _; rfl)) (pss_one (ps_set (i := 4) nd rfl (.inl rfl) (pe_op op_add (pe_ix ix_tup (pe_ix ix_list (pv 3) (pe_un un_neg pe_int) (fun _ _ => rfl)) pe_int (fun _ _ => rfl)) (pe_ix ix_tup (pe_ix ix_list (pv 3) (pe_un un_neg pe_int) (fun _ _ => rfl)) pe_int (fun _ _ => rfl))))) pss_nil) (pss_one (ps_for ps0 rfl (pi_range2 (by rfl) (T.n "range") (pa_cons (pv 4) (pa_cons (pe_fld (pv 0) rfl) pa_nil))) (pg_name (i := 5) nd rfl (.inl rfl)) (pss_one (ps_for ps0 rfl (pi_list (pe_fld (pv 0) rfl)) (pg_name (i := 6) nd rfl (.inl rfl)) (pss_one (ps_if (PW.pt (pw_and (pt_cmpR op_le (pe_op op_add (pv 5) (pv 6)) (pe_fld (pv 0) rfl) (nomark _)) (pw_and1 (pt_cmpR op_le (pe_op op_add (pe_cl c1 hr takes0 (pa_cons (pv 3) pa_nil)) (pv 6)) (pe_fld (pv 0) rfl) (nomark _))))) (pss_one (ps_expr (pe_bm PySem.F.plainAttrs_list PySem.F.slot_list_append PySem.F.type_list_append mt_append (pv 2) (pa_cons (pe_frz (pe_op op_catR (pv 3) (pe_lst (pa_cons (pe_tup (pa_cons (pv 5) (pa_cons (pv 6) pa_nil))) pa_nil)))) pa_nil)))) pss_nil))))))))))) (pss_one (ps_ret (pe_frz (pe_callB (cr_sortD hr) (by rfl) (T.n "sorted") (by decide +kernel) (pa_cons (pv 1) pa_nil)))))))), ?_⟩
  refine ⟨Nat.zero_le _, fun pf npf => ⟨Nat.zero_le _, fun p1 np1 => ⟨p1, [], [], rfl, upd_same, .nil, fun G1 k1 l1 d1 => ⟨sz1, fun pg npg => ?_⟩⟩⟩⟩
  have f1 : Ex (upd H pf (.lst [])) G1 := (Ex.new (o := .lst []) np1).but np1 k1 l1
  have e1 : Ex H G1 := (Ex.new npf).trans f1
  have npgH : H pg = none := e1.gone npg
  have hpf1 : G1 pf = some (.lst []) := f1.at upd_same
  have nfg : pf ≠ pg := fun z => by rw [← z, hpf1] at npg; cases npg
  have e0 : Ex H (upd G1 pg (.lst [.ref p1])) := e1.trans (Ex.new npg)
  refine ⟨fun m σ G => ∃ (st : List Lay × List Lay) (fs gs : List V) (x3 x4 x5 x6 : Option V), σ = [some (.ref c), some (.ref pf), some (.ref pg), x3, x4, x5, x6] ∧ Ex H G ∧ G pf = some (.lst fs) ∧ DIs K G fs (st.1.map encL) ∧ G pg = some (.lst gs) ∧ DIs K G gs (st.2.map encL) ∧ PosSt C N m st, ⟨N, ([], [[]]), [], [.ref p1], _, _, _, _, rfl, e0, by rw [upd_ne nfg]; exact hpf1, .nil, upd_same, .cons (DI.ex d1 (Ex.new (F := NoF) npg)) .nil, PosSt.start hok⟩, ?_⟩
  rintro m σ G ⟨st, fs, gs, x3, x4, x5, x6, e, eG, hf, df, hg, dg, hst⟩
  subst e
  have N9 := hok.N9
  refine ⟨_, rfl, _, .inl ⟨_, SqL.of hg, rfl⟩, ?_⟩
  cases hla : st.2.getLast? with
  | none =>
    have h2 : st.2 = [] := List.getLast?_eq_none_iff.mp hla
    have hgs : gs = [] := by
      rw [h2] at dg
      cases dg
      rfl
    have h1 : pos0F C N = st.1 := by
      unfold pos0F
      rw [← hst.go, show st = (st.1, []) by rw [← h2], posGo_nil]
    rw [hgs]
    refine iteF ⟨_, rfl, pf, fs, st.1.map encL, rfl, SqL.of hf, df, alikeLs _, sortableLs _, depthLs _, fun q ys nq dys => ?_⟩
    rw [sort_enc] at dys
    refine ⟨q, ys, (posF C N).map encL, rfl, upd_same, ?_, fun H2 k li d => hq H2 _ (eG.trans ((Ex.new (o := .lst ys) nq).but nq k li)) d⟩
    unfold posF
    rw [h1]
    exact DIs.ex dys (Ex.new (F := NoF) nq)
  | some l =>
    have hm := hst.pos hok hla
    obtain ⟨m', rfl⟩ : ∃ m', m = m' + 1 := ⟨m - 1, by omega⟩
    have hnx := hst.next hok hla
    obtain ⟨hl1, hl2, hl3⟩ := hst.each l (List.mem_of_getLast? hla)
    have hdl : st.2 = st.2.dropLast ++ [l] := by
      rcases List.eq_nil_or_concat st.2 with h9 | ⟨l9, b9, h9⟩
      · rw [h9] at hla; cases hla
      · rw [List.concat_eq_append] at h9
        rw [h9, List.getLast?_concat] at hla
        cases hla
        rw [h9, List.dropLast_concat]
    have dg2 : DIs K G gs (st.2.dropLast.map encL ++ [encL l]) := by
      have h9 := dg
      rw [hdl, List.map_append] at h9
      simpa using h9
    obtain ⟨g1, g2, hgs, dg1, dgl⟩ := DpAll.split dg2
    cases dgl with
    | cons dlv dnil =>
    rename_i lv g3
    cases dnil
    subst hgs
    obtain ⟨la, lxs, rfl, hls, hld⟩ := DI.lst_inv dlv
    have hne : (!(g1 ++ [V.ref la]).isEmpty) = true := by simp
    rw [hne]
    refine iteT ⟨_, fun σ' H' h => h, ?_⟩
    refine ⟨_, rfl, .inl ⟨rfl, _, SqL.of hg⟩, pg, _, _, rfl, rfl, hg, (by simp : (g1 ++ [V.ref la])[(g1 ++ [V.ref la]).length - 1]? = some (.ref la)), ?_⟩
    rw [List.dropLast_concat]
    have hf2 : (upd G pg (.lst g1)) pf = some (.lst fs) := by rw [upd_ne nfg]; exact hf
    have hfl : fs.length ≤ 1000 := by
      rw [DpAll.length df, List.length_map]
      have := hst.f
      omega
    have hgl : g1.length ≤ 25000 := by
      rw [DpAll.length dg1, List.length_map, List.length_dropLast]
      have := hst.g
      omega
    refine ⟨_, rfl, .inl ⟨rfl, _, SqL.of hf2⟩, _, rfl, pf, _, _, rfl, rfl, hf2, ltL (m := 100000) (by omega) (by decide), ?_⟩
    have eU : ExF (fun b => b = pf ∨ b = pg) G (upd (upd G pg (.lst g1)) pf (.lst (fs ++ [.ref la]))) := ((ExF.refl _ G).upd (.inr ⟨.inr rfl, _, hg, rfl, rfl⟩)).upd (.inr ⟨.inl rfl, _, hf, rfl, rfl⟩)
    have eG2 : Ex H (upd (upd G pg (.lst g1)) pf (.lst (fs ++ [.ref la]))) := (eG.updN npgH).updN npf
    have hpg2 : (upd (upd G pg (.lst g1)) pf (.lst (fs ++ [.ref la]))) pg = some (.lst g1) := by rw [upd_ne nfg.symm, upd_same]
    have hpf2 : (upd (upd G pg (.lst g1)) pf (.lst (fs ++ [.ref la]))) pf = some (.lst (fs ++ [.ref la])) := upd_same
    have dl2 : DI K (upd (upd G pg (.lst g1)) pf (.lst (fs ++ [.ref la]))) (.ref la) (encL l) := DI.ex dlv eU
    have dg1' := DIs.ex dg1 eU
    have df2 : DIs K (upd (upd G pg (.lst g1)) pf (.lst (fs ++ [.ref la]))) (fs ++ [.ref la]) ((st.1 ++ [l]).map encL) := by
      rw [List.map_append]
      exact DpAll.append (DIs.ex df eU) (.cons dl2 .nil)
    generalize upd (upd G pg (.lst g1)) pf (.lst (fs ++ [.ref la])) = G2 at eU eG2 hpg2 hpf2 dl2 dg1' df2 ⊢
    have hls2' := SqL.le (fun b o h => eU.immI h) hls
    have hls2 := SqL.le (leI G2) hls2'
    have hldG2 : DIs K G2 lxs (l.map encP) := DIs.ex hld eU
    refine ⟨_, rfl, _, .inl ⟨_, hls2, rfl⟩, ?_⟩
    have hs1 := hok.s1
    have hs8 := hok.s8
    rcases List.eq_nil_or_concat l with hl0 | ⟨l', b, hl0⟩
    · have hx0 : lxs = [] := by
        rw [hl0] at hld
        cases hld
        rfl
      have hz : (0 : Int) = endF l := by rw [hl0]; rfl
      rw [hx0]
      refine iteF ?_
      obtain ⟨dx, lv9, hi, dlv9⟩ := (hc.ex eG2).ins
      obtain ⟨na, rfl, hns⟩ := dlv9.ints_sq
      refine ⟨_, rfl, _, rfl, c, _, _, _, _, rfl, hi, T.cls "Contract", T.noat "Contract" "size", rfl, 0, C.size, rfl, ⟨by omega, by omega, by omega, by omega⟩, ?_⟩
      refine for_r (lo := 0) (hi := C.size) rfl (fun pre σ G3 => ∃ (gs3 : List V) (x5 x6 : Option V), σ = [some (.ref c), some (.ref pf), some (.ref pg), some (.ref la), some (.int (0)), x5, x6] ∧ ExF (Only pg) G2 G3 ∧ Ex H G3 ∧ G3 pg = some (.lst gs3) ∧ DIs K G3 gs3 ((st.2.dropLast ++ pre.flatMap (kidsAt C l)).map encL)) ?_ ?_ ?_
      · refine ⟨g1, _, _, rfl, ExF.refl _ _, eG2, hpg2, ?_⟩
        rw [List.flatMap_nil, List.append_nil]
        exact dg1'
      · intro pre s0 post σ G3 el ⟨gs3, x5, x6, e, eo, eH, hg3, dg3⟩
        subst e
        have hpre : pre.length < 8 := by
          have := (rangeL_at el).2
          omega
        have hc3 := hc.ex eH
        refine ⟨_, rfl, c, _, _, _, _, rfl, eo.at hi (fun z => hc_ne npgH hc z), T.cls "Contract", T.noat "Contract" "lengths", rfl, na, rfl, ⟨_, SqL.le (Le.of eo) hns⟩, ?_⟩
        refine for_d (l := C.lengths) (enc := PyData.int) (DI.ex dlv9 eo) (fun pre4 σ G4 => ∃ (gs4 : List V) (x6 : Option V), σ = [some (.ref c), some (.ref pf), some (.ref pg), some (.ref la), some (.int (0)), some (.int s0), x6] ∧ ExF (Only pg) G3 G4 ∧ Ex H G4 ∧ G4 pg = some (.lst gs4) ∧ DIs K G4 gs4 ((st.2.dropLast ++ pre.flatMap (kidsAt C l) ++ pre4.flatMap (kid1 C l s0)).map encL)) ?_ ?_ ?_ ?_
        · refine ⟨gs3, _, rfl, ExF.refl _ _, eH, hg3, ?_⟩
          rw [List.flatMap_nil, List.append_nil]
          exact dg3
        · intro pre4 σ G4 ⟨_, _, _, e, _⟩
          exact Le.of e
        · intro pre4 n post4 nv σ G4 el4 ⟨gs4, x6, e, eo4, eH4, hg4, dg4⟩ hnv
          subst e
          cases hnv
          have hp4 : pre4.length ≤ 3 := by
            have := hok.n3
            rw [el4, List.length_append, List.length_cons] at this
            omega
          have hg4l : gs4.length ≤ 50000 := by
            rw [DpAll.length dg4, List.length_map, List.length_append, List.length_append]
            have h1 := flat_le (kidsAt_len hok l) pre
            have h2 := flat_le (kid1_len C l s0) pre4
            have h3 := hst.g
            rw [List.length_dropLast]
            omega
          have eo24 := eo.trans eo4
          have dl4 : DI K G4 (.ref la) (encL l) := DI.ex dl2 eo24
          have hi4 := eo24.at hi (fun z => hc_ne npgH hc z)
          have csk : ∀ y, y = kid1 C l s0 n → (st.2.dropLast ++ pre.flatMap (kidsAt C l) ++ (pre4 ++ [n]).flatMap (kid1 C l s0)).map encL = (st.2.dropLast ++ pre.flatMap (kidsAt C l) ++ pre4.flatMap (kid1 C l s0)).map encL ++ y.map encL := fun y hy => by
            rw [hy, List.flatMap_append, ← List.append_assoc, List.map_append]
            simp
          have no : kid1 C l s0 n = [] → DIs K G4 gs4 ((st.2.dropLast ++ pre.flatMap (kidsAt C l) ++ (pre4 ++ [n]).flatMap (kid1 C l s0)).map encL) := fun h9 => by
            rw [csk [] h9.symm, List.map_nil, List.append_nil]
            exact dg4
          refine ⟨_, rfl, _, rfl, _, _, rfl, rfl, _, rfl, c, _, _, _, _, rfl, hi4, T.cls "Contract", T.noat "Contract" "size", rfl, _, _, rfl, rfl, _, rfl, iteD (fun h => ?_) fun h => ?_⟩
          · refine ⟨_, rfl, l, _, rfl, dl4, by omega, fun G5 f5 => ⟨_, rfl, _, _, rfl, rfl, _, rfl, c, _, _, _, _, rfl, f5.at hi4, T.cls "Contract", T.noat "Contract" "limit", rfl, _, _, rfl, rfl, _, rfl, iteD (fun h2 => ?_) fun h2 => ?_⟩⟩
            · have hk : kid1 C l s0 n = [l ++ [(s0, n)]] := by unfold kid1; rw [if_pos ⟨h, h2⟩]
              have hg5 := f5.at hg4
              have hls5 := SqL.le (fun b o h => (eo24.trans f5.of).immI h) hls2'
              refine ⟨_, rfl, .inl ⟨rfl, _, SqL.of hg5⟩, _, rfl, _, rfl, _, rfl, sz2, fun t nt => ⟨sz1, fun b5 nb5 => ?_⟩⟩
              have q1 : Ex G5 (upd G5 t (.tup [.int s0, .int n])) := Ex.new nt
              have q2 := q1.trans (Ex.new (o := .lst [.ref t]) nb5)
              have hll : lxs.length ≤ 1000 := by rw [DpAll.length hld, List.length_map]; omega
              refine ⟨la, b5, lxs, [.ref t], rfl, rfl, SqL.le (fun b o h => q2.imm b o h) hls5, SqL.of upd_same, leL (m := 2000) (by show _ + 1 ≤ 2000; omega) (by decide), fun r nr => ?_⟩
              have q3 := q2.trans (Ex.new (o := .lst (lxs ++ [.ref t])) nr)
              have dt : DI K (upd (upd (upd G5 t (.tup [.int s0, .int n])) b5 (.lst [.ref t])) r (.lst (lxs ++ [.ref t]))) (.ref t) (encP (s0, n)) := DI.ex (DI.ex (DI.pairOf upd_same) (Ex.new (F := NoF) nb5)) (Ex.new (F := NoF) nr)
              refine ⟨r, lxs ++ [.ref t], (l ++ [(s0, n)]).map encP, rfl, upd_same, ?_, fun G6 k6 l6 d6 => ?_⟩
              · rw [List.map_append]
                exact DpAll.append (DIs.ex hldG2 ((eo24.trans f5.of).trans q3.of)) (.cons dt .nil)
              · have q4 : Ex G5 G6 := q3.but (q2.gone nr) k6 l6
                have hg6 := q4.at hg5
                have f6 : Ex G4 G6 := f5.trans q4
                refine ⟨pg, _, _, rfl, rfl, hg6, ltL (m := 100000) (by omega) (by decide), _, _, rfl, ((eo4.trans f6.of).upd (.inr ⟨rfl, _, hg3, rfl, rfl⟩)), (eH4.trans f6).updN npgH, upd_same, ?_⟩
                rw [csk _ hk.symm]
                exact DIs.updL (DpAll.append (DIs.ex dg4 f6) (.cons d6 .nil)) hg6
            · have hk : kid1 C l s0 n = [] := by unfold kid1; rw [if_neg (fun z => h2 z.2)]
              exact ⟨gs4, _, rfl, eo4.trans f5.of, eH4.trans f5, f5.at hg4, DIs.ex (no hk) f5⟩
          · have hk : kid1 C l s0 n = [] := by unfold kid1; rw [if_neg (fun z => h z.1)]
            exact ⟨gs4, _, rfl, eo4, eH4, hg4, no hk⟩
        · intro σ G4 ⟨gs4, x6, e, eo4, eH4, hg4, dg4⟩
          subst e
          refine ⟨gs4, _, _, rfl, eo.trans eo4, eH4, hg4, ?_⟩
          rw [List.flatMap_append, show ([s0] : List Int).flatMap (kidsAt C l) = kidsAt C l s0 by simp, ← List.append_assoc]
          exact dg4
      · intro σ G3 ⟨gs3, x5, x6, e, eo, eH, hg3, dg3⟩
        subst e
        refine ⟨m', Nat.lt_succ_self _, (st.1 ++ [l], st.2.dropLast ++ posKids C l), fs ++ [.ref la], gs3, _, _, _, _, rfl, eH, eo.at hpf2 nfg, DIs.ex df2 eo, hg3, ?_, hnx⟩
        have hpk : posKids C l = (rangeL (0) C.size).flatMap (kidsAt C l) := by unfold posKids; rw [hz]
        rw [hpk]
        exact dg3
    · rw [List.concat_eq_append] at hl0
      have hld2 : DIs K G lxs (l'.map encP ++ [encP b]) := by
        have h9 := hld
        rw [hl0, List.map_append] at h9
        simpa using h9
      obtain ⟨y1, y2, hy, _, hyb⟩ := DpAll.split hld2
      cases hyb with
      | cons hb hnil =>
      rename_i bv y3
      cases hnil
      obtain ⟨ab, rfl, hsb⟩ := DI.pair_inv hb
      have hsb2 := SqT.le (fun b o h => eU.imm b o h) hsb
      have hat : atI lxs (-1) = some (.ref ab) := by
        rw [hy]
        exact atI_last _ _
      have hne2 : (!lxs.isEmpty) = true := by rw [hy]; simp
      have hz : b.1 + b.2 = endF l := by rw [hl0, endF_app]
      rw [hne2]
      refine iteT ⟨_, rfl, 1, rfl, la, _, _, .ref ab, rfl, rfl, hls2, hat, ab, _, 0, .int b.1, rfl, rfl, hsb2, atI_nat (j := 0) rfl, _, rfl, 1, rfl, la, _, _, .ref ab, rfl, rfl, hls2, hat, ab, _, 1, .int b.2, rfl, rfl, hsb2, atI_nat (j := 1) rfl, _, _, rfl, rfl, ?_⟩
      obtain ⟨dx, lv9, hi, dlv9⟩ := (hc.ex eG2).ins
      obtain ⟨na, rfl, hns⟩ := dlv9.ints_sq
      refine ⟨_, rfl, _, rfl, c, _, _, _, _, rfl, hi, T.cls "Contract", T.noat "Contract" "size", rfl, b.1 + b.2, C.size, rfl, ⟨by omega, by omega, by omega, by omega⟩, ?_⟩
      refine for_r (lo := b.1 + b.2) (hi := C.size) rfl (fun pre σ G3 => ∃ (gs3 : List V) (x5 x6 : Option V), σ = [some (.ref c), some (.ref pf), some (.ref pg), some (.ref la), some (.int (b.1 + b.2)), x5, x6] ∧ ExF (Only pg) G2 G3 ∧ Ex H G3 ∧ G3 pg = some (.lst gs3) ∧ DIs K G3 gs3 ((st.2.dropLast ++ pre.flatMap (kidsAt C l)).map encL)) ?_ ?_ ?_
      · refine ⟨g1, _, _, rfl, ExF.refl _ _, eG2, hpg2, ?_⟩
        rw [List.flatMap_nil, List.append_nil]
        exact dg1'
      · intro pre s0 post σ G3 el ⟨gs3, x5, x6, e, eo, eH, hg3, dg3⟩
        subst e
        have hpre : pre.length < 8 := by
          have := (rangeL_at el).2
          omega
        have hc3 := hc.ex eH
        refine ⟨_, rfl, c, _, _, _, _, rfl, eo.at hi (fun z => hc_ne npgH hc z), T.cls "Contract", T.noat "Contract" "lengths", rfl, na, rfl, ⟨_, SqL.le (Le.of eo) hns⟩, ?_⟩
        refine for_d (l := C.lengths) (enc := PyData.int) (DI.ex dlv9 eo) (fun pre4 σ G4 => ∃ (gs4 : List V) (x6 : Option V), σ = [some (.ref c), some (.ref pf), some (.ref pg), some (.ref la), some (.int (b.1 + b.2)), some (.int s0), x6] ∧ ExF (Only pg) G3 G4 ∧ Ex H G4 ∧ G4 pg = some (.lst gs4) ∧ DIs K G4 gs4 ((st.2.dropLast ++ pre.flatMap (kidsAt C l) ++ pre4.flatMap (kid1 C l s0)).map encL)) ?_ ?_ ?_ ?_
        · refine ⟨gs3, _, rfl, ExF.refl _ _, eH, hg3, ?_⟩
          rw [List.flatMap_nil, List.append_nil]
          exact dg3
        · intro pre4 σ G4 ⟨_, _, _, e, _⟩
          exact Le.of e
        · intro pre4 n post4 nv σ G4 el4 ⟨gs4, x6, e, eo4, eH4, hg4, dg4⟩ hnv
          subst e
          cases hnv
          have hp4 : pre4.length ≤ 3 := by
            have := hok.n3
            rw [el4, List.length_append, List.length_cons] at this
            omega
          have hg4l : gs4.length ≤ 50000 := by
            rw [DpAll.length dg4, List.length_map, List.length_append, List.length_append]
            have h1 := flat_le (kidsAt_len hok l) pre
            have h2 := flat_le (kid1_len C l s0) pre4
            have h3 := hst.g
            rw [List.length_dropLast]
            omega
          have eo24 := eo.trans eo4
          have dl4 : DI K G4 (.ref la) (encL l) := DI.ex dl2 eo24
          have hi4 := eo24.at hi (fun z => hc_ne npgH hc z)
          have csk : ∀ y, y = kid1 C l s0 n → (st.2.dropLast ++ pre.flatMap (kidsAt C l) ++ (pre4 ++ [n]).flatMap (kid1 C l s0)).map encL = (st.2.dropLast ++ pre.flatMap (kidsAt C l) ++ pre4.flatMap (kid1 C l s0)).map encL ++ y.map encL := fun y hy => by
            rw [hy, List.flatMap_append, ← List.append_assoc, List.map_append]
            simp
          have no : kid1 C l s0 n = [] → DIs K G4 gs4 ((st.2.dropLast ++ pre.flatMap (kidsAt C l) ++ (pre4 ++ [n]).flatMap (kid1 C l s0)).map encL) := fun h9 => by
            rw [csk [] h9.symm, List.map_nil, List.append_nil]
            exact dg4
          refine ⟨_, rfl, _, rfl, _, _, rfl, rfl, _, rfl, c, _, _, _, _, rfl, hi4, T.cls "Contract", T.noat "Contract" "size", rfl, _, _, rfl, rfl, _, rfl, iteD (fun h => ?_) fun h => ?_⟩
          · refine ⟨_, rfl, l, _, rfl, dl4, by omega, fun G5 f5 => ⟨_, rfl, _, _, rfl, rfl, _, rfl, c, _, _, _, _, rfl, f5.at hi4, T.cls "Contract", T.noat "Contract" "limit", rfl, _, _, rfl, rfl, _, rfl, iteD (fun h2 => ?_) fun h2 => ?_⟩⟩
            · have hk : kid1 C l s0 n = [l ++ [(s0, n)]] := by unfold kid1; rw [if_pos ⟨h, h2⟩]
              have hg5 := f5.at hg4
              have hls5 := SqL.le (fun b o h => (eo24.trans f5.of).immI h) hls2'
              refine ⟨_, rfl, .inl ⟨rfl, _, SqL.of hg5⟩, _, rfl, _, rfl, _, rfl, sz2, fun t nt => ⟨sz1, fun b5 nb5 => ?_⟩⟩
              have q1 : Ex G5 (upd G5 t (.tup [.int s0, .int n])) := Ex.new nt
              have q2 := q1.trans (Ex.new (o := .lst [.ref t]) nb5)
              have hll : lxs.length ≤ 1000 := by rw [DpAll.length hld, List.length_map]; omega
              refine ⟨la, b5, lxs, [.ref t], rfl, rfl, SqL.le (fun b o h => q2.imm b o h) hls5, SqL.of upd_same, leL (m := 2000) (by show _ + 1 ≤ 2000; omega) (by decide), fun r nr => ?_⟩
              have q3 := q2.trans (Ex.new (o := .lst (lxs ++ [.ref t])) nr)
              have dt : DI K (upd (upd (upd G5 t (.tup [.int s0, .int n])) b5 (.lst [.ref t])) r (.lst (lxs ++ [.ref t]))) (.ref t) (encP (s0, n)) := DI.ex (DI.ex (DI.pairOf upd_same) (Ex.new (F := NoF) nb5)) (Ex.new (F := NoF) nr)
              refine ⟨r, lxs ++ [.ref t], (l ++ [(s0, n)]).map encP, rfl, upd_same, ?_, fun G6 k6 l6 d6 => ?_⟩
              · rw [List.map_append]
                exact DpAll.append (DIs.ex hldG2 ((eo24.trans f5.of).trans q3.of)) (.cons dt .nil)
              · have q4 : Ex G5 G6 := q3.but (q2.gone nr) k6 l6
                have hg6 := q4.at hg5
                have f6 : Ex G4 G6 := f5.trans q4
                refine ⟨pg, _, _, rfl, rfl, hg6, ltL (m := 100000) (by omega) (by decide), _, _, rfl, ((eo4.trans f6.of).upd (.inr ⟨rfl, _, hg3, rfl, rfl⟩)), (eH4.trans f6).updN npgH, upd_same, ?_⟩
                rw [csk _ hk.symm]
                exact DIs.updL (DpAll.append (DIs.ex dg4 f6) (.cons d6 .nil)) hg6
            · have hk : kid1 C l s0 n = [] := by unfold kid1; rw [if_neg (fun z => h2 z.2)]
              exact ⟨gs4, _, rfl, eo4.trans f5.of, eH4.trans f5, f5.at hg4, DIs.ex (no hk) f5⟩
          · have hk : kid1 C l s0 n = [] := by unfold kid1; rw [if_neg (fun z => h z.1)]
            exact ⟨gs4, _, rfl, eo4, eH4, hg4, no hk⟩
        · intro σ G4 ⟨gs4, x6, e, eo4, eH4, hg4, dg4⟩
          subst e
          refine ⟨gs4, _, _, rfl, eo.trans eo4, eH4, hg4, ?_⟩
          rw [List.flatMap_append, show ([s0] : List Int).flatMap (kidsAt C l) = kidsAt C l s0 by simp, ← List.append_assoc]
          exact dg4
      · intro σ G3 ⟨gs3, x5, x6, e, eo, eH, hg3, dg3⟩
        subst e
        refine ⟨m', Nat.lt_succ_self _, (st.1 ++ [l], st.2.dropLast ++ posKids C l), fs ++ [.ref la], gs3, _, _, _, _, rfl, eH, eo.at hpf2 nfg, DIs.ex df2 eo, hg3, ?_, hnx⟩
        have hpk : posKids C l = (rangeL (b.1 + b.2) C.size).flatMap (kidsAt C l) := by unfold posKids; rw [hz]
        rw [hpk]
        exact dg3
end
end Hg
namespace Hg
open PySem PySem.Spec PyProof.Rows L2
/-! ### dicts whose keys are layouts as tuples -/
def keyN (l : Lay) : NestedKey := .tup (l.map fun b => .tup [.num b.1, .num b.2])
theorem keyN_inj : ∀ {l m : Lay}, keyN l = keyN m → l = m := by
  intro l m h
  have h1 : (l.map fun b : Int × Int => NestedKey.tup [.num b.1, .num b.2]) = m.map fun b : Int × Int => NestedKey.tup [.num b.1, .num b.2] := NestedKey.tup.inj h
  clear h
  induction l generalizing m with
  | nil =>
    cases m with
    | nil => rfl
    | cons _ _ => cases h1
  | cons b l ih =>
    cases m with
    | nil => cases h1
    | cons c m =>
      simp only [List.map_cons, List.cons.injEq] at h1
      obtain ⟨h2, h3⟩ := h1
      have h4 := NestedKey.tup.inj h2
      simp only [List.cons.injEq, NestedKey.num.injEq, and_true] at h4
      rw [ih h3, Prod.ext_iff.mpr h4]
def tupL (l : Lay) : PyData := .tuple (l.map encP)
abbrev Ent : Type := NestedKey × Addr × Value
def LdRaw (P : Program) (w : World) (d : Addr) (xs : List Ent) (h : Heap) : Prop := (d == sysModules) = false ∧ xs.length ≤ sizeLine ∧ ∃ (o : Obj) (es : Array DictEntry) (ep : Nat), h.get? d = some o ∧ o.ExactDict ∧ o.data = .dict es ep ∧ es.toList = xs.map (entryOfKey (nestedKind P w)) ∧ (xs.map (·.1)).Nodup
def ldO (P : Program) (w : World) (d : Addr) (xs : List Ent) : HO := .ext (LdRaw P w d xs)
abbrev Ents (K : PySem.W.Frag) (H : Hp) : List (Lay × V) → List Ent → Prop := Paired fun (p : Lay × V) (q : Ent) => q.1 = keyN p.1 ∧ DI K H (.ref q.2.1) (tupL p.1) ∧ RelV p.2 q.2.2
/-- the dict at d may be changed; may be read -/
def LdAt (P : Program) (w : World) (K : PySem.W.Frag) (H : Hp) (d : Addr) (kvs : List (Lay × V)) : Prop := ∃ xs, H d = some (ldO P w d xs) ∧ Ents K H kvs xs
def LdRd (P : Program) (w : World) (K : PySem.W.Frag) (H : Hp) (d : Addr) (kvs : List (Lay × V)) : Prop := ∃ xs, Rd H d (ldO P w d xs) ∧ Ents K H kvs xs
def lookL (kvs : List (Lay × V)) (l : Lay) : Option V := (kvs.find? fun p => decide (p.1 = l)).map (·.2)
def putLd (kvs : List (Lay × V)) (l : Lay) (v : V) : List (Lay × V) := if (lookL kvs l).isSome = true then kvs.map fun p => if p.1 = l then (p.1, v) else p else kvs ++ [(l, v)]
theorem putLd_len (kvs : List (Lay × V)) (l : Lay) (v : V) : (putLd kvs l v).length ≤ kvs.length + 1 := by
  unfold putLd
  split
  · rw [List.length_map]
    exact Nat.le_succ _
  · rw [List.length_append]
    exact Nat.le_refl _
section
variable {P : Program} {w : World} {K : PySem.W.Frag} {F : Addr → Prop} {H H' : Hp} {d b : Addr} {kvs : List (Lay × V)} {xs : List Ent} {l : Lay}
theorem Ents.ex (h : Ents K H kvs xs) (e : ExF F H H') : Ents K H' kvs xs := Paired.mapP h fun _ _ q => ⟨q.1, DI.ex q.2.1 e, q.2.2⟩
theorem LdAt.frame (h : LdAt P w K H d kvs) (e : ExF F H H') (hF : ¬ F d) : LdAt P w K H' d kvs := by
  obtain ⟨xs, h1, h2⟩ := h
  exact ⟨xs, e.at h1 hF, Ents.ex h2 e⟩
theorem LdAt.ex (h : LdAt P w K H d kvs) (e : Ex H H') : LdAt P w K H' d kvs := h.frame e fun z => z
theorem LdAt.rd (h : LdAt P w K H d kvs) : LdRd P w K H d kvs := by
  obtain ⟨xs, h1, h2⟩ := h
  exact ⟨xs, .inl h1, h2⟩
theorem LdRd.ex (h : LdRd P w K H d kvs) (e : Ex H H') : LdRd P w K H' d kvs := by
  obtain ⟨xs, h1, h2⟩ := h
  exact ⟨xs, h1.imp (fun q => e.at q) fun ⟨o, q⟩ => ⟨o, e.at q⟩, Ents.ex h2 e⟩
/-- what the dict holds at l -/
theorem Ents.look (h : Ents K H kvs xs) : (lookL kvs l = none ∧ atKey xs (keyN l) = none) ∨ ∃ v a u, lookL kvs l = some v ∧ atKey xs (keyN l) = some (a, u) ∧ RelV v u := by
  unfold lookL atKey
  induction h with
  | nil => (exact .inl ⟨rfl, rfl⟩)
  | @cons p q ps qs hq t ih =>
    obtain ⟨h1, h2, h3⟩ := hq
    by_cases hl : p.1 = l
    · refine .inr ⟨p.2, q.2.1, q.2.2, ?_, ?_, h3⟩
      · rw [List.find?_cons_of_pos (by simp [hl])]
        rfl
      · rw [List.find?_cons_of_pos (by simp [h1, hl])]
        rfl
    · rw [List.find?_cons_of_neg (by simp [hl]), List.find?_cons_of_neg (by simp only [h1, decide_eq_true_eq]; exact fun z => hl (keyN_inj z))]
      exact ih
theorem Ents.len (h : Ents K H kvs xs) : kvs.length = xs.length := Paired.length h
theorem Ents.map {v : V} {u : Value} (h : Ents K H kvs xs) (rv : RelV v u) : Ents K H (kvs.map fun p => if p.1 = l then (p.1, v) else p) (xs.map (putAt (keyN l) u)) := by
  induction h with
  | nil => exact .nil
  | @cons p q ps qs hq t ih =>
    (rw [List.map_cons, List.map_cons])
    refine .cons ?_ ih
    obtain ⟨h1, h2, h3⟩ := hq
    unfold putAt
    by_cases hl : p.1 = l
    · rw [if_pos hl, if_pos (by rw [h1, hl])]
      exact ⟨h1, h2, rv⟩
    · rw [if_neg hl, if_neg (by rw [h1]; exact fun z => hl (keyN_inj z))]
      exact ⟨h1, h2, h3⟩
theorem Paired.snoc {α β : Type} {R : α → β → Prop} {x : α} {y : β} : ∀ {as : List α} {bs : List β}, Paired R as bs → R x y → Paired R (as ++ [x]) (bs ++ [y])
  | _, _, .nil, h => (.cons h .nil)
  | _, _, .cons r t, h => .cons r (Paired.snoc t h)
theorem Ents.put {v : V} {u : Value} {a : Addr} (h : Ents K H kvs xs) (hk : DI K H (.ref a) (tupL l)) (rv : RelV v u) : Ents K H (putLd kvs l v) (storedH xs (keyN l) a u) := by
  rcases h.look (l := l) with ⟨h1, h2⟩ | ⟨v1, a1, u1, h1, h2, _⟩
  · rw [storedH_new h2]
    unfold putLd
    rw [h1, if_neg (by decide)]
    exact Paired.snoc h ⟨rfl, hk, rv⟩
  · rw [storedH_old h2]
    unfold putLd
    rw [h1, if_pos (show (some v1).isSome = true from rfl)]
    exact h.map rv
end
section
variable {X : Cx} {pins : List (Addr × Obj)} {σ : L2.St} {H : Hp} {s : Shared} {d b : Addr} {kvs : List (Lay × V)} {xs : List Ent} {l : Lay} {k : Nat}
theorem nested_all (I : Inv X pins σ H s) : ∀ {l : Lay} {vs : List V} {us : List Value}, DIs X.K H vs (l.map encP) → Vals vs us → NestedAll s.heap (l.map fun b => .tup [.num b.1, .num b.2]) us
  | [], _, _, .nil, .nil => (.nil)
  | b :: l, _, _, .cons hd ht, .cons r rs => by
    obtain ⟨t, rfl, hst⟩ := DI.pair_inv hd
    obtain ⟨is2, r2, p2, _⟩ := I.tuple (SqT.le (leI H) hst)
    cases r
    cases r2 with
    | cons ra r2 => cases r2 with
      | cons rb r2 =>
        cases r2
        obtain ⟨n, rfl⟩ := (show ∃ n, _ = Value.int _ n from ra)
        obtain ⟨m, rfl⟩ := (show ∃ m, _ = Value.int _ m from rb)
        obtain ⟨o, ho, hc, n9, hd9⟩ := p2
        exact .cons (.tup ho hc hd9 (.cons (.int _ _) (.cons (.int _ _) .nil))) (nested_all I ht rs)
theorem depthN : ∀ l : Lay, NestedKey.depthAll (l.map fun b : Int × Int => NestedKey.tup [.num b.1, .num b.2]) ≤ 4
  | [] => by simp [NestedKey.depthAll]
  | b :: l => by
    have := depthN l
    simp only [List.map_cons, NestedKey.depthAll, NestedKey.depth]
    omega
theorem nested_of (I : Inv X pins σ H s) (h : DI X.K H (.ref b) (tupL l)) : (nestedKind X.prog X.w).is s.heap (keyN l) b := by
  obtain ⟨a, xs, e, hs, hd⟩ := DI.tup_inv h
  cases e
  obtain ⟨its, r, ⟨o, ho, hc, n, hdt⟩, _⟩ := I.tuple (SqT.le (leI H) hs)
  refine ⟨.tup ho hc hdt (nested_all I hd r), ?_⟩
  have := depthN l
  unfold keyN
  simp only [NestedKey.depth]
  omega
theorem ents_is (I : Inv X pins σ H s) (h : Ents X.K H kvs xs) : ∀ x ∈ xs, (nestedKind X.prog X.w).is s.heap x.1 x.2.1 := by
  induction h with
  | nil => intro x hx; cases hx
  | @cons p q ps qs hq t ih =>
    intro x hx
    (rcases List.mem_cons.mp hx with e | hx)
    · rw [e, hq.1]
      exact nested_of I hq.2.1
    · exact ih x hx
theorem ld_dict (I : Inv X pins σ H s) (h : Rd H d (ldO X.prog X.w d xs)) (he : Ents X.K H kvs xs) : (d == sysModules) = false ∧ xs.length ≤ sizeLine ∧ s.heap.DictOfH (nestedKind X.prog X.w) d xs := by
  have ok : ObjOk X.prog X.w H s.heap d (ldO X.prog X.w d xs) := h.ok I.hok
  obtain ⟨⟨h1, h2, o, es, ep, g1, g2, g3, g4, g5⟩, _⟩ := ok
  exact ⟨h1, h2, o, es, ep, g1, g2, g3, g4, ents_is I he, g5⟩
theorem roomN (hr : Room k X.A) : (nestedKind X.prog X.w).room X.A.in1 := by
  have := hr.un
  show X.A.units + 1 + 8 < cLine
  omega
/-- {} -/
theorem pe_ldnew {pos : Pos} : PE X (.Dict [] [] pos) (fun _ H Q => ∀ p, H p = none → Q (.ref p) (upd H p (ldO X.prog X.w p []))) := ⟨fun pins s σ H Q I h =>
  wpAny_Dict_empty ⟨.ref s.heap.objs.size, _, I.laid (a := s.heap.objs.size) (o := ldO X.prog X.w s.heap.objs.size []) (t' := s.toks) (fun _ _ q => Heap.get?_push_of_some _ q) (Nat.le_refl _)
    ⟨⟨by
      have h1 := I.big
      rw [beq_eq_false_iff_ne]
      exact Nat.ne_of_gt h1, Nat.zero_le _, _, #[], 0, Heap.get?_push_size _ rfl, ⟨rfl, rfl, rfl⟩, rfl, rfl, List.nodup_nil⟩, ⟨_, Heap.get?_push_size _ rfl⟩, fun h1 h2 ⟨a1, a2, o, es, ep, b1, r⟩ hk => ⟨a1, a2, o, es, ep, hk o b1, r⟩⟩, rfl, h _ (I.hok.fresh (Nat.le_refl _))⟩⟩
/-- k in d, k not in d -/
def rLdIn (P : Program) (w : World) (K : PySem.W.Frag) (neg : Bool) : R2 := fun x y H Q => ∃ (d b : Addr) (l : Lay) (kvs : List (Lay × V)), x = .ref b ∧ y = .ref d ∧ LdRd P w K H d kvs ∧ DI K H (.ref b) (tupL l) ∧ Q (.bl (if neg = true then !(lookL kvs l).isSome else (lookL kvs l).isSome)) H
theorem look_some {K : PySem.W.Frag} (h : Ents K H kvs xs) : (atKey xs (keyN l)).isSome = (lookL kvs l).isSome := by
  rcases h.look (l := l) with ⟨h1, h2⟩ | ⟨v1, a1, u1, h1, h2, _⟩ <;> rw [h1, h2] <;> rfl
theorem or_ldin (hr : Room k X.A) : OpR X (compareOp .In) (rLdIn X.prog X.w X.K false) := by
  (intro pins s σ H x y v u Q I rx ry h)
  obtain ⟨d, b, l, kvs, rfl, rfl, ⟨xs, hd, he⟩, hk, q⟩ := h
  cases rx
  cases ry
  obtain ⟨h1, _, h3⟩ := ld_dict I hd he
  refine wpAny_in_heap (roomN hr) (nested_of I hk) h1 h3 ?_
  rw [look_some he]
  exact ⟨.bl _, H, I.tok _, rfl, q⟩
theorem or_ldnotin (hr : Room k X.A) : OpR X (compareOp .NotIn) (rLdIn X.prog X.w X.K true) := by
  (intro pins s σ H x y v u Q I rx ry h)
  obtain ⟨d, b, l, kvs, rfl, rfl, ⟨xs, hd, he⟩, hk, q⟩ := h
  cases rx
  cases ry
  obtain ⟨h1, _, h3⟩ := ld_dict I hd he
  refine wpAny_notIn_heap (roomN hr) (nested_of I hk) h1 h3 ?_
  rw [look_some he]
  exact ⟨.bl _, H, I.tok _, rfl, q⟩
/-- d[k], there -/
def tLdGet (P : Program) (w : World) (K : PySem.W.Frag) (td ty : TE) : TE := fun σ H Q => td σ H fun x H1 => ty σ H1 fun y H2 => ∃ (d b : Addr) (l : Lay) (kvs : List (Lay × V)) (v : V), x = .ref d ∧ y = .ref b ∧ LdRd P w K H2 d kvs ∧ DI K H2 (.ref b) (tupL l) ∧ lookL kvs l = some v ∧ Q v H2
theorem pe_ldget {o i : Expr} {td ty : TE} {pos : Pos} (hr : Room k X.A) (ho : PE X o td) (hi : PE X i ty) (hs : NoSl i) : PE X (.Subscript o i pos) (tLdGet X.prog X.w X.K td ty) := by
  refine ⟨fun pins s σ H Q I h => ?_⟩
  refine subD_of PySem.F.slot_dict_getitem.lookup hs (thn (ho.run pins s σ H _ I h) fun u s1 ⟨x, H1, I1, rx, q1⟩ => thn (hi.run pins s1 σ H1 _ I1 q1) fun iv s2 ⟨y, H2, I2, ry, d, b, l, kvs, v, ex, ey, ⟨xs, hd, he⟩, hk, hv, q2⟩ => ?_)
  subst ex
  subst ey
  cases rx
  cases ry
  obtain ⟨h1, _, h3⟩ := ld_dict I2 hd he
  rcases he.look (l := l) with ⟨g1, _⟩ | ⟨v1, a1, u1, g1, g2, g3⟩
  · rw [g1] at hv
    cases hv
  · rw [g1] at hv
    cases hv
    exact ⟨h3.typeIs, wpAny_getItem_heap (roomN hr) (nested_of I2 hk) h3 g2 ⟨v, H2, I2.tok _, g3, q2⟩⟩
/-- d.get(k) -/
def tLdGet1 (P : Program) (w : World) (K : PySem.W.Frag) (td ty : TE) : TE := fun σ H Q => td σ H fun x H1 => ∃ (d : Addr) (kvs : List (Lay × V)), x = .ref d ∧ LdRd P w K H1 d kvs ∧ ty σ H1 fun y H2 => ∃ (b : Addr) (l : Lay), y = .ref b ∧ LdRd P w K H2 d kvs ∧ DI K H2 (.ref b) (tupL l) ∧ Q ((lookL kvs l).getD .non) H2
theorem pe_ldget1 {o e : Expr} {td ty : TE} {apos cpos : Pos} (hr : Room k X.A) (ho : PE X o td) (he : PE X e ty) (m : M1 X o "get" apos e cpos) : PE X (.Call (.Attribute o "get" apos) [e] [] cpos) (tLdGet1 X.prog X.w X.K td ty) := by
  refine ⟨fun pins s σ H Q I h => ?_⟩
  refine wpAny_Call_method m.base m.few m.line PySem.F.plainAttrs_dict PySem.F.slot_dict_get PySem.F.type_dict_get (thn (ho.run pins s σ H _ I h) fun u s1 ⟨x, H1, I1, rx, d, kvs, ex, ⟨xs, hd, hn⟩, q1⟩ => ?_)
  subst ex
  cases rx
  obtain ⟨h1, _, h3⟩ := ld_dict I1 hd hn
  refine ⟨h3.typeIs, fun a e9 => ?_, ?_⟩
  · cases e9
    obtain ⟨ob, _, _, g1, g2, _⟩ := h3
    exact ⟨ob, g1, g2.2.1⟩
  rw [m.trees]
  refine Calls.callWith_builtin rfl (Calls.evalArgs_plain (Calls.spliced_cons (thn (he.run pins s1 σ H1 _ I1 q1) fun iv s2 ⟨y, H2, I2, ry, b, l, ey, ⟨ys, hd2, hn2⟩, hk, q2⟩ => Calls.spliced_nil ?_)))
  subst ey
  cases ry
  obtain ⟨g1, _, g3⟩ := ld_dict I2 hd2 hn2
  refine call_meetsIn PySem.F.slot_dict_get g3.typeIs PySem.F.entry_dict_get (PySem.F.args_dict_get_2 _ _) (meetsH_dict_get (nestedKind X.prog X.w) d b g1) ⟨roomN hr, keyN l, ys, nested_of I2 hk, g3, ?_⟩
  rcases hn2.look (l := l) with ⟨r1, r2⟩ | ⟨v1, a1, u1, r1, r2, r3⟩
  · rw [r2]
    rw [r1] at q2
    exact ⟨.non, H2, I2.tok _, rfl, q2⟩
  · rw [r2]
    rw [r1] at q2
    exact ⟨v1, H2, I2.tok _, r3, q2⟩
/-- d[k] = v -/
def rSetLd (P : Program) (w : World) (K : PySem.W.Frag) : V → V → V → Hp → (Hp → Prop) → Prop := fun o i v H Q => ∃ (d b : Addr) (l : Lay) (kvs : List (Lay × V)), o = .ref d ∧ i = .ref b ∧ LdAt P w K H d kvs ∧ DI K H (.ref b) (tupL l) ∧ kvs.length < sizeLine ∧ ∀ H', (∃ xs, H' = upd H d (ldO P w d xs)) → LdAt P w K H' d (putLd kvs l v) → Q H'
theorem set_ld (hr : Room k X.A) : PSet X (rSetLd X.prog X.w X.K) := by
  (intro pins s σ H o i v ov iv u Q I ro ri rv h)
  obtain ⟨d, b, l, kvs, rfl, rfl, ⟨xs, hd, he⟩, hk, hl, q⟩ := h
  cases ro
  cases ri
  obtain ⟨h1, h2, h3⟩ := ld_dict I (.inl hd) he
  refine wpAny_setItem_heap (hsz := h2) (roomN hr) (nested_of I hk) h3 fun h' dd hs => ?_
  obtain ⟨ob, es, ep, g1, g2, g3, g4, _, g5⟩ := dd
  have hel := (he.put hk rv).len
  have hpl := putLd_len kvs l v
  have ext : ExF (fun x => x = d) H (upd H d (ldO X.prog X.w d (storedH xs (keyN l) b u))) := (ExF.refl _ H).upd (.inr ⟨rfl, _, hd, rfl, rfl⟩)
  refine ⟨_, d_write (ob := ldO X.prog X.w d (storedH xs (keyN l) b u)) I (by rw [hd]; exact True.intro) hs ⟨ob, g1⟩ ⟨⟨h1, by omega, ob, es, ep, g1, g2, g3, g4, g5⟩, ⟨ob, g1⟩, fun z1 z2 ⟨a1, a2, o9, e9, p9, b9, r9⟩ hk9 => ⟨a1, a2, o9, e9, p9, hk9 o9 b9, r9⟩⟩, q _ ⟨_, rfl⟩ ⟨_, upd_same, Ents.ex (he.put hk rv) ext⟩⟩
/-! the keys of a locked dict -/
def Itn (P : Program) (w : World) (d : Addr) (o : Obj) (xs : List Ent) : It :=
  ⟨fun i H => H d = some (.frz o (ldO P w d xs)) ∧ i < xs.length, fun i H x H' => H' = H ∧ ∃ q, xs[i]? = some q ∧ x = .ref q.2.1, fun i H => H d = some (.frz o (ldO P w d xs)) ∧ xs.length ≤ i⟩
theorem frzN {o : Obj} (I : Inv X pins σ H s) (h : H d = some (.frz o (ldO X.prog X.w d xs))) : (d == sysModules) = false ∧ s.heap.get? d = some o ∧ o.ExactDict ∧ ∃ (es : Array DictEntry) (ep : Nat), o.data = .dict es ep ∧ es.toList = xs.map (entryOfKey (nestedKind X.prog X.w)) := by
  obtain ⟨hd, ⟨h1, _, o', es, ep, g1, g2, g3, g4, _⟩, _⟩ := I.hok d _ h
  rw [hd] at g1
  cases g1
  exact ⟨h1, hd, g2, es, ep, g3, g4⟩
theorem turn_n {P : Program} {w : World} {K : PySem.W.Frag} {tg : Expr} {o : Obj} {es : Array DictEntry} {ep : Nat} (it : Addr) (hod : o.data = .dict es ep) : Turn P w K tg (Itn P w d o xs) [it] it (fun i h => h.IsKeyIter it d i xs.length ep) where
  mem := by simp
  obj := fun i h st b hb => by
    rw [show b = it by simpa using hb]
    obtain ⟨oi, e, c, dd⟩ := st
    (exact ⟨oi, e, fun v z => by rw [dd] at z; cases z⟩)
  keep := fun i h h' st kp => st.at fun oi e => kp it (by simp) oi e
  item := by
    (intro X hP hw hK hc i pins s σ H E I hf st hg)
    subst hP hw hK
    obtain ⟨hd, hi⟩ := hg
    (obtain ⟨f0, f1, f2, f3, f4, f5⟩ := hf it (by simp))
    obtain ⟨hs, hgd, hx, es', ep', hdt, hel⟩ := frzN I hd
    (obtain ⟨rfl, rfl⟩ := dict_ep hod hdt)
    have hq : xs[i]? = some (xs[i]'hi) := List.getElem?_eq_getElem hi
    have hen := entry_at hel i
    rw [hq] at hen
    refine next_key_item st hgd hdt (size_of_entries hel) hen fun h' st' sb => ?_
    (have I1 : Inv X pins σ H { s with heap := h' } := I.turned (t' := s.toks) (fun b ob hb e => (sb.2 b hb).trans e) f0 f1 f3 f4 f5)
    (obtain ⟨oi, e, c, dd⟩ := id st')
    exact ⟨_, rfl, go_of (s := { s with heap := h' }) e c dd (by decide) ⟨.ref (xs[i]'hi).2.1, H, I1, rfl, ⟨rfl, _, hq, rfl⟩, st', fun b hb => (hf b hb).1⟩⟩
  done := by
    (intro X hP hw hK hc i pins s σ H E I hf st hg)
    subst hP hw hK
    obtain ⟨hd, hi⟩ := hg
    (obtain ⟨f0, f1, f2, f3, f4, f5⟩ := hf it (by simp))
    obtain ⟨hs, hgd, hx, es', ep', hdt, hel⟩ := frzN I hd
    (obtain ⟨rfl, rfl⟩ := dict_ep hod hdt)
    exact next_key_end (I.ok.hd hc) st hgd hdt (size_of_entries hel) hi fun h' eb => ⟨rfl, I.turned (t' := s.toks) (fun b ob hb e => eb b ob hb e) f0 f1 f3 f4 f5⟩
  self := fun Ar i s Q E st h => by
    (refine wpAny_pyIter_slot st.typeIs F.slot_dict_keyiterator_iter (wpAny_call_entry F.slot_dict_keyiterator_iter st.typeIs F.entry_dict_keyiterator_iter ?_ (F.args_dict_keyiterator_iter_1 _)))
    (show wpAny _ _ (ret (.ref it)) _ _ s)
    (exact wpAny_pure ⟨_, rfl, "dict_keyiterator", _, st.typeIs, F.slot_dict_keyiterator_next.lookup, h⟩)
def iKeysN (P : Program) (w : World) (td : TE) : TI := fun σ H R => td σ H fun x H1 => ∃ d o xs, x = .ref d ∧ H1 d = some (.frz o (ldO P w d xs)) ∧ R (Itn P w d o xs) H1
theorem pi_keysN {tg e : Expr} {td : TE} (he : PE X e td) : PI X tg e (iKeysN X.prog X.w td) := by
  (refine ⟨fun pins s σ H R I h => ?_⟩)
  refine thn (he.run pins s σ H _ I h) fun u s1 ⟨x, H1, I1, rx, d, o, xs, ex, hd, q⟩ => ?_
  subst ex
  cases rx
  obtain ⟨hs, hgd, hx, es, ep, hdt, hel⟩ := frzN I1 hd
  refine iter_keys hs hgd hx hdt (pi_one (tk := s1.toks) I1 _ (turn_n _ hdt) ⟨_, Heap.get?_push_size _ rfl, rfl, ?_⟩ q)
  rw [size_of_entries hel] <;> rfl
theorem walk_n {P : Program} {w : World} {o : Obj} : Walk (Itn P w d o xs) xs.length (fun H => H d = some (.frz o (ldO P w d xs))) (fun i H x H' => H' = H ∧ ∃ q, xs[i]? = some q ∧ x = .ref q.2.1) :=
  (⟨fun _ _ hi q => ⟨q, hi⟩, fun _ q => ⟨q, Nat.le_refl _⟩, fun _ _ _ _ _ _ y => y⟩)
end
end Hg
namespace Hg
open PySem PySem.Spec PyProof.Rows L2 GxR
/-! ### Options -/
abbrev COpt (K : PySem.W.Frag) : Addr := gA K "Options"
def relD (l : Lay) : List Lay := (List.range l.length).map (withoutF l)
def ansF (C : Ctr) (l : Lay) : List (List Lay) := (reqF C l).map fun n => (repsF C l n).map (afterF l n)
def encTs (ls : List Lay) : PyData := .list (ls.map tupL)
structure OptAt (K : PySem.W.Frag) (H : Hp) (o : Addr) (rel : List Lay) (ans : List (List Lay)) : Prop where
  ins : ∃ dx r a vs, H o = some (.ins (COpt K) dx [("released", .ref r), ("answered", .ref a)]) ∧ DI K H (.ref r) (encTs rel) ∧ H a = some (.lst vs) ∧ DIs K H vs (ans.map encTs)
theorem OptAt.ex {K : PySem.W.Frag} {H H' : Hp} {o : Addr} {rel : List Lay} {ans : List (List Lay)} (h : OptAt K H o rel ans) (e : Ex H H') : OptAt K H' o rel ans := by
  obtain ⟨dx, r, a, vs, h1, h2, h3, h4⟩ := h.ins
  exact ⟨dx, r, a, vs, e.at h1, DI.ex h2 e, e.at h3, DIs.ex h4 e⟩
theorem range_rel (l : Lay) : (rangeL 0 (l.length : Nat)).map (fun i => withoutF l i.toNat) = relD l := by
  unfold rangeL relD
  rw [List.map_map, Int.sub_zero, Int.toNat_natCast]
  apply List.map_congr_left
  intro i _
  show withoutF l ((0 : Int) + (i : Nat)).toNat = withoutF l i
  rw [Int.zero_add, Int.toNat_natCast]
section
variable {P : Program} {w : World} {K : PySem.W.Frag} {mg : Str → Option Value} {base : Heap}
abbrev rTupOf (K : PySem.W.Frag) : List V → Hp → VK → Prop := fun xs H Q => ∃ p ys, xs = [.ref p] ∧ ((SqL K H p ys ∧ ∀ l, H l = none → Q (.ref l) (upd H l (.tup ys))) ∨ (SqT K H p ys ∧ Q (.ref p) H))
def spOpt0 (K : PySem.W.Frag) (Tf Tr : Addr) : Sp := fun vs H Q _ => ∃ (x dx c : Addr) (C : Ctr) (v : V) (l : Lay), vs = [.ref x, .ref c, v] ∧ H x = some (.ins (COpt K) dx []) ∧ CtrAt K H c C ∧ C.lengths.length ≤ 3 ∧ (∀ n ∈ C.lengths, 1 ≤ n ∧ n ≤ 1000) ∧ TabH H Tf Tr ∧ DI K H v (encL l) ∧ GL C l ∧
  ∀ H', ExF (Only x) H H' → OptAt K H' x (relD l) (ansF C l) → Q .non H'
abbrev N_opt0 : List Str := ["self", "contract", "layout", "length", "found", "index", "reply"]
theorem sc_opt0 : FnScope N_opt0 ["self", "contract", "layout"] (defScope s_Options_init) := ⟨rfl, rfl, rfl, by decide +kernel, rfl, by decide +kernel, by decide +kernel⟩
theorem w_opt0 (T : Txt P K mg) {Tf Tr : Addr} (D : Tabs K mg base Tf Tr) : Mr P w K mg base 6 "Options" (COpt K) (spOpt0 K Tf Tr) := by
  have nd := sc_opt0.nd
  have c1 := w_without (w := w) (base := base) T
  have c2 := w_req (w := w) (base := base) T
  have c3 := w_reps (w := w) (base := base) T D
  have c4 := w_after (w := w) (base := base) T
  refine mr_of T (fn_mem 51 rfl) (by decide +kernel) (by decide +kernel) sc_opt0 (b3 fun _ _ _ _ _ _ _ _ _ => rfl) (fun vs H Q E ⟨_, _, _, _, _, _, e, _⟩ => by rw [e]; rfl) fun cdv A outer s H vs Q E hr ⟨x, dx, c, C, v, l, e, hx, hc, hn3, hln, ht, hl, hg, hq⟩ => ?_
  subst e
  refine ⟨_, (pss_cons (ps_fld (pv 0) (pe_frz (pe_lc (own := [("index", 5)]) (g := gName 5) (tt := tYes) (te := (tCB (rTupOf K) (tCons (tCallS (spWithout K) (WE fun _ _ _ _ => False) (tCons (tVar 2) (tCons (tVar 5) tNil))) tNil))) rfl nd (pi_range1 (by rfl) (T.n "range") (pa_cons (pe_callB call_len_seq (by rfl) (T.n "len") PySem.boot_len (pa_cons (pv 2) pa_nil)) pa_nil)) (blkOk_by (N := N_opt0) (sc := defScope s_Options_init) (by decide +kernel)) (fun _ _ _ _ _ => (pg_name (i := 5) nd rfl (.inl rfl) (.inr rfl))) (fun _ _ _ _ _ => pts_nil) (fun _ _ _ _ _ => (pe_callTy call_tuple_of (by rfl) (T.n "tuple") (by decide +kernel) (pa_cons (pe_cl c1 hr takes0 (pa_cons (pv 2) (pa_cons (pv 5) pa_nil))) pa_nil))))) rfl) (pss_cons (ps_fld (pv 0) (pe_lst pa_nil) rfl) (pss_one (ps_for ps0 rfl (pi_list (pe_cl c2 hr takes0 (pa_cons (pv 1) (pa_cons (pv 2) pa_nil)))) (pg_name (i := 3) nd rfl (.inr rfl)) (pss_cons (ps_set (i := 4) nd rfl (.inl rfl) (pe_cl c3 hr takes0 (pa_cons (pv 1) (pa_cons (pv 2) (pa_cons (pv 3) pa_nil))))) (pss_one (ps_expr (pe_bm PySem.F.plainAttrs_list PySem.F.slot_list_append PySem.F.type_list_append mt_append (pe_fld (pv 0) rfl) (pa_cons (pe_frz (pe_lc (own := [("reply", 6)]) (g := gName 6) (tt := tYes) (te := (tCB (rTupOf K) (tCons (tCallS (spAfter K) (WE fun _ _ _ _ => False) (tCons (tVar 2) (tCons (tVar 3) (tCons (tVar 6) tNil)))) tNil))) rfl nd (pi_list (pv 4)) (blkOk_by (N := N_opt0) (sc := defScope s_Options_init) (by decide +kernel)) (fun _ _ _ _ _ => (pg_name (i := 6) nd rfl (.inl rfl) (.inr rfl))) (fun _ _ _ _ _ => pts_nil) (fun _ _ _ _ _ => (pe_callTy call_tuple_of (by rfl) (T.n "tuple") (by decide +kernel) (pa_cons (pe_cl c4 hr takes0 (pa_cons (pv 2) (pa_cons (pv 3) (pa_cons (pv 6) pa_nil)))) pa_nil))))) pa_nil))))))))), ?_⟩
  obtain ⟨la, xs0, rfl, hs0, hd0⟩ := DI.lst_inv hl
  have hs00 := SqL.le (leI H) hs0
  have hlen : xs0.length = l.length := by rw [DpAll.length hd0, List.length_map]
  have hl4 : l.length ≤ 4 := hg.sm.l4
  refine ⟨_, rfl, la, _, rfl, .inl hs00, _, rfl, by omega, by omega, fun D0 nD0 => ?_⟩
  rw [hlen]
  refine lc_f (K := K) (lo := 0) (hi := (l.length : Nat)) (enc := tupL) (f := fun i => withoutF l i.toNat) (by simp) nD0 (by omega) (fun x => rfl) (fun t G1 R h0 h1 e0 hR => ?_) fun G1 cc => ?_
  · refine ⟨_, rfl, _, rfl, .ref la, t.toNat, l, by rw [Int.toNat_of_nonneg h0], DI.ex hl e0, by omega, fun G2 u e2 du => ?_⟩
    obtain ⟨ua, ys, rfl, hys, hyd⟩ := DI.lst_inv du
    exact ⟨ua, ys, rfl, .inl ⟨SqL.le (leI G2) hys, fun t2 nt2 => hR _ _ (e2.trans (Ex.new nt2)) (DI.tupOf upd_same (DIs.ex hyd (Ex.new (F := NoF) nt2)))⟩⟩
  rw [range_rel] at cc
  obtain ⟨acc, hacc, hda⟩ := cc.at_
  refine ⟨D0, acc, _, rfl, hacc, hda, fun H2 k2 l2 d2 => ?_⟩
  have e2 : Ex H H2 := cc.ex.but nD0 k2 l2
  have hx2 := e2.at hx
  refine ⟨_, rfl, x, COpt K, dx, [], rfl, hx2, T.cls "Options", T.noat "Options" "released", by show (0 : Nat) < 1000; decide, ?_⟩
  have eX3 : ExF (Only x) H (upd H2 x (.ins (COpt K) dx (putF "released" (.ref D0) []))) := e2.of.trans ((ExF.refl _ H2).upd (.inr ⟨rfl, _, hx2, rfl, rfl⟩))
  have d3 : DI K (upd H2 x (.ins (COpt K) dx (putF "released" (.ref D0) []))) (.ref D0) (encTs (relD l)) := DI.ex d2 ((ExF.refl (Only x) H2).upd (.inr ⟨rfl, _, hx2, rfl, rfl⟩))
  refine ⟨Nat.zero_le _, fun a na => ?_⟩
  have nax : a ≠ x := fun z => by rw [z, show upd H2 x _ x = some _ from upd_same] at na; cases na
  refine ⟨_, rfl, x, COpt K, dx, [("released", .ref D0)], rfl, (by rw [upd_ne nax.symm]; exact upd_same), T.cls "Options", T.noat "Options" "answered", by show (1 : Nat) < 1000; decide, ?_⟩
  have na' : (upd H2 x (.ins (COpt K) dx (putF "released" (.ref D0) []))) a = none := na
  have hx4 : (upd (upd (upd H2 x (.ins (COpt K) dx (putF "released" (.ref D0) []))) a (.lst [])) x (.ins (COpt K) dx (putF "answered" (.ref a) [("released", .ref D0)]))) x = some (.ins (COpt K) dx [("released", .ref D0), ("answered", .ref a)]) := upd_same
  have ha4 : (upd (upd (upd H2 x (.ins (COpt K) dx (putF "released" (.ref D0) []))) a (.lst [])) x (.ins (COpt K) dx (putF "answered" (.ref a) [("released", .ref D0)]))) a = some (.lst []) := by rw [upd_ne nax, upd_same]
  have e34 : ExF (Only x) (upd H2 x (.ins (COpt K) dx (putF "released" (.ref D0) []))) (upd (upd (upd H2 x (.ins (COpt K) dx (putF "released" (.ref D0) []))) a (.lst [])) x (.ins (COpt K) dx (putF "answered" (.ref a) [("released", .ref D0)]))) := ((ExF.refl _ _).upd (.inl na')).upd (.inr ⟨rfl, _, upd_same, rfl, rfl⟩)
  have eX4 := eX3.trans e34
  have d4 := DI.ex d3 e34
  generalize (upd (upd (upd H2 x (.ins (COpt K) dx (putF "released" (.ref D0) []))) a (.lst [])) x (.ins (COpt K) dx (putF "answered" (.ref a) [("released", .ref D0)]))) = H4 at hx4 ha4 eX4 d4 ⊢
  have naH : H a = none := by
    have := eX3.gone na'
    exact this
  have ncx : c ≠ x := by
    obtain ⟨dx9, lv9, h9, _⟩ := hc.ins
    exact ne_of h9 hx (fun z => by injection z with _ _ z3; cases z3)
  have hc4 := hc.frame eX4 ncx
  refine ⟨_, rfl, _, rfl, c, C, _, l, rfl, hc4, by omega, DI.ex hl eX4, by omega, fun H5 u5 e5 du5 => ?_⟩
  obtain ⟨qa, qxs, rfl, hqs, hqd⟩ := DI.lst_inv du5
  refine ⟨qa, rfl, ⟨qxs, SqL.le (leI H5) hqs⟩, ?_⟩
  refine for_d (l := reqF C l) (enc := PyData.int) du5 (fun pre σ G => ∃ (x3 x4 x5 x6 : Option V) (vs : List V), σ = [some (.ref x), some (.ref c), some (.ref la), x3, x4, x5, x6] ∧ ExF (Only a) H5 G ∧ ExF (Only x) H G ∧ G a = some (.lst vs) ∧ DIs K G vs ((pre.map fun n => (repsF C l n).map (afterF l n)).map encTs)) ?_ ?_ ?_ ?_
  · exact ⟨_, _, _, _, [], rfl, ExF.refl _ _, eX4.trans e5.of, e5.at ha4, .nil⟩
  · intro pre σ G ⟨_, _, _, _, _, _, e, _⟩
    exact Le.of e
  · intro pre n post nv σ G el ⟨x3, x4, x5, x6, vs, e, eo, eH, hag, dvs⟩ hnv
    subst e
    cases hnv
    have hnr : n ∈ reqF C l := by rw [el]; simp
    have hnl := hln n (List.mem_filter.mp hnr).1
    have hpre : pre.length ≤ 3 := by
      have h1 := congrArg List.length el
      have h2 := List.length_filter_le (fun n => decide (liveF l + n ≤ C.limit)) C.lengths
      rw [List.length_append, List.length_cons] at h1
      have h3 : (reqF C l).length ≤ C.lengths.length := h2
      omega
    refine ⟨_, rfl, _, rfl, _, rfl, c, C, _, l, n, rfl, hc.frame eH ncx, by omega, ht.ex eH, DI.ex hl eH, hg, hnl.1, hnl.2, fun _ H6 u6 e6 du6 => ?_, fun h9 => absurd hnr h9⟩
    obtain ⟨fa, fxs, rfl, hfs, hfd⟩ := DI.lst_inv du6
    have hx5 : H5 x = some _ := e5.at hx4
    have hxG : G x = some _ := eo.at hx5 (fun z => nax z.symm)
    have hx6 := e6.at hxG
    have ha6 := e6.at hag
    refine ⟨_, rfl, x, _, _, _, _, rfl, hx6, T.cls "Options", T.noat "Options" "answered", rfl, .inl ⟨rfl, _, SqL.of ha6⟩, _, rfl, fa, rfl, ⟨_, SqL.le (leI H6) hfs⟩, fun D2 nD2 => ?_⟩
    have hrl : (repsF C l n).length ≤ 32768 := by
      unfold repsF
      rw [List.length_mergeSort]
      exact rep0F_len hg hnl.1
    refine lc_d (l := repsF C l n) (enc := encR) du6 (fun pre2 G2 => Col K NoF H6 D2 ((pre2.map (afterF l n)).map tupL) pre2.length G2) (Col.start nD2) (fun pre2 G2 c2 => Le.of c2.ex) (fun pre2 r post2 rv G2 el2 c2 hrv => ?_) fun G2 c2 => ?_
    · have hp2 : pre2.length < 32768 := by
        rw [el2, List.length_append, List.length_cons] at hrl
        omega
      refine ⟨rfl, yes_ok ⟨_, rfl, _, rfl, _, rfl, .ref la, rv, l, n, r, rfl, DI.ex (DI.ex (DI.ex hl eH) e6) c2.ex, DI.ex hrv c2.ex, by omega, fun G3 u3 e3 du3 => ?_⟩⟩
      obtain ⟨ua, ys, rfl, hys, hyd⟩ := DI.lst_inv du3
      refine ⟨ua, ys, rfl, .inl ⟨SqL.le (leI G3) hys, fun t2 nt2 => ?_⟩⟩
      rw [List.map_append, List.map_append, List.length_append]
      exact c2.add nD2 (e3.trans (Ex.new nt2)) (fun z => z) (DI.tupOf upd_same (DIs.ex hyd (Ex.new (F := NoF) nt2))) (ltL (m := 32768) hp2 (by decide))
    · obtain ⟨acc2, h1, h2⟩ := c2.at_
      refine ⟨D2, acc2, _, rfl, h1, h2, fun H7 k7 l7 d7 => ?_⟩
      have e67 : Ex H6 H7 := c2.ex.but nD2 k7 l7
      have eG7 : Ex G H7 := e6.trans e67
      have ha7 := eG7.at hag
      have hvl : vs.length ≤ 1000 := by
        rw [DpAll.length dvs, List.length_map, List.length_map]
        omega
      refine ⟨a, vs, .ref D2, rfl, rfl, ha7, ltL (m := 10000) (by omega) (by decide), some (.int n), some (.ref fa), _, _, vs ++ [.ref D2], rfl, ?_, ?_, upd_same, ?_⟩
      · exact (eo.trans eG7.of).upd (.inr ⟨rfl, _, e5.at ha4, rfl, rfl⟩)
      · exact (eH.trans eG7.of).upd (.inl naH)
      · rw [List.map_append, List.map_append]
        exact DIs.updL (DpAll.append (DIs.ex dvs eG7) (.cons d7 .nil)) ha7
  · intro σ G ⟨x3, x4, x5, x6, vs, e, eo, eH, hag, dvs⟩
    refine hq G eH ⟨dx, D0, a, vs, eo.at (e5.at hx4) (fun z => nax z.symm), DI.ex (DI.ex d4 e5) eo, hag, dvs⟩
end
end Hg
namespace Hg
open PySem PySem.Spec PyProof.Rows L2 GxR
/-! ### Options.forced -/
def forcedF (won : Lay → Bool) (rel : List Lay) (ans : List (List Lay)) : Bool := rel.any won || ans.any fun ls => ls.all won
section
variable {P : Program} {w : World} {K : PySem.W.Frag} {mg : Str → Option Value} {base : Heap}
def spForced (P : Program) (w : World) (K : PySem.W.Frag) : Sp := fun vs H Q _ => ∃ (o d : Addr) (rel : List Lay) (ans : List (List Lay)) (kvs : List (Lay × V)), vs = [.ref o, .ref d] ∧ OptAt K H o rel ans ∧ (∀ ls ∈ ans, ls.length ≤ 100000) ∧ LdRd P w K H d kvs ∧ ∀ H', Ex H H' → Q (.bl (forcedF (fun l => (lookL kvs l).isSome) rel ans)) H'
abbrev N_forced : List Str := ["self", "won", "layout", "layouts"]
theorem sc_forced : FnScope N_forced ["self", "won"] (defScope s_Options_forced) := ⟨rfl, rfl, rfl, by decide +kernel, rfl, by decide +kernel, by decide +kernel⟩
theorem w_forced (T : Txt P K mg) : Mt P w K mg base 1 (COpt K) "forced" (spForced P w K) := by
  have nd := sc_forced.nd
  refine mt_of T (fn_mem 52 rfl) (by decide +kernel) (by decide +kernel) sc_forced (b2 fun _ _ _ _ _ _ _ _ => rfl) (fun vs H Q E ⟨_, _, _, _, _, e, _⟩ => by rw [e]; rfl) fun cdv A outer s H vs Q E hr ⟨o, d, rel, ans, kvs, e, ho, ha9, hd, hq⟩ => ?_
  subst e
  refine ⟨_, (pss_cons (ps_for ps0 rfl (pi_list (pe_fld (pv 0) rfl)) (pg_name (i := 2) nd rfl (.inl rfl)) (pss_one (ps_if (pt_cmpR (or_ldin hr) (pv 2) (pv 1) (by rfl)) (pss_one (ps_ret pe_bl)) pss_nil))) (pss_cons (ps_for ps0 rfl (pi_list (pe_fld (pv 0) rfl)) (pg_name (i := 3) nd rfl (.inl rfl)) (pss_one (ps_if (pt_val (pe_callB (cr_all rfl) (by rfl) (T.n "all") (by decide +kernel) (pa_cons (pe_lc (own := [("layout", 2)]) (g := gName 2) (tt := tYes) (te := (tOp (rLdIn P w K false) (tVar 2) (tVar 1))) rfl nd (pi_list (pv 3)) (blkOk_by (N := N_forced) (sc := defScope s_Options_forced) (by decide +kernel)) (fun _ _ _ _ _ => (pg_name (i := 2) nd rfl (.inl rfl) (.inr rfl))) (fun _ _ _ _ _ => pts_nil) (fun _ _ _ _ _ => (pe_cmpR (or_ldin hr) (pv 2) (pv 1) (by rfl)))) pa_nil))) (pss_one (ps_ret pe_bl)) pss_nil))) (pss_one (ps_ret pe_bl)))), ?_⟩
  obtain ⟨dx, r, a, vs, h1, h2, h3, h4⟩ := ho.ins
  obtain ⟨r', rxs, er, hrs, hrd⟩ := DI.lst_inv h2
  cases er
  have dsym : ∀ (b : Bool), (if false = true then !b else b) = b := fun b => rfl
  refine ⟨_, rfl, o, _, _, _, _, rfl, h1, T.cls "Options", T.noat "Options" "released", rfl, r, rfl, ⟨_, SqL.le (leI H) hrs⟩, ?_⟩
  refine for_d (l := rel) (enc := tupL) h2 (fun pre σ G => ∃ (x2 x3 : Option V), σ = [some (.ref o), some (.ref d), x2, x3] ∧ G = H ∧ pre.any (fun l => (lookL kvs l).isSome) = false) ?_ ?_ ?_ ?_
  · exact ⟨_, _, rfl, rfl, rfl⟩
  · intro pre σ G ⟨_, _, _, e, _⟩
    rw [e]
    exact leI H
  · intro pre l post v σ G el ⟨x2, x3, e, eG, hpre⟩ hv
    subst e
    subst eG
    obtain ⟨b, bxs, rfl, _, _⟩ := DI.tup_inv hv
    refine ⟨_, rfl, _, rfl, d, b, l, kvs, rfl, rfl, hd, hv, _, rfl, ?_⟩
    rw [dsym]
    cases hl : (lookL kvs l).isSome with
    | true =>
      refine iteT ?_
      have := hq G (ExF.refl _ _)
      unfold forcedF at this
      rw [show rel.any (fun l => (lookL kvs l).isSome) = true by rw [el, List.any_append, List.any_cons, hl]; simp, Bool.true_or] at this
      exact this
    | false =>
      refine iteF ⟨_, _, rfl, rfl, ?_⟩
      rw [List.any_append, hpre, List.any_cons, hl]
      rfl
  · intro σ G ⟨x2, x3, e, eG, hrel⟩
    subst e
    subst eG
    refine ⟨_, rfl, o, _, _, _, _, rfl, h1, T.cls "Options", T.noat "Options" "answered", rfl, a, rfl, ⟨vs, SqL.of h3⟩, ?_⟩
    refine for_v (K := K) (a := a) (H0 := G) (xs := vs) (l := ans) (enc := encTs) h4 (fun pre σ G2 => ∃ (x2 x3 : Option V), σ = [some (.ref o), some (.ref d), x2, x3] ∧ Ex G G2 ∧ pre.any (fun ls => ls.all fun l => (lookL kvs l).isSome) = false) ?_ ?_ ?_ ?_
    · exact ⟨_, _, rfl, ExF.refl _ _, rfl⟩
    · intro pre σ G2 ⟨_, _, _, e, _⟩
      exact SqL.of (e.at h3)
    · intro pre ls post v σ G2 el ⟨x2, x3, e, eG, hpre⟩ hv
      subst e
      have hv2 := DI.ex hv eG
      obtain ⟨q, qxs, rfl, hqs, hqd⟩ := DI.lst_inv hv2
      have hls : ls.length ≤ 100000 := ha9 ls (by rw [el]; simp)
      refine ⟨_, rfl, q, rfl, ⟨_, SqL.le (leI G2) hqs⟩, fun D nD => ?_⟩
      refine lc_d (l := ls) (enc := tupL) hv2 (fun pre2 G3 => Ex G2 G3 ∧ G3 D = some (.lst ((pre2.map fun l => (lookL kvs l).isSome).map V.bl))) ⟨Ex.new nD, upd_same⟩ (fun pre2 G3 c => Le.of c.1) (fun pre2 l post2 lv G3 el2 c hlv => ?_) fun G3 c => ?_
      · obtain ⟨e3, hD⟩ := c
        obtain ⟨b, bxs, rfl, _, _⟩ := DI.tup_inv hlv
        have hp2 : pre2.length < 100000 := by
          rw [el2, List.length_append, List.length_cons] at hls
          omega
        refine ⟨rfl, yes_ok ⟨_, rfl, _, rfl, d, b, l, kvs, rfl, rfl, (hd.ex eG).ex e3, DI.ex hlv e3, _, hD, ltL (m := 100000) (by rw [List.length_map, List.length_map]; exact hp2) (by decide), e3.updN nD, ?_⟩⟩
        rw [upd_same, List.map_append, List.map_append]
        rfl
      · obtain ⟨e3, hD⟩ := c
        refine ⟨D, _, rfl, SqL.of hD, _, rfl, ?_⟩
        rw [List.all_map, show (id ∘ fun l => (lookL kvs l).isSome) = fun l => (lookL kvs l).isSome from rfl]
        cases hl : ls.all fun l => (lookL kvs l).isSome with
        | true =>
          refine iteT ?_
          have := hq G3 (eG.trans e3)
          unfold forcedF at this
          rw [show (ans.any fun ls => ls.all fun l => (lookL kvs l).isSome) = true by rw [el, List.any_append, List.any_cons, hl]; simp, Bool.or_true] at this
          exact this
        | false =>
          refine iteF ⟨_, _, rfl, eG.trans e3, ?_⟩
          rw [List.any_append, hpre, List.any_cons, hl]
          rfl
    · intro σ G2 ⟨x2, x3, e, eG, hans⟩
      have := hq G2 eG
      unfold forcedF at this
      rw [hrel, hans] at this
      exact this
end
end Hg
namespace Hg
open PySem PySem.Spec PyProof.Rows L2 GxR
/-! ### Contract, Game -/
/-- a contract with which no layout is ever forced -/
structure GameOk (C : Ctr) (N : Nat) : Prop where
  ok : CtrOk C N
  pos : ∀ l ∈ pos0F C N, GL C l ∧ ∀ n ∈ reqF C l, rep0F C l n ≠ []
theorem posGo_len {C : Ctr} : ∀ (n : Nat) (st : List Lay × List Lay), (posGo C n st).1.length ≤ st.1.length + n
  | 0, st => Nat.le_refl _
  | n + 1, st => by
    have h := posGo_len (C := C) n (posStep C st)
    have h1 : (posStep C st).1.length ≤ st.1.length + 1 := by
      unfold posStep
      split
      · exact Nat.le_succ _
      · rw [List.length_append]
        exact Nat.le_refl _
    show (posGo C n (posStep C st)).1.length ≤ _
    omega
theorem posF_len {C : Ctr} {N : Nat} : (posF C N).length ≤ N := by
  have h := posGo_len (C := C) N ([], [[]])
  unfold posF pos0F
  rw [List.length_mergeSort]
  simpa using h
theorem GameOk.at {C : Ctr} {N : Nat} (h : GameOk C N) {l : Lay} (hl : l ∈ posF C N) : GL C l ∧ ∀ n ∈ reqF C l, repsF C l n ≠ [] := by
  obtain ⟨h1, h2⟩ := h.pos l (List.mem_mergeSort.mp hl)
  refine ⟨h1, fun n hn z => h2 n hn ?_⟩
  have h3 := congrArg List.length z
  unfold repsF at h3
  rw [List.length_mergeSort] at h3
  exact List.eq_nil_of_length_eq_zero h3
theorem GameOk.forced {C : Ctr} {N : Nat} (h : GameOk C N) {l : Lay} (hl : l ∈ posF C N) {won : Lay → Bool} (hw : ∀ m, won m = false) : forcedF won (relD l) (ansF C l) = false := by
  unfold forcedF
  rw [Bool.or_eq_false_iff]
  constructor
  · rw [List.any_eq_false]
    intro m _
    rw [hw m]
    decide
  · rw [List.any_eq_false]
    intro ls hls
    obtain ⟨n, hn, e⟩ := List.mem_map.mp hls
    have h2 := (h.at hl).2 n hn
    cases hr : repsF C l n with
    | nil => exact absurd hr h2
    | cons r rs =>
      rw [← e, hr, List.map_cons, List.all_cons, hw, Bool.false_and]
      decide
theorem GameOk.ans {C : Ctr} {N : Nat} (h : GameOk C N) {l : Lay} (hl : l ∈ posF C N) : ∀ ls ∈ ansF C l, ls.length ≤ 100000 := fun ls hls => by
  obtain ⟨n, hn, e⟩ := List.mem_map.mp hls
  have h1 := rep0F_len (n := n) (h.at hl).1 (h.ok.ln n (List.mem_filter.mp hn).1).1
  rw [← e, List.length_map]
  unfold repsF
  rw [List.length_mergeSort]
  omega
theorem Paired.at {α β : Type} {R : α → β → Prop} : ∀ {as : List α} {bs : List β} (pre : List α) {x : α} {post : List α}, Paired R as bs → as = pre ++ x :: post → ∃ y, bs[pre.length]? = some y ∧ R x y
  | _, _, [], _, _, .cons r _, e => by
    cases e
    exact ⟨_, rfl, r⟩
  | _, _, a :: pre, _, _, .cons r t, e => by
    cases e
    exact Paired.at pre t rfl
  | _, _, [], _, _, .nil, e => by cases e
  | _, _, _ :: _, _, _, .nil, e => by cases e
section
variable {P : Program} {w : World} {K : PySem.W.Frag} {mg : Str → Option Value} {base : Heap}
theorem OptAt.frame {F : Addr → Prop} {H H' : Hp} {o : Addr} {rel : List Lay} {ans : List (List Lay)} (h : OptAt K H o rel ans) (e : ExF F H H') (hF : ∀ b, F b → ∃ xs, H b = some (ldO P w b xs)) : OptAt K H' o rel ans := by
  obtain ⟨dx, r, a, vs, h1, h2, h3, h4⟩ := h.ins
  refine ⟨dx, r, a, vs, e.at h1 (fun z => ?_), DI.ex h2 e, e.at h3 (fun z => ?_), DIs.ex h4 e⟩
  · obtain ⟨xs, h9⟩ := hF _ z
    rw [h1] at h9
    cases h9
  · obtain ⟨xs, h9⟩ := hF _ z
    rw [h3] at h9
    cases h9
def spCtr0 (K : PySem.W.Frag) : Sp := fun vs H Q _ => ∃ (x dx : Addr) (C : Ctr) (v : V), vs = [.ref x, .int C.size, .int C.limit, v, .int C.budget] ∧ H x = some (.ins (CCtr K) dx []) ∧ DI K H v (encI C.lengths) ∧
  ∀ H', ExF (Only x) H H' → CtrAt K H' x C → Q .non H'
theorem sc_ctr0 : FnScope ["self", "size", "limit", "lengths", "budget"] ["self", "size", "limit", "lengths", "budget"] (defScope s_Contract_init) := ⟨rfl, rfl, rfl, by decide +kernel, rfl, by decide +kernel, by decide +kernel⟩
theorem w_ctr0 (T : Txt P K mg) : Mr P w K mg base 1 "Contract" (CCtr K) (spCtr0 K) := by
  have nd := sc_ctr0.nd
  refine mr_of T (fn_mem 50 rfl) (by decide +kernel) (by decide +kernel) sc_ctr0 (b5 fun _ _ _ _ _ _ _ _ _ _ _ => rfl) (fun vs H Q E ⟨_, _, _, _, e, _⟩ => by rw [e]; rfl) fun cdv A outer s H vs Q E hr ⟨x, dx, C, v, e, hx, hv, hq⟩ => ?_
  subst e
  refine ⟨_, (pss_cons (ps_fld (pv 0) (pv 1) rfl) (pss_cons (ps_fld (pv 0) (pv 2) rfl) (pss_cons (ps_fld (pv 0) (pe_frz (pe_callTy call_list_of (by rfl) (T.n "list") (by decide +kernel) (pa_cons (pv 3) pa_nil))) rfl) (pss_one (ps_fld (pv 0) (pv 4) rfl))))), ?_⟩
  obtain ⟨a, xs, rfl, hs, hd⟩ := DI.lst_inv hv
  refine ⟨_, rfl, _, rfl, x, _, _, _, rfl, hx, T.cls "Contract", T.noat "Contract" "size", by show (0 : Nat) < 1000; decide, ?_⟩
  refine ⟨_, rfl, _, rfl, x, _, _, _, rfl, upd_same, T.cls "Contract", T.noat "Contract" "limit", by show (1 : Nat) < 1000; decide, ?_⟩
  rw [upd_upd]
  have e1 : ExF (Only x) H (upd H x (.ins (CCtr K) dx (putF "limit" (.int C.limit) (putF "size" (.int C.size) [])))) := (ExF.refl _ H).upd (.inr ⟨rfl, _, hx, rfl, rfl⟩)
  have hx1 : (upd H x (.ins (CCtr K) dx (putF "limit" (.int C.limit) (putF "size" (.int C.size) [])))) x = some (.ins (CCtr K) dx [("size", .int C.size), ("limit", .int C.limit)]) := upd_same
  generalize upd H x (.ins (CCtr K) dx (putF "limit" (.int C.limit) (putF "size" (.int C.size) []))) = H1 at e1 hx1 ⊢
  have hs1 : SqL K H1 a xs := SqL.le (Le.of e1) hs
  refine ⟨_, rfl, a, xs, rfl, .inl hs1, fun D nD => ⟨D, xs, _, rfl, upd_same, DIs.ex (DIs.ex hd e1) (Ex.new (F := NoF) nD), fun H2 k li d => ?_⟩⟩
  have e2 : Ex H1 H2 := (Ex.new (o := .lst xs) nD).but nD k li
  have hx2 := e2.at hx1
  refine ⟨_, rfl, x, _, _, _, rfl, hx2, T.cls "Contract", T.noat "Contract" "lengths", by show (2 : Nat) < 1000; decide, ?_⟩
  refine ⟨_, rfl, _, rfl, x, _, _, _, rfl, upd_same, T.cls "Contract", T.noat "Contract" "budget", by show (3 : Nat) < 1000; decide, ?_⟩
  rw [upd_upd]
  have e3 : ExF (Only x) H2 (upd H2 x (.ins (CCtr K) dx (putF "budget" (.int C.budget) (putF "lengths" (.ref D) [("size", .int C.size), ("limit", .int C.limit)])))) := (ExF.refl _ H2).upd (.inr ⟨rfl, _, hx2, rfl, rfl⟩)
  exact hq _ ((e1.trans e2.of).trans e3) ⟨dx, .ref D, upd_same, DI.ex d e3⟩
/-! Game -/
def tLdNew (P : Program) (w : World) : TE := fun _ H Q => ∀ p, H p = none → Q (.ref p) (upd H p (ldO P w p []))
theorem pe_ldnewB {N : List Str} {f : Str} {sc : Scope} {env : Addr} {cdv : Value} {A : Around} {outer : List Env} {s : Shared} {H : Hp} {E : XK} {pos : Pos} : PE (bx P w K mg base N f sc env cdv A outer s H E) (.Dict [] [] pos) (tLdNew P w) := pe_ldnew
abbrev CGame (K : PySem.W.Frag) : Addr := gA K "Game"
def EntO (K : PySem.W.Frag) (C : Ctr) (N : Nat) (G : Hp) (kvs : List (Lay × V)) : Prop := ∀ p ∈ kvs, p.1 ∈ posF C N ∧ ∃ o, p.2 = .ref o ∧ OptAt K G o (relD p.1) (ansF C p.1)
theorem EntO.frame {F : Addr → Prop} {C : Ctr} {N : Nat} {G G' : Hp} {kvs : List (Lay × V)} (h : EntO K C N G kvs) (e : ExF F G G') (hF : ∀ b, F b → ∃ xs, G b = some (ldO P w b xs)) : EntO K C N G' kvs := fun p hp => by
  obtain ⟨h1, o, h2, h3⟩ := h p hp
  exact ⟨h1, o, h2, OptAt.frame h3 e hF⟩
theorem EntO.put {C : Ctr} {N : Nat} {G : Hp} {kvs : List (Lay × V)} (h : EntO K C N G kvs) {l : Lay} {o : Addr} (hl : l ∈ posF C N) (ho : OptAt K G o (relD l) (ansF C l)) : EntO K C N G (putLd kvs l (.ref o)) := fun p hp => by
  unfold putLd at hp
  split at hp
  · obtain ⟨q, hq, e⟩ := List.mem_map.mp hp
    split at e
    · rename_i h9
      rw [← e]
      exact ⟨by rw [h9]; exact hl, o, rfl, by rw [h9]; exact ho⟩
    · rw [← e]
      exact h q hq
  · (rcases List.mem_append.mp hp with hp | hp)
    · exact h p hp
    · (rw [List.mem_singleton.mp hp])
      exact ⟨hl, o, rfl, ho⟩
theorem look_in {kvs : List (Lay × V)} {p : Lay × V} (h : p ∈ kvs) : ∃ v, lookL kvs p.1 = some v ∧ (p.1, v) ∈ kvs := by
  unfold lookL
  cases hf : kvs.find? fun q => decide (q.1 = p.1) with
  | none =>
    rw [List.find?_eq_none] at hf
    exact absurd (by simp) (hf p h)
  | some q =>
    have h2 : q.1 = p.1 := by simpa using List.find?_some hf
    exact ⟨q.2, rfl, by rw [← h2]; exact List.mem_of_find?_eq_some hf⟩
structure GameAt (P : Program) (w : World) (K : PySem.W.Frag) (H : Hp) (g dx c d : Addr) (C : Ctr) : Prop where
  ins : H g = some (.ins (CGame K) dx [("contract", .ref c), ("ranks", .ref d)])
  ctr : CtrAt K H c C
  rk : LdAt P w K H d []
def spGame0 (P : Program) (w : World) (K : PySem.W.Frag) (Tf Tr : Addr) : Sp := fun vs H Q _ => ∃ (x dx c : Addr) (C : Ctr) (N : Nat), vs = [.ref x, .ref c] ∧ H x = some (.ins (CGame K) dx []) ∧ CtrAt K H c C ∧ GameOk C N ∧ TabH H Tf Tr ∧
  ∀ H' d, ExF (Only x) H H' → GameAt P w K H' x dx c d C → H d = none → Q .non H'
abbrev N_game0 : List Str := ["self", "contract", "options", "layout", "number", "grown", "fresh"]
theorem sc_game0 : FnScope N_game0 ["self", "contract"] (defScope s_Game_init) := ⟨rfl, rfl, rfl, by decide +kernel, rfl, by decide +kernel, by decide +kernel⟩
theorem w_game0 (T : Txt P K mg) {Tf Tr : Addr} (D : Tabs K mg base Tf Tr) : Mr P w K mg base 8 "Game" (CGame K) (spGame0 P w K Tf Tr) := by
  have nd := sc_game0.nd
  have c1 := w_pos (w := w) (base := base) T
  have c2 := w_opt0 (w := w) (base := base) T D
  have c3 := w_forced (w := w) (base := base) T
  refine mr_of T (fn_mem 53 rfl) (by decide +kernel) (by decide +kernel) sc_game0 (b2 fun _ _ _ _ _ _ _ _ => rfl) (fun vs H Q E ⟨_, _, _, _, _, e, _⟩ => by rw [e]; rfl) fun cdv A outer s H vs Q E hr ⟨x, dx, c, C, N, e, hx, hc, hg, ht, hq⟩ => ?_
  subst e
  refine ⟨_, (pss_cons (ps_fld (pv 0) (pv 1) rfl) (pss_cons (ps_fld (pv 0) pe_ldnewB rfl) (pss_cons (ps_set (i := 2) nd rfl (.inl rfl) pe_ldnewB) (pss_cons (ps_for ps0 rfl (pi_list (pe_cl c1 hr takes0 (pa_cons (pv 1) pa_nil))) (pg_name (i := 3) nd rfl (.inl rfl)) (pss_one (ps_asg (pe_mr c2 hr (pa_cons (pv 1) (pa_cons (pv 3) pa_nil))) (pg_sub (pv 2) (pe_callTy call_tuple_of (by rfl) (T.n "tuple") (by decide +kernel) (pa_cons (pv 3) pa_nil)) (set_ld hr))))) (pss_cons (ps_set (i := 4) nd rfl (.inl rfl) pe_int) (pss_cons (ps_set (i := 5) nd rfl (.inl rfl) pe_bl) (pss_one (ps_while ps0 (pt_truth (pv 5) (by intro _; rfl)) (pss_cons (ps_aug (i := 4) nd rfl (.inl rfl) pe_int ip_add) (pss_cons (ps_set (i := 6) nd rfl (.inl rfl) (pe_lst pa_nil)) (pss_cons (ps_lock (ps_for ps0 rfl (pi_keysN (pv 2)) (pg_name (i := 3) nd rfl (.inl rfl)) (pss_one (ps_if (PW.pt (pw_and (pt_cmpR (or_ldnotin hr) (pv 3) (pe_fld (pv 0) rfl) (by rfl)) (pw_and1 (pt_truth (pe_mt c3 hr tk0 (pe_ldget hr (pv 2) (pv 3) (fun _ _ => rfl)) (pa_cons (pe_fld (pv 0) rfl) pa_nil)) (by intro _; rfl))))) (pss_one (ps_expr (pe_bm PySem.F.plainAttrs_list PySem.F.slot_list_append PySem.F.type_list_append mt_append (pv 6) (pa_cons (pv 3) pa_nil)))) pss_nil)))) (pss_cons (ps_for ps0 rfl (pi_list (pe_frz (pv 6))) (pg_name (i := 3) nd rfl (.inl rfl)) (pss_one (ps_asg (pv 4) (pg_sub (pe_fld (pv 0) rfl) (pv 3) (set_ld hr))))) (pss_one (ps_set (i := 5) nd rfl (.inl rfl) (pe_cmpR (op_neD hr.units) (pv 6) (pe_lst pa_nil) (by rfl)))))))))))))))), ?_⟩
  refine ⟨_, rfl, _, rfl, x, _, _, _, rfl, hx, T.cls "Game", T.noat "Game" "contract", by show (0 : Nat) < 1000; decide, ?_⟩
  have eA : ExF (Only x) H (upd H x (.ins (CGame K) dx (putF "contract" (.ref c) []))) := (ExF.refl _ H).upd (.inr ⟨rfl, _, hx, rfl, rfl⟩)
  have hxA : (upd H x (.ins (CGame K) dx (putF "contract" (.ref c) []))) x = some (.ins (CGame K) dx [("contract", .ref c)]) := upd_same
  generalize upd H x (.ins (CGame K) dx (putF "contract" (.ref c) [])) = HA at eA hxA ⊢
  refine fun d nd0 => ?_
  have ndx : x ≠ d := ne_of_none hxA nd0
  have hxA2 : (upd HA d (ldO P w d [])) x = some (.ins (CGame K) dx [("contract", .ref c)]) := by rw [upd_ne ndx]; exact hxA
  refine ⟨_, rfl, x, _, _, _, rfl, hxA2, T.cls "Game", T.noat "Game" "ranks", by show (1 : Nat) < 1000; decide, ?_⟩
  have eB : ExF (Only x) HA (upd (upd HA d (ldO P w d [])) x (.ins (CGame K) dx (putF "ranks" (.ref d) [("contract", .ref c)]))) := ((ExF.refl _ HA).upd (.inl nd0)).upd (.inr ⟨rfl, _, hxA, rfl, rfl⟩)
  have hxB : (upd (upd HA d (ldO P w d [])) x (.ins (CGame K) dx (putF "ranks" (.ref d) [("contract", .ref c)]))) x = some (.ins (CGame K) dx [("contract", .ref c), ("ranks", .ref d)]) := upd_same
  have hdB : LdAt P w K (upd (upd HA d (ldO P w d [])) x (.ins (CGame K) dx (putF "ranks" (.ref d) [("contract", .ref c)]))) d [] := ⟨[], by rw [upd_ne ndx.symm, upd_same], .nil⟩
  generalize upd (upd HA d (ldO P w d [])) x (.ins (CGame K) dx (putF "ranks" (.ref d) [("contract", .ref c)])) = HB at eB hxB hdB ⊢
  have eAB := eA.trans eB
  have ncx : c ≠ x := by
    obtain ⟨dx9, lv9, h9, _⟩ := hc.ins
    exact ne_of h9 hx (fun z => by injection z with _ _ z3; cases z3)
  have hgB : GameAt P w K HB x dx c d C := ⟨hxB, hc.frame eAB ncx, hdB⟩
  have ndH : H d = none := eA.gone nd0
  refine fun q nq => ?_
  have eC : Ex HB (upd HB q (ldO P w q [])) := Ex.new nq
  have hqC : LdAt P w K (upd HB q (ldO P w q [])) q [] := ⟨[], upd_same, .nil⟩
  generalize upd HB q (ldO P w q []) = HC at eC hqC ⊢
  have h0C : EntO K C N HC [] := fun p hp => by cases hp
  refine ⟨_, rfl, c, C, N, rfl, hgB.ctr.ex eC, hg.ok, fun HD u eD du => ?_⟩
  obtain ⟨pa, pxs, rfl, hps, hpd⟩ := DI.lst_inv du
  have hlen : (posF C N).length ≤ 1000 := Nat.le_trans posF_len hg.ok.N9
  have hqD := hqC.ex eD
  have nqH : HB q = none := nq
  have eCD := eC.trans eD
  refine ⟨pa, rfl, ⟨_, SqL.le (leI HD) hps⟩, ?_⟩
  refine for_d (l := posF C N) (enc := encL) du (fun pre σ G => ∃ (x3 x4 x5 x6 : Option V) (kvs : List (Lay × V)), σ = [some (.ref x), some (.ref c), some (.ref q), x3, x4, x5, x6] ∧ ExF (Only q) HD G ∧ Ex HB G ∧ LdAt P w K G q kvs ∧ kvs.length ≤ pre.length ∧ EntO K C N G kvs) ?_ ?_ ?_ ?_
  · exact ⟨_, _, _, _, [], rfl, ExF.refl _ _, eCD, hqD, Nat.le_refl _, fun p hp => by cases hp⟩
  · intro pre σ G ⟨_, _, _, _, _, _, e, _⟩
    exact Le.of e
  · intro pre l post v σ G el ⟨x3, x4, x5, x6, kvs, e, eo, eG, hqG, hkl, hE⟩ hv
    subst e
    have hl : l ∈ posF C N := by rw [el]; simp
    have hpl : pre.length < 1000 := by
      have := congrArg List.length el
      rw [List.length_append, List.length_cons] at this
      omega
    obtain ⟨la, lxs, rfl, hls, hld⟩ := DI.lst_inv (DI.ex hv eo)
    have htG : TabH G Tf Tr := (ht.ex eAB).ex eG
    refine ⟨_, rfl, _, rfl, fun y ydx ny nydx nyd => ⟨y, ydx, c, C, .ref la, l, rfl, upd_same, ?_, by have := hg.ok.n3; omega, hg.ok.ln, ?_, ?_, (hg.at hl).1, fun H2 eF hO => ⟨rfl, ?_⟩⟩⟩
    · exact (hgB.ctr.ex eG).ex (Ex.updN (Ex.new nydx) ny)
    · exact htG.ex (Ex.updN (Ex.new nydx) ny)
    · exact DI.ex (DI.ex hv eo) (Ex.updN (Ex.new nydx) ny)
    have e2 : Ex G H2 := mk_ex ny nydx eF
    refine ⟨_, rfl, _, rfl, la, lxs, rfl, .inl ⟨SqL.le (Le.of e2) hls, fun t nt => ?_⟩⟩
    have e3 : Ex G (upd H2 t (.tup lxs)) := e2.trans (Ex.new nt)
    have hq3 := hqG.ex e3
    refine ⟨q, t, l, kvs, rfl, rfl, hq3, DI.tupOf upd_same (DIs.ex hld (e3)), leL (m := 1000) (by omega) (by decide), ?_⟩
    rintro H4 ⟨xs4, rfl⟩ hq4
    have e4 : ExF (Only q) (upd H2 t (.tup lxs)) (upd (upd H2 t (.tup lxs)) q (ldO P w q xs4)) := by
      obtain ⟨ys, h9, _⟩ := hq3
      exact (ExF.refl _ _).upd (.inr ⟨rfl, _, h9, rfl, rfl⟩)
    refine ⟨_, _, _, _, putLd kvs l (.ref y), rfl, (eo.trans e3.of).trans e4, ?_, hq4, ?_, ?_⟩
    · exact (eG.trans e3).updN nqH
    · have h1 := putLd_len kvs l (.ref y)
      rw [List.length_append]
      exact Nat.le_trans h1 (Nat.succ_le_succ hkl)
    · have hF : ∀ b, Only q b → ∃ xs, (upd H2 t (.tup lxs)) b = some (ldO P w b xs) := fun b hb => by
        obtain ⟨ys, h9, _⟩ := hq3
        rw [show b = q from hb]
        exact ⟨ys, h9⟩
      exact ((hE.frame (w := w) (P := P) e3 (fun _ z => z.elim)).put hl (OptAt.ex hO (Ex.new nt))).frame e4 hF
  · intro σ G ⟨x3, x4, x5, x6, kvs, e, eo, eG, hqG, hkl, hE⟩
    subst e
    refine ⟨fun m σ G2 => ∃ (b : Bool) (x3 : Option V) (n : Int) (x6 : Option V), m = (if b = true then 1 else 0) ∧ σ = [some (.ref x), some (.ref c), some (.ref q), x3, some (.int n), some (.bl b), x6] ∧ Ex G G2, ⟨1, true, x3, 0, x6, rfl, rfl, ExF.refl _ _⟩, ?_⟩
    rintro m σ G2 ⟨b, x3, n, x6, em, e, e2⟩
    subst e
    subst em
    refine ⟨_, rfl, b, rfl, ?_⟩
    cases b with
    | false => 
      exact hq G2 d ((eAB.trans eG.of).trans e2.of) ⟨(eG.trans e2).at hxB, (hgB.ctr.ex eG).ex e2, (hdB.ex eG).ex e2⟩ ndH
    | true =>
      refine iteT ⟨_, fun σ' H' h => h, ?_⟩
      refine ⟨_, rfl, _, _, rfl, rfl, Nat.zero_le _, fun f nf => ?_⟩
      have hqf := (hqG.ex e2).ex (Ex.new (o := .lst []) nf)
      have e2f : Ex G2 (upd G2 f (.lst [])) := Ex.new nf
      have eGf : Ex G (upd G2 f (.lst [])) := e2.trans e2f
      have hff : (upd G2 f (.lst [])) f = some (.lst []) := upd_same
      have hEf := hE.frame (w := w) (P := P) eGf (fun _ z => z.elim)
      generalize upd G2 f (.lst []) = G3 at hqf e2f eGf hff hEf ⊢
      obtain ⟨xs, hqx, hen⟩ := hqf
      have nfq : f ≠ q := ne_of hff hqx (fun z => by cases z)
      refine ⟨q, ldO P w q xs, hqx, trivial, fun ob => ⟨_, rfl, q, ob, xs, rfl, upd_same, ?_⟩⟩
      have hdG3 := (hdB.ex eG).ex eGf
      have hxG3 := (eG.trans eGf).at hxB
      obtain ⟨ds, hds, hde⟩ := hdG3
      have ndq : d ≠ q := fun z => by
        have h9 := hdB
        obtain ⟨zs, h9, _⟩ := h9
        rw [z, nqH] at h9
        cases h9
      have nxq : x ≠ q := fun z => by rw [← z, hxB] at nqH; cases nqH
      have eL : ExF (Only q) G3 (upd G3 q (.frz ob (ldO P w q xs))) := (ExF.refl _ G3).upd (.inr ⟨rfl, _, hqx, rfl, rfl⟩)
      have hxL := eL.at hxG3 nxq
      have hdL : LdAt P w K (upd G3 q (.frz ob (ldO P w q xs))) d [] := LdAt.frame ⟨ds, hds, hde⟩ eL ndq
      have hfL := eL.at hff nfq
      have henL := Ents.ex hen eL
      have hEL := hEf.frame eL (fun b hb => by rw [show b = q from hb]; exact ⟨xs, hqx⟩)
      have hqL : (upd G3 q (.frz ob (ldO P w q xs))) q = some (.frz ob (ldO P w q xs)) := upd_same
      refine for_l kvs (by rw [hen.len]; exact walk_n) (fun pre σ G4 => ∃ y3, σ = [some (.ref x), some (.ref c), some (.ref q), y3, some (.int (n + 1)), some (.bl true), some (.ref f)] ∧ Ex (upd G3 q (.frz ob (ldO P w q xs))) G4) ?_ ?_ ?_ ?_
      · exact ⟨_, rfl, ExF.refl _ _⟩
      · intro pre σ G4 ⟨_, _, e4⟩
        exact e4.at hqL
      · intro pre p post v σ G4 G5 el ⟨y3, e, e4⟩ ⟨eG5, q', hq', ev⟩
        subst e
        subst eG5
        subst ev
        obtain ⟨q2, hq2, hk1, hk2, hk3⟩ := Paired.at pre henL el
        rw [hq'] at hq2
        cases hq2
        have hp : p ∈ kvs := by rw [el]; simp
        obtain ⟨v, hlv, hvm⟩ := look_in hp
        obtain ⟨hpos, o, ev, hO⟩ := hEL _ hvm
        subst ev
        have hd4 := hdL.ex e4
        refine ⟨_, rfl, _, rfl, x, _, _, _, _, rfl, e4.at hxL, T.cls "Game", T.noat "Game" "ranks", rfl, d, q'.2.1, p.1, [], rfl, rfl, hd4.rd, DI.ex hk2 e4, _, rfl, iteT ?_⟩
        have hO4 := OptAt.ex hO e4
        obtain ⟨odx, r, a, vs, ho, _⟩ := id hO4.ins
        refine ⟨_, rfl, _, rfl, q, q'.2.1, p.1, kvs, .ref o, rfl, rfl, ⟨xs, .inr ⟨ob, e4.at hqL⟩, Ents.ex henL e4⟩, DI.ex hk2 e4, hlv, o, _, _, rfl, ho, rfl, _, rfl, x, _, _, _, _, rfl, e4.at hxL, T.cls "Game", T.noat "Game" "ranks", rfl, o, d, relD p.1, ansF C p.1, [], rfl, hO4, hg.ans hpos, hd4.rd, fun G5 e5 => ?_⟩
        have hfo : forcedF (fun l => (lookL ([] : List (Lay × V)) l).isSome) (relD p.1) (ansF C p.1) = false := hg.forced hpos fun m => rfl
        rw [hfo]
        exact ⟨false, rfl, iteF ⟨_, rfl, e4.trans e5⟩⟩
      · intro σ G4 ⟨y3, e, e4⟩
        subst e
        refine ⟨e4.at hqL, ?_⟩
        have eU : ExF (Only q) (upd G3 q (.frz ob (ldO P w q xs))) G4 := e4.of
        have eU : Ex G3 (upd G4 q (ldO P w q xs)) := e4.unlock hqx rfl rfl
        have hfU := eU.at hff
        refine ⟨_, rfl, f, [], [], rfl, hfU, .nil, fun H5 k5 l5 d5 => ?_⟩
        have e25 : Ex G2 H5 := (e2f.trans eU).but nf k5 l5
        obtain ⟨f', fxs, ef, hfs, hfd⟩ := DI.lst_inv d5
        cases ef
        refine ⟨f, rfl, ⟨_, SqL.le (leI H5) hfs⟩, ?_⟩
        refine for_d (l := ([] : List Lay)) (enc := encL) d5 (fun pre σ G6 => σ = [some (.ref x), some (.ref c), some (.ref q), y3, some (.int (n + 1)), some (.bl true), some (.ref f)] ∧ G6 = H5) ⟨rfl, rfl⟩ ?_ ?_ ?_
        · intro pre σ G6 ⟨_, e⟩
          rw [e]
          exact leI H5
        · intro pre z post v σ G6 el
          cases pre <;> cases el
        · intro σ G6 ⟨e, e6⟩
          subst e
          subst e6
          refine ⟨_, rfl, Nat.zero_le _, fun z nz => ⟨.list [], .list [], Dp.le (leI _) (DI.ex d5 (Ex.new (F := NoF) nz)), .lst (SqL.of upd_same) .nil, rfl, rfl, ?_⟩⟩
          exact ⟨0, Nat.zero_lt_one, false, y3, n + 1, some (.ref f), rfl, rfl, (e2.trans e25).trans (Ex.new nz)⟩
end
end Hg
namespace Hg
open PySem PySem.Spec PyProof.Rows L2 GxR
/-! ### Game: rank, winner, is_higher, manager_reply -/
section
variable {P : Program} {w : World} {K : PySem.W.Frag} {mg : Str → Option Value} {base : Heap}
theorem GameAt.ex {H H' : Hp} {g dx c d : Addr} {C : Ctr} (h : GameAt P w K H g dx c d C) (e : Ex H H') : GameAt P w K H' g dx c d C := ⟨e.at h.ins, h.ctr.ex e, h.rk.ex e⟩
theorem GameAt.frame {F : Addr → Prop} {H H' : Hp} {g dx c d : Addr} {C : Ctr} (h : GameAt P w K H g dx c d C) (e : ExF F H H') (h1 : ¬ F g) (h2 : ¬ F c) (h3 : ¬ F d) : GameAt P w K H' g dx c d C := ⟨e.at h.ins h1, h.ctr.frame e h2, h.rk.frame e h3⟩
def spRank (P : Program) (w : World) (K : PySem.W.Frag) : Sp := fun vs H Q _ => ∃ (g dx c d : Addr) (C : Ctr) (v : V) (l : Lay), vs = [.ref g, v] ∧ GameAt P w K H g dx c d C ∧ DI K H v (encL l) ∧ ∀ H', Ex H H' → Q .non H'
theorem sc_rank : FnScope ["self", "layout"] ["self", "layout"] (defScope s_Game_rank) := ⟨rfl, rfl, rfl, by decide +kernel, rfl, by decide +kernel, by decide +kernel⟩
theorem w_rank (T : Txt P K mg) : Mt P w K mg base 1 (CGame K) "rank" (spRank P w K) := by
  have nd := sc_rank.nd
  refine mt_of T (fn_mem 54 rfl) (by decide +kernel) (by decide +kernel) sc_rank (b2 fun _ _ _ _ _ _ _ _ => rfl) (fun vs H Q E ⟨_, _, _, _, _, _, _, e, _⟩ => by rw [e]; rfl) fun cdv A outer s H vs Q E hr ⟨g, dx, c, d, C, v, l, e, hG, hv, hq⟩ => ?_
  subst e
  refine ⟨_, (pss_one (ps_ret (pe_ldget1 hr (pe_fld (pv 0) rfl) (pe_callTy call_tuple_of (by rfl) (T.n "tuple") (by decide +kernel) (pa_cons (pv 1) pa_nil)) ⟨rfl, rfl, rfl, rfl⟩))), ?_⟩
  obtain ⟨a, xs, rfl, hs, hd⟩ := DI.lst_inv hv
  refine ⟨_, rfl, g, _, _, _, _, rfl, hG.ins, T.cls "Game", T.noat "Game" "ranks", rfl, d, [], rfl, hG.rk.rd, _, rfl, a, xs, rfl, .inl ⟨SqL.le (leI H) hs, fun t nt => ?_⟩⟩
  have e1 : Ex H (upd H t (.tup xs)) := Ex.new nt
  exact ⟨t, l, rfl, (hG.rk.ex e1).rd, DI.tupOf upd_same (DIs.ex hd e1), hq _ e1⟩
def spWinner (P : Program) (w : World) (K : PySem.W.Frag) : Sp := fun vs H Q _ => ∃ (g dx c d : Addr) (C : Ctr), vs = [.ref g] ∧ GameAt P w K H g dx c d C ∧ ∀ H', Ex H H' → Q (.str "manager") H'
theorem sc_winner : FnScope ["self"] ["self"] (defScope s_Game_winner) := ⟨rfl, rfl, rfl, by decide +kernel, rfl, by decide +kernel, by decide +kernel⟩
theorem w_winner (T : Txt P K mg) : Mt P w K mg base 2 (CGame K) "winner" (spWinner P w K) := by
  have nd := sc_winner.nd
  have c1 := w_rank (w := w) (base := base) T
  refine mt_of T (fn_mem 55 rfl) (by decide +kernel) (by decide +kernel) sc_winner (b1 fun _ _ _ _ _ _ _ => rfl) (fun vs H Q E ⟨_, _, _, _, _, e, _⟩ => by rw [e]; rfl) fun cdv A outer s H vs Q E hr ⟨g, dx, c, d, C, e, hG, hq⟩ => ?_
  subst e
  refine ⟨_, (pss_cons (ps_if (pt_cmpR op_isN (pe_mt c1 hr tk0 (pv 0) (pa_cons (pe_frz (pe_lst pa_nil)) pa_nil)) pe_non (nomark _)) (pss_one (ps_ret pe_str)) pss_nil) (pss_one (ps_ret pe_str))), ?_⟩
  refine ⟨_, rfl, g, _, _, rfl, hG.ins, rfl, Nat.zero_le _, fun p np => ⟨p, [], [], rfl, upd_same, .nil, fun H2 k li d2 => ?_⟩⟩
  have e1 : Ex H H2 := (Ex.new (o := .lst []) np).but np k li
  refine ⟨g, dx, c, d, C, _, [], rfl, hG.ex e1, d2, fun H3 e3 => ⟨rfl, _, rfl, itY rfl ?_⟩⟩
  exact hq _ (e1.trans e3)
def spHigher : Sp := fun vs H Q _ => ∃ (g : Addr), vs = [.ref g, .non, .non] ∧ Q (.bl false) H
theorem sc_higher : FnScope ["self", "one", "other"] ["self", "one", "other"] (defScope s_Game_is_higher) := ⟨rfl, rfl, rfl, by decide +kernel, rfl, by decide +kernel, by decide +kernel⟩
theorem w_higher (T : Txt P K mg) : Mt P w K mg base 1 (CGame K) "is_higher" spHigher := by
  have nd := sc_higher.nd
  refine mt_of T (fn_mem 56 rfl) (by decide +kernel) (by decide +kernel) sc_higher (b3 fun _ _ _ _ _ _ _ _ _ => rfl) (fun vs H Q E ⟨_, e, _⟩ => by rw [e]; rfl) fun cdv A outer s H vs Q E hr ⟨g, e, hq⟩ => ?_
  subst e
  refine ⟨_, (pss_cons (ps_if (pt_cmpR op_isN (pv 2) pe_non (nomark _)) (pss_one (ps_ret pe_bl)) pss_nil) (pss_one (ps_ret (pe_or (pe_cmpR op_isN (pv 1) pe_non (nomark _)) (pe_one (pe_cmpR op_gt (pv 1) (pv 2) (nomark _))))))), ?_⟩
  exact ⟨_, rfl, rfl, _, rfl, itY rfl hq⟩
/-- the strategy's answer -/
def gameF (C : Ctr) (l : Lay) (n : Int) : Except Err (List Int × Int) := if n ∉ reqF C l then .error (.notAllowed n) else match repsF C l n with
  | [] => .error (.mem n)
  | r :: _ => .ok (r.1, r.2.1)
def spMRep (P : Program) (w : World) (K : PySem.W.Frag) (Tf Tr : Addr) : Sp := fun vs H Q E => ∃ (g dx c d : Addr) (C : Ctr) (N : Nat) (v : V) (l : Lay) (n : Int), vs = [.ref g, v, .int n] ∧ GameAt P w K H g dx c d C ∧ CtrOk C N ∧ TabH H Tf Tr ∧ DI K H v (encL l) ∧ GL C l ∧ 1 ≤ n ∧ n ≤ 1000 ∧
  (n ∈ reqF C l → repsF C l n = [] → ∀ H', Ex H H' → Q .non H') ∧ (∀ r rs H' u, n ∈ reqF C l → repsF C l n = r :: rs → Ex H H' → DI K H' u (encR r) → Q u H') ∧ (n ∉ reqF C l → RxE K E H (.notAllowed n))
abbrev N_mrep : List Str := ["self", "layout", "length", "best", "reply", "here"]
theorem sc_mrep : FnScope N_mrep ["self", "layout", "length"] (defScope s_Game_manager_reply) := ⟨rfl, rfl, rfl, by decide +kernel, rfl, by decide +kernel, by decide +kernel⟩
theorem w_mrep (T : Txt P K mg) {Tf Tr : Addr} (D : Tabs K mg base Tf Tr) : Mt P w K mg base 7 (CGame K) "manager_reply" (spMRep P w K Tf Tr) := by
  have nd := sc_mrep.nd
  have c1 := w_reps (w := w) (base := base) T D
  have c2 := w_after (w := w) (base := base) T
  have c3 := w_rank (w := w) (base := base) T
  have c4 := w_higher (w := w) (base := base) T
  refine mt_of T (fn_mem 57 rfl) (by decide +kernel) (by decide +kernel) sc_mrep (b3 fun _ _ _ _ _ _ _ _ _ => rfl) (fun vs H Q E ⟨_, _, _, _, _, _, _, _, _, e, _⟩ => by rw [e]; rfl) fun cdv A outer s H vs Q E hr ⟨g, dx, c, d, C, N, v, l, n, e, hG, hok, ht, hv, hgl, n1, n9, hqn, hqr, hE⟩ => ?_
  subst e
  refine ⟨_, (pss_cons (ps_set (i := 3) nd rfl (.inl rfl) pe_non) (pss_cons (ps_for ps0 rfl (pi_list (pe_cl c1 hr tk0 (pa_cons (pe_fld (pv 0) rfl) (pa_cons (pv 1) (pa_cons (pv 2) pa_nil))))) (pg_name (i := 4) nd rfl (.inl rfl)) (pss_cons (ps_set (i := 5) nd rfl (.inl rfl) (pe_mt c3 hr tk0 (pv 0) (pa_cons (pe_cl c2 hr takes0 (pa_cons (pv 1) (pa_cons (pv 2) (pa_cons (pv 4) pa_nil)))) pa_nil))) (pss_one (ps_if (PW.pt (pw_or (pt_cmpR op_isN (pv 3) pe_non (nomark _)) (pw_or1 (pt_truth (pe_mt c4 hr tk0 (pv 0) (pa_cons (pv 5) (pa_cons (pe_ix ix_tup (pv 3) pe_int (fun _ _ => rfl)) pa_nil))) (by intro _; rfl))))) (pss_one (ps_set (i := 3) nd rfl (.inl rfl) (pe_tup (pa_cons (pv 4) (pa_cons (pv 5) pa_nil))))) pss_nil)))) (pss_cons (ps_if (pt_cmpR op_isN (pv 3) pe_non (nomark _)) (pss_one (ps_ret pe_non)) pss_nil) (pss_one (ps_ret (pe_ix ix_tup (pv 3) pe_int (fun _ _ => rfl))))))), ?_⟩
  have hn3 := hok.n3
  refine ⟨_, rfl, g, _, _, _, _, rfl, hG.ins, T.cls "Game", T.noat "Game" "contract", rfl, _, rfl, _, rfl, c, C, v, l, n, rfl, hG.ctr, by omega, ht, hv, hgl, n1, n9, fun hn H1 u e1 du => ?_, fun hn => hE hn⟩
  have dv1 := DI.ex hv e1
  have hG1 := hG.ex e1
  obtain ⟨ra, rxs, rfl, hrs, hrd⟩ := DI.lst_inv du
  have hl4 := hgl.sm.l4
  refine ⟨ra, rfl, ⟨_, SqL.le (leI H1) hrs⟩, ?_⟩
  refine for_d (l := repsF C l n) (enc := encR) du (fun pre σ G => ∃ (y4 y5 : Option V) (bv : V), σ = [some (.ref g), some v, some (.int n), some bv, y4, y5] ∧ Ex H1 G ∧ ((pre = [] ∧ bv = .non) ∨ ∃ r rs t rv, pre = r :: rs ∧ bv = .ref t ∧ SqT K G t [rv, .non] ∧ DI K G rv (encR r))) ?_ ?_ ?_ ?_
  · exact ⟨_, _, _, rfl, ExF.refl _ _, .inl ⟨rfl, rfl⟩⟩
  · intro pre σ G ⟨_, _, _, _, e, _⟩
    exact Le.of e
  · intro pre r post rv σ G el ⟨y4, y5, bv, e, eG, hb⟩ hrv
    subst e
    refine ⟨_, rfl, g, _, _, rfl, (hG1.ex eG).ins, rfl, _, rfl, _, rfl, _, rfl, v, rv, l, n, r, rfl, DI.ex dv1 eG, DI.ex hrv eG, by omega, fun G2 u2 e2 du2 => ⟨g, dx, c, d, C, u2, _, rfl, (hG1.ex eG).ex e2, du2, fun G3 e3 => ?_⟩⟩
    have eG3 := eG.trans (e2.trans e3)
    rcases hb with ⟨hp, hb⟩ | ⟨r0, rs, t, rv0, hp, hb, ht0, hd0⟩
    · subst hp
      subst hb
      refine ⟨_, rfl, rfl, _, rfl, iteT (iteT ⟨_, rfl, _, rfl, sz2, fun t nt => ⟨_, _, _, rfl, eG3.trans (Ex.new nt), .inr ⟨r, [], t, rv, rfl, rfl, SqT.of upd_same, DI.ex (DI.ex hrv eG3) (Ex.new (F := NoF) nt)⟩⟩⟩)⟩
    · subst hp
      subst hb
      have e13 : Ex G G3 := e2.trans e3
      refine ⟨_, rfl, rfl, _, rfl, iteF ⟨_, rfl, g, _, _, rfl, ((hG1.ex eG).ex e13).ins, rfl, _, rfl, _, rfl, t, _, 1, .non, rfl, rfl, SqT.ex e13 ht0, atI_nat (j := 1) rfl, g, rfl, _, rfl, iteF ⟨_, _, _, rfl, eG3, .inr ⟨r0, rs ++ [r], t, rv0, rfl, rfl, SqT.ex e13 ht0, DI.ex hd0 e13⟩⟩⟩⟩
  · intro σ G ⟨y4, y5, bv, e, eG, hb⟩
    subst e
    rcases hb with ⟨hp, hb⟩ | ⟨r0, rs, t, rv0, hp, hb, ht0, hd0⟩
    · subst hb
      exact ⟨_, rfl, rfl, _, rfl, itY rfl (hqn hn hp G (e1.trans eG))⟩
    · subst hb
      refine ⟨_, rfl, rfl, _, rfl, itN (fun z => by cases z) ⟨_, rfl, t, _, 0, rv0, rfl, rfl, ht0, atI_nat (j := 0) rfl, hqr r0 rs G rv0 hn hp (e1.trans eG) hd0⟩⟩
end
end Hg
namespace Hg
open PySem PySem.Spec PyProof.Rows L2 GxR
/-! ### StrategyManager, contract_heap -/
theorem count_sorted {size : Int} : ∀ (l : Lay) (e : Int), (∀ b ∈ l, e ≤ b.1) → LayIn size l → l.Pairwise disj → l.Pairwise (fun a b => leP a b = true) → l ≠ [] → e + l.length ≤ size
  | [], e, _, _, _, _, h => absurd rfl h
  | b :: l, e, he, hl, hd, hs, _ => by
    have hb := hl b (List.mem_cons_self ..)
    have heb := he b (List.mem_cons_self ..)
    rw [List.pairwise_cons] at hd hs
    by_cases h : l = []
    · subst h
      show e + ((1 : Nat) : Int) ≤ size
      omega
    · have h1 := count_sorted l (b.1 + b.2) (fun x hx => ?_) (fun x hx => hl x (List.mem_cons_of_mem _ hx)) hd.2 hs.2 h
      · rw [List.length_cons]
        omega
      · have h2 := hd.1 x hx
        have h3 := hs.1 x hx
        rw [leP_lex, decide_eq_true_eq] at h3
        have hx1 := hl x (List.mem_cons_of_mem _ hx)
        unfold disj at h2
        omega
theorem Good.sorted {size : Int} {l m : Lay} (h : Good size l) (p : m.Perm l) : Good size m := ⟨fun b hb => h.inn b (p.mem_iff.mp hb), (p.pairwise_iff (fun {a b} (h : disj a b) => Or.symm h)).mpr h.dj⟩
/-- at most as many blocks as cells -/
theorem Good.count {size : Int} {l : Lay} (h : Good size l) (h0 : 0 ≤ size) : (l.length : Int) ≤ size := by
  have hp := List.mergeSort_perm l leP
  have hg := h.sorted hp
  have hs : (l.mergeSort leP).Pairwise fun a b => leP a b = true := List.pairwise_mergeSort leP_trans leP_total l
  by_cases hn : l.mergeSort leP = []
  · have := hp.length_eq
    rw [hn] at this
    rw [← this]
    exact h0
  · have h1 := count_sorted (l.mergeSort leP) 0 (fun b hb => (hg.inn b hb).1) hg.inn hg.dj hs hn
    rw [hp.length_eq] at h1
    omega
def manGame (C : Ctr) : Man := ⟨C.size, true, fun l n _ => gameF C l n⟩
theorem Good.gl {C : Ctr} {l : Lay} (h : Good C.size l) (h0 : 1 ≤ C.size) (h4 : C.size ≤ 4) : GL C l := by
  have h1 := h.count (by omega)
  refine ⟨⟨by omega, fun b hb => (h.inn b hb).2.1, by omega⟩, fun b hb => ?_, by omega⟩
  have := h.inn b hb
  omega
section
variable {P : Program} {w : World} {K : PySem.W.Frag} {mg : Str → Option Value} {base : Heap}
abbrev CStr (K : PySem.W.Frag) : Addr := gA K "StrategyManager"
def strFs (g : Addr) (C : Ctr) : List (Str × V) := [("game", .ref g), ("size", .int C.size), ("strategy", .bl true)]
def spStr0 (P : Program) (w : World) (K : PySem.W.Frag) (Tf Tr : Addr) : Sp := fun vs H Q _ => ∃ (x dx c : Addr) (C : Ctr) (N : Nat), vs = [.ref x, .ref c] ∧ H x = some (.ins (CStr K) dx []) ∧ CtrAt K H c C ∧ GameOk C N ∧ TabH H Tf Tr ∧
  ∀ H' g gdx d, ExF (Only x) H H' → H' x = some (.ins (CStr K) dx (strFs g C)) → GameAt P w K H' g gdx c d C → H g = none → H d = none → Q .non H'
theorem sc_str0 : FnScope ["self", "contract"] ["self", "contract"] (defScope s_StrategyManager_init) := ⟨rfl, rfl, rfl, by decide +kernel, rfl, by decide +kernel, by decide +kernel⟩
theorem w_str0 (T : Txt P K mg) {Tf Tr : Addr} (D : Tabs K mg base Tf Tr) : Mr P w K mg base 10 "StrategyManager" (CStr K) (spStr0 P w K Tf Tr) := by
  have nd := sc_str0.nd
  have c1 := w_game0 (w := w) (base := base) T D
  have c2 := w_winner (w := w) (base := base) T
  refine mr_of T (fn_mem 73 rfl) (by decide +kernel) (by decide +kernel) sc_str0 (b2 fun _ _ _ _ _ _ _ _ => rfl) (fun vs H Q E ⟨_, _, _, _, _, e, _⟩ => by rw [e]; rfl) fun cdv A outer s H vs Q E hr ⟨x, dx, c, C, N, e, hx, hc, hg, ht, hq⟩ => ?_
  subst e
  refine ⟨_, (pss_cons (ps_fld (pv 0) (pe_mr c1 hr (pa_cons (pv 1) pa_nil)) rfl) (pss_cons (ps_fld (pv 0) (pe_fld (pv 1) rfl) rfl) (pss_cons (ps_fld (pv 0) pe_bl rfl) (pss_one (ps_if (pt_cmpR op_ne (pe_mt0 c2 hr tk0 (pe_fld (pv 0) rfl)) pe_str (nomark _)) (pss_one (ps_raise0 (er0_of T "Loses" (by decide +kernel) (by decide +kernel) (by decide +kernel)) rfl tk0)) pss_nil))))), ?_⟩
  refine ⟨_, rfl, fun g gdx ng ngdx ngd => ⟨g, gdx, c, C, N, rfl, upd_same, hc.ex (Ex.updN (Ex.new ngdx) ng), hg, ht.ex (Ex.updN (Ex.new ngdx) ng), fun H1 d eF hG nd1 => ⟨rfl, ?_⟩⟩⟩
  have e1 : Ex H H1 := mk_ex ng ngdx eF
  have nd0 : H d = none := (Ex.updN (o := .ins (CGame K) gdx []) (Ex.new (o := .own g) ngdx) ng).gone nd1
  have hx1 := e1.at hx
  have ngx : g ≠ x := fun z => by rw [z, hx] at ng; cases ng
  have ndx : d ≠ x := fun z => by rw [z, hx] at nd0; cases nd0
  have ncx : c ≠ x := by
    obtain ⟨dx9, lv9, h9, _⟩ := hc.ins
    exact ne_of h9 hx (fun z => by injection z with _ _ z3; cases z3)
  refine ⟨_, rfl, x, _, _, _, rfl, hx1, T.cls "StrategyManager", T.noat "StrategyManager" "game", by show (0 : Nat) < 1000; decide, ?_⟩
  have eA : ExF (Only x) H1 (upd H1 x (.ins (CStr K) dx (putF "game" (.ref g) []))) := (ExF.refl _ H1).upd (.inr ⟨rfl, _, hx1, rfl, rfl⟩)
  have hGA := hG.frame eA ngx ncx ndx
  have hxA : (upd H1 x (.ins (CStr K) dx (putF "game" (.ref g) []))) x = some (.ins (CStr K) dx [("game", .ref g)]) := upd_same
  generalize upd H1 x (.ins (CStr K) dx (putF "game" (.ref g) [])) = HA at eA hGA hxA ⊢
  obtain ⟨cdx, lv, hcA, _⟩ := id hGA.ctr.ins
  refine ⟨_, rfl, c, _, _, _, _, rfl, hcA, T.cls "Contract", T.noat "Contract" "size", rfl, _, rfl, x, _, _, _, rfl, hxA, T.cls "StrategyManager", T.noat "StrategyManager" "size", by show (1 : Nat) < 1000; decide, ?_⟩
  refine ⟨_, rfl, x, _, _, _, rfl, upd_same, T.cls "StrategyManager", T.noat "StrategyManager" "strategy", by show (2 : Nat) < 1000; decide, ?_⟩
  rw [upd_upd]
  have eB : ExF (Only x) HA (upd HA x (.ins (CStr K) dx (putF "strategy" (.bl true) (putF "size" (.int C.size) [("game", .ref g)])))) := (ExF.refl _ HA).upd (.inr ⟨rfl, _, hxA, rfl, rfl⟩)
  have hGB := hGA.frame eB ngx ncx ndx
  have hxB : (upd HA x (.ins (CStr K) dx (putF "strategy" (.bl true) (putF "size" (.int C.size) [("game", .ref g)])))) x = some (.ins (CStr K) dx (strFs g C)) := upd_same
  generalize upd HA x (.ins (CStr K) dx (putF "strategy" (.bl true) (putF "size" (.int C.size) [("game", .ref g)]))) = HB at eB hGB hxB ⊢
  refine ⟨_, rfl, x, _, _, _, _, rfl, hxB, T.cls "StrategyManager", T.noat "StrategyManager" "game", rfl, g, _, _, rfl, hGB.ins, rfl, g, gdx, c, d, C, rfl, hGB, fun H3 e3 => ⟨rfl, _, rfl, iteF ?_⟩⟩
  exact hq H3 g gdx d (((e1.of.trans eA).trans eB).trans e3.of) (e3.at hxB) (hGB.ex e3) ng nd0
abbrev N_strp : List Str := ["self", "layout", "length", "cursor", "reply"]
theorem sc_strp : FnScope N_strp ["self", "layout", "length", "cursor"] (defScope s_StrategyManager_place) := ⟨rfl, rfl, rfl, by decide +kernel, rfl, by decide +kernel, by decide +kernel⟩
structure StrAt (P : Program) (w : World) (K : PySem.W.Frag) (H : Hp) (m dx g gdx c d : Addr) (C : Ctr) (Tf Tr : Addr) : Prop where
  ins : H m = some (.ins (CStr K) dx (strFs g C))
  gm : GameAt P w K H g gdx c d C
  tb : TabH H Tf Tr
theorem w_strp (T : Txt P K mg) {Tf Tr : Addr} (D : Tabs K mg base Tf Tr) {C : Ctr} {N : Nat} {m dx g gdx c d : Addr} (hok : CtrOk C N) (h4 : C.size ≤ 4) : Mt P w K mg base 12 (CStr K) "place" (spMPlace K (manGame C) (fun H => StrAt P w K H m dx g gdx c d C Tf Tr) m) := by
  have nd := sc_strp.nd
  have c1 := w_mrep (w := w) (base := base) T D
  refine mt_of T (fn_mem 74 rfl) (by decide +kernel) (by decide +kernel) sc_strp (b4 fun _ _ _ _ _ _ _ _ _ _ => rfl) (fun vs H Q E ⟨_, _, _, _, e, _⟩ => by rw [e]; rfl) fun cdv A outer s H vs Q E hr ⟨lv, l, n, cur, e, hm, dl, hg, hsrt, hll, n0, n1, hq, hE⟩ => ?_
  subst e
  refine ⟨_, (pss_cons (ps_set (i := 4) nd rfl (.inl rfl) (pe_mt c1 hr tk0 (pe_fld (pv 0) rfl) (pa_cons (pv 1) (pa_cons (pv 2) pa_nil)))) (pss_cons (ps_if (pt_cmpR op_isN (pv 4) pe_non (nomark _)) (pss_one (ps_raise1 (er_OutOfMemory T) hr rfl tk0 (pv 2))) pss_nil) (pss_one (ps_ret (pe_tup (pa_cons (pe_ix ix_tup (pv 4) pe_int (fun _ _ => rfl)) (pa_cons (pe_ix ix_tup (pv 4) pe_int (fun _ _ => rfl)) pa_nil))))))), ?_⟩
  have hgl : GL C l := Good.gl hg hok.s1 h4
  refine ⟨_, rfl, m, _, _, _, _, rfl, hm.ins, T.cls "StrategyManager", T.noat "StrategyManager" "game", rfl, g, _, _, rfl, hm.gm.ins, rfl, _, rfl, _, rfl, g, gdx, c, d, C, N, lv, l, n, rfl, hm.gm, hok, hm.tb, dl, hgl, n0, n1, fun hn hr0 H1 e1 => ?_, fun r rs H1 u hn hr0 e1 du => ?_, fun hn => ?_⟩
  · refine ⟨_, rfl, rfl, _, rfl, itY rfl ⟨_, rfl, .inr ⟨n, rfl, small_log ⟨by omega, by omega⟩⟩, fun d hd => hE (.mem n) ?_ _ d (e1.trans (Ex.new hd)) upd_same⟩⟩
    show gameF C l n = _
    unfold gameF
    rw [if_neg (fun z => z hn), hr0]
  · obtain ⟨a, u1, rfl, ha, hu1⟩ := DI.rep_inv du
    refine ⟨_, rfl, rfl, _, rfl, itN (fun z => by cases z) ⟨_, rfl, a, _, 0, u1, rfl, rfl, SqT.le (leI H1) ha, atI_nat (j := 0) rfl, _, rfl, a, _, 1, .int r.2.1, rfl, rfl, SqT.le (leI H1) ha, atI_nat (j := 1) rfl, sz2, fun t nt => ?_⟩⟩
    refine hq r.1 r.2.1 _ (.ref t) ?_ (e1.trans (Ex.new nt)) (DI.tupOf upd_same (.cons (DI.ex hu1 (Ex.new (F := NoF) nt)) (.cons (.int _) .nil)))
    show gameF C l n = _
    unfold gameF
    rw [if_neg (fun z => z hn), hr0]
  · refine hE (.notAllowed n) ?_
    show gameF C l n = _
    unfold gameF
    rw [if_pos hn]
theorem man_game (T : Txt P K mg) {Tf Tr : Addr} (D : Tabs K mg base Tf Tr) {C : Ctr} {N : Nat} {H : Hp} {m dx g gdx c d : Addr} (hok : CtrOk C N) (h4 : C.size ≤ 4) (h : StrAt P w K H m dx g gdx c d C Tf Tr) : ManAt P w K mg base H m (manGame C) [m, g, c, d] where
  s0 := hok.s1
  s1 := Int.le_trans h4 (by decide)
  mem := List.mem_cons_self ..
  live := fun b hb z => by
    obtain ⟨cdx, lv, h9, _⟩ := h.gm.ctr.ins
    obtain ⟨xs, h8, _⟩ := h.gm.rk
    (rcases List.mem_cons.mp hb with e | hb)
    · rw [e, h.ins] at z; cases z
    · (rcases List.mem_cons.mp hb with e | hb)
      · rw [e, h.gm.ins] at z; cases z
      · (rcases List.mem_cons.mp hb with e | hb)
        · rw [e, h9] at z; cases z
        · rw [List.mem_singleton.mp hb, h8] at z; cases z
  at_ := ⟨_, dx, strFs g C, h.ins, T.cls "StrategyManager", T.noat "StrategyManager" "size", T.noat "StrategyManager" "strategy", rfl, rfl, rfl, fun H => StrAt P w K H m dx g gdx c d C Tf Tr, h, fun F H H' e hF h => ⟨e.at h.ins (hF m (by simp)), h.gm.frame e (hF g (by simp)) (hF c (by simp)) (hF d (by simp)), h.tb.ex e⟩, w_strp T D hok h4⟩
/-! contract_heap -/
def spCtrHeap (P : Program) (w : World) (K : PySem.W.Frag) (mg : Str → Option Value) (base : Heap) (Tf Tr : Addr) : Sp := fun vs H Q _ => ∃ (c : Addr) (C : Ctr) (N : Nat), vs = [.ref c] ∧ CtrAt K H c C ∧ GameOk C N ∧ C.size ≤ 4 ∧ TabH H Tf Tr ∧
  ∀ H' h M mf, Ex H H' → HeapAt K H' h M → ManAt P w K mg base H' M.mgr (manGame C) mf → (∀ b ∈ mf, b ∉ M.foot h) → M.T.ph = ph0 → M.evs = [] → (∀ b ∈ M.foot h, H b = none) → (∀ b ∈ mf, b = c ∨ H b = none) → Q (.ref h) H'
theorem sc_ctrheap : FnScope ["contract"] ["contract"] (defScope s_contract_heap) := ⟨rfl, rfl, rfl, by decide +kernel, rfl, by decide +kernel, by decide +kernel⟩
theorem w_ctrheap (T : Txt P K mg) {Tf Tr : Addr} (D : Tabs K mg base Tf Tr) : Cl P w K mg base 12 "contract_heap" (spCtrHeap P w K mg base Tf Tr) := by
  have nd := sc_ctrheap.nd
  have c1 := w_heap0 (w := w) (base := base) T
  have c2 := w_str0 (w := w) (base := base) T D
  refine cl_of T (fn_mem 29 rfl) (by decide +kernel) sc_ctrheap (b1 fun _ _ _ _ _ _ _ => rfl) (fun vs H Q E ⟨_, _, _, e, _⟩ => by rw [e]; rfl) fun cdv A outer s H vs Q E hr ⟨c, C, N, e, hc, hg, h4, ht, hq⟩ => ?_
  subst e
  refine ⟨_, (pss_one (ps_ret (pe_mr c1 hr (pa_cons (pe_mr c2 hr (pa_cons (pv 0) pa_nil)) pa_nil)))), ?_⟩
  refine ⟨_, rfl, fun m mdx nm nmdx nmd => ⟨m, mdx, c, C, N, rfl, upd_same, hc.ex (Ex.updN (Ex.new nmdx) nm), hg, ht.ex (Ex.updN (Ex.new nmdx) nm), fun H1 g gdx d eF hm1 hG ng nd1 => ⟨rfl, ?_⟩⟩⟩
  have e1 : Ex H H1 := mk_ex nm nmdx eF
  have ht1 := ht.ex e1
  refine fun x dx nx ndx nxd => ⟨x, dx, m, rfl, upd_same, by rw [upd_ne nxd, upd_same], fun H2 M eF hM hmg hph hev hfr => ⟨rfl, ?_⟩⟩
  have e2 : Ex H1 H2 := mk_ex nx ndx eF
  have hf2 : ∀ b ∈ M.foot x, H1 b = none := fun b hb => by
    rcases hfr b hb with e | e | e
    · rw [e]; exact nx
    · rw [e]; exact ndx
    · exact (Ex.updN (o := .ins (CHeap K) dx []) (Ex.new (o := .own x) ndx) nx).gone e
  have hma : ManAt P w K mg base H1 m (manGame C) [m, g, c, d] := man_game T D hg.ok h4 ⟨hm1, hG, ht1⟩
  refine hq H2 x M [m, g, c, d] (e1.trans e2) hM ?_ (fun b hb z => hma.live b hb (hf2 b z)) hph hev (fun b hb => e1.gone (hf2 b hb)) fun b hb => ?_
  · rw [hmg]
    exact hma.ex e2
  · have e0 : Ex H (upd (upd H mdx (.own m)) m (.ins (CStr K) mdx [])) := Ex.updN (Ex.new nmdx) nm
    (rcases List.mem_cons.mp hb with e | hb)
    · rw [e]; exact .inr nm
    · (rcases List.mem_cons.mp hb with e | hb)
      · rw [e]; exact .inr (e0.gone ng)
      · (rcases List.mem_cons.mp hb with e | hb)
        · exact .inl e
        · rw [List.mem_singleton.mp hb]; exact .inr (e0.gone nd1)
end
end Hg
namespace Hg
open PySem PySem.Spec PyProof.Rows L2 GxR
/-! ### the four contracts -/
def rowB (C : Ctr) (l : Lay) (n : Int) (ss : List Int) : Bool := decide (ss.length = l.length) && ss.all (fun i => decide (0 ≤ i)) && decide ((placedF l ss).Pairwise fun a b => a.1 < b.1 ∨ (a.1 = b.1 ∧ a.2 ≤ b.2)) && isLayF C.size (placedF l ss) &&
  (rangeL 0 (C.size + 1 - n)).any fun st => fitsF C.size (placedF l ss) st n
def okB (C : Ctr) (l : Lay) (n : Int) : Bool := (swF C.size C.budget l).any (rowB C l n)
def glB (l : Lay) : Bool := l.all (fun b => decide (1 ≤ b.2) && decide (b.2 ≤ 1000)) && decide (l.length ≤ 4)
def ctrB (C : Ctr) (N : Nat) : Bool := decide (1 ≤ C.size) && decide (C.size ≤ 8) && decide (C.lengths.length ≤ 3) && C.lengths.all (fun n => decide (1 ≤ n) && decide (n ≤ 1000)) && decide (N ≤ 1000) && ((posGo C N ([], [[]])).2.isEmpty) &&
  (pos0F C N).all fun l => glB l && (reqF C l).all fun n => okB C l n
theorem okB_rep {C : Ctr} {l : Lay} {n : Int} (h : okB C l n = true) : rep0F C l n ≠ [] := by
  obtain ⟨ss, hss, hr⟩ := List.any_eq_true.mp h
  unfold rowB at hr
  simp only [Bool.and_eq_true, decide_eq_true_eq, List.all_eq_true] at hr
  obtain ⟨⟨⟨⟨h1, h2⟩, h3⟩, h4⟩, h5⟩ := hr
  obtain ⟨st, hst, hf⟩ := List.any_eq_true.mp h5
  have hs : relocdF l ss = placedF l ss := by
    unfold relocdF
    apply List.mergeSort_of_pairwise
    refine h3.imp fun {a b} h => ?_
    rw [leP_lex, decide_eq_true_eq]
    exact h
  have hrel : isRelF C.size l ss = true := by
    unfold isRelF
    rw [if_neg, hs]
    · exact h4
    · rintro (z | z)
      · exact z h1
      · obtain ⟨i, hi, z⟩ := List.any_eq_true.mp z
        have := h2 i hi
        rw [decide_eq_true_eq] at z
        omega
  have hm : (ss, st, costF l ss) ∈ rep0F C l n := by
    refine List.mem_flatMap.mpr ⟨ss, List.mem_filter.mpr ⟨hss, hrel⟩, List.mem_flatMap.mpr ⟨st, hst, ?_⟩⟩
    rw [hs, hf]
    simp
  exact List.ne_nil_of_mem hm
theorem ctrB_ok {C : Ctr} {N : Nat} (h : ctrB C N = true) : GameOk C N := by
  unfold ctrB at h
  simp only [Bool.and_eq_true, decide_eq_true_eq, List.all_eq_true] at h
  (obtain ⟨⟨⟨⟨⟨⟨h1, h2⟩, h3⟩, h4⟩, h5⟩, h6⟩, h7⟩ := h)
  refine ⟨⟨h1, h2, h3, h4, h5, List.isEmpty_iff.mp h6⟩, fun l hl => ?_⟩
  obtain ⟨g1, g2⟩ := h7 l hl
  unfold glB at g1
  simp only [Bool.and_eq_true, decide_eq_true_eq, List.all_eq_true] at g1
  exact ⟨⟨⟨h2, fun b hb => (g1.1 b hb).1, g1.2⟩, fun b hb => (g1.1 b hb).2, by omega⟩, fun n hn => okB_rep (g2 n hn)⟩
def ctrs : List Ctr := [⟨4, 3, [1, 2], 0⟩, ⟨3, 3, [1, 2], 1⟩, ⟨4, 4, [1, 2], 2⟩, ⟨3, 3, [1], 0⟩]
theorem ctrs_ok : ctrs.all (fun C => ctrB C 30 && decide (C.size ≤ 4)) = true := by decide +kernel
theorem ctrs_game {C : Ctr} (h : C ∈ ctrs) : GameOk C 30 ∧ C.size ≤ 4 := by
  have h1 := List.all_eq_true.mp ctrs_ok C h
  rw [Bool.and_eq_true, decide_eq_true_eq] at h1
  exact ⟨ctrB_ok h1.1, h1.2⟩
end Hg
namespace Hg
open PySem PySem.Spec PyProof.Rows L2 GxR
/-! ### promises that lean on no repr being under way (the law itself, _law_same) -/
structure FnG (P : Program) (w : World) (K : PySem.W.Frag) (mg : Str → Option Value) (base : Heap) (k : Nat) (f : Addr) (fd : FuncData) (ps : List Str) (sp : Sp) : Prop where
  many : ∀ vs H Q E, sp vs H Q E → vs.length = ps.length
  go : ∀ (A : Around) (outer : List Env) (s : Shared) (H : Hp) (args : Args) (us : List Value) (vs : List V) (Q : VK) (E : XK), A.guards = some [] → Room k A → Env0 P w K mg base A outer s H → BindsTo s fd args (ps.zip us) →
    Vals vs us → sp vs H Q E → codeAny (model P w) A (.call (.ref f) args) (CR (L2.CX P w) outer P w H s Q E) s
section
variable {P : Program} {w : World} {K : PySem.W.Frag} {mg : Str → Option Value} {base : Heap}
/-- what the end of a body is to its caller -/
theorem leave_ok {N : List Str} {qual : Str} {sc : Scope} {f : Addr} {cd : Value} {A : Around} {outer : List Env} {s s2 : Shared} {H : Hp} {E : XK} {Q : VK} : ∀ {fl : Flow},
    SP (bx P w K mg base N qual sc f cd A outer s H E) [] { nx := fun _ G => Q .non G, rt := Q } fl s2 → CE outer P w H s Q (match fl with | .ret v => v | _ => Value.none) s2
  | .ret u, ⟨v, τ, G, J, rv, q⟩ => ⟨v, G, J.os, J.bare, J.base, J.hok, rv, q⟩
  | .next, ⟨τ, G, J, q⟩ => ⟨.non, G, J.os, J.bare, J.base, J.hok, rfl, q⟩
  | .brk, ⟨_, _, _, q⟩ => q.elim
  | .cont, ⟨_, _, _, q⟩ => q.elim
/-- a def with the body's promise, where no repr is under way -/
theorem FunD.okG {x qual : Str} {params : Arguments} {body : List Stmt} {sc : Scope} {dvs : List V} {kws : List (Str × V)} {f : Addr} {fd : FuncData} {N ps : List Str} {k : Nat} {sp : Sp} (F : FunD K x qual params body sc dvs kws f fd) (S : FnScope N ps sc)
    (many : ∀ vs H Q E, sp vs H Q E → vs.length = ps.length)
    (hb : ∀ (cdv : Value) (A : Around) (outer : List Env) (s : Shared) (H : Hp) (vs : List V) (Q : VK) (E : XK), A.guards = some [] → Room k (A.deeper (envOfC qual sc s.heap.objs.size f cdv)) → sp vs H Q E →
      ∃ t, PSs (bx P w K mg base N qual sc f cdv A outer s H E) body t ∧ t { nx := fun _ G => Q .non G, rt := Q } (start N vs) H) : FnG P w K mg base (k + 1) f fd ps sp := by
  obtain ⟨oc, od, dV, kV, doc, pm, an, cdv, ct, osl, rfl, look, code, _⟩ := F.ex
  constructor
  · exact many
  intro A outer s H args us vs Q E ng hr e0 hbind rv hsp
  have here : ∀ b o, base.get? b = some o → s.heap.get? b = some o := fun b o e => (e0.bs b o e).1
  have kin := e0.mod.kin.keeps here
  have cellOk : ∀ n, n ∈ ps → sc.names.lookup n = some .local ∨ (sc.names.lookup n = some .cell ∧ ((cellsFrom (s.heap.objs.size + 1) sc.names []).lookup n).isSome = true) := fun n hn => by
    cases S.par n hn with
    | inl h => exact .inl h
    | inr h => exact .inr ⟨h, PySem.W.cellsFrom_some _ _ _ (.inl h)⟩
  refine codeAny_call_function hr.depth (kin _ _ look) rfl S.co S.gen rfl (PySem.W.codeRec_of kin code) (hbind _ _ _ _ (wpAny_newFunctionEnv_cells S.kind (fun y hy => cellOk y.1 (List.of_mem_zip (a := y.1) (b := y.2) hy).1) ?_))
  rintro _ rfl s1 made
  have J := inv_start (CX := L2.CX P w) (qual := qual) (f := f) (cd := cdv) (E := E) S hr.hd e0 (many _ _ _ _ hsp) rv made
  obtain ⟨t, ht, hq⟩ := hb cdv A outer s H vs Q E ng (hr.deeper _) hsp
  exact ⟨(e0.mod.nolimit.keeps here).keeps made.toInCall.keep, codeAny_func (wpAny_mono (ht.run [] s1 _ _ _ J hq) (fun fl s2 z => leave_ok z) fun _ _ z => z)⟩
/-- the global x is such a def -/
def ClG (P : Program) (w : World) (K : PySem.W.Frag) (mg : Str → Option Value) (base : Heap) (k : Nat) (x : Str) (sp : Sp) : Prop := ∃ (f : Addr) (fd : FuncData) (ps : List Str), FnG P w K mg base k f fd ps sp ∧ mg x = some (.ref f) ∧ PySem.W.keepIn K (.ref f) = true ∧ Binds K fd ps []
theorem clG_of (T : Txt P K mg) {x : Str} {st : Stmt} {k : Nat} {sp : Sp} {N ps : List Str} (hm : mkF x st ∈ fn) (hx : globs.contains x = true) (S : FnScope N ps (defScope st)) (hb : ∀ fd, FunD K x x (defArgs st) (defBody st) (defScope st) [] [] (He.fAd K (x, none)) fd → Binds K fd ps [])
    (many : ∀ vs H Q E, sp vs H Q E → vs.length = ps.length)
    (hbody : ∀ (cdv : Value) (A : Around) (outer : List Env) (s : Shared) (H : Hp) (vs : List V) (Q : VK) (E : XK), A.guards = some [] → Room k (A.deeper (envOfC x (defScope st) s.heap.objs.size (gA K x) cdv)) → sp vs H Q E →
      ∃ t, PSs (bx P w K mg base N x (defScope st) (gA K x) cdv A outer s H E) (defBody st) t ∧ t { nx := fun _ G => Q .non G, rt := Q } (start N vs) H) : ClG P w K mg base (k + 1) x sp := by
  obtain ⟨fd, F⟩ := T.defs _ hm
  exact ⟨gA K x, fd, ps, FunD.okG F S many hbody, T.glo x (List.contains_iff_mem.mp hx), F.kp, hb fd F⟩
end
section
variable {X : Cx} {W : WX} {j k : Nat} {sp : Sp} {x : Str} {e : Expr} {es : List Expr} {t : TA} {p pos : Pos}
/-- its call -/
theorem pe_clG (c : ClG X.prog X.w X.K X.mg X.base k x sp) (ng : X.A.guards = some []) (hr : Room j X.A) (tk : Takes X W) (ha : PA X (e :: es) t) (hk : k ≤ j := by decide) (hg : Gl X x := by rfl) (hdb : (x == ("__debug__" : Str)) = false := by decide)
    (he : starEach (e :: es) X.env = (false, eval e X.env) :: starEach es X.env := by rfl) (hpl : (backTo pos (starEach es X.env)).any (·.1) = false := by rfl) : PE X (.Call (.Name x p) (e :: es) [] pos) (tCallS sp (WE W) t) := by
  obtain ⟨f, fd, ps, F, hm, hkp, hb⟩ := c
  constructor
  intro pins s σ H Q I h
  refine wpAny_Call_Name_kw (ld_glob I hg hm (PySem.W.callWith_K I.ok.mod.kin hkp (thn (ha.run pos pins s σ H _ I h) ?_) he hpl) hdb)
  rintro us s1 ⟨vs, H1, I1, rv, q⟩
  refine ⟨I1.kIn, wpAny_call (codeAny_mono (F.go X.A X.stack s1 H1 ⟨us, []⟩ us vs Q (WE W σ) ng (hr.mono hk) I1.env0 ?_ rv q) ?_)⟩
  · have b := hb s1 us I1.kIn
    rw [List.append_nil] at b
    exact b (rv.length.symm.trans (F.many _ _ _ _ q))
  · rintro (er | fl) s2 z
    · exact passAt tk σ pins H1 s1 er s2 I1 z
    · cases fl with
      | ret u => exact I1.after z
      | next => exact z.elim
      | brk => exact z.elim
      | cont => exact z.elim
/-- repr(x) -/
def rRepr (K : PySem.W.Frag) : List V → Hp → VK → Prop := fun xs H Q => ∃ (a : Addr) (d : PyData), xs = [.ref a] ∧ Dp K H (.ref a) d ∧ d.showable = true ∧ d.hasDict = false ∧ d.depth ≤ 60 ∧ d.shown.length ≤ sizeLine ∧ Q (.str d.shown) H
theorem cr_repr (ng : X.A.guards = some []) (hr : Room j X.A) : CallR X (.builtin "repr") (rRepr X.K) := by
  (intro pins s σ H xs us Q I rv h)
  obtain ⟨a, d, rfl, hd, hs, hnd, hdp, hsz, q⟩ := h
  obtain ⟨as, hrd⟩ := Dp.reads I d (.ref a) (.ref a) hd rfl
  rw [Vals.ref1 rv]
  refine repr_of_reads' hrd hs (fun z => by rw [hnd] at z; cases z) ng ?_ (fun b o e => e) (fun h2 u tk kp => ?_) hsz
  · have := hr.units
    omega
  · exact ⟨.str d.shown, H, I.kept kp, ⟨u, rfl⟩, q⟩
end
end Hg
namespace Hg
open PySem PySem.Spec PyProof.Rows L2 GxR
/-! ### plain: layouts in a row -/
def Chn (size : Int) : Int → Lay → Prop
  | e, [] => e ≤ size
  | e, b :: l => e ≤ b.1 ∧ 1 ≤ b.2 ∧ Chn size (b.1 + b.2) l
theorem Chn.le {size : Int} : ∀ {l : Lay} {e : Int}, Chn size e l → e ≤ size
  | [], _, h => h
  | b :: l, e, h => by
    have := h.2.2.le
    have := h.1
    have := h.2.1
    omega
theorem Chn.mono {size e' : Int} : ∀ {l : Lay} {e : Int}, Chn size e l → e' ≤ e → Chn size e' l
  | [], _, h, k => Int.le_trans k h
  | _ :: _, _, h, k => ⟨Int.le_trans k h.1, h.2⟩
theorem Chn.all {size : Int} : ∀ {l : Lay} {e : Int}, Chn size e l → ∀ b ∈ l, e ≤ b.1 ∧ 1 ≤ b.2 ∧ b.1 + b.2 ≤ size
  | [], _, _, b, hb => by cases hb
  | c :: l, e, h, b, hb => by
    (rcases List.mem_cons.mp hb with e1 | hb)
    · rw [e1]
      exact ⟨h.1, h.2.1, h.2.2.le⟩
    · have h1 := h.2.2.all b hb
      have h2 := h.1
      have h3 := h.2.1
      exact ⟨by omega, h1.2.1, h1.2.2⟩
theorem Chn.pw {size : Int} : ∀ {l : Lay} {e : Int}, Chn size e l → l.Pairwise disj
  | [], _, _ => .nil
  | b :: l, e, h => List.pairwise_cons.mpr ⟨fun c hc => .inl (h.2.2.all c hc).1, h.2.2.pw⟩
theorem Chn.good {size e : Int} {l : Lay} (h : Chn size e l) (h0 : 0 ≤ e) : Good size l := ⟨fun b hb => by
  have := h.all b hb
  exact ⟨by omega, this.2.1, this.2.2⟩, h.pw⟩
theorem Good.chnE {size : Int} : ∀ (l : Lay) (e : Int), (∀ b ∈ l, e ≤ b.1) → LayIn size l → l.Pairwise disj → l.Pairwise (fun a b => leP a b = true) → e ≤ size → Chn size e l
  | [], e, _, _, _, _, h => h
  | b :: l, e, he, hl, hd, hs, h => by
    have hb := hl b (List.mem_cons_self ..)
    rw [List.pairwise_cons] at hd hs
    refine ⟨he b (List.mem_cons_self ..), hb.2.1, Good.chnE l _ (fun x hx => ?_) (fun x hx => hl x (List.mem_cons_of_mem _ hx)) hd.2 hs.2 hb.2.2⟩
    have h2 := hd.1 x hx
    have h3 := hs.1 x hx
    rw [leP_lex, decide_eq_true_eq] at h3
    have hx1 := hl x (List.mem_cons_of_mem _ hx)
    unfold disj at h2
    omega
theorem Good.chn {size : Int} {l : Lay} (h : Good size l) (s : l.Pairwise (fun a b => leP a b = true)) (h0 : 0 ≤ size) : Chn size 0 l := Good.chnE l 0 (fun b hb => (h.inn b hb).1) h.inn h.dj s h0
/-! slide -/
def slR : Int → Lay → Lay
  | _, [] => []
  | e, b :: l => (e, b.2) :: slR (e + b.2) l
theorem sl_foldl : ∀ (l acc : Lay) (e : Int), (l.foldl slStep (acc, e)).1 = acc ++ slR e l
  | [], acc, e => by simp [slR]
  | b :: l, acc, e => by
    rw [List.foldl_cons]
    show (l.foldl slStep (acc ++ [(e, b.2)], e + b.2)).1 = _
    rw [sl_foldl l]
    simp [slR]
theorem slideF_eq (l : Lay) : slideF l = slR 0 l := sl_foldl l [] 0
theorem slR_placed : ∀ (l : Lay) (e : Int), placedF l ((slR e l).map (·.1)) = slR e l
  | [], _ => rfl
  | b :: l, e => by
    have h := slR_placed l (e + b.2)
    show (e, b.2) :: placedF l ((slR (e + b.2) l).map (·.1)) = _
    rw [h]
    rfl
theorem slR_chn {size : Int} : ∀ {l : Lay} {e e' : Int}, Chn size e l → e' ≤ e → Chn size e' (slR e' l)
  | [], _, _, h, k => Int.le_trans k h
  | b :: l, e, e', h, k => ⟨Int.le_refl _, h.2.1, slR_chn h.2.2 (by have := h.1; show e' + b.2 ≤ _; omega)⟩
theorem slR_len : ∀ (l : Lay) (e : Int), (slR e l).length = l.length
  | [], _ => rfl
  | b :: l, e => by
    show (slR (e + b.2) l).length + 1 = _
    rw [slR_len l]
    rfl
/-! cheapest_room -/
def RestC (size : Int) (suf : Lay) (rest : List (Option Plan)) : Prop := ∀ (pl : Int) (p : Plan), 0 ≤ pl → rest.getD pl.toNat none = some p → p.2.1.length = suf.length ∧ Chn size pl (placedF suf p.2.1)
def PlanC (size : Int) (suf : Lay) (pl : Int) (o : Option Plan) : Prop := ∀ p, o = some p → p.2.1.length = suf.length ∧ Chn size pl (placedF suf p.2.1)
theorem rangeL_get {lo hi x : Int} {i : Nat} (h : (rangeL lo hi)[i]? = some x) : x = lo + (i : Nat) := by
  (obtain ⟨hl, e⟩ := List.getElem?_eq_some_iff.mp h)
  rw [← e]
  simp [rangeL]
theorem rest_at {size pl : Int} {f : Int → Option Plan} {p : Plan} (h0 : 0 ≤ pl) (h : ((rangeL 0 (size + 1)).map f).getD pl.toNat none = some p) : pl ≤ size ∧ f pl = some p := by
  rw [List.getD_eq_getElem?_getD, List.getElem?_map] at h
  cases e : (rangeL 0 (size + 1))[pl.toNat]? with
  | none => (rw [e] at h; cases h)
  | some x =>
    rw [e] at h
    have hx : x = 0 + (pl.toNat : Int) ∧ x ≤ size := by
      have h1 := rangeL_get e
      have h2 := List.mem_of_getElem? e
      have h3 := (rangeL_mem h2).2
      exact ⟨h1, by omega⟩
    have e2 : x = pl := by omega
    rw [e2] at h hx
    exact ⟨hx.2, h⟩
theorem pb_c {size place : Int} {b : Int × Int} {suf : Lay} {rest : List (Option Plan)} (h0 : 0 ≤ place) (hb : 1 ≤ b.2) (h : RestC size suf rest) : PlanC size (b :: suf) place (putBlockF size b place rest) := by
  unfold putBlockF
  refine foldl_inv (R := PlanC size (b :: suf) place) (fun p e => by cases e) fun a x hx ha => ?_
  have hx1 := (rangeL_mem hx).1
  unfold pbStep
  split
  · exact ha
  · rename_i p e
    refine lesser_cases (R := PlanC size (b :: suf) place) ha fun q hq => ?_
    cases hq
    obtain ⟨h1, h2⟩ := h (x + b.2) p (by omega) e
    refine ⟨by show p.2.1.length + 1 = suf.length + 1; rw [h1], ?_⟩
    exact ⟨hx1, hb, h2⟩
theorem pr_c {size place n : Int} {suf : Lay} {rest : List (Option Plan)} (h0 : 0 ≤ place) (hn : 1 ≤ n) (h : RestC size suf rest) : PlanC size suf place (putRoomF size n place rest) := by
  unfold putRoomF
  refine foldl_inv (R := PlanC size suf place) (fun p e => by cases e) fun a x hx ha => ?_
  have hx1 := (rangeL_mem hx).1
  unfold prStep
  split
  · exact ha
  · rename_i p e
    refine lesser_cases (R := PlanC size suf place) ha fun q hq => ?_
    cases hq
    obtain ⟨h1, h2⟩ := h (x + n) p (by omega) e
    exact ⟨h1, h2.mono (by omega)⟩
theorem rest_c {size : Int} {suf : Lay} {f : Int → Option Plan} (h : ∀ pl, 0 ≤ pl → pl ≤ size → PlanC size suf pl (f pl)) : RestC size suf ((rangeL 0 (size + 1)).map f) := fun pl p h0 hp => by
  obtain ⟨h1, h2⟩ := rest_at h0 hp
  exact h pl h0 h1 p h2
theorem cr_c {size n : Int} (hn : 1 ≤ n) : ∀ l : Lay, (∀ b ∈ l, 1 ≤ b.2) → RestC size l (l.reverse.foldl (crStep size n) (cr0 size n)).1 ∧ RestC size l (l.reverse.foldl (crStep size n) (cr0 size n)).2
  | [], _ => by
    have h2 : RestC size [] (cr0 size n).2 := rest_c fun pl h0 h1 p e => by
      cases e
      exact ⟨rfl, h1⟩
    exact ⟨rest_c fun pl h0 h1 => pr_c h0 hn h2, h2⟩
  | b :: l, h => by
    obtain ⟨h1, h2⟩ := cr_c hn l fun x hx => h x (List.mem_cons_of_mem _ hx)
    have hb := h b (List.mem_cons_self ..)
    rw [List.reverse_cons, List.foldl_append, List.foldl_cons, List.foldl_nil]
    have k2 : RestC size (b :: l) (crStep size n (l.reverse.foldl (crStep size n) (cr0 size n)) b).2 := rest_c fun pl h0 _ => pb_c h0 hb h2
    exact ⟨rest_c fun pl h0 _ => lesser_cases (R := PlanC size (b :: l) pl) (pb_c h0 hb h1) (pr_c h0 hn k2), k2⟩
theorem cheap_c {size n : Int} {l : Lay} {r : List Int × Int × Int} (hn : 1 ≤ n) (hl : ∀ b ∈ l, 1 ≤ b.2) (h : cheapF size l n = some r) : r.1.length = l.length ∧ Chn size 0 (placedF l r.1) := by
  unfold cheapF at h
  split at h
  · cases h
  · rename_i p e
    cases h
    exact (cr_c hn l hl).1 0 p (Int.le_refl _) e
/-! gaps -/
def gpR (size : Int) : Int → Lay → Lay
  | e, [] => if e < size then [(e, size - e)] else []
  | e, b :: l => (if b.1 > e then [(e, b.1 - e)] else []) ++ gpR size (b.1 + b.2) l
theorem gp_foldl (size : Int) : ∀ (l acc : Lay) (e : Int), (let r := l.foldl gStep (acc, e); if r.2 < size then r.1 ++ [(r.2, size - r.2)] else r.1) = acc ++ gpR size e l
  | [], acc, e => by
    show (if e < size then acc ++ [(e, size - e)] else acc) = acc ++ (if e < size then [(e, size - e)] else [])
    split <;> simp
  | b :: l, acc, e => by
    rw [List.foldl_cons]
    have h := gp_foldl size l (gStep (acc, e) b).1 (b.1 + b.2)
    have e1 : gStep (acc, e) b = ((gStep (acc, e) b).1, b.1 + b.2) := rfl
    rw [e1, h]
    show _ = acc ++ ((if b.1 > e then [(e, b.1 - e)] else []) ++ gpR size (b.1 + b.2) l)
    unfold gStep
    dsimp only
    split <;> simp
theorem gapsF_eq (size : Int) (l : Lay) : gapsF size l = gpR size 0 l := by
  have h := gp_foldl size l [] 0
  exact h
/-- a gap: within, and free -/
structure Gap (size : Int) (l : Lay) (g : Int × Int) : Prop where
  a0 : 0 ≤ g.1
  a1 : g.1 + g.2 ≤ size
  fr : ∀ b ∈ l, b.1 + b.2 ≤ g.1 ∨ g.1 + g.2 ≤ b.1
theorem gpR_ok {size : Int} : ∀ {l : Lay} {e : Int}, Chn size e l → 0 ≤ e → ∀ g ∈ gpR size e l, e ≤ g.1 ∧ Gap size l g
  | [], e, h, h0, g, hg => by
    unfold gpR at hg
    split at hg
    · rw [List.mem_singleton.mp hg]
      exact ⟨Int.le_refl _, h0, by show e + (size - e) ≤ size; omega, fun b hb => by cases hb⟩
    · cases hg
  | b :: l, e, h, h0, g, hg => by
    have hb1 := h.1
    have hb2 := h.2.1
    rcases List.mem_append.mp hg with hg | hg
    · split at hg
      · rename_i hgt
        rw [List.mem_singleton.mp hg]
        have := h.2.2.le
        refine ⟨Int.le_refl _, h0, by show e + (b.1 - e) ≤ size; omega, fun c hc => .inr ?_⟩
        show e + (b.1 - e) ≤ c.1
        rcases List.mem_cons.mp hc with z | hc
        · rw [z]; omega
        · have := (h.2.2.all c hc).1
          omega
      · cases hg
    · obtain ⟨k1, k2⟩ := gpR_ok h.2.2 (by omega) g hg
      refine ⟨by omega, k2.a0, k2.a1, fun c hc => ?_⟩
      rcases List.mem_cons.mp hc with z | hc
      · rw [z]
        exact .inl k1
      · exact k2.fr c hc
theorem gaps_ok {size : Int} {l : Lay} (h : Chn size 0 l) : ∀ g ∈ gapsF size l, Gap size l g := fun g hg => by
  rw [gapsF_eq] at hg
  exact (gpR_ok h (Int.le_refl _) g hg).2
/-- a place for a new block -/
structure Room1 (size : Int) (l : Lay) (n s : Int) : Prop where
  a0 : 0 ≤ s
  a1 : s + n ≤ size
  fr : ∀ b ∈ l, disj b (s, n)
theorem Gap.room {size n s : Int} {l : Lay} {g : Int × Int} (h : Gap size l g) (h1 : g.1 ≤ s) (h2 : s + n ≤ g.1 + g.2) : Room1 size l n s := by
  have a0 := h.a0
  have a1 := h.a1
  refine ⟨by omega, by omega, fun b hb => ?_⟩
  show b.1 + b.2 ≤ s ∨ s + n ≤ b.1
  have := h.fr b hb
  omega
theorem place_ok {size n s cur : Int} {l : Lay} {policy : Str} (h : Chn size 0 l) (hp : placeF size l n policy cur = some s) : Room1 size l n s := by
  unfold placeF at hp
  split at hp
  · have hm : s ∈ placesF size l n := by
      unfold firstF at hp
      split at hp
      · rename_i x r e
        cases hp
        exact (List.mem_filter.mp (by rw [e]; exact List.mem_cons_self ..)).1
      · exact List.mem_of_mem_head? hp
    obtain ⟨g, hg, hs⟩ := List.mem_flatMap.mp hm
    have h1 := rangeL_mem hs
    exact (gaps_ok h g hg).room h1.1 (by omega)
  · have key : ∀ o : Option (Int × Int), o = (gapsF size l).foldl (bStep n policy) none → ∀ g, o = some g → g ∈ gapsF size l ∧ n ≤ g.2 := by
      intro o ho
      rw [ho]
      refine foldl_inv (R := fun o => ∀ g, o = some g → g ∈ gapsF size l ∧ n ≤ g.2) (fun g e => by cases e) fun a b hb ha => ?_
      by_cases hlt : b.2 < n
      · rw [bS1 hlt]
        exact ha
      · have hb2 : ∀ g, some b = some g → g ∈ gapsF size l ∧ n ≤ g.2 := fun g e => by
          cases e
          exact ⟨hb, by omega⟩
        cases a with
        | none =>
          rw [bS2 hlt]
          exact hb2
        | some c =>
          rw [bS3 hlt]
          split
          · exact hb2
          · split
            · exact hb2
            · exact ha
    cases e : (gapsF size l).foldl (bStep n policy) none with
    | none => rw [e] at hp; cases hp
    | some g =>
      rw [e] at hp
      cases hp
      obtain ⟨h1, h2⟩ := key _ rfl g e
      exact (gaps_ok h g h1).room (Int.le_refl _) (by show g.1 + n ≤ _; omega)
theorem isLay_chn {size : Int} : ∀ {l : Lay} {e e2 : Int}, isLayGo e l = some e2 → e2 ≤ size → Chn size e l
  | [], e, e2, h, k => by
    cases h
    exact k
  | (s, n) :: l, e, e2, h, k => by
    unfold isLayGo at h
    split at h
    · cases h
    · rename_i hn
      exact ⟨by show e ≤ s; omega, by show 1 ≤ n; omega, isLay_chn h k⟩
theorem Good.add {size n s : Int} {l : Lay} (h : Good size l) (r : Room1 size l n s) (hn : 1 ≤ n) : Good size (l ++ [(s, n)]) := ⟨fun b hb => by
  (rcases List.mem_append.mp hb with hb | hb)
  · exact h.inn b hb
  · (rw [List.mem_singleton.mp hb])
    exact ⟨r.a0, hn, r.a1⟩, List.pairwise_append.mpr ⟨h.dj, List.pairwise_singleton _ _, fun a ha b hb => by
  rw [List.mem_singleton.mp hb]
  exact r.fr a ha⟩⟩
end Hg
namespace Hg
open PySem PySem.Spec PyProof.Rows L2 GxR
/-! ### plain: what a relocation does -/
theorem startOf_map {kv : List (Int × Int)} {n s m : Int} : startOf (kv.map fun p => if p.1 = n then (p.1, s) else p) m = if m = n ∧ n ∈ kv.map (·.1) then s else startOf kv m := by
  unfold startOf
  induction kv with
  | nil => simp
  | cons p kv ih =>
    rw [List.map_cons]
    by_cases hp : p.1 = m
    · rw [List.find?_cons_of_pos (by split <;> simp [hp]), List.find?_cons_of_pos (by simp [hp])]
      by_cases hm : m = n
      · rw [if_pos (by rw [hp, hm]), if_pos ⟨hm, by rw [List.map_cons, hp, hm]; exact List.mem_cons_self ..⟩]
        rfl
      · rw [if_neg (by rw [hp]; exact hm), if_neg (fun z => hm z.1)]
    · rw [List.find?_cons_of_neg (by split <;> simp [hp]), List.find?_cons_of_neg (by simp [hp]), ih]
      by_cases hm : m = n
      · subst hm
        have : (m ∈ (p :: kv).map (·.1)) ↔ m ∈ kv.map (·.1) := by
          rw [List.map_cons, List.mem_cons]
          exact ⟨fun z => z.elim (fun z => absurd z.symm hp) id, .inr⟩
        simp only [this, true_and]
      · rw [if_neg (fun z => hm z.1), if_neg (fun z => hm z.1)]
theorem startOf_app {kv : List (Int × Int)} {n s m : Int} (h : n ∉ kv.map (·.1)) : startOf (kv ++ [(n, s)]) m = if m = n then s else startOf kv m := by
  unfold startOf
  rw [List.find?_append]
  by_cases hm : m = n
  · rw [if_pos hm]
    have : kv.find? (fun p => decide (p.1 = m)) = none := by
      rw [List.find?_eq_none]
      intro p hp
      simp only [decide_eq_true_eq]
      intro z
      exact h (List.mem_map.mpr ⟨p, hp, z.trans hm⟩)
    rw [this, Option.none_or, List.find?_cons_of_pos (by simp [hm])]
    rfl
  · rw [if_neg hm, List.find?_cons_of_neg (by simp; exact fun z => hm z.symm), List.find?_nil, Option.or_none]
theorem startOf_put (kv : List (Int × Int)) (n s m : Int) : startOf (putI kv n s) m = if m = n then s else startOf kv m := by
  by_cases hn : n ∈ kv.map (·.1)
  · have ha : (kv.any fun p => decide (p.1 = n)) = true := by
      obtain ⟨p, hp, e⟩ := List.mem_map.mp hn
      (exact List.any_eq_true.mpr ⟨p, hp, decide_eq_true e⟩)
    unfold putI
    rw [if_pos ha, startOf_map]
    by_cases hm : m = n
    · rw [if_pos hm, if_pos ⟨hm, hn⟩]
    · rw [if_neg hm, if_neg fun z => hm z.1]
  · rw [putI_new hn, startOf_app hn]
theorem putL_keys : ∀ {z kv : List (Int × Int)}, (∀ x ∈ z, x.1 ∈ kv.map (·.1)) → (putL kv z).map (·.1) = kv.map (·.1)
  | [], _, _ => rfl
  | x :: z, kv, h => by
    have h1 := putI_keys (s := x.2) (h x (List.mem_cons_self ..))
    show (putL (putI kv x.1 x.2) z).map (·.1) = _
    rw [putL_keys (fun y hy => by rw [h1]; exact h y (List.mem_cons_of_mem _ hy)), h1]
theorem startOf_putL_out : ∀ {z kv : List (Int × Int)} {m : Int}, m ∉ z.map (·.1) → startOf (putL kv z) m = startOf kv m
  | [], _, _, _ => rfl
  | x :: z, kv, m, h => by
    rw [List.map_cons, List.mem_cons, not_or] at h
    show startOf (putL (putI kv x.1 x.2) z) m = _
    rw [startOf_putL_out h.2, startOf_put, if_neg h.1]
theorem startOf_putL : ∀ {z kv : List (Int × Int)} {x : Int × Int}, (z.map (·.1)).Nodup → x ∈ z → startOf (putL kv z) x.1 = x.2
  | [], _, _, _, h => by (cases h)
  | y :: z, kv, x, hn, h => by
    (rw [List.map_cons, List.nodup_cons] at hn)
    show startOf (putL (putI kv y.1 y.2) z) x.1 = _
    (rcases List.mem_cons.mp h with e | h)
    · rw [e, startOf_putL_out hn.1, startOf_put, if_pos rfl]
    · exact startOf_putL hn.2 h
theorem startOf_filter {kv : List (Int × Int)} {q : Int → Bool} {n : Int} (h : q n = true) : startOf (kv.filter fun p => q p.1) n = startOf kv n := by
  unfold startOf
  rw [List.find?_filter]
  congr 2
  congr 1
  funext p
  by_cases hp : p.1 = n
  · simp [hp, h]
  · simp [hp]
theorem pw_all {α : Type} {R : α → α → Prop} (sy : ∀ a b, R a b → R b a) : ∀ {l : List α}, l.Pairwise R → ∀ a ∈ l, ∀ b ∈ l, a ≠ b → R a b
  | [], _, a, ha, _, _, _ => by cases ha
  | x :: l, h, a, ha, b, hb, hn => by
    rw [List.pairwise_cons] at h
    (rcases List.mem_cons.mp ha with e | ha)
    · rcases List.mem_cons.mp hb with e2 | hb
      · exact absurd (e.trans e2.symm) hn
      · rw [e]
        exact h.1 b hb
    · rcases List.mem_cons.mp hb with e2 | hb
      · rw [e2]
        exact sy _ _ (h.1 a ha)
      · exact pw_all sy h.2 a ha b hb hn
section
variable {ph : PH} {size : Int}
theorem blk_inj (ha : ph.Al) (hg : Good size (blkF ph)) {n m : Int} (hn : n ∈ ph.st.keys) (hm : m ∈ ph.st.keys) (h : (ph.blk1 n).1 = (ph.blk1 m).1) : n = m := by
  by_cases e : n = m
  · exact e
  · have hp := hg.dj
    have hi := hg.inn
    rw [blkF_keys ha.kn] at hp hi
    rw [List.pairwise_map] at hp
    have h1 := pw_all (R := fun a b => disj (ph.blk1 a) (ph.blk1 b)) (fun a b => Or.symm) hp n hn m hm e
    have h2 := hi _ (List.mem_map.mpr ⟨n, hn, rfl⟩)
    have h3 := hi _ (List.mem_map.mpr ⟨m, hm, rfl⟩)
    unfold disj at h1
    omega
def nmOf (ph : PH) (b : Int × Int) : Int := (numAtL ph.starts b.1).headD 0
theorem nm_blk (ha : ph.Al) (hg : Good size (blkF ph)) {n : Int} (hn : n ∈ ph.st.keys) : nmOf ph (ph.blk1 n) = n := by
  have hb : ph.blk1 n ∈ layF ph := layF_mem.mpr (by rw [blkF_keys ha.kn]; exact List.mem_map.mpr ⟨n, hn, rfl⟩)
  obtain ⟨m, r, e⟩ := numAt_ne ha hb
  unfold nmOf
  rw [e]
  have hm : m ∈ numAtL ph.starts (ph.blk1 n).1 := by rw [e]; exact List.mem_cons_self ..
  rw [numAtL_keys (by rw [ha.ke]; exact ha.kn), ha.ke] at hm
  obtain ⟨h1, h2⟩ := List.mem_filter.mp hm
  have h3 : (ph.blk1 m).1 = (ph.blk1 n).1 := of_decide_eq_true h2
  exact blk_inj ha hg h1 hn h3
theorem nums_perm (ha : ph.Al) (hg : Good size (blkF ph)) : (numbersF ph).Perm ph.st.keys := by
  have h1 : (layF ph).Perm (ph.st.keys.map ph.blk1) := by
    rw [← blkF_keys ha.kn]
    exact List.mergeSort_perm _ _
  have h2 := h1.map (nmOf ph)
  rw [List.map_map] at h2
  have h3 : ph.st.keys.map (nmOf ph ∘ ph.blk1) = ph.st.keys := by
    conv => rhs; rw [← List.map_id ph.st.keys]
    exact List.map_congr_left fun n hn => nm_blk ha hg hn
  rw [h3] at h2
  exact h2
theorem nums_blk (ha : ph.Al) (hg : Good size (blkF ph)) : (numbersF ph).map ph.blk1 = layF ph := by
  unfold numbersF
  rw [List.map_map]
  conv => rhs; rw [← List.map_id (layF ph)]
  apply List.map_congr_left
  intro b hb
  rw [layF_mem, blkF_keys ha.kn] at hb
  obtain ⟨n, hn, rfl⟩ := List.mem_map.mp hb
  show ph.blk1 (nmOf ph (ph.blk1 n)) = _
  rw [nm_blk ha hg hn]
  rfl
theorem zip_blk {f g : Int → Int} : ∀ (ns ss : List Int), ns.length = ss.length → (∀ x ∈ ns.zip ss, f x.1 = x.2) → ∀ h : Int → Int, ns.map (fun n => (f n, h n)) = (ss.zip (ns.map fun n => (g n, h n))).map fun x => (x.1, x.2.2)
  | [], [], _, _, _ => rfl
  | n :: ns, s :: ss, hl, hf, h => by
    rw [List.map_cons, List.map_cons, List.zip_cons_cons, List.map_cons, ← zip_blk ns ss (Nat.succ.inj hl) (fun x hx => hf x (List.mem_cons_of_mem _ hx)) h, hf (n, s) (List.mem_cons_self ..)]
theorem reloc_al (ha : ph.Al) (hg : Good size (blkF ph)) (ss : List Int) : (relocF ph ss).Al := by
  refine ⟨?_, ha.kn⟩
  show (putL ph.starts ((numbersF ph).zip ss)).map (·.1) = ph.st.keys
  rw [putL_keys, ha.ke]
  intro x hx
  rw [ha.ke]
  exact (nums_perm ha hg).mem_iff.mp (List.of_mem_zip (a := x.1) (b := x.2) hx).1
theorem reloc_blk (ha : ph.Al) (hg : Good size (blkF ph)) {ss : List Int} (hl : ss.length = (layF ph).length) : (blkF (relocF ph ss)).Perm (placedF (layF ph) ss) := by
  have hp := nums_perm ha hg
  have hnl : (numbersF ph).length = ss.length := by
    unfold numbersF
    rw [List.length_map, hl]
  have h1 : blkF (relocF ph ss) = ph.st.keys.map (relocF ph ss).blk1 := blkF_keys (reloc_al ha hg ss).kn
  have hz : ((((numbersF ph).zip ss)).map (·.1)).Nodup := by
    rw [List.map_fst_zip (Nat.le_of_eq hnl)]
    exact hp.nodup_iff.mpr ha.kn
  have h2 : (numbersF ph).map (relocF ph ss).blk1 = placedF (layF ph) ss := by
    unfold placedF
    rw [← nums_blk ha hg]
    refine zip_blk (f := fun n => startOf (relocF ph ss).starts n) (g := fun n => startOf ph.starts n) (numbersF ph) ss hnl (fun x hx => ?_) fun n => ((ph.st.look n).length : Int)
    exact startOf_putL hz hx
  rw [h1, ← h2]
  exact (hp.map _).symm
theorem reloc_good (ha : ph.Al) (hg : Good size (blkF ph)) {ss : List Int} (hl : ss.length = (layF ph).length) (hc : Good size (placedF (layF ph) ss)) : Good size (blkF (relocF ph ss)) := hc.perm (reloc_blk ha hg hl).symm
end
end Hg
namespace Hg
open PySem PySem.Spec PyProof.Rows L2 GxR
/-! ### plain: the words keep what a heap is -/
theorem PH.Ok.mk9 {size : Int} {ph : PH} (s0 : 0 ≤ size) (s1 : size ≤ 25) (al : ph.Al) (cl : ph.st.Cl) (gd : Good size (blkF ph)) (rn : ph.st.roots.Nodup) (nx : ∀ n ∈ ph.st.keys, 0 ≤ n ∧ n < ph.st.next) (n0 : 0 ≤ ph.st.next) : ph.Ok size := by
  refine ⟨al, cl, gd, rn, nx, ?_, fun o ho => ?_, n0⟩
  · have h := gd.count s0
    unfold blkF at h
    rw [List.length_map] at h
    omega
  · have h := gd.inn _ (List.mem_map.mpr ⟨o, ho, rfl⟩)
    have h1 : 0 ≤ startOf ph.starts o.1 := h.1
    have h2 : startOf ph.starts o.1 + (o.2.length : Int) ≤ size := h.2.2
    omega
def PlOk (man : Man) : Prop := ∀ (l : Lay) (n cur : Int) (ss : List Int) (s : Int), Good man.size l → l.Pairwise (fun a b => leP a b = true) → 1 ≤ n → man.place l n cur = .ok (ss, s) → ss.length = l.length ∧ Good man.size (placedF l ss) ∧ Room1 man.size (placedF l ss) n s
theorem placed_self : ∀ l : Lay, placedF l (l.map (·.1)) = l
  | [] => rfl
  | b :: l => by
    show (b.1, b.2) :: placedF l (l.map (·.1)) = _
    rw [placed_self l]
theorem manPol_ok {size : Int} {policy : Str} (s0 : 1 ≤ size) : PlOk (manPol size policy) := fun l n cur ss s hg hs hn h => by
  have h1 : (match placeF size l n policy cur with | none => Except.error (Err.mem n) | some s => Except.ok (l.map (·.1), s)) = Except.ok (ss, s) := h
  cases e : placeF size l n policy cur with
  | none => rw [e] at h1; cases h1
  | some s2 =>
    rw [e] at h1
    cases h1
    have hc := hg.chn hs (show (0 : Int) ≤ size by omega)
    refine ⟨List.length_map _, ?_, ?_⟩
    · rw [placed_self]
      exact hg
    · rw [placed_self]
      exact place_ok hc e
theorem manGame_ok {C : Ctr} (s0 : 0 ≤ C.size) : PlOk (manGame C) := fun l n cur ss s hg hs hn h => by
  have h1 : gameF C l n = Except.ok (ss, s) := h
  unfold gameF at h1
  split at h1
  · cases h1
  · split at h1
    · cases h1
    · rename_i r rs e
      cases h1
      have hm : r ∈ rep0F C l n := by
        have : r ∈ repsF C l n := by rw [e]; exact List.mem_cons_self ..
        exact List.mem_mergeSort.mp this
      obtain ⟨ss, hss, h2⟩ := List.mem_flatMap.mp hm
      obtain ⟨st, hst, h3⟩ := List.mem_flatMap.mp h2
      split at h3
      · rename_i hf
        rw [List.mem_singleton.mp h3]
        show ss.length = l.length ∧ Good C.size (placedF l ss) ∧ Room1 C.size (placedF l ss) n st
        have hr := (List.mem_filter.mp hss).2
        unfold isRelF at hr
        split at hr
        · cases hr
        · rename_i hno
          rw [not_or] at hno
          have hp : (relocdF l ss).Perm (placedF l ss) := List.mergeSort_perm _ _
          have hc : Chn C.size 0 (relocdF l ss) := by
            unfold isLayF at hr
            split at hr
            · rename_i e2 he2
              exact isLay_chn he2 (of_decide_eq_true hr)
            · cases hr
          refine ⟨by have := hno.1; omega, (hc.good (Int.le_refl _)).perm hp, ?_⟩
          unfold fitsF at hf
          split at hf
          · cases hf
          · rename_i hno2
            rw [List.all_eq_true] at hf
            refine ⟨by omega, by omega, fun b hb => ?_⟩
            have := hf b (hp.mem_iff.mpr hb)
            rw [Bool.or_eq_true, decide_eq_true_eq, decide_eq_true_eq] at this
            show b.1 + b.2 ≤ st ∨ st + n ≤ b.1
            omega
      · cases h3
section
variable {man : Man} {ph ph' : PH} {r : PyData} {n : Int}
theorem get_key {p : Pl} {fs : List FV} (h : p.get n = some fs) : n ∈ p.keys := by
  unfold Pl.get at h
  cases e : p.os.find? fun o => decide (o.1 = n) with
  | none => (rw [e] at h; cases h)
  | some o => exact List.mem_map.mpr ⟨o, List.mem_of_find?_eq_some e, of_decide_eq_true (by simpa using List.find?_some e)⟩
theorem get_of_key {p : Pl} (h : n ∈ p.keys) : (p.get n).isSome = true := by
  obtain ⟨o, ho, e⟩ := List.mem_map.mp h
  unfold Pl.get
  rw [Option.isSome_map, List.find?_isSome]
  exact ⟨o, ho, by simpa using e⟩
theorem moved_ok (s0 : 0 ≤ man.size) (s1 : man.size ≤ 25) (h : ph.Ok man.size) {ss : List Int} (hl : ss.length = (layF ph).length) (hc : Good man.size (placedF (layF ph) ss)) : (relocF ph ss).Ok man.size :=
  .mk9 s0 s1 (reloc_al h.al h.gd ss) h.cl (reloc_good h.al h.gd hl hc) h.rn h.nx h.n0
theorem alloc_ok (s0 : 0 ≤ man.size) (s1 : man.size ≤ 25) (hp : PlOk man) (h : ph.Ok man.size) (hn : 1 ≤ n) (hr : allocF man ph n = .ok (ph', r)) : ph'.Ok man.size := by
  unfold allocF at hr
  split at hr
  · cases hr
  · rename_i x e
    cases hr
    obtain ⟨h1, h2, h3⟩ := hp (layF ph) n ph.cur x.1 x.2 h.gd.layF (layF_sorted ph) hn e
    have hA := reloc_al h.al h.gd x.1
    have hG := reloc_good h.al h.gd h1 h2
    have hB := reloc_blk h.al h.gd h1
    have hnk : ph.st.next ∉ ph.st.keys := fun z => by
      have := (h.nx _ z).2
      omega
    have hks : (ph.st.made n).keys = ph.st.keys ++ [ph.st.next] := by
      unfold Pl.keys Pl.made
      simp
    have hbl : blkF ⟨ph.st.made n, putI (relocF ph x.1).starts ph.st.next x.2, x.2 + n⟩ = blkF (relocF ph x.1) ++ [(x.2, n)] := by
      unfold blkF Pl.made
      show List.map (fun o : Int × List FV => (startOf (putI (relocF ph x.1).starts ph.st.next x.2) o.1, (o.2.length : Int))) (ph.st.os ++ [(ph.st.next, List.replicate n.toNat .non)]) = _
      rw [List.map_append]
      congr 1
      · apply List.map_congr_left
        intro o ho
        rw [startOf_put, if_neg]
        intro z
        exact hnk (List.mem_map.mpr ⟨o, ho, z⟩)
      · rw [List.map_cons, List.map_nil, startOf_put, if_pos rfl, List.length_replicate, Int.toNat_of_nonneg (by omega)]
    refine .mk9 s0 s1 ⟨?_, ?_⟩ ⟨fun q hq => ?_, fun o ho f hf t ht => ?_⟩ ?_ h.rn (fun k hk => ?_) ?_
    · show (putI (relocF ph x.1).starts ph.st.next x.2).map (·.1) = (ph.st.made n).keys
      rw [putI_new (by rw [hA.ke]; exact hnk), List.map_append, hA.ke, hks]
      rfl
    · show (ph.st.made n).keys.Nodup
      rw [hks]
      refine List.nodup_append.mpr ⟨h.al.kn, by simp, fun a ha b hb => ?_⟩
      rw [List.mem_singleton.mp hb]
      exact fun z => hnk (by rw [← z]; exact ha)
    · show q ∈ (ph.st.made n).keys
      rw [hks]
      exact List.mem_append_left _ (h.cl.rk q hq)
    · show t ∈ (ph.st.made n).keys
      rw [hks]
      rcases List.mem_append.mp (show o ∈ ph.st.os ++ [(ph.st.next, List.replicate n.toNat FV.non)] from ho) with ho | ho
      · exact List.mem_append_left _ (h.cl.fk o ho f hf t ht)
      · rw [List.mem_singleton.mp ho] at hf
        rw [(List.mem_replicate.mp hf).2] at ht
        cases ht
    · rw [hbl]
      have hG2 : Room1 man.size (blkF (relocF ph x.1)) n x.2 := ⟨h3.a0, h3.a1, fun b hb => h3.fr b (hB.mem_iff.mp hb)⟩
      exact hG.add hG2 hn
    · show 0 ≤ k ∧ k < ph.st.next + 1
      have hk2 : k ∈ ph.st.keys ++ [ph.st.next] := by
        rw [← hks]
        exact hk
      have h9 := h.n0
      rcases List.mem_append.mp hk2 with hk | hk
      · have := h.nx k hk
        omega
      · rw [List.mem_singleton.mp hk]
        omega
    · show 0 ≤ ph.st.next + 1
      have := h.n0
      omega
theorem keep_ok (s0 : 0 ≤ man.size) (s1 : man.size ≤ 25) (h : ph.Ok man.size) {q : Int → Bool} {cur : Int} (hr : ∀ k ∈ ph.st.roots, q k = true) (hf : ∀ o ∈ ph.st.os, q o.1 = true → ∀ f ∈ o.2, ∀ t, tgt f = some t → q t = true) :
    (⟨{ ph.st with os := ph.st.os.filter fun o => q o.1 }, ph.starts.filter fun p => q p.1, cur⟩ : PH).Ok man.size := by
  have hk : ({ ph.st with os := ph.st.os.filter fun o => q o.1 } : Pl).keys = ph.st.keys.filter q := by
    unfold Pl.keys
    rw [List.filter_map]
    rfl
  have mk : ∀ {k : Int}, k ∈ ph.st.keys → q k = true → k ∈ ({ ph.st with os := ph.st.os.filter fun o => q o.1 } : Pl).keys := fun {k} h1 h2 => by
    rw [hk]
    exact List.mem_filter.mpr ⟨h1, h2⟩
  refine .mk9 s0 s1 ⟨?_, ?_⟩ ⟨fun k hk2 => mk (h.cl.rk k hk2) (hr k hk2), fun o ho f hf2 t ht => ?_⟩ ?_ h.rn (fun k hk2 => ?_) h.n0
  · show (ph.starts.filter fun p => q p.1).map (·.1) = _
    rw [hk, ← h.al.ke, List.filter_map]
    rfl
  · show ({ ph.st with os := ph.st.os.filter fun o => q o.1 } : Pl).keys.Nodup
    rw [hk]
    exact h.al.kn.sublist (List.filter_sublist ..)
  · obtain ⟨h1, h2⟩ := List.mem_filter.mp (show o ∈ ph.st.os.filter fun o => q o.1 from ho)
    exact mk (h.cl.fk o h1 f hf2 t ht) (hf o h1 h2 f hf2 t ht)
  · have hb : blkF ⟨{ ph.st with os := ph.st.os.filter fun o => q o.1 }, ph.starts.filter fun p => q p.1, cur⟩ = (ph.st.os.filter fun o => q o.1).map fun o => (startOf ph.starts o.1, (o.2.length : Int)) := by
      unfold blkF
      apply List.map_congr_left
      intro o ho
      rw [startOf_filter (q := q) (List.mem_filter.mp ho).2]
    rw [hb]
    have hs : ((ph.st.os.filter fun o => q o.1).map fun o : Int × List FV => (startOf ph.starts o.1, (o.2.length : Int))).Sublist (blkF ph) := (List.filter_sublist ..).map _
    exact ⟨fun b hb2 => h.gd.inn b (hs.subset hb2), h.gd.dj.sublist hs⟩
  · rw [hk] at hk2
    exact h.nx k (List.mem_filter.mp hk2).1
theorem write_ok (s0 : 0 ≤ man.size) (s1 : man.size ≤ 25) (h : ph.Ok man.size) {i : Int} {f : FV} (hr : writeF ph n i f = .ok (ph', r)) : ph'.Ok man.size := by
  unfold writeF at hr
  split at hr
  · cases hr
  split at hr
  · split at hr
    · cases hr
    rename_i hbad
    cases hr
    have hk : (ph.st.setF n i.toNat f).keys = ph.st.keys := by
      unfold Pl.keys Pl.setF
      rw [List.map_map]
      apply List.map_congr_left
      intro o _
      show (if o.1 = n then (o.1, o.2.set i.toNat f) else o).1 = o.1
      split <;> rfl
    have hb : blkF ({ ph with st := ph.st.setF n i.toNat f } : PH) = blkF ph := by
      unfold blkF Pl.setF
      show List.map (fun o : Int × List FV => (startOf ph.starts o.1, (o.2.length : Int))) (ph.st.os.map fun o => if o.1 = n then (o.1, o.2.set i.toNat f) else o) = _
      rw [List.map_map]
      apply List.map_congr_left
      intro o _
      show (startOf ph.starts (if o.1 = n then (o.1, o.2.set i.toNat f) else o).1, ((if o.1 = n then (o.1, o.2.set i.toNat f) else o).2.length : Int)) = _
      split
      · rw [List.length_set]
      · rfl
    refine .mk9 s0 s1 ⟨?_, ?_⟩ ⟨fun k hk2 => ?_, fun o ho g hg t ht => ?_⟩ (by rw [hb]; exact h.gd) h.rn (fun k hk2 => h.nx k (by rw [← hk]; exact hk2)) h.n0
    · show _ = (ph.st.setF n i.toNat f).keys
      rw [hk]
      exact h.al.ke
    · show (ph.st.setF n i.toNat f).keys.Nodup
      rw [hk]
      exact h.al.kn
    · show k ∈ (ph.st.setF n i.toNat f).keys
      rw [hk]
      exact h.cl.rk k hk2
    · show t ∈ (ph.st.setF n i.toNat f).keys
      rw [hk]
      obtain ⟨o2, ho2, e⟩ := List.mem_map.mp (show o ∈ ph.st.os.map fun o => if o.1 = n then (o.1, o.2.set i.toNat f) else o from ho)
      split at e
      · rw [← e] at hg
        rcases List.mem_or_eq_of_mem_set hg with hg | hg
        · exact h.cl.fk o2 ho2 g hg t ht
        · rw [hg] at ht
          unfold badT at hbad
          rw [ht, Option.bind_some] at hbad
          cases hge : ph.st.get t with
          | none => rw [hge] at hbad; simp at hbad
          | some fs => exact get_key hge
      · rw [← e] at hg
        exact h.cl.fk o2 ho2 g hg t ht
  · cases hr
theorem release_ok (s0 : 0 ≤ man.size) (s1 : man.size ≤ 25) (h : ph.Ok man.size) (hr : releaseF ph n = .ok (ph', r)) : ph'.Ok man.size := by
  unfold releaseF at hr
  split at hr
  · cases hr
  split at hr
  · cases hr
  rename_i hroot
  split at hr
  · cases hr
  rename_i href
  cases hr
  refine keep_ok (q := fun k => decide (k ≠ n)) s0 s1 h (fun k hk => ?_) fun o ho hq f hf t ht => ?_
  · exact decide_eq_true fun z => hroot (by rw [← z]; exact hk)
  · refine decide_eq_true fun z => href ?_
    unfold Pl.refd
    refine List.any_eq_true.mpr ⟨o, ho, ?_⟩
    rw [Bool.and_eq_true]
    refine ⟨hq, ?_⟩
    rw [List.contains_iff_mem]
    exact List.mem_map.mpr ⟨f, hf, by rw [ht, z]⟩
theorem roots_ok (h : ph.Ok man.size) {rs : List Int} (hn : rs.Nodup) (hk : ∀ k ∈ rs, k ∈ ph.st.keys) : ({ ph with st := { ph.st with roots := rs } } : PH).Ok man.size := ⟨⟨h.al.ke, h.al.kn⟩, ⟨hk, h.cl.fk⟩, h.gd, hn, h.nx, h.ln, h.fl, h.n0⟩
theorem addR_ok (h : ph.Ok man.size) (hr : addRF ph n = .ok (ph', r)) : ph'.Ok man.size := by
  unfold addRF at hr
  split at hr
  · cases hr
  rename_i fs hg
  split at hr
  · cases hr
    exact h
  rename_i hno
  cases hr
  refine roots_ok h (sortI_nodup (List.nodup_append.mpr ⟨h.rn, by simp, fun a ha b hb => ?_⟩)) fun k hk => ?_
  · (rw [List.mem_singleton.mp hb])
    exact fun z => hno (by rw [← z]; exact ha)
  · rcases List.mem_append.mp (sortI_mem.mp hk) with hk | hk
    · exact h.cl.rk k hk
    · rw [List.mem_singleton.mp hk]
      exact get_key hg
theorem remR_ok (h : ph.Ok man.size) (hr : remRF ph n = .ok (ph', r)) : ph'.Ok man.size := by
  unfold remRF at hr
  split at hr
  · cases hr
  split at hr
  · cases hr
    exact roots_ok h (h.rn.sublist (List.eraseIdx_sublist ..)) fun k hk => h.cl.rk k ((List.eraseIdx_sublist ..).subset hk)
  · cases hr
    exact h
/-! what collect keeps -/
theorem addT_fold : ∀ (fs : List FV) (st : List Int × List Int), (∀ x ∈ st.2, x ∈ (fs.foldl addT st).2) ∧ (∀ f ∈ fs, ∀ t, tgt f = some t → t ∈ (fs.foldl addT st).2) ∧ (∀ x ∈ (fs.foldl addT st).2, x ∈ st.2 ∨ x ∈ (fs.foldl addT st).1) ∧ (∀ x ∈ st.1, x ∈ (fs.foldl addT st).1)
  | [], st => ⟨fun _ h => h, fun _ h => (nomatch h), fun _ h => .inl h, fun _ h => h⟩
  | f :: fs, st => by
    obtain ⟨h1, h2, h3, h4⟩ := addT_fold fs (addT st f)
    have k1 : ∀ x ∈ st.2, x ∈ (addT st f).2 := fun x hx => by
      unfold addT
      split
      · exact hx
      · split
        · exact hx
        · exact List.mem_append_left _ hx
    have k4 : ∀ x ∈ st.1, x ∈ (addT st f).1 := fun x hx => by
      unfold addT
      split
      · exact hx
      · split
        · exact hx
        · exact List.mem_append_left _ hx
    have k2 : ∀ t, tgt f = some t → t ∈ (addT st f).2 := fun t ht => by
      unfold addT
      rw [ht]
      show t ∈ (if t ∈ st.2 then st else (st.1 ++ [t], st.2 ++ [t])).2
      split
      · assumption
      · exact List.mem_append_right _ (List.mem_singleton.mpr rfl)
    have k3 : ∀ x ∈ (addT st f).2, x ∈ st.2 ∨ x ∈ (addT st f).1 := fun x hx => by
      unfold addT at hx ⊢
      split at hx
      · exact .inl hx
      · split at hx
        · exact .inl hx
        · rename_i hno
          (rcases List.mem_append.mp hx with hx | hx)
          · exact .inl hx
          · rw [if_neg hno]
            exact .inr (List.mem_append_right _ hx)
    refine ⟨fun x hx => h1 x (k1 x hx), fun g hg t ht => ?_, fun x hx => ?_, fun x hx => h4 x (k4 x hx)⟩
    · rcases List.mem_cons.mp hg with e | hg
      · exact h1 t (k2 t (by rw [← e]; exact ht))
      · exact h2 g hg t ht
    · rcases h3 x hx with hx | hx
      · exact (k3 x hx).imp_right (h4 x)
      · exact .inr hx
structure RCl (p : Pl) (st : List Int × List Int) : Prop where
  rt : ∀ k ∈ p.roots, k ∈ st.2
  cl : ∀ k ∈ st.2, k ∉ st.1 → ∀ f ∈ p.look k, ∀ t, tgt f = some t → t ∈ st.2
theorem RCl.step {p : Pl} {st : List Int × List Int} (h : RCl p st) : RCl p (rStep p st) := by
  unfold rStep
  split
  · exact h
  · rename_i k hk
    obtain ⟨h1, h2, h3, h4⟩ := addT_fold (p.look k) (st.1.dropLast, st.2)
    refine ⟨fun x hx => h1 x (h.rt x hx), fun x hx hno f hf t ht => ?_⟩
    rcases h3 x hx with hx | hx
    · by_cases hxk : x = k
      · exact h2 f (by rw [← hxk]; exact hf) t ht
      · refine h1 t (h.cl x hx (fun z => hno (h4 x ?_)) f hf t ht)
        rcases List.eq_nil_or_concat st.1 with e | ⟨a, b, e⟩
        · rw [e] at z
          cases z
        · rw [e, List.concat_eq_append, List.getLast?_concat] at hk
          cases hk
          rw [e, List.concat_eq_append] at z
          show x ∈ st.1.dropLast
          rw [e, List.concat_eq_append, List.dropLast_concat]
          rcases List.mem_append.mp z with z | z
          · exact z
          · exact absurd (List.mem_singleton.mp z) hxk
    · exact absurd hx hno
theorem RCl.go {p : Pl} : ∀ (k : Nat) {st : List Int × List Int}, RCl p st → RCl p (rGo p k st)
  | 0, _, h => h
  | k + 1, _, h => RCl.go k h.step
theorem rGo_end {p : Pl} (hc : p.Cl) : ∀ (m : Nat) {st : List Int × List Int}, RSt p st m → (rGo p m st).1 = []
  | 0, st, h => List.eq_nil_of_length_eq_zero (by have := h.ms; show st.1.length = 0; omega)
  | m + 1, st, h => by
    by_cases hn : st.1 = []
    · have e : st = ([], st.2) := by rw [← hn]
      rw [e, rGo_nil]
    · have hp := h.pop hn
      show (rGo p m (rStep p st)).1 = []
      refine rGo_end hc m ?_
      unfold rStep
      split
      · rename_i e
        exact absurd (List.getLast?_eq_none_iff.mp e) hn
      · exact hp.fold (Pl.look_cl hc)
theorem reach_cl {p : Pl} (hc : p.Cl) : (∀ k ∈ p.roots, k ∈ reachL p) ∧ ∀ k ∈ reachL p, ∀ f ∈ p.look k, ∀ t, tgt f = some t → t ∈ reachL p := by
  have h1 : RCl p (rGo p (rN p) (p.roots, p.roots)) := RCl.go _ ⟨fun k hk => hk, fun k hk hno => absurd hk hno⟩
  have h2 := rGo_end hc (rN p) (RSt.start hc)
  exact ⟨h1.rt, fun k hk => h1.cl k hk (by rw [h2]; exact List.not_mem_nil)⟩
theorem coll_ok (s0 : 0 ≤ man.size) (s1 : man.size ≤ 25) (h : ph.Ok man.size) (hr : collF ph = .ok (ph', r)) : ph'.Ok man.size := by
  unfold collF at hr
  cases hr
  obtain ⟨h1, h2⟩ := reach_cl h.cl
  have hin : ∀ k ∈ reachL ph.st, decide (k ∉ goneF ph.st) = true := fun k hk => decide_eq_true fun z => by
    have := (List.mem_filter.mp z).2
    rw [decide_eq_true_eq] at this
    exact this hk
  refine keep_ok (q := fun k => decide (k ∉ goneF ph.st)) s0 s1 h (fun k hk => hin k (h1 k hk)) fun o ho hq f hf t ht => hin t (h2 o.1 ?_ f ?_ t ht)
  · by_cases hre : o.1 ∈ reachL ph.st
    · exact hre
    · exact absurd (List.mem_filter.mpr ⟨sortI_mem.mpr (List.mem_map.mpr ⟨o, ho, rfl⟩), decide_eq_true hre⟩) (of_decide_eq_true hq)
  · rw [Pl.look_at h.al.kn ho]
    exact hf
/-! moves -/
theorem comp_ok (s0 : 0 ≤ man.size) (s1 : man.size ≤ 25) (h : ph.Ok man.size) (hr : compF man ph = .ok (ph', r)) : ph'.Ok man.size := by
  unfold compF at hr
  split at hr
  · cases hr
  unfold movedF at hr
  cases hr
  refine moved_ok s0 s1 h ?_ ?_
  · rw [slideF_eq, List.length_map, slR_len]
  · rw [slideF_eq, slR_placed]
    exact (slR_chn (h.gd.layF.chn (layF_sorted ph) s0) (Int.le_refl _)).good (Int.le_refl _)
theorem room_ok (s0 : 0 ≤ man.size) (s1 : man.size ≤ 25) (h : ph.Ok man.size) (hn : 1 ≤ n) (hr : roomF man ph n = .ok (ph', r)) : ph'.Ok man.size := by
  unfold roomF at hr
  split at hr
  · cases hr
  split at hr
  · cases hr
  rename_i x e
  unfold movedF at hr
  cases hr
  obtain ⟨h1, h2⟩ := cheap_c hn (fun b hb => (h.gd.layF.inn b hb).2.1) e
  exact moved_ok s0 s1 h h1 (h2.good (Int.le_refl _))
theorem slide_at {size : Int} : ∀ {l : Lay} {e0 s e : Int}, Chn size e0 l → slideGo e0 l = some (s, e) → ∃ pre m post, l = pre ++ (s, m) :: post ∧ Chn size e0 (pre ++ (e, m) :: post)
  | [], _, _, _, _, h => by (cases h)
  | b :: l, e0, s, e, hc, h => by
    unfold slideGo at h
    split at h
    · rename_i hgt
      cases h
      exact ⟨[], b.2, l, rfl, Int.le_refl _, hc.2.1, hc.2.2.mono (by show e0 + b.2 ≤ _; omega)⟩
    · obtain ⟨pre, m, post, h1, h2⟩ := slide_at hc.2.2 h
      exact ⟨b :: pre, m, post, by rw [h1]; rfl, hc.1, hc.2.1, h2⟩
theorem slide_ok (s0 : 0 ≤ man.size) (s1 : man.size ≤ 25) (h : ph.Ok man.size) (hr : slideEF man ph = .ok (ph', r)) : ph'.Ok man.size := by
  unfold slideEF at hr
  split at hr
  · cases hr
  split at hr
  · cases hr
    exact h
  rename_i x e
  cases hr
  obtain ⟨pre, m, post, h1, h2⟩ := slide_at (s := x.1) (e := x.2) (h.gd.layF.chn (layF_sorted ph) s0) e
  have hnb := nums_blk h.al h.gd
  have hnp := nums_perm h.al h.gd
  rw [h1] at hnb
  obtain ⟨np, nq, e1, e2, e3⟩ := List.map_eq_append_iff.mp hnb
  obtain ⟨k, nr, e4, e5, e6⟩ := List.map_eq_cons_iff.mp e3
  have hkk : k ∈ ph.st.keys := hnp.mem_iff.mp (by rw [e1, e4]; simp)
  have hnum : (numAtL ph.starts x.1).headD 0 = k := by
    have h3 := nm_blk h.al h.gd hkk
    unfold nmOf at h3
    rw [e5] at h3
    exact h3
  have hks : ((putI ph.starts k x.2).map (·.1)) = ph.starts.map (·.1) := putI_keys (by rw [h.al.ke]; exact hkk)
  rw [hnum]
  have hal : ({ ph with starts := putI ph.starts k x.2 } : PH).Al := ⟨hks.trans h.al.ke, h.al.kn⟩
  have hnd : (np ++ k :: nr).Nodup := by
    rw [← e4, ← e1]
    exact hnp.nodup_iff.mpr h.al.kn
  have same : ∀ y : Int, y ≠ k → ({ ph with starts := putI ph.starts k x.2 } : PH).blk1 y = ph.blk1 y := fun y hy => by
    unfold PH.blk1
    show (startOf (putI ph.starts k x.2) y, _) = _
    rw [startOf_put, if_neg hy]
  have hperm : (blkF ({ ph with starts := putI ph.starts k x.2 } : PH)).Perm (pre ++ (x.2, m) :: post) := by
    rw [blkF_keys hal.kn]
    have hb : (numbersF ph).map ({ ph with starts := putI ph.starts k x.2 } : PH).blk1 = pre ++ (x.2, m) :: post := by
      rw [e1, e4, List.map_append, List.map_cons, ← e2, ← e6]
      rw [List.nodup_append] at hnd
      obtain ⟨d1, d2, d3⟩ := hnd
      congr 1
      · exact List.map_congr_left fun y hy => same y (d3 y hy k (List.mem_cons_self ..))
      · congr 1
        · unfold PH.blk1 at e5 ⊢
          show (startOf (putI ph.starts k x.2) k, _) = _
          rw [startOf_put, if_pos rfl]
          have := congrArg Prod.snd e5
          exact congrArg (Prod.mk x.2) this
        · exact List.map_congr_left fun y hy => same y fun z => (List.nodup_cons.mp d2).1 (by rw [← z]; exact hy)
    rw [← hb]
    exact (hnp.map _).symm
  exact .mk9 s0 s1 hal h.cl ((h2.good (Int.le_refl _)).perm hperm.symm) h.rn h.nx h.n0
end
theorem pok_of {man : Man} (s0 : 1 ≤ man.size) (s1 : man.size ≤ 25) (hp : PlOk man) : POk man := by
  have z0 : 0 ≤ man.size := by omega
  refine ⟨fun ph ev ph' r h hok hr => ?_, ?_⟩
  · cases ev with
    | alloc n => exact alloc_ok z0 s1 hp h hok.1 hr
    | write n i f => exact write_ok z0 s1 h hr
    | release n => exact release_ok z0 s1 h hr
    | addR n => exact addR_ok h hr
    | remR n => exact remR_ok h hr
    | coll => exact coll_ok z0 s1 h hr
    | comp => exact comp_ok z0 s1 h hr
    | room n => exact room_ok z0 s1 h hok.1 hr
    | slide => exact slide_ok z0 s1 h hr
  · exact .mk9 z0 s1 ⟨rfl, .nil⟩ ⟨fun _ h => (nomatch h), fun _ h => (nomatch h)⟩ ⟨fun _ h => (nomatch h), .nil⟩ .nil (fun _ h => (nomatch h)) (Int.le_refl _)
end Hg
namespace Hg
open PySem PySem.Spec PyProof.Rows L2 GxR
/-! ### plain: what the answers look like is short -/
structure Sh (dp b : Nat) (d : PyData) : Prop where
  sw : d.showable = true
  nd : d.hasDict = false
  de : d.depth ≤ dp
  lv : d.leavesShort 13 = true
  bk : d.bulk ≤ b
  cl : d.canLay0 = true
def IntOk (i : Int) : Prop := -1000000 ≤ i ∧ i ≤ 1000000
theorem log_int {i : Int} (h : IntOk i) : i.natAbs.log2 < 1920 := by
  have h1 : i.natAbs < 2 ^ 20 := by
    have := h.1
    have := h.2
    (have e : (2 : Nat) ^ 20 = 1048576 := by decide)
    rw [e]
    omega
  by_cases h0 : i.natAbs = 0
  · rw [h0]
    decide
  · have := (Nat.log2_lt h0).mpr h1
    omega
theorem Sh.int {i : Int} (h : IntOk i) : Sh 0 0 (.int i) := ⟨by simp only [PyData.showable]; exact decide_eq_true (log_int h), by simp only [PyData.hasDict], by simp only [PyData.depth]; exact Nat.le_refl _,
  by simp only [PyData.leavesShort]; exact decide_eq_true (PyData.shown_int_le2 (by have := h.1; omega) (by have := h.2; omega)), by simp only [PyData.bulk]; exact Nat.le_refl _, by simp only [PyData.canLay0]⟩
theorem Sh.none : Sh 0 0 .none := ⟨by simp only [PyData.showable], by simp only [PyData.hasDict], by simp only [PyData.depth]; exact Nat.le_refl _, by simp only [PyData.leavesShort], by simp only [PyData.bulk]; exact Nat.le_refl _, by simp only [PyData.canLay0]⟩
theorem Sh.bool (b : Bool) : Sh 0 0 (.bool b) := ⟨by simp only [PyData.showable], by simp only [PyData.hasDict], by simp only [PyData.depth]; exact Nat.le_refl _, by simp only [PyData.leavesShort], by simp only [PyData.bulk]; exact Nat.le_refl _, by simp only [PyData.canLay0]⟩
theorem Sh.str {x : Str} {b : Nat} (h : (x.cps.toList.all fun c => decide (c < 16 ^ 8)) = true) (hb : x.cps.size ≤ b) (ho : (PyData.str x).canLay0 = true := by decide +kernel) : Sh 0 b (.str x) := ⟨by simp only [PyData.showable], by simp only [PyData.hasDict], by simp only [PyData.depth]; exact Nat.le_refl _, by simp only [PyData.leavesShort]; exact h, by simp only [PyData.bulk]; exact hb, ho⟩
theorem Sh.mono {dp b dp' b' : Nat} {d : PyData} (h : Sh dp b d) (h1 : dp ≤ dp') (h2 : b ≤ b') : Sh dp' b' d := ⟨h.sw, h.nd, Nat.le_trans h.de h1, h.lv, Nat.le_trans h.bk h2, h.cl⟩
theorem Sh.all {dp b : Nat} : ∀ {xs : List PyData}, (∀ x ∈ xs, Sh dp b x) → PyData.showableAll xs = true ∧ PyData.hasDictAll xs = false ∧ PyData.depthAll xs ≤ dp ∧ PyData.leavesShortAll 13 xs = true ∧ PyData.bulkAll xs ≤ xs.length * (b + 1) ∧ PyData.canLayAll0 xs = true
  | [], _ => ⟨by simp only [PyData.showableAll], by simp only [PyData.hasDictAll], by simp only [PyData.depthAll]; exact Nat.zero_le _, by simp only [PyData.leavesShortAll], by simp only [PyData.bulkAll]; exact Nat.zero_le _, by simp only [PyData.canLayAll0]⟩
  | x :: xs, h => by
    obtain ⟨h1, h2, h3, h4, h5, h6⟩ := Sh.all fun y hy => h y (List.mem_cons_of_mem _ hy)
    have hx := h x (List.mem_cons_self ..)
    refine ⟨?_, ?_, ?_, ?_, ?_, by simp only [PyData.canLayAll0, hx.cl, h6, Bool.and_self]⟩
    · simp only [PyData.showableAll, hx.sw, h1, Bool.and_self]
    · simp only [PyData.hasDictAll, hx.nd, h2, Bool.or_self]
    · simp only [PyData.depthAll]
      exact Nat.max_le.mpr ⟨hx.de, h3⟩
    · simp only [PyData.leavesShortAll, hx.lv, h4, Bool.and_self]
    · simp only [PyData.bulkAll, List.length_cons, Nat.add_mul]
      have := hx.bk
      omega
theorem Sh.list {dp b m : Nat} {xs : List PyData} (h : ∀ x ∈ xs, Sh dp b x) (hm : xs.length ≤ m) : Sh (dp + 1) (m * (b + 1)) (.list xs) := by
  obtain ⟨h1, h2, h3, h4, h5, h7⟩ := Sh.all h
  have h6 : xs.length * (b + 1) ≤ m * (b + 1) := Nat.mul_le_mul_right _ hm
  refine ⟨by simp only [PyData.showable]; exact h1, by simp only [PyData.hasDict]; exact h2, by simp only [PyData.depth]; omega, by simp only [PyData.leavesShort]; exact h4, by simp only [PyData.bulk]; omega, by simp only [PyData.canLay0]; exact h7⟩
theorem Sh.tup {dp b m : Nat} {xs : List PyData} (h : ∀ x ∈ xs, Sh dp b x) (hm : xs.length ≤ m) : Sh (dp + 1) (m * (b + 1)) (.tuple xs) := by
  obtain ⟨h1, h2, h3, h4, h5, h7⟩ := Sh.all h
  have h6 : xs.length * (b + 1) ≤ m * (b + 1) := Nat.mul_le_mul_right _ hm
  refine ⟨by simp only [PyData.showable]; exact h1, by simp only [PyData.hasDict]; exact h2, by simp only [PyData.depth]; omega, by simp only [PyData.leavesShort]; exact h4, by simp only [PyData.bulk]; omega, by simp only [PyData.canLay0]; exact h7⟩
theorem Sh.two {dp b : Nat} {x y : PyData} (hx : Sh dp b x) (hy : Sh dp b y) : Sh (dp + 1) (2 * (b + 1)) (.tuple [x, y]) := Sh.tup (fun z hz => by
  simp only [List.mem_cons, List.not_mem_nil, or_false] at hz
  rcases hz with e | e
  · rw [e]; exact hx
  · rw [e]; exact hy) (Nat.le_refl _)
theorem Sh.three {dp b : Nat} {x y z : PyData} (hx : Sh dp b x) (hy : Sh dp b y) (hz : Sh dp b z) : Sh (dp + 1) (3 * (b + 1)) (.tuple [x, y, z]) := Sh.tup (fun u hu => by
  simp only [List.mem_cons, List.not_mem_nil, or_false] at hu
  rcases hu with e | e | e
  · rw [e]; exact hx
  · rw [e]; exact hy
  · rw [e]; exact hz) (Nat.le_refl _)
theorem Sh.ints {l : List Int} {m : Nat} (h : ∀ i ∈ l, IntOk i) (hm : l.length ≤ m) : Sh 1 m (encI l) := by
  have h1 : Sh 1 (m * (0 + 1)) (encI l) := Sh.list (fun x hx => by
    obtain ⟨i, hi, e⟩ := List.mem_map.mp hx
    rw [← e]
    exact Sh.int (h i hi)) (by rw [List.length_map]; exact hm)
  rwa [Nat.zero_add, Nat.mul_one] at h1
/-- what repr can show -/
structure ShOk (d : PyData) : Prop where
  sw : d.showable = true
  nd : d.hasDict = false
  de : d.depth ≤ 60
  sz : d.shown.length ≤ sizeLine
  cl : d.canLay0 = true
theorem Sh.ok {dp b : Nat} {d : PyData} (h : Sh dp b d) (h1 : dp ≤ 60) (h2 : b ≤ 100000) : ShOk d := ⟨h.sw, h.nd, Nat.le_trans h.de h1, by
  have h3 := PyData.shown_le_bulk 13 (by decide) d h.lv
  have h4 := h.bk
  exact leL (m := 2000000) (by omega) (by decide), h.cl⟩
/-! relocation maps -/
def TriOk (k : Int) (t : Tri) : Prop := -100 ≤ t.1 ∧ t.1 ≤ 100 ∧ -100 ≤ t.2.1 ∧ t.2.1 ≤ 100 ∧ 0 ≤ t.2.2 ∧ t.2.2 ≤ k
theorem cn_ok : ∀ (l : Lay) (ps : List Tri) (k : Int), 0 ≤ k → (∀ t ∈ ps, TriOk k t) → (∀ b ∈ l, -100 ≤ b.1 ∧ b.1 ≤ 100 ∧ -100 ≤ b.2 ∧ b.2 ≤ 100) → ∀ t ∈ l.foldl cnStep ps, TriOk (k + l.length) t
  | [], ps, k, _, h, _, t, ht => by
    have := h t ht
    simpa using this
  | b :: l, ps, k, hk, h, hl, t, ht => by
    have hb := hl b (List.mem_cons_self ..)
    have h2 : ∀ t ∈ cnStep ps b, TriOk (k + 1) t := by
      intro t ht
      have up : ∀ t, TriOk k t → TriOk (k + 1) t := fun t h => ⟨h.1, h.2.1, h.2.2.1, h.2.2.2.1, h.2.2.2.2.1, by have := h.2.2.2.2.2; omega⟩
      have new : TriOk (k + 1) (b.1, b.2, 1) := ⟨hb.1, hb.2.1, hb.2.2.1, hb.2.2.2, by show (0 : Int) ≤ 1; decide, by show (1 : Int) ≤ _; omega⟩
      unfold cnStep at ht
      split at ht
      · rename_i q hq
        split at ht
        · rcases List.mem_append.mp ht with ht | ht
          · exact up t (h t ((List.dropLast_sublist ps).subset ht))
          · rw [List.mem_singleton.mp ht]
            have hq2 := h q (List.mem_of_getLast? hq)
            exact ⟨hq2.1, hq2.2.1, hq2.2.2.1, hq2.2.2.2.1, by have := hq2.2.2.2.2.1; show 0 ≤ q.2.2 + 1; omega, by have := hq2.2.2.2.2.2; show q.2.2 + 1 ≤ k + 1; omega⟩
        · rcases List.mem_append.mp ht with ht | ht
          · exact up t (h t ht)
          · rw [List.mem_singleton.mp ht]
            exact new
      · rcases List.mem_append.mp ht with ht | ht
        · exact up t (h t ht)
        · rw [List.mem_singleton.mp ht]
          exact new
    have h3 := cn_ok l (cnStep ps b) (k + 1) (by omega) h2 (fun x hx => hl x (List.mem_cons_of_mem _ hx)) t ht
    rw [List.length_cons]
    have e : k + 1 + (l.length : Int) = k + ((l.length + 1 : Nat) : Int) := by omega
    rw [← e]
    exact h3
theorem map_ok {size : Int} {l : Lay} {ss : List Int} (s1 : size ≤ 25) (hg : Good size l) (hl : l.length ≤ 25) (hs : ∀ s ∈ ss, 0 ≤ s ∧ s ≤ 25) : Sh 2 3000 (.list ((relocMapF l ss).map encT3)) := by
  have hx : ∀ x ∈ ss.zip l, (0 ≤ x.1 ∧ x.1 ≤ 25) ∧ 0 ≤ x.2.1 ∧ 1 ≤ x.2.2 ∧ x.2.1 + x.2.2 ≤ 25 := fun x hx => by
    obtain ⟨h1, h2⟩ := List.of_mem_zip (a := x.1) (b := x.2) hx
    have := hg.inn x.2 h2
    exact ⟨hs x.1 h1, this.1, this.2.1, by have := this.2.2; omega⟩
  have hlen : (pairsF ss l).length ≤ 625 := by
    have h1 := flat_pr (n := 25) (l := ss.zip l) fun x hx2 => by have := hx x hx2; omega
    have h2 : (ss.zip l).length ≤ 25 := by rw [List.length_zip]; omega
    unfold pairsF
    have := Nat.mul_le_mul_right 25 h2
    omega
  have hb : ∀ b ∈ (pairsF ss l).mergeSort leP, -100 ≤ b.1 ∧ b.1 ≤ 100 ∧ -100 ≤ b.2 ∧ b.2 ≤ 100 := fun b hb => by
    obtain ⟨x, hx1, hx2⟩ := List.mem_flatMap.mp (List.mem_mergeSort.mp hb)
    obtain ⟨t, ht, e⟩ := List.mem_map.mp hx2
    have h1 := rangeL_mem ht
    have h2 := hx x hx1
    rw [← e]
    show -100 ≤ x.2.1 + t ∧ x.2.1 + t ≤ 100 ∧ -100 ≤ x.1 + t ∧ x.1 + t ≤ 100
    omega
  have hc := cn_ok _ [] 0 (Int.le_refl _) (fun t ht => by cases ht) hb
  rw [List.length_mergeSort] at hc
  have hcl : (relocMapF l ss).length ≤ 625 := by
    have := cn_len ((pairsF ss l).mergeSort leP) []
    rw [List.length_mergeSort] at this
    unfold relocMapF canonF
    simp at this
    omega
  refine (Sh.list (b := 3) (m := 625) (dp := 1) (fun x hx2 => ?_) (by rw [List.length_map]; exact hcl)).mono (by decide) (by decide)
  obtain ⟨t, ht, e⟩ := List.mem_map.mp hx2
  have h1 := hc t ht
  unfold TriOk at h1
  rw [← e]
  exact Sh.three (Sh.int ⟨by omega, by omega⟩) (Sh.int ⟨by omega, by omega⟩) (Sh.int ⟨by omega, by omega⟩)
theorem placed_fst : ∀ (l : Lay) (ss : List Int), ss.length = l.length → (placedF l ss).map (·.1) = ss
  | [], [], _ => rfl
  | b :: l, s :: ss, h => by
    show s :: (placedF l ss).map (·.1) = _
    rw [placed_fst l ss (Nat.succ.inj h)]
theorem moved_sh {size : Int} {ph : PH} {ss : List Int} (s1 : size ≤ 25) (h : ph.Ok size) (hl : ss.length = (layF ph).length) (hc : Good size (placedF (layF ph) ss)) : Sh 2 3000 (.list ((relocMapF (layF ph) ss).map encT3)) := by
  refine map_ok s1 h.gd.layF (by rw [layF_len]; exact h.ln) fun s hs => ?_
  rw [← placed_fst (layF ph) ss hl] at hs
  obtain ⟨b, hb, e⟩ := List.mem_map.mp hs
  have := hc.inn b hb
  omega
def ErrOk : Err → Prop
  | .mem n => IntOk n
  | .notAllowed n => IntOk n
  | .room n => IntOk n
  | .obj n => IntOk n
  | .field n => IntOk n
  | .used n _ => IntOk n
  | .strat => True
theorem err_sh : ∀ {e : Err}, ErrOk e → ShOk (encErr e)
  | .mem n, h => (Sh.two (Sh.str (b := 20) (by decide +kernel) (by decide +kernel)) ((Sh.int h).mono (Nat.le_refl _) (Nat.zero_le _))).ok (by decide) (by decide)
  | .notAllowed n, h => (Sh.two (Sh.str (b := 20) (by decide +kernel) (by decide +kernel)) ((Sh.int h).mono (Nat.le_refl _) (Nat.zero_le _))).ok (by decide) (by decide)
  | .room n, h => (Sh.two (Sh.str (b := 20) (by decide +kernel) (by decide +kernel)) ((Sh.int h).mono (Nat.le_refl _) (Nat.zero_le _))).ok (by decide) (by decide)
  | .obj n, h => (Sh.two (Sh.str (b := 20) (by decide +kernel) (by decide +kernel)) ((Sh.int h).mono (Nat.le_refl _) (Nat.zero_le _))).ok (by decide) (by decide)
  | .field n, h => (Sh.two (Sh.str (b := 20) (by decide +kernel) (by decide +kernel)) ((Sh.int h).mono (Nat.le_refl _) (Nat.zero_le _))).ok (by decide) (by decide)
  | .used n true, h => (Sh.three (Sh.str (b := 20) (by decide +kernel) (by decide +kernel)) ((Sh.int h).mono (Nat.le_refl _) (Nat.zero_le _)) (Sh.str (by decide +kernel) (by decide +kernel))).ok (by decide) (by decide)
  | .used n false, h => (Sh.three (Sh.str (b := 20) (by decide +kernel) (by decide +kernel)) ((Sh.int h).mono (Nat.le_refl _) (Nat.zero_le _)) (Sh.str (by decide +kernel) (by decide +kernel))).ok (by decide) (by decide)
  | .strat, _ => (Sh.tup (b := 20) (m := 1) (dp := 0) (fun x hx => by
    rw [List.mem_singleton.mp hx]
    exact Sh.str (by decide +kernel) (by decide +kernel)) (by decide)).ok (by decide) (by decide)
theorem told_sh {d : PyData} (h : Sh 2 3000 d) : ShOk (.tuple [.str "told", d]) := (Sh.two ((Sh.str (b := 20) (by decide +kernel) (by decide +kernel)).mono (by decide) (by decide)) h).ok (by decide) (by decide)
def PlErr (man : Man) : Prop := ∀ (l : Lay) (n cur : Int) (e : Err), 1 ≤ n → n ≤ 1000 → man.place l n cur = .error e → ErrOk e
theorem manPol_err {size : Int} {policy : Str} : PlErr (manPol size policy) := fun l n cur e h1 h2 h => by
  have h3 : (match placeF size l n policy cur with | none => Except.error (Err.mem n) | some s => Except.ok (l.map (·.1), s)) = Except.error e := h
  split at h3
  · cases h3
    exact ⟨by omega, by omega⟩
  · cases h3
theorem manGame_err {C : Ctr} : PlErr (manGame C) := fun l n cur e h1 h2 h => by
  have h3 : gameF C l n = Except.error e := h
  unfold gameF at h3
  split at h3
  · cases h3
    exact ⟨by omega, by omega⟩
  · split at h3
    · cases h3
      exact ⟨by omega, by omega⟩
    · cases h3
theorem smallI {n : Int} (h : smallN n) : IntOk n := ⟨by have := h.1; omega, by have := h.2; omega⟩
theorem Sh.up {d : PyData} {a b : Nat} (h : Sh a b d) (h1 : a ≤ 2) (h2 : b ≤ 3000) : Sh 2 3000 d := h.mono h1 h2
/-- the answers of a heap are short -/
theorem ans_sh {man : Man} {ph : PH} {ev : Ev} (s0 : 1 ≤ man.size) (s1 : man.size ≤ 25) (hp : PlOk man) (he : PlErr man) (h : ph.Ok man.size) (hok : EvOk ev) (hn : ph.st.next ≤ 100000) : ShOk (ansD (performF man ph ev)) := by
  have z0 : 0 ≤ man.size := by omega
  have kI : ∀ k ∈ ph.st.keys, IntOk k := fun k hk => by
    have := h.nx k hk
    exact ⟨by omega, by omega⟩
  cases ev with
  | alloc n =>
    show ShOk (ansD (allocF man ph n))
    unfold allocF
    split
    · rename_i e e1
      exact err_sh (he _ _ _ _ hok.1 hok.2 e1)
    · exact told_sh ((Sh.int ⟨by have := h.n0; omega, by omega⟩).up (by decide) (by decide))
  | write n i f =>
    show ShOk (ansD (writeF ph n i f))
    unfold writeF
    split
    · exact err_sh (e := .obj n) (smallI hok.1)
    · split
      · split
        · rename_i t e
          refine err_sh (e := .obj t) (smallI (?_ : smallN t))
          have hf := hok.2.2
          unfold badT at e
          cases f with
          | non => cases e
          | num i => cases e
          | obj m =>
            have e2 : (if (ph.st.get m).isNone = true then some m else none) = some t := e
            split at e2
            · cases e2
              exact hf
            · cases e2
        · exact told_sh (Sh.none.up (by decide) (by decide))
      · exact err_sh (e := .field i) (smallI hok.2.1)
  | release n =>
    show ShOk (ansD (releaseF ph n))
    unfold releaseF
    split
    · exact err_sh (e := .obj n) (smallI hok)
    · split
      · exact err_sh (e := .used n true) (smallI hok)
      · split
        · exact err_sh (e := .used n false) (smallI hok)
        · exact told_sh (Sh.none.up (by decide) (by decide))
  | addR n =>
    show ShOk (ansD (addRF ph n))
    unfold addRF
    split
    · exact err_sh (e := .obj n) (smallI hok)
    · split
      · exact told_sh ((Sh.bool _).up (by decide) (by decide))
      · exact told_sh ((Sh.bool _).up (by decide) (by decide))
  | remR n =>
    show ShOk (ansD (remRF ph n))
    unfold remRF
    split
    · exact err_sh (e := .obj n) (smallI hok)
    · split
      · exact told_sh ((Sh.bool _).up (by decide) (by decide))
      · exact told_sh ((Sh.bool _).up (by decide) (by decide))
  | coll =>
    show ShOk (ansD (collF ph))
    unfold collF
    refine told_sh ((Sh.ints (m := 25) (fun k hk => kI k (sortI_mem.mp (List.mem_filter.mp hk).1)) ?_).up (by decide) (by decide))
    refine Nat.le_trans (List.length_filter_le ..) ?_
    unfold sortI
    rw [List.length_mergeSort]
    unfold Pl.keys
    rw [List.length_map]
    exact h.ln
  | comp =>
    show ShOk (ansD (compF man ph))
    unfold compF
    split
    · exact err_sh (e := .strat) trivial
    · unfold movedF
      refine told_sh (moved_sh s1 h ?_ ?_)
      · rw [slideF_eq, List.length_map, slR_len]
      · rw [slideF_eq, slR_placed]
        exact (slR_chn (h.gd.layF.chn (layF_sorted ph) z0) (Int.le_refl _)).good (Int.le_refl _)
  | room n =>
    show ShOk (ansD (roomF man ph n))
    unfold roomF
    split
    · exact err_sh (e := .strat) trivial
    · split
      · exact err_sh (e := .room n) ⟨by have := hok.1; omega, by have := hok.2; omega⟩
      · rename_i x e
        unfold movedF
        obtain ⟨h1, h2⟩ := cheap_c hok.1 (fun b hb => (h.gd.layF.inn b hb).2.1) e
        exact told_sh (moved_sh s1 h h1 (h2.good (Int.le_refl _)))
  | slide =>
    show ShOk (ansD (slideEF man ph))
    unfold slideEF
    split
    · exact err_sh (e := .strat) trivial
    · split
      · exact told_sh (Sh.none.up (by decide) (by decide))
      · rename_i x e
        obtain ⟨pre, m, post, h1, h2⟩ := slide_at (s := x.1) (e := x.2) (h.gd.layF.chn (layF_sorted ph) z0) e
        have g1 := h.gd.layF.inn (x.1, m) (by rw [h1]; simp)
        have g2 := h2.all (x.2, m) (by simp)
        have hb : (x.1, m) ∈ layF ph := by rw [h1]; simp
        rw [layF_mem, blkF_keys h.al.kn] at hb
        obtain ⟨k, hk, e2⟩ := List.mem_map.mp hb
        have hnum : (numAtL ph.starts x.1).headD 0 = k := by
          have h3 := nm_blk h.al h.gd hk
          unfold nmOf at h3
          rw [e2] at h3
          exact h3
        dsimp only at g1 g2
        rw [hnum]
        exact told_sh ((Sh.three (Sh.int (kI k hk)) (Sh.int ⟨by omega, by omega⟩) (Sh.int ⟨by omega, by omega⟩)).up (by decide) (by decide))
/-- numbers grow by one a change -/
theorem next_le {man : Man} {ph ph' : PH} {ev : Ev} {r : PyData} (h : performF man ph ev = .ok (ph', r)) : ph'.st.next ≤ ph.st.next + 1 := by
  have key : ∀ {o : Ans}, o = .ok (ph', r) → (∀ p q, o = .ok (p, q) → p.st.next ≤ ph.st.next + 1) → ph'.st.next ≤ ph.st.next + 1 := fun e k => k _ _ e
  have z : ph.st.next ≤ ph.st.next + 1 := by omega
  refine key h fun p q e => ?_
  cases ev with
  | alloc n =>
    have e2 : allocF man ph n = .ok (p, q) := e
    unfold allocF at e2
    split at e2
    · cases e2
    · cases e2
      exact Int.le_refl _
  | write n i f =>
    have e2 : writeF ph n i f = .ok (p, q) := e
    unfold writeF at e2
    split at e2
    · cases e2
    · split at e2
      · split at e2
        · cases e2
        · cases e2
          exact z
      · cases e2
  | release n =>
    have e2 : releaseF ph n = .ok (p, q) := e
    unfold releaseF at e2
    split at e2
    · cases e2
    · split at e2
      · cases e2
      · split at e2
        · cases e2
        · cases e2
          exact z
  | addR n =>
    have e2 : addRF ph n = .ok (p, q) := e
    unfold addRF at e2
    split at e2
    · cases e2
    · split at e2 <;> cases e2 <;> exact z
  | remR n =>
    have e2 : remRF ph n = .ok (p, q) := e
    unfold remRF at e2
    split at e2
    · cases e2
    · split at e2 <;> cases e2 <;> exact z
  | coll =>
    have e2 : collF ph = .ok (p, q) := e
    unfold collF at e2
    cases e2
    exact z
  | comp =>
    have e2 : compF man ph = .ok (p, q) := e
    unfold compF movedF at e2
    split at e2
    · cases e2
    · cases e2
      exact z
  | room n =>
    have e2 : roomF man ph n = .ok (p, q) := e
    unfold roomF movedF at e2
    split at e2
    · cases e2
    · split at e2
      · cases e2
      · cases e2
        exact z
  | slide =>
    have e2 : slideEF man ph = .ok (p, q) := e
    unfold slideEF at e2
    split at e2
    · cases e2
    · split at e2 <;> cases e2 <;> exact z
theorem Reach.next {man : Man} {evs : List Ev} {ph : PH} (h : Reach man evs ph) : ph.st.next ≤ evs.length := by
  induction h with
  | nil => exact Int.le_refl _
  | snoc h1 h2 h3 h4 ih =>
    have := next_le h3
    rw [List.length_append]
    show _ ≤ ((_ + 1 : Nat) : Int)
    omega
end Hg
namespace Hg
open PySem PySem.Spec PyProof.Rows L2 GxR
/-! ### _law_same, _law_heap -/
section
variable {P : Program} {w : World} {K : PySem.W.Frag} {mg : Str → Option Value} {base : Heap}
def spLSame (K : PySem.W.Frag) : Sp := fun vs H Q _ => ∃ (a b : Addr) (d : PyData), vs = [.ref a, .ref b] ∧ DI K H (.ref a) d ∧ DI K H (.ref b) d ∧ ShOk d ∧ Q (.bl true) H
theorem sc_lsame : FnScope ["_law_one", "_law_other"] ["_law_one", "_law_other"] (defScope s_law_same) := ⟨rfl, rfl, rfl, by decide +kernel, rfl, by decide +kernel, by decide +kernel⟩
theorem w_lsame (T : Txt P K mg) : ClG P w K mg base 1 "_law_same" (spLSame K) := by
  have nd := sc_lsame.nd
  refine clG_of T (fn_mem 43 rfl) (by decide +kernel) sc_lsame (b2 fun _ _ _ _ _ _ _ _ => rfl) (fun vs H Q E ⟨_, _, _, e, _⟩ => by rw [e]; rfl) fun cdv A outer s H vs Q E ng hr ⟨a, b, d, e, ha, hb, hs, hq⟩ => ?_
  subst e
  refine ⟨_, (pss_one (ps_ret (pe_cmpR op_eq (pe_callB (cr_repr ng hr) (by rfl) (T.n "repr") (by decide +kernel) (pa_cons (pv 0) pa_nil)) (pe_callB (cr_repr ng hr) (by rfl) (T.n "repr") (by decide +kernel) (pa_cons (pv 1) pa_nil)) (nomark _)))), ?_⟩
  refine ⟨_, rfl, a, d, rfl, Dp.le (leI H) ha, hs.sw, hs.nd, hs.de, hs.sz, _, rfl, b, d, rfl, Dp.le (leI H) hb, hs.sw, hs.nd, hs.de, hs.sz, rfl, ?_⟩
  rw [show decide (V.str d.shown = V.str d.shown) = true from decide_eq_true rfl]
  exact hq
structure ManOk (man : Man) : Prop where
  s0 : 1 ≤ man.size
  s1 : man.size ≤ 25
  pl : PlOk man
  er : PlErr man
theorem ManOk.pok {man : Man} (h : ManOk man) : POk man := pok_of h.s0 h.s1 h.pl
theorem manOk_pol {size : Int} {policy : Str} (h0 : 1 ≤ size) (h1 : size ≤ 25) : ManOk (manPol size policy) := ⟨h0, h1, manPol_ok h0, manPol_err⟩
theorem manOk_game {C : Ctr} (h0 : 1 ≤ C.size) (h1 : C.size ≤ 25) : ManOk (manGame C) := ⟨h0, h1, manGame_ok (by omega), manGame_err⟩
theorem mk_exO {H H2 : Hp} {y dx C : Addr} (ny : H y = none) (ndx : H dx = none) (eF : ExF (Only y) (upd (upd H dx (.own y)) y (.ins C dx [])) H2) : Ex H H2 := mk_ex ny ndx eF
def spLHeap (P : Program) (w : World) (K : PySem.W.Frag) (mg : Str → Option Value) (base : Heap) (Tf Tr : Addr) : Sp := fun vs H Q _ => ∃ (b r : Addr) (l : List Int) (n : Int), vs = [.ref b] ∧ BoxAt H b r l n ∧ TabH H Tf Tr ∧
  ∀ H' t h z M man mf n', ExF (Only b) H H' → SqT K H' t [.ref h, z] → HeapAt K H' h M → ManAt P w K mg base H' M.mgr man mf → (∀ x ∈ mf, x ∉ M.foot h) → M.T.ph = ph0 → M.evs = [] → ManOk man → BoxAt H' b r l n' → (∀ x ∈ M.foot h, H x = none) → (∀ x ∈ mf, H x = none) → Q (.ref t) H'
abbrev N_lheap : List Str := ["_law_box_here", "_law_size", "_law_policy", "_law_kind", "_law_contract"]
theorem sc_lheap : FnScope N_lheap ["_law_box_here"] (defScope s_law_heap) := ⟨rfl, rfl, rfl, by decide +kernel, rfl, by decide +kernel, by decide +kernel⟩
theorem w_lheap (T : Txt P K mg) {Tf Tr : Addr} (D : Tabs K mg base Tf Tr) : Cl P w K mg base 13 "_law_heap" (spLHeap P w K mg base Tf Tr) := by
  have nd := sc_lheap.nd
  have c1 := w_draw (w := w) (base := base) T
  have c2 := w_ctr0 (w := w) (base := base) T
  have c3 := w_ctrheap (w := w) (base := base) T D
  have c4 := w_polheap (w := w) (base := base) T
  refine cl_of T (fn_mem 47 rfl) (by decide +kernel) sc_lheap (b1 fun _ _ _ _ _ _ _ => rfl) (fun vs H Q E ⟨_, _, _, _, e, _⟩ => by rw [e]; rfl) fun cdv A outer s H vs Q E hr ⟨b, r, l, n, e, hb, ht, hq⟩ => ?_
  subst e
  refine ⟨_, (pss_cons (ps_set (i := 1) nd rfl (.inl rfl) (pe_op op_add pe_int (pe_cl c1 hr takes0 (pa_cons (pv 0) (pa_cons pe_int pa_nil))))) (pss_cons (ps_set (i := 2) nd rfl (.inl rfl) (pe_ix ix_list (pe_lst (pa_cons pe_str (pa_cons pe_str (pa_cons pe_str (pa_cons pe_str pa_nil))))) (pe_cl c1 hr takes0 (pa_cons (pv 0) (pa_cons pe_int pa_nil))) (fun _ _ => rfl))) (pss_cons (ps_set (i := 3) nd rfl (.inl rfl) (pe_cl c1 hr takes0 (pa_cons (pv 0) (pa_cons pe_int pa_nil)))) (pss_cons (ps_if (pt_cmpR op_eq (pv 3) pe_int (nomark _)) (pss_cons (ps_set (i := 4) nd rfl (.inl rfl) (pe_ix ix_list (pe_lst (pa_cons (pe_mr c2 hr (pa_cons pe_int (pa_cons pe_int (pa_cons (pe_frz (pe_lst (pa_cons pe_int (pa_cons pe_int pa_nil)))) (pa_cons pe_int pa_nil))))) (pa_cons (pe_mr c2 hr (pa_cons pe_int (pa_cons pe_int (pa_cons (pe_frz (pe_lst (pa_cons pe_int (pa_cons pe_int pa_nil)))) (pa_cons pe_int pa_nil))))) (pa_cons (pe_mr c2 hr (pa_cons pe_int (pa_cons pe_int (pa_cons (pe_frz (pe_lst (pa_cons pe_int (pa_cons pe_int pa_nil)))) (pa_cons pe_int pa_nil))))) (pa_cons (pe_mr c2 hr (pa_cons pe_int (pa_cons pe_int (pa_cons (pe_frz (pe_lst (pa_cons pe_int pa_nil))) (pa_cons pe_int pa_nil))))) pa_nil))))) (pe_cl c1 hr takes0 (pa_cons (pv 0) (pa_cons pe_int pa_nil))) (fun _ _ => rfl))) (pss_one (ps_ret (pe_tup (pa_cons (pe_cl c3 hr takes0 (pa_cons (pv 4) pa_nil)) (pa_cons (pv 4) pa_nil)))))) pss_nil) (pss_one (ps_ret (pe_tup (pa_cons (pe_cl c4 hr takes0 (pa_cons (pv 1) (pa_cons (pv 2) pa_nil))) (pa_cons (pv 2) pa_nil))))))))), ?_⟩
  refine ⟨_, rfl, b, r, l, n, 9, rfl, hb, by decide, fun x H1 x0 x1 hb1 e1 => ⟨_, _, rfl, rfl, ?_⟩⟩
  refine ⟨leL (m := 4) (Nat.le_refl _) (by decide), fun p np => ?_⟩
  have e2 : Ex H1 (upd H1 p (.lst [.str "first", .str "best", .str "worst", .str "next"])) := Ex.new np
  have hp2 : (upd H1 p (.lst [.str "first", .str "best", .str "worst", .str "next"])) p = some (.lst [.str "first", .str "best", .str "worst", .str "next"]) := upd_same
  generalize upd H1 p (.lst [.str "first", .str "best", .str "worst", .str "next"]) = H2 at e2 hp2 ⊢
  have npb : p ≠ b := fun z => by rw [z, hb1.at_] at np; cases np
  refine ⟨_, rfl, b, r, l, _, 4, rfl, hb1.ex e2, by decide, fun y H3 y0 y1 hb3 e3 => ?_⟩
  obtain ⟨policy, hpo⟩ : ∃ policy : Str, ([.str "first", .str "best", .str "worst", .str "next"] : List V)[y.toNat]? = some (.str policy) := by
    have : y = 0 ∨ y = 1 ∨ y = 2 ∨ y = 3 := by omega
    rcases this with e | e | e | e <;> rw [e] <;> exact ⟨_, rfl⟩
  refine ⟨p, _, y, .str policy, rfl, rfl, SqL.of (e3.at hp2 npb), ?_, ?_⟩
  · have := atI_nat (j := y.toNat) hpo
    rwa [Int.toNat_of_nonneg y0] at this
  have e13 : ExF (Only b) H H3 := (e1.trans e2.of).trans e3
  refine ⟨_, rfl, b, r, l, _, 4, rfl, hb3, by decide, fun kd H4 k0 k1 hb4 e4 => ?_⟩
  have e14 := e13.trans e4
  have ht4 : TabH H4 Tf Tr := ht.ex e14
  refine ⟨_, rfl, rfl, _, rfl, iteD (fun h => ?_) fun h => ?_⟩
  · skip
    refine ⟨sz2, fun p1 np1 => ⟨p1, [.int 1, .int 2], [.int 1, .int 2], rfl, upd_same, (.cons (.int _) (.cons (.int _) .nil)), fun G1 k1 l1 d1 => fun c1 dx1 nc1 ndx1 ncd1 => ⟨c1, dx1, ⟨4, 3, [1, 2], 0⟩, .ref p1, rfl, upd_same, DI.ex d1 (Ex.updN (Ex.new ndx1) nc1), fun K1 eF1 hC1 => ⟨rfl, ?_⟩⟩⟩⟩
    have f1 : Ex H4 K1 := ((Ex.new (o := .lst [.int 1, .int 2]) np1).but np1 k1 l1).trans (mk_exO nc1 ndx1 eF1)
    have n1 : H4 c1 = none := (((Ex.new (F := NoF) (o := .lst [.int 1, .int 2]) np1).but np1 k1 l1).gone nc1)
    refine ⟨sz2, fun p2 np2 => ⟨p2, [.int 1, .int 2], [.int 1, .int 2], rfl, upd_same, (.cons (.int _) (.cons (.int _) .nil)), fun G2 k2 l2 d2 => fun c2 dx2 nc2 ndx2 ncd2 => ⟨c2, dx2, ⟨3, 3, [1, 2], 1⟩, .ref p2, rfl, upd_same, DI.ex d2 (Ex.updN (Ex.new ndx2) nc2), fun K2 eF2 hC2 => ⟨rfl, ?_⟩⟩⟩⟩
    have f2 : Ex K1 K2 := ((Ex.new (o := .lst [.int 1, .int 2]) np2).but np2 k2 l2).trans (mk_exO nc2 ndx2 eF2)
    have n2 : H4 c2 = none := f1.gone (((Ex.new (F := NoF) (o := .lst [.int 1, .int 2]) np2).but np2 k2 l2).gone nc2)
    refine ⟨sz2, fun p3 np3 => ⟨p3, [.int 1, .int 2], [.int 1, .int 2], rfl, upd_same, (.cons (.int _) (.cons (.int _) .nil)), fun G3 k3 l3 d3 => fun c3 dx3 nc3 ndx3 ncd3 => ⟨c3, dx3, ⟨4, 4, [1, 2], 2⟩, .ref p3, rfl, upd_same, DI.ex d3 (Ex.updN (Ex.new ndx3) nc3), fun K3 eF3 hC3 => ⟨rfl, ?_⟩⟩⟩⟩
    have f3 : Ex K2 K3 := ((Ex.new (o := .lst [.int 1, .int 2]) np3).but np3 k3 l3).trans (mk_exO nc3 ndx3 eF3)
    have n3 : H4 c3 = none := (f1.trans f2).gone (((Ex.new (F := NoF) (o := .lst [.int 1, .int 2]) np3).but np3 k3 l3).gone nc3)
    refine ⟨sz1, fun p4 np4 => ⟨p4, [.int 1], [.int 1], rfl, upd_same, (.cons (.int _) .nil), fun G4 k4 l4 d4 => fun c4 dx4 nc4 ndx4 ncd4 => ⟨c4, dx4, ⟨3, 3, [1], 0⟩, .ref p4, rfl, upd_same, DI.ex d4 (Ex.updN (Ex.new ndx4) nc4), fun K4 eF4 hC4 => ⟨rfl, ?_⟩⟩⟩⟩
    have f4 : Ex K3 K4 := ((Ex.new (o := .lst [.int 1]) np4).but np4 k4 l4).trans (mk_exO nc4 ndx4 eF4)
    have n4 : H4 c4 = none := ((f1.trans f2).trans f3).gone (((Ex.new (F := NoF) (o := .lst [.int 1]) np4).but np4 k4 l4).gone nc4)
    have f14 : Ex H4 K4 := ((f1.trans f2).trans f3).trans f4
    have g1 := ((hC1.ex f2).ex f3).ex f4
    have g2 := (hC2.ex f3).ex f4
    have g3 := hC3.ex f4
    refine ⟨leL (m := 4) (Nat.le_refl _) (by decide), fun q nq => ?_⟩
    have e5 : Ex K4 (upd K4 q (.lst [.ref c1, .ref c2, .ref c3, .ref c4])) := Ex.new nq
    have hq5 : (upd K4 q (.lst [.ref c1, .ref c2, .ref c3, .ref c4])) q = some (.lst [.ref c1, .ref c2, .ref c3, .ref c4]) := upd_same
    generalize upd K4 q (.lst [.ref c1, .ref c2, .ref c3, .ref c4]) = H5 at e5 hq5 ⊢
    have hb5 := (hb4.ex f14).ex e5
    have nqb : q ≠ b := fun z => by have h9 := (hb4.ex f14).at_; rw [← z, nq] at h9; cases h9
    refine ⟨_, rfl, b, r, l, _, 4, rfl, hb5, by decide, fun u H6 u0 u1 hb6 e6 => ?_⟩
    have hH : ∀ {c : Addr}, H4 c = none → H c = none := fun z => e14.gone z
    obtain ⟨c, C, hc, hCm, hCat, hcn⟩ : ∃ c C, ([.ref c1, .ref c2, .ref c3, .ref c4] : List V)[u.toNat]? = some (.ref c) ∧ C ∈ ctrs ∧ CtrAt K K4 c C ∧ H4 c = none := by
      have : u = 0 ∨ u = 1 ∨ u = 2 ∨ u = 3 := by omega
      rcases this with e | e | e | e <;> rw [e]
      · exact ⟨c1, _, rfl, by simp [ctrs], g1, n1⟩
      · exact ⟨c2, _, rfl, by simp [ctrs], g2, n2⟩
      · exact ⟨c3, _, rfl, by simp [ctrs], g3, n3⟩
      · exact ⟨c4, _, rfl, by simp [ctrs], hC4, n4⟩
    have hix : atI ([.ref c1, .ref c2, .ref c3, .ref c4] : List V) u = some (V.ref c) := by
      have := atI_nat (j := u.toNat) hc
      rwa [Int.toNat_of_nonneg u0] at this
    refine ⟨q, _, u, .ref c, rfl, rfl, SqL.of (e6.at hq5 nqb), hix, ?_⟩
    obtain ⟨hgo, hs4⟩ := ctrs_game hCm
    have ncb : c ≠ b := fun z => by rw [z, hb4.at_] at hcn; cases hcn
    have hc6 := (hCat.ex e5).frame e6 ncb
    have e46 : ExF (Only b) H4 H6 := (f14.trans e5).of.trans e6
    refine ⟨_, rfl, c, C, 30, rfl, hc6, hgo, hs4, ht4.ex e46, fun H7 h M mf eX hM hma hdj hph hev hfr hmf => ⟨_, rfl, sz2, fun t nt => ?_⟩⟩
    have e17 := (e14.trans e46).trans (eX.trans (Ex.new (o := .tup [.ref h, .ref c]) nt)).of
    exact hq _ t h _ M _ mf _ e17 (SqT.of upd_same) (hM.ex (Ex.new nt)) (hma.ex (Ex.new nt)) hdj hph hev (manOk_game hgo.ok.s1 (by omega)) ((hb6.ex eX).ex (Ex.new nt)) (fun z hz => (e14.trans e46).gone (hfr z hz)) (fun z hz => (hmf z hz).elim (fun e => by rw [e]; exact e14.gone hcn) fun e => (e14.trans e46).gone e)
  · refine ⟨_, rfl, _, rfl, 4 + x, policy, rfl, by omega, by omega, fun H5 h M mf eX hM hma hdj hph hev hfr hmf => ⟨_, rfl, sz2, fun t nt => ?_⟩⟩
    have e15 : ExF (Only b) H4 (upd H5 t (.tup [.ref h, .str policy])) := eX.of.trans (Ex.new nt).of
    exact hq _ t h _ M _ mf _ (e14.trans e15) (SqT.of upd_same) (hM.ex (Ex.new nt)) (hma.ex (Ex.new nt)) hdj hph hev (manOk_pol (by omega) (by omega)) ((hb4.ex eX).ex (Ex.new nt)) (fun z hz => e14.gone (hfr z hz)) (fun z hz => e14.gone (hmf z hz))
end
end Hg
namespace Hg
open PySem PySem.Spec PyProof.Rows L2 GxR
/-! ### plain: data are equal to themselves; sessions -/
mutual
theorem eqvSelf : ∀ d : PyData, d.hasDict = false → PyData.eqv d d = true
  | .none, _ => by simp only [PyData.eqv]
  | .bool b, _ => by simp only [PyData.eqv, beq_self_eq_true]
  | .int i, _ => by simp only [PyData.eqv, beq_self_eq_true]
  | .str x, _ => by simp only [PyData.eqv, beq_self_eq_true]
  | .list xs, h => by
    simp only [PyData.eqv]
    exact eqvSelfAll xs (by simpa only [PyData.hasDict] using h)
  | .tuple xs, h => by
    simp only [PyData.eqv]
    exact eqvSelfAll xs (by simpa only [PyData.hasDict] using h)
  | .dict _, h => by simp [PyData.hasDict] at h
theorem eqvSelfAll : ∀ xs : List PyData, PyData.hasDictAll xs = false → PyData.eqvAll xs xs = true
  | [], _ => by simp only [PyData.eqvAll]
  | x :: xs, h => by
    have h1 : x.hasDict = false ∧ PyData.hasDictAll xs = false := by simpa [PyData.hasDictAll] using h
    simp only [PyData.eqvAll, eqvSelf x h1.1, eqvSelfAll xs h1.2, Bool.and_self]
end
/-- what == can look at -/
structure Cd (dp : Nat) (d : PyData) : Prop where
  cl : d.canLay0 = true
  de : d.depth ≤ dp
theorem Cd.all {dp : Nat} : ∀ {xs : List PyData}, (∀ x ∈ xs, Cd dp x) → PyData.canLayAll0 xs = true ∧ PyData.depthAll xs ≤ dp
  | [], _ => ⟨by simp only [PyData.canLayAll0], by simp only [PyData.depthAll]; exact Nat.zero_le _⟩
  | x :: xs, h => by
    obtain ⟨h1, h2⟩ := Cd.all fun y hy => h y (List.mem_cons_of_mem _ hy)
    have hx := h x (List.mem_cons_self ..)
    refine ⟨by simp only [PyData.canLayAll0, hx.cl, h1, Bool.and_self], ?_⟩
    simp only [PyData.depthAll]
    exact Nat.max_le.mpr ⟨hx.de, h2⟩
theorem Cd.list {dp : Nat} {xs : List PyData} (h : ∀ x ∈ xs, Cd dp x) : Cd (dp + 1) (.list xs) := ⟨by simp only [PyData.canLay0]; exact (Cd.all h).1, by simp only [PyData.depth]; have := (Cd.all h).2; omega⟩
theorem Cd.shaped {dp : Nat} {d : PyData} (h : Cd dp d) (h1 : dp ≤ 64) : SeqAt.shaped d = true := by
  unfold SeqAt.shaped
  rw [Bool.and_eq_true]
  exact ⟨h.cl, decide_eq_true (Nat.le_trans h.de h1)⟩
theorem Cd.self {dp : Nat} {d : PyData} (h : Cd dp d) : PyData.eqv d d = true := eqvSelf d (PyData.hasDict_of_canLay d h.cl)
theorem ShOk.shaped {d : PyData} (h : ShOk d) : SeqAt.shaped d = true := Cd.shaped ⟨h.cl, h.de⟩ (by decide)
theorem strCl {x : Str} (h : (PyData.str x).canLay0 = true) : PyData.canLay0 (.str x) = true := h
def evStrs : List Str := ["allocate", "write", "release", "addRoot", "removeRoot", "collect", "compact", "makeRoom", "slide", "object", "reference", "free"]
theorem evStrs_cl : (evStrs.all fun x => (PyData.str x).canLay0) = true := by decide +kernel
theorem cl_str {x : Str} (h : evStrs.contains x = true := by decide +kernel) : (PyData.str x).canLay0 = true := List.all_eq_true.mp evStrs_cl x (List.contains_iff_mem.mp h)
theorem cd_encF : ∀ f : FV, Cd 1 (encF f)
  | .non => ⟨by simp only [encF, PyData.canLay0], by simp only [encF, PyData.depth]; decide⟩
  | .num i => ⟨by simp only [encF, PyData.canLay0], by simp only [encF, PyData.depth]; decide⟩
  | .obj n => ⟨by
    have h := cl_str (x := "object")
    simp only [encF, PyData.canLay0, PyData.canLayAll0, Bool.and_true] at h ⊢
    exact h, by simp only [encF, PyData.depth, PyData.depthAll]; decide⟩
theorem cd_one {x : Str} (h : (PyData.str x).canLay0 = true) : Cd 2 (.tuple [.str x]) := ⟨by
  simp only [PyData.canLay0, PyData.canLayAll0, Bool.and_true] at h ⊢
  exact h, by simp only [PyData.depth, PyData.depthAll]; decide⟩
theorem cd_two {x : Str} {i : Int} (h : (PyData.str x).canLay0 = true) : Cd 2 (.tuple [.str x, .int i]) := ⟨by
  simp only [PyData.canLay0, PyData.canLayAll0, Bool.and_true] at h ⊢
  exact h, by simp only [PyData.depth, PyData.depthAll]; decide⟩
theorem cd_ev : ∀ ev : Ev, Cd 2 (encEv ev)
  | .write n i f => by
    have hf := cd_encF f
    have h := cl_str (x := "write")
    have h1 := hf.de
    refine ⟨?_, ?_⟩
    · simp only [encEv, PyData.canLay0, PyData.canLayAll0, Bool.and_true, hf.cl] at h ⊢
      exact h
    · simp only [encEv, PyData.depth, PyData.depthAll]
      omega
  | .alloc n => cd_two cl_str
  | .release n => cd_two cl_str
  | .addR n => cd_two cl_str
  | .remR n => cd_two cl_str
  | .coll => cd_one cl_str
  | .comp => cd_one cl_str
  | .room n => cd_two cl_str
  | .slide => cd_one cl_str
theorem cd_word (kv : List (Int × Int)) : ∀ f : FV, Cd 2 (wordD kv f)
  | .non => ⟨(cd_encF .non).cl, Nat.le_trans (cd_encF .non).de (by decide)⟩
  | .num i => ⟨(cd_encF (.num i)).cl, Nat.le_trans (cd_encF (.num i)).de (by decide)⟩
  | .obj n => cd_two cl_str
theorem cellsI_mem {kv : List (Int × Int)} {b : Int} : ∀ (l : List (FV × Nat)) (cs : List PyData), (∀ x ∈ cs, Cd 2 x) → ∀ x ∈ l.foldl (fun c x => c.set (b + (x.2 : Int)).toNat (wordD kv x.1)) cs, Cd 2 x
  | [], _, h, x, hx => h x hx
  | y :: l, cs, h, x, hx => cellsI_mem l _ (fun z hz => (List.mem_or_eq_of_mem_set hz).elim (h z) fun e => by rw [e]; exact cd_word kv y.1) x hx
theorem cellsK_mem {ph : PH} : ∀ (ns : List Int) (cs : List PyData), (∀ x ∈ cs, Cd 2 x) → ∀ x ∈ ns.foldl (cellsK ph) cs, Cd 2 x
  | [], _, h, x, hx => h x hx
  | n :: ns, cs, h, x, hx => cellsK_mem ns _ (cellsI_mem _ cs h) x hx
theorem cd_words (size : Int) (ph : PH) : Cd 3 (.list (wordsF size ph)) := Cd.list (cellsK_mem _ _ fun x hx => by
  rw [(List.mem_replicate.mp hx).2]
  exact ⟨cl_str, by simp only [PyData.depth]; decide⟩)
theorem cd_log (evs : List Ev) : Cd 3 (.list (evs.map encEv)) := Cd.list fun x hx => by
  obtain ⟨e, _, rfl⟩ := List.mem_map.mp hx
  exact cd_ev e
theorem shut_sh : SeqAt.shaped shutD = true := by decide +kernel
theorem cut_sh : SeqAt.shaped cutD = true := by decide +kernel
theorem shut_self : PyData.eqv shutD shutD = true := by decide +kernel
theorem shut_cut : PyData.eqv shutD cutD = false := by decide +kernel
theorem cut_self : PyData.eqv cutD cutD = true := by decide +kernel
theorem err_cut : ∀ e : Err, PyData.eqv (encErr e) cutD = false
  | .mem n => by simp [encErr, cutD, PyData.eqv, PyData.eqvAll]
  | .notAllowed n => by simp [encErr, cutD, PyData.eqv, PyData.eqvAll]
  | .room n => by simp [encErr, cutD, PyData.eqv, PyData.eqvAll]
  | .obj n => by simp [encErr, cutD, PyData.eqv, PyData.eqvAll]
  | .field n => by simp [encErr, cutD, PyData.eqv, PyData.eqvAll]
  | .used n r => by simp [encErr, cutD, PyData.eqv, PyData.eqvAll]
  | .strat => by decide +kernel
theorem ans_cut : ∀ res : Ans, PyData.eqv (ansD res) cutD = false
  | .error e => err_cut e
  | .ok r => by simp [ansD, cutD, PyData.eqv, PyData.eqvAll]
theorem told_no {man : Man} {ph ph' : PH} {ev : Ev} {r : PyData} (h : performF man ph ev = .ok (ph', r)) (ht : told ev r = false) : ph' = ph := by
  cases ev with
  | slide =>
    have e2 : slideEF man ph = .ok (ph', r) := h
    unfold slideEF at e2
    split at e2
    · cases e2
    · split at e2
      · cases e2
        rfl
      · cases e2
        cases ht
  | _ => cases ht
theorem Reach.step {man : Man} {evs : List Ev} {ph : PH} {ev : Ev} (h : Reach man evs ph) (hok : EvOk ev) : Reach man (nextE evs ev (performF man ph ev)) (nextP ph (performF man ph ev)) := by
  cases e : performF man ph ev with
  | error x => exact h
  | ok r =>
    cases ht : told ev r.2 with
    | true =>
      rw [show (Except.ok r : Ans) = .ok (r.1, r.2) from rfl, nextE_yes ht]
      exact .snoc h hok e ht
    | false =>
      rw [show (Except.ok r : Ans) = .ok (r.1, r.2) from rfl, nextE_no ht]
      show Reach man evs r.1
      rw [told_no e ht]
      exact h
theorem nextE_len {evs : List Ev} {ev : Ev} {res : Ans} : (nextE evs ev res).length ≤ evs.length + 1 := by
  cases res with
  | error x => exact Nat.le_succ _
  | ok r =>
    show (if told ev r.2 = true then evs ++ [ev] else evs).length ≤ _
    split
    · rw [List.length_append]
      exact Nat.le_refl _
    · exact Nat.le_succ _
theorem oct_next (evs : List Ev) (ev : Ev) (res : Ans) : octF (nextE evs ev res) = octF evs ++ wroteL ev res := by
  cases res with
  | error x =>
    show octF evs = octF evs ++ []
    rw [List.append_nil]
  | ok r =>
    show octF (if told ev r.2 = true then evs ++ [ev] else evs) = octF evs ++ (if told ev r.2 = true then recF ev else [])
    split
    · rw [octF_append]
      simp [octF]
    · rw [List.append_nil]
theorem wroteL_cases (ev : Ev) (res : Ans) : wroteL ev res = [] ∨ wroteL ev res = recF ev := by
  unfold wroteL
  split
  · exact .inr rfl
  · exact .inl rfl
theorem oct_len : ∀ evs : List Ev, (octF evs).length ≤ 20 * evs.length
  | [] => Nat.zero_le _
  | e :: l => by
    have h1 := recF_len e
    have h2 := oct_len l
    rw [octF_cons, List.length_append, List.length_cons]
    omega
/-! what stands beside one another in the law's heap -/
section
variable {P : Program} {w : World} {K : PySem.W.Frag} {mg : Str → Option Value} {base : Heap}
/-- the box, the plain heap and its manager -/
structure LS (P : Program) (w : World) (K : PySem.W.Frag) (mg : Str → Option Value) (base : Heap) (H : Hp) (b r hp : Addr) (l : List Int) (man : Man) (mf : List Addr) (mgr : Addr) (M : Hps) (n : Int) (m : Nat) : Prop where
  bx : BoxAt H b r l n
  pl : HeapAt K H hp M
  me : M.mgr = mgr
  ma : ManAt P w K mg base H mgr man mf
  dj : ∀ x ∈ mf, x ∉ M.foot hp
  nb : ∀ x, x = b ∨ x = r → x ∉ mf ∧ x ∉ M.foot hp
  re : Reach man M.evs M.T.ph
  le : M.evs.length ≤ m
/-- the journaled heap beside it -/
structure LJ (K : PySem.W.Frag) (H : Hp) (b r hp j : Addr) (man : Man) (mf : List Addr) (mgr : Addr) (M : Hps) (J : Jn) (down : Bool) (m : Nat) : Prop where
  ja : JAt K H j J
  me : J.M.mgr = mgr
  dm : ∀ x ∈ mf, x ∉ J.foot j
  dp : ∀ x ∈ M.foot hp, x ∉ J.foot j
  nb : ∀ x, x = b ∨ x = r → x ∉ J.foot j
  re : Reach man J.M.evs J.M.T.ph
  le : J.M.evs.length ≤ m
  pw : 0 ≤ J.pw
  sh : J.shut = down
  oc : ∃ e0 k, J.os = octF M.evs ++ (recF e0).take k ∧ k < (recF e0).length
  sy : down = false → J.M.evs = M.evs ∧ J.M.T.ph = M.T.ph ∧ J.os = octF M.evs
variable {F : Addr → Prop} {H H' : Hp} {b r hp j mgr : Addr} {l : List Int} {man : Man} {mf : List Addr} {M M' : Hps} {J J' : Jn} {n n' : Int} {m : Nat} {down : Bool}
theorem LS.frame (s : LS P w K mg base H b r hp l man mf mgr M n m) (e : ExF F H H') (h1 : ∀ x, F x → x ≠ b ∧ x ≠ r) (h2 : ∀ x, F x → x ∉ M.foot hp) (h3 : ∀ x, F x → x ∉ mf) : LS P w K mg base H' b r hp l man mf mgr M n m :=
  ⟨s.bx.frame e (fun z => (h1 b z).1 rfl) (fun z => (h1 r z).2 rfl), s.pl.frame e fun x hx z => h2 x z hx, s.me, s.ma.frame e fun x hx z => h3 x z hx, s.dj, s.nb, s.re, s.le⟩
theorem LS.ex (s : LS P w K mg base H b r hp l man mf mgr M n m) (e : Ex H H') : LS P w K mg base H' b r hp l man mf mgr M n m := s.frame e (fun _ z => z.elim) (fun _ z => z.elim) fun _ z => z.elim
theorem LJ.frame (s : LJ K H b r hp j man mf mgr M J down m) (e : ExF F H H') (h : ∀ x, F x → x ∉ J.foot j) : LJ K H' b r hp j man mf mgr M J down m := { s with ja := s.ja.frame e fun x hx z => h x z hx }
theorem LJ.ex (s : LJ K H b r hp j man mf mgr M J down m) (e : Ex H H') : LJ K H' b r hp j man mf mgr M J down m := s.frame e fun _ z => z.elim
/-- a draw -/
theorem LS.box (s : LS P w K mg base H b r hp l man mf mgr M n m) (e : ExF (Only b) H H') (hb : BoxAt H' b r l n') : LS P w K mg base H' b r hp l man mf mgr M n' m := by
  have hb1 := s.nb b (.inl rfl)
  exact ⟨hb, s.pl.frame e fun x hx z => hb1.2 (by rw [← show x = b from z]; exact hx), s.me, s.ma.frame e fun x hx z => hb1.1 (by rw [← show x = b from z]; exact hx), s.dj, s.nb, s.re, s.le⟩
theorem LJ.box (s : LJ K H b r hp j man mf mgr M J down m) (e : ExF (Only b) H H') : LJ K H' b r hp j man mf mgr M J down m := s.frame e fun x hx => by
  rw [show x = b from hx]
  exact s.nb b (.inl rfl)
/-- a change of the journaled heap, beside the plain one -/
theorem LS.jrn (s : LS P w K mg base H b r hp l man mf mgr M n m) (q : LJ K H b r hp j man mf mgr M J down m) (nw : NowJ K H H' j J J') : LS P w K mg base H' b r hp l man mf mgr M n m :=
  s.frame nw.ex (fun x hx => ⟨fun z => q.nb x (.inl z) hx, fun z => q.nb x (.inr z) hx⟩) (fun x hx z => q.dp x z hx) fun x hx z => q.dm x z hx
theorem LJ.feet (s : LS P w K mg base H b r hp l man mf mgr M n m) (q : LJ K H b r hp j man mf mgr M J down m) (nw : NowJ K H H' j J J') : (∀ x ∈ mf, x ∉ J'.foot j) ∧ (∀ x ∈ M.foot hp, x ∉ J'.foot j) ∧ ∀ x, x = b ∨ x = r → x ∉ J'.foot j := by
  refine ⟨fun x hx z => (nw.ft x z).elim (q.dm x hx) (s.ma.live x hx), fun x hx z => (nw.ft x z).elim (q.dp x hx) (s.pl.live x hx), fun x hx z => (nw.ft x z).elim (q.nb x hx) fun y => ?_⟩
  rcases hx with e | e
  · rw [e, s.bx.at_] at y
    cases y
  · rw [e, s.bx.row] at y
    cases y
/-- a change of the plain heap, beside the journaled one -/
theorem LS.chg (s : LS P w K mg base H b r hp l man mf mgr M n m) (nw : NowH K H H' hp M M') (hm : M'.mgr = M.mgr) (re : Reach man M'.evs M'.T.ph) (le : M'.evs.length ≤ m + 1) : LS P w K mg base H' b r hp l man mf mgr M' n (m + 1) := by
  have live : ∀ x, x = b ∨ x = r → H x ≠ none := fun x hx z => by
    rcases hx with e | e
    · rw [e, s.bx.at_] at z
      cases z
    · rw [e, s.bx.row] at z
      cases z
  exact ⟨s.bx.frame nw.ex (s.nb b (.inl rfl)).2 (s.nb r (.inr rfl)).2, nw.at_, hm.trans s.me, s.ma.frame nw.ex s.dj, fun x hx z => (nw.ft x z).elim (s.dj x hx) (s.ma.live x hx), fun x hx => ⟨(s.nb x hx).1, fun z => (nw.ft x z).elim (s.nb x hx).2 (live x hx)⟩, re, le⟩
theorem LJ.chg (q : LJ K H b r hp j man mf mgr M J down m) (nw : NowH K H H' hp M M') : JAt K H' j J ∧ ∀ x ∈ M'.foot hp, x ∉ J.foot j :=
  ⟨q.ja.frame nw.ex fun x hx z => q.dp x z hx, fun x hx z => (nw.ft x hx).elim (fun y => q.dp x y z) fun y => q.ja.live x z y⟩
theorem LS.hin (s : LS P w K mg base H b r hp l man mf mgr M n m) (ok : ManOk man) : HIn P w K mg base H hp M man mf := ⟨s.pl, by rw [s.me]; exact s.ma, s.dj, s.re.ok ok.pok⟩
theorem LJ.hin (s : LS P w K mg base H b r hp l man mf mgr M n m) (q : LJ K H b r hp j man mf mgr M J down m) (ok : ManOk man) : HIn P w K mg base H J.h J.M man mf := ⟨q.ja.hp, by rw [q.me]; exact s.ma, fun x hx z => q.dm x hx (Jn.foot_M z), q.re.ok ok.pok⟩
theorem LJ.oct (q : LJ K H b r hp j man mf mgr M J down m) (hM : M.evs.length ≤ m) : J.os.length ≤ 20 * m + 20 := by
  obtain ⟨e0, k, e, hk⟩ := q.oc
  have h1 := oct_len M.evs
  have h2 := recF_len e0
  rw [e, List.length_append, List.length_take]
  omega
end
end Hg
namespace Hg
open PySem PySem.Spec PyProof.Rows L2 GxR
/-! ### the law -/
section
variable {P : Program} {w : World} {K : PySem.W.Frag} {mg : Str → Option Value} {base : Heap}
theorem LS.up {H : Hp} {b r hp mgr : Addr} {l : List Int} {man : Man} {mf : List Addr} {M : Hps} {n : Int} {m k : Nat} (s : LS P w K mg base H b r hp l man mf mgr M n m) (h : m ≤ k) : LS P w K mg base H b r hp l man mf mgr M n k := ⟨s.bx, s.pl, s.me, s.ma, s.dj, s.nb, s.re, Nat.le_trans s.le h⟩
theorem LJ.up {H : Hp} {b r hp j mgr : Addr} {man : Man} {mf : List Addr} {M : Hps} {J : Jn} {down : Bool} {m k : Nat} (s : LJ K H b r hp j man mf mgr M J down m) (h : m ≤ k) : LJ K H b r hp j man mf mgr M J down k := { s with le := Nat.le_trans s.le h }
theorem jchg {H H' : Hp} {hp j : Addr} {M M' : Hps} {J : Jn} (hj : JAt K H j J) (dp : ∀ x ∈ M.foot hp, x ∉ J.foot j) (nw : NowH K H H' hp M M') : JAt K H' j J ∧ ∀ x ∈ M'.foot hp, x ∉ J.foot j :=
  ⟨hj.frame nw.ex fun x hx z => dp x z hx, fun x hx z => (nw.ft x hx).elim (fun y => dp x y z) fun y => hj.live x z y⟩
theorem ans_ref {H : Hp} {u : V} {res : Ans} (h : DI K H u (ansD res)) : ∃ q, u = .ref q := by
  cases res with
  | error e => cases e <;> exact (DI.tup_inv h).imp fun _ z => z.choose_spec.1
  | ok r => exact (DI.tup_inv h).imp fun _ z => z.choose_spec.1
def spLaw (K : PySem.W.Frag) (Tf Tr : Addr) : Sp := fun vs H Q _ => ∃ (a : Addr) (ns : List Int), vs = [.ref a] ∧ SqL K H a (ns.map V.int) ∧ TabH H Tf Tr ∧ ∀ H', Q (.bl true) H'
abbrev N_law : List Str := ["_law_script", "_law_box_here", "_law_plain", "_law_octets", "_law_session", "_law_journaled", "_law_down", "_law_turn", "_law_event", "_law_answer", "_law_again"]
theorem sc_law : FnScope N_law ["_law_script"] (defScope s_law) := ⟨rfl, rfl, rfl, by decide +kernel, rfl, by decide +kernel, by decide +kernel⟩
theorem w_law (T : Txt P K mg) {Tf Tr : Addr} (D : Tabs K mg base Tf Tr) : ClG P w K mg base 20 "law" (spLaw K Tf Tr) := by
  have nd := sc_law.nd
  have c1 := w_box (w := w) (base := base) T
  have c2 := w_lheap (w := w) (base := base) T D
  have c3 := w_draw (w := w) (base := base) T
  have c4 := w_opened (w := w) (base := base) T
  have c5 := w_heap0 (w := w) (base := base) T
  have c6 := w_log (w := w) (base := base) T
  have c7 := w_words (w := w) (base := base) T
  have c8 := w_deed (w := w) (base := base) T
  have c9 := w_ljrn (w := w) (base := base) T
  have cA := w_lsame (w := w) (base := base) T
  have cB := w_lchgP (w := w) (base := base) T
  refine clG_of T (fn_mem 49 rfl) (by decide +kernel) sc_law (b1 fun _ _ _ _ _ _ _ => rfl) (fun vs H Q E ⟨_, _, e, _⟩ => by rw [e]; rfl) fun cdv A outer s H vs Q E ng hr ⟨a, ns, e, hs, ht, hq⟩ => ?_
  subst e
  refine ⟨_, (pss_cons (ps_set (i := 1) nd rfl (.inl rfl) (pe_cl c1 hr takes0 (pa_cons (pv 0) (pa_cons pe_int (pa_cons pe_int pa_nil))))) (pss_cons (ps_set (i := 2) nd rfl (.inl rfl) (pe_ix ix_tup (pe_cl c2 hr takes0 (pa_cons (pv 1) pa_nil)) pe_int (fun _ _ => rfl))) (pss_cons (ps_set (i := 3) nd rfl (.inl rfl) (pe_lst pa_nil)) (pss_cons (ps_for ps0 rfl (pi_range1 (by rfl) (T.n "range") (pa_cons (pe_op op_add pe_int (pe_cl c3 hr takes0 (pa_cons (pv 1) (pa_cons pe_int pa_nil)))) pa_nil)) (pg_name (i := 4) nd rfl (.inl rfl)) (pss_cons (ps_set (i := 5) nd rfl (.inl rfl) (pe_cl c4 hr takes0 (pa_cons (pe_mr c5 hr (pa_cons (pe_fld (pv 2) rfl) pa_nil)) (pa_cons (pe_callTy call_list_of (by rfl) (T.n "list") (by decide +kernel) (pa_cons (pv 3) pa_nil)) (pa_cons (pe_cl c3 hr takes0 (pa_cons (pv 1) (pa_cons pe_int pa_nil))) pa_nil))))) (pss_cons (ps_if (PW.pt (pw_or (pt_cmpR (op_neD hr.units) (pe_mt0 c6 hr tk0 (pe_fld (pv 5) rfl)) (pe_mt0 c6 hr tk0 (pv 2)) (by rfl)) (pw_or1 (pt_cmpR (op_neD hr.units) (pe_mt0 c7 hr tk0 (pe_fld (pv 5) rfl)) (pe_mt0 c7 hr tk0 (pv 2)) (by rfl))))) (pss_one (ps_ret pe_bl)) pss_nil) (pss_cons (ps_set (i := 6) nd rfl (.inl rfl) pe_bl) (pss_cons (ps_for ps0 rfl (pi_range1 (by rfl) (T.n "range") (pa_cons pe_int pa_nil)) (pg_name (i := 7) nd rfl (.inl rfl)) (pss_cons (ps_set (i := 8) nd rfl (.inl rfl) (pe_cl c8 hr takes0 (pa_cons (pv 1) (pa_cons pe_int pa_nil)))) (pss_cons (ps_set (i := 9) nd rfl (.inl rfl) (pe_cl c9 hr takes0 (pa_cons (pv 5) (pa_cons (pv 8) pa_nil)))) (pss_cons (ps_if (PW.pt (pw_and (pt_truth (pv 6) (by intro _; rfl)) (pw_and1 (pt_cmpR (op_neD hr.units) (pv 9) (pe_tup (pa_cons pe_str pa_nil)) (by rfl))))) (pss_one (ps_ret pe_bl)) pss_nil) (pss_one (ps_if (pt_cmpR (op_eqD hr.units) (pv 9) (pe_tup (pa_cons pe_str pa_nil)) (by rfl)) (pss_one (ps_set (i := 6) nd rfl (.inl rfl) pe_bl)) (pss_one (ps_if (PW.pt (pw_and (pt_not (pt_truth (pv 6) (by intro _; rfl))) (pw_and1 (pt_not (pt_truth (pe_clG cA ng hr takes0 (pa_cons (pv 9) (pa_cons (pe_cl cB hr takes0 (pa_cons (pv 2) (pa_cons (pv 8) pa_nil))) pa_nil))) (by intro _; rfl)))))) (pss_one (ps_ret pe_bl)) pss_nil)))))))) (pss_one (ps_set (i := 3) nd rfl (.inl rfl) (pe_callTy call_list_of (by rfl) (T.n "list") (by decide +kernel) (pa_cons (pe_fld (pe_fld (pv 5) rfl) rfl) pa_nil))))))))) (pss_cons (ps_set (i := 10) nd rfl (.inl rfl) (pe_cl c4 hr takes0 (pa_cons (pe_mr c5 hr (pa_cons (pe_fld (pv 2) rfl) pa_nil)) (pa_cons (pv 3) (pa_cons pe_int pa_nil))))) (pss_one (ps_ret (pe_and (pe_cmpR (op_eqD hr.units) (pe_mt0 c6 hr tk0 (pe_fld (pv 10) rfl)) (pe_mt0 c6 hr tk0 (pv 2)) (by rfl)) (pe_one (pe_cmpR (op_eqD hr.units) (pe_mt0 c7 hr tk0 (pe_fld (pv 10) rfl)) (pe_mt0 c7 hr tk0 (pv 2)) (by rfl))))))))))), ?_⟩
  refine ⟨_, rfl, a, ns, rfl, hs, fun H1 b r l e1 nb nr hb => ?_⟩
  have ht1 := ht.ex e1
  refine ⟨_, rfl, b, r, l, 0, rfl, hb, ht1, fun H2 t hp z M man mf n e2 hst hM hma hdj hph hev hok hb2 hfr hmf => ?_⟩
  refine ⟨t, _, 0, .ref hp, rfl, rfl, hst, atI_nat (j := 0) rfl, ?_⟩
  refine ⟨Nat.zero_le _, fun oa noa => ?_⟩
  have hlive : ∀ x, x = b ∨ x = r → H1 x ≠ none := fun x hx z => by
    rcases hx with e | e
    · rw [e, hb.at_] at z
      cases z
    · rw [e, hb.row] at z
      cases z
  have S0 : LS P w K mg base H2 b r hp l man mf M.mgr M n 0 := ⟨hb2, hM, rfl, hma, hdj, fun x hx => ⟨fun z => hlive x hx (hmf x z), fun z => hlive x hx (hfr x z)⟩, by rw [hev, hph]; exact .nil, by rw [hev]; exact Nat.le_refl _⟩
  have S1 := S0.ex (Ex.new (o := .lst []) noa)
  have ho1 : (upd H2 oa (.lst [])) oa = some (.lst ((octF M.evs ++ (recF .slide).take 0).map V.int)) := by
    rw [hev]
    exact upd_same
  generalize upd H2 oa (.lst []) = H3 at S1 ho1 ⊢
  refine ⟨_, rfl, b, r, l, n, 5, rfl, S1.bx, by decide, fun x H4 x0 x1 hb4 e4 => ⟨_, _, rfl, rfl, ?_⟩⟩
  have hoab : oa ≠ b := fun z => by
    have h9 := hb2.at_
    rw [← z, noa] at h9
    cases h9
  refine ⟨1 + x, rfl, by omega, by omega, for_r (lo := 0) (hi := 1 + x) (by rw [Int.sub_zero]) (fun pre σ G => ∃ (oa : Addr) (y4 y5 y6 y7 y8 y9 y10 : Option V) (Mp : Hps) (n' : Int) (e0 : Ev) (k : Nat), σ = [some (.ref a), some (.ref b), some (.ref hp), some (.ref oa), y4, y5, y6, y7, y8, y9, y10] ∧
    LS P w K mg base G b r hp l man mf M.mgr Mp n' (8 * pre.length) ∧ G oa = some (.lst ((octF Mp.evs ++ (recF e0).take k).map V.int)) ∧ k < (recF e0).length) ?_ ?_ ?_⟩
  · exact ⟨oa, _, _, _, _, _, _, _, M, _, .slide, 0, rfl, S1.box e4 hb4, e4.at ho1 hoab, by decide⟩
  · intro pre s0 post σ G el ⟨oa, y4, y5, y6, y7, y8, y9, y10, Mp, n', e0, k, e, S, ho, hk⟩
    subst e
    have hpl : pre.length < 5 := by
      have := (rangeL_at el).2
      omega
    have hle := S.le
    have hbl : ∀ x, x = b ∨ x = r → G x ≠ none := fun x hx z => by
      rcases hx with e | e
      · rw [e, S.bx.at_] at z
        cases z
      · rw [e, S.bx.row] at z
        cases z
    refine ⟨_, rfl, hp, _, _, _, _, rfl, S.pl.ins, T.cls "ManagedHeap", T.noat "ManagedHeap" "manager", rfl, fun h hdx nh nhdx nhd => ⟨h, hdx, Mp.mgr, rfl, upd_same, by rw [upd_ne nhd, upd_same], fun G1 M0 eF hM0 hm0 hp0 hv0 hf0 => ⟨rfl, ?_⟩⟩⟩
    have f1 : Ex G G1 := mk_ex nh nhdx eF
    have fr0 : ∀ x ∈ M0.foot h, G x = none := fun x hx => by
      rcases hf0 x hx with e | e | e
      · rw [e]; exact nh
      · rw [e]; exact nhdx
      · exact (Ex.updN (o := .ins (CHeap K) hdx []) (Ex.new (o := .own h) nhdx) nh).gone e
    refine ⟨_, rfl, oa, _, rfl, .inl (SqL.of (f1.at ho)), fun q nq => ?_⟩
    have f2 : Ex G1 (upd G1 q (.lst ((octF Mp.evs ++ (recF e0).take k).map V.int))) := Ex.new nq
    have hq2 : (upd G1 q (.lst ((octF Mp.evs ++ (recF e0).take k).map V.int))) q = some (.lst ((octF Mp.evs ++ (recF e0).take k).map V.int)) := upd_same
    have hqM : q ∉ M0.foot h := fun z => hM0.live q z nq
    have hqb : q ≠ b := fun z => by
      have h9 := (S.ex f1).bx.at_
      rw [← z, nq] at h9
      cases h9
    generalize upd G1 q (.lst ((octF Mp.evs ++ (recF e0).take k).map V.int)) = G2 at f2 hq2 ⊢
    have S2 := (S.ex f1).ex f2
    refine ⟨_, rfl, b, r, l, n', 60, rfl, S2.bx, by decide, fun pw G3 p0 p1 hb3 e3 => ?_⟩
    have S3 := S2.box e3 hb3
    have hM3 : HeapAt K G3 h M0 := (hM0.ex f2).frame e3 fun x hx z => hbl b (.inl rfl) (by rw [← show x = b from z]; exact fr0 x hx)
    refine ⟨h, q, pw, M0, man, mf, Mp.evs, Mp.T.ph, e0, k, rfl, hM3, by rw [hm0, S3.me]; exact S3.ma, fun x hx z => S.ma.live x hx (fr0 x z), hp0, hv0, hok.pok, S3.re, by omega, e3.at hq2 hqb, hqM, hk, fun G4 j J e4 hJ hJh hJm hJp hJe hJo hJw hJs hJf => ?_⟩
    have S4 : LS P w K mg base G4 b r hp l man mf M.mgr Mp (n' + 1) (8 * pre.length) := S3.frame e4 (fun x hx => ⟨fun z => hbl x (.inl z) (fr0 x hx), fun z => hbl x (.inr z) (fr0 x hx)⟩) (fun x hx z => S.pl.live x z (fr0 x hx)) fun x hx z => S.ma.live x z (fr0 x hx)
    have hl3 : ∀ x, x = b ∨ x = r → G3 x ≠ none := fun x hx z => by
      rcases hx with e | e
      · rw [e, S3.bx.at_] at z
        cases z
      · rw [e, S3.bx.row] at z
        cases z
    have L4 : LJ K G4 b r hp j man mf M.mgr Mp J false (8 * pre.length) := {
      ja := hJ
      me := hJm.trans (hm0.trans S.me)
      dm := fun x hx z => (hJf x z).elim (fun y => S.ma.live x hx (fr0 x y)) (S3.ma.live x hx)
      dp := fun x hx z => (hJf x z).elim (fun y => S.pl.live x hx (fr0 x y)) (S3.pl.live x hx)
      nb := fun x hx z => (hJf x z).elim (fun y => hbl x hx (fr0 x y)) (hl3 x hx)
      re := by rw [hJe, hJp]; exact S.re
      le := by rw [hJe]; exact S.le
      pw := by rw [hJw]; exact p0
      sh := hJs
      oc := ⟨.slide, 0, by rw [hJo]; simp, by decide⟩
      sy := fun _ => ⟨hJe, hJp, hJo⟩ }
    refine ⟨_, rfl, j, _, _, _, _, rfl, L4.ja.ins, T.cls "JournaledHeap", T.noat "JournaledHeap" "heap", rfl, J.h, _, _, rfl, L4.ja.hp.ins, rfl, J.h, J.M, rfl, L4.ja.hp, fun G5 u1 e5 d1 => ?_⟩
    refine ⟨_, rfl, hp, _, _, rfl, (S4.ex e5).pl.ins, rfl, hp, Mp, rfl, (S4.ex e5).pl, fun G6 u2 e6 d2 => ⟨_, _, Dp.le (leI G6) (DI.ex d1 e6), Dp.le (leI G6) d2, (cd_log _).shaped (by decide), (cd_log _).shaped (by decide), _, rfl, ?_⟩⟩
    rw [hJe, (cd_log Mp.evs).self]
    have S6 := (S4.ex e5).ex e6
    have L6 := (L4.ex e5).ex e6
    have hin6 := L6.hin S6 hok
    refine iteF ⟨_, rfl, j, _, _, _, _, rfl, L6.ja.ins, T.cls "JournaledHeap", T.noat "JournaledHeap" "heap", rfl, J.h, _, _, rfl, L6.ja.hp.ins, rfl, J.h, J.M, man, mf, rfl, hin6.hp, hin6.ma, hin6.ok.al, hin6.ok.cl, hin6.ok.gd.inn, fun G7 u3 e7 d3 => ?_⟩
    have hinp := (S6.ex e7).hin hok
    refine ⟨_, rfl, hp, _, _, rfl, (S6.ex e7).pl.ins, rfl, hp, Mp, man, mf, rfl, hinp.hp, hinp.ma, hinp.ok.al, hinp.ok.cl, hinp.ok.gd.inn, fun G8 u4 e8 d4 => ⟨_, _, Dp.le (leI G8) (DI.ex d3 e8), Dp.le (leI G8) d4, (cd_words _ _).shaped (by decide), (cd_words _ _).shaped (by decide), _, rfl, ?_⟩⟩
    rw [hJp, (cd_words man.size Mp.T.ph).self]
    have S8 := (S6.ex e7).ex e8
    have L8 := (L6.ex e7).ex e8
    refine iteF ?_
    refine ⟨8, rfl, by decide, by decide, for_r (lo := 0) (hi := 8) rfl (fun pre2 σ G => ∃ (down : Bool) (y7 y8 y9 : Option V) (Mp2 : Hps) (J2 : Jn) (n2 : Int), σ = [some (.ref a), some (.ref b), some (.ref hp), some (.ref oa), some (.int s0), some (.ref j), some (.bl down), y7, y8, y9, y10] ∧
      LS P w K mg base G b r hp l man mf M.mgr Mp2 n2 (8 * pre.length + pre2.length) ∧ LJ K G b r hp j man mf M.mgr Mp2 J2 down (8 * pre.length + pre2.length)) ?_ ?_ ?_⟩
    · exact ⟨false, _, _, _, Mp, J, _, rfl, S8, L8⟩
    · intro pre2 t0 post2 σ G9 el2 ⟨down, y7, y8, y9, Mp2, J2, n2, e, S, L⟩
      subst e
      have hpl2 : pre2.length < 8 := (rangeL_at el2).2
      refine ⟨_, rfl, b, r, l, n2, rfl, S.bx, fun H1 ve ev n3 hev1 dev hb1 e1 => ?_⟩
      have S1 := S.box e1 hb1
      have L1 := L.box e1
      have hlS := S1.le
      have hlL := L1.le
      have hoL := L1.oct hlS
      refine ⟨_, rfl, _, rfl, j, J2, man, mf, ve, ev, rfl, ⟨L1.ja, L1.hin S1 hok, dev, hev1, by omega, by omega, L1.pw⟩, ?_⟩
      have hlen : (pre2 ++ [t0]).length = pre2.length + 1 := by rw [List.length_append]; rfl
      have hre := L1.re.step hev1
      have hnl : (nextE J2.M.evs ev (performF man J2.M.T.ph ev)).length ≤ 8 * pre.length + pre2.length + 1 := Nat.le_trans nextE_len (Nat.succ_le_succ hlL)
      refine ⟨fun hsh H2 e2 u H3 e3 du => ?_, fun hsh hw H2 J3 u nw hh hm hp' he ho hp2 hs2 du => ?_, fun hsh hw H2 J3 nw hh hm hp' he ho hp2 hs2 u H3 e3 du => ?_⟩
      · have hd : down = true := by rw [← L1.sh]; exact hsh
        subst hd
        refine ⟨_, rfl, true, rfl, iteT ⟨_, rfl, sz1, fun t1 nt1 => ⟨shutD, shutD, Dp.le (leI _) (DI.ex du (Ex.new (F := NoF) nt1)), .tup (SqT.of upd_same) (.cons (.str _) .nil), shut_sh, shut_sh, _, rfl, ?_⟩⟩⟩
        rw [shut_self]
        have e4 : Ex H1 (upd H3 t1 (.tup [.str "shut"])) := (e2.trans e3).trans (Ex.new nt1)
        have du4 : DI K (upd H3 t1 (.tup [.str "shut"])) u shutD := DI.ex du (Ex.new (F := NoF) nt1)
        generalize upd H3 t1 (.tup [.str "shut"]) = H4 at e4 du4 ⊢
        refine iteF ⟨_, rfl, sz1, fun t2 nt2 => ⟨shutD, cutD, Dp.le (leI _) (DI.ex du4 (Ex.new (F := NoF) nt2)), .tup (SqT.of upd_same) (.cons (.str _) .nil), shut_sh, cut_sh, _, rfl, ?_⟩⟩
        rw [shut_cut]
        refine iteF ⟨_, rfl, true, rfl, iteF (iteF ⟨true, _, _, _, Mp2, J2, n3, rfl, ?_, ?_⟩)⟩
        · exact ((S1.ex e4).ex (Ex.new nt2)).up (by omega)
        · exact ((L1.ex e4).ex (Ex.new nt2)).up (by omega)
      · have hd : down = false := by rw [← L1.sh]; exact hsh
        subst hd
        obtain ⟨hu1, hu2, hu3⟩ := L1.sy rfl
        refine ⟨_, rfl, false, rfl, iteF (iteF ⟨_, rfl, sz1, fun t1 nt1 => ?_⟩)⟩
        have hans : ShOk (ansD (performF man J2.M.T.ph ev)) := ans_sh hok.s0 hok.s1 hok.pl hok.er (L1.re.ok hok.pok) hev1 (by have := L1.re.next; omega)
        refine ⟨_, cutD, Dp.le (leI _) (DI.ex du (Ex.new (F := NoF) nt1)), .tup (SqT.of upd_same) (.cons (.str _) .nil), hans.shaped, cut_sh, _, rfl, ?_⟩
        rw [ans_cut]
        have e3 : Ex H2 (upd H2 t1 (.tup [.str "cut"])) := Ex.new nt1
        generalize upd H2 t1 (.tup [.str "cut"]) = H3 at e3 ⊢
        have S2 := (S1.jrn L1 nw).ex e3
        obtain ⟨f1, f2, f3⟩ := LJ.feet S1 L1 nw
        have hj3 := nw.at_.ex e3
        have dev3 := DI.ex (DI.ex dev nw.ex) e3
        refine iteF ⟨_, rfl, false, rfl, iteT ⟨_, rfl, _, rfl, _, rfl, hp, Mp2, man, mf, ve, ev, rfl, S2.hin hok, dev3, hev1, by omega, fun H4 M4 u4 nw4 hm4 hp4 he4 du4 => ?_⟩⟩
        obtain ⟨q1, rfl⟩ := ans_ref du
        obtain ⟨q4, rfl⟩ := ans_ref du4
        rw [← hu2] at hp4 he4 du4
        refine ⟨q1, q4, _, rfl, DI.ex (DI.ex du e3) nw4.ex, du4, hans, true, rfl, iteF ?_⟩
        obtain ⟨g1, g2⟩ := jchg hj3 f2 nw4
        refine ⟨false, _, _, _, M4, J3, n3, rfl, ?_, ?_⟩
        · rw [hlen]
          refine S2.chg nw4 hm4 ?_ ?_
          · rw [he4, hp4, ← hu1]
            exact hre
          · rw [he4]
            exact Nat.le_trans nextE_len (Nat.succ_le_succ hlS)
        · rw [hlen]
          have ho4 : J3.os = octF M4.evs := by
            rw [ho, hu3, he4, oct_next]
          exact {
            ja := g1
            me := hm.trans L1.me
            dm := f1
            dp := g2
            nb := f3
            re := by rw [he, hp']; exact hre
            le := by rw [he]; exact hnl
            pw := by rw [hp2]; omega
            sh := hs2
            oc := ⟨.slide, 0, by rw [ho4]; simp, by decide⟩
            sy := fun _ => ⟨by rw [he, he4, hu1], by rw [hp', hp4, hu2], ho4⟩ }
      · have hd : down = false := by rw [← L1.sh]; exact hsh
        subst hd
        obtain ⟨hu1, hu2, hu3⟩ := L1.sy rfl
        refine ⟨_, rfl, false, rfl, iteF (iteF ⟨_, rfl, sz1, fun t1 nt1 => ⟨cutD, cutD, Dp.le (leI _) (DI.ex du (Ex.new (F := NoF) nt1)), .tup (SqT.of upd_same) (.cons (.str _) .nil), cut_sh, cut_sh, _, rfl, ?_⟩⟩)⟩
        rw [cut_self]
        obtain ⟨f1, f2, f3⟩ := LJ.feet S1 L1 nw
        have e4 : Ex H2 (upd H3 t1 (.tup [.str "cut"])) := e3.trans (Ex.new nt1)
        refine iteT ⟨true, _, _, _, Mp2, J3, n3, rfl, ?_, ?_⟩
        · exact ((S1.jrn L1 nw).ex e4).up (by omega)
        · rw [hlen]
          have hpw := L1.pw
          have hwr : wroteL ev (performF man J2.M.T.ph ev) = recF ev := (wroteL_cases ev _).elim (fun z => by rw [z] at hw; simp at hw; omega) id
          rw [hwr] at hw ho
          exact {
            ja := nw.at_.ex e4
            me := hm.trans L1.me
            dm := f1
            dp := f2
            nb := f3
            re := by rw [he, hp']; exact hre
            le := by rw [he]; exact hnl
            pw := by rw [hp2]; exact Int.le_refl _
            sh := hs2
            oc := ⟨ev, J2.pw.toNat, by rw [ho, hu3], by omega⟩
            sy := fun z => Bool.noConfusion z }
    · intro σ G9 ⟨down, y7, y8, y9, Mp2, J2, n2, e, S, L⟩
      subst e
      refine ⟨_, rfl, j, _, _, _, _, rfl, L.ja.ins, T.cls "JournaledHeap", T.noat "JournaledHeap" "device", rfl, J2.d, _, _, _, _, rfl, L.ja.dins, T.cls "Device", T.noat "Device" "octets", rfl, J2.ol, _, rfl, .inl (SqL.of L.ja.oct), fun q nq => ?_⟩
      obtain ⟨e0, k, ho, hk⟩ := L.oc
      refine ⟨q, _, _, _, _, _, _, _, Mp2, n2, e0, k, rfl, ?_, ?_, hk⟩
      · exact (S.ex (Ex.new nq)).up (by rw [List.length_append]; show _ + 8 ≤ 8 * (_ + 1); omega)
      · rw [upd_same, ho]
  · intro σ G ⟨oa, y4, y5, y6, y7, y8, y9, y10, Mp, n', e0, k, e, S, ho, hk⟩
    subst e
    have hle := S.le
    rw [rangeL_len] at hle
    refine ⟨_, rfl, hp, _, _, _, _, rfl, S.pl.ins, T.cls "ManagedHeap", T.noat "ManagedHeap" "manager", rfl, fun h hdx nh nhdx nhd => ⟨h, hdx, Mp.mgr, rfl, upd_same, by rw [upd_ne nhd, upd_same], fun G1 M0 eF hM0 hm0 hp0 hv0 hf0 => ⟨rfl, ?_⟩⟩⟩
    have f1 : Ex G G1 := mk_ex nh nhdx eF
    have fr0 : ∀ x ∈ M0.foot h, G x = none := fun x hx => by
      rcases hf0 x hx with e | e | e
      · rw [e]; exact nh
      · rw [e]; exact nhdx
      · exact (Ex.updN (o := .ins (CHeap K) hdx []) (Ex.new (o := .own h) nhdx) nh).gone e
    have S1 := S.ex f1
    refine ⟨_, rfl, h, oa, 0, M0, man, mf, Mp.evs, Mp.T.ph, e0, k, rfl, hM0, by rw [hm0, S1.me]; exact S1.ma, fun x hx z => S.ma.live x hx (fr0 x z), hp0, hv0, hok.pok, S.re, by omega, f1.at ho, fun z => (by rw [fr0 oa z] at ho; cases ho), hk, fun G4 j J e4 hJ hJh hJm hJp hJe hJo hJw hJs hJf => ?_⟩
    have hbl : ∀ x, x = b ∨ x = r → G x ≠ none := fun x hx z => by
      rcases hx with e | e
      · rw [e, S.bx.at_] at z
        cases z
      · rw [e, S.bx.row] at z
        cases z
    have S4 := S1.frame e4 (fun x hx => ⟨fun z => hbl x (.inl z) (fr0 x hx), fun z => hbl x (.inr z) (fr0 x hx)⟩) (fun x hx z => S.pl.live x z (fr0 x hx)) fun x hx z => S.ma.live x z (fr0 x hx)
    have hmJ : J.M.mgr = M.mgr := hJm.trans (hm0.trans S.me)
    have hdm : ∀ x ∈ mf, x ∉ J.M.foot J.h := fun x hx z => (hJf x (Jn.foot_M z)).elim (fun y => S.ma.live x hx (fr0 x y)) (S1.ma.live x hx)
    refine ⟨_, rfl, j, _, _, _, _, rfl, hJ.ins, T.cls "JournaledHeap", T.noat "JournaledHeap" "heap", rfl, J.h, _, _, rfl, hJ.hp.ins, rfl, J.h, J.M, rfl, hJ.hp, fun G5 u1 e5 d1 => ?_⟩
    refine ⟨_, rfl, hp, _, _, rfl, (S4.ex e5).pl.ins, rfl, hp, Mp, rfl, (S4.ex e5).pl, fun G6 u2 e6 d2 => ⟨_, _, Dp.le (leI G6) (DI.ex d1 e6), Dp.le (leI G6) d2, (cd_log _).shaped (by decide), (cd_log _).shaped (by decide), _, rfl, ?_⟩⟩
    rw [hJe, (cd_log Mp.evs).self]
    have S6 := (S4.ex e5).ex e6
    have J6 := (hJ.ex e5).ex e6
    have hin6 : HIn P w K mg base G6 J.h J.M man mf := ⟨J6.hp, by rw [hmJ]; exact S6.ma, hdm, by rw [hJp]; exact S.re.ok hok.pok⟩
    refine iteT ⟨_, rfl, j, _, _, _, _, rfl, J6.ins, T.cls "JournaledHeap", T.noat "JournaledHeap" "heap", rfl, J.h, _, _, rfl, J6.hp.ins, rfl, J.h, J.M, man, mf, rfl, hin6.hp, hin6.ma, hin6.ok.al, hin6.ok.cl, hin6.ok.gd.inn, fun G7 u3 e7 d3 => ?_⟩
    have hinp := (S6.ex e7).hin hok
    refine ⟨_, rfl, hp, _, _, rfl, (S6.ex e7).pl.ins, rfl, hp, Mp, man, mf, rfl, hinp.hp, hinp.ma, hinp.ok.al, hinp.ok.cl, hinp.ok.gd.inn, fun G8 u4 e8 d4 => ⟨_, _, Dp.le (leI G8) (DI.ex d3 e8), Dp.le (leI G8) d4, (cd_words _ _).shaped (by decide), (cd_words _ _).shaped (by decide), ?_⟩⟩
    rw [hJp, (cd_words man.size Mp.T.ph).self]
    exact hq _
end
end Hg
namespace Hg
open PySem PySem.Spec PyProof.Rows L2
/-! ### the end: the law called by the claim -/
def emT : Obj := { cls := .none, data := .fields #[] }
def seed (ts : List Addr) (a : Addr) (z : Option HO) : Hp := fun b => if b ∈ ts then some (.tbl #[]) else if b = a then z else none
theorem seed_out {ts : List Addr} {a b : Addr} {z : Option HO} (h : b ∉ ts) (h2 : b = a → z = none) : seed ts a z b = none := by
  unfold seed
  rw [if_neg h]
  split
  · exact h2 ‹_›
  · rfl
theorem seed_some {ts : List Addr} {a b : Addr} {z : Option HO} {u : HO} (h : seed ts a z b = some u) : (b ∈ ts ∧ u = .tbl #[]) ∨ (b = a ∧ z = some u) := by
  unfold seed at h
  split at h
  · cases h
    exact .inl ⟨‹_›, rfl⟩
  · split at h
    · exact .inr ⟨‹_›, h⟩
    · cases h
theorem runMain {P : Program} {w : World} {K : PySem.W.Frag} {mg mb : Str → Option Value} {k : Nat} {f a : Addr} {cs : List (Addr × Addr)} {x : Str} {sp : Sp} {s0 : Shared} {vs : List Value} {ns : List Int}
    (kin : K.In s0.heap) (gl : s0.heap.Ns mainGlobals mg) (bl : s0.heap.Ns builtinsNs mb) (bb : ∀ y : Str, y ≠ "__name__" → mb y = bootBuiltins y) (nolim : s0.heap.NoLimit) (nogen : s0.gens = #[])
    (tab : ∀ p ∈ cs, s0.heap.get? p.2 = some emT) (tabK : ∀ p ∈ cs, K.lookup p.2 = none) (code : ∀ p ∈ cs, PySem.W.CodeHd s0.heap p.1 p.2) (bm : ∃ (m : Addr) (ob : Obj), mg "__builtins__" = some (.ref m) ∧ m ≠ builtinsNs ∧ s0.heap.get? m = some ob ∧ ob.cls = .type "module" ∧ ob.dict = some builtinsNs ∧ ob.data = .plain)
    (arg : s0.heap.get? a = some { cls := .type "list", data := .seq vs.toArray }) (hin : IntsAre vs ns) (len : ns.length ≤ sizeLine) (room : Room k callerA)
    (F : ∀ base : Heap, K.In base → base.Ns mainGlobals mg → (∀ p ∈ cs, GxR.TabB base mg p.1 p.2) → ClG P w K mg base k x sp) (named : mg x = some (.ref f))
    (want : ∀ H : Hp, (∀ p ∈ cs, H p.2 = some (.tbl #[])) → SqL K H a (ns.map V.int) → sp [.ref a] H (fun v _ => v = .bl true) fun _ _ _ => False) :
    codeAny (model P w) callerA (.call (.ref f) ⟨[.ref a], []⟩) (fun r s' => r = .ok (.ret (.bool true)) ∧ OldK s0.heap s'.heap ∧ s'.os = s0.os ∧ AllBare s'.gens) s0 := by
  have rv := vals_ints hin
  obtain ⟨ts, hts⟩ : ∃ ts, ts = cs.map (·.2) := ⟨_, rfl⟩
  have inT : ∀ {b}, b ∈ ts → ∃ p ∈ cs, p.2 = b := fun {b} h => List.mem_map.mp (hts ▸ h)
  have memT : ∀ p ∈ cs, p.2 ∈ ts := fun p hp => hts ▸ List.mem_map.mpr ⟨p, hp, rfl⟩
  have emp : ∀ {b}, b ∈ ts → s0.heap.get? b = some emT := fun {b} h => by
    obtain ⟨p, hp, e⟩ := inT h
    rw [← e]
    exact tab p hp
  have aT : a ∉ ts := fun h => by
    have e := emp h
    rw [arg] at e
    exact absurd (congrArg Obj.data (Option.some.inj e)) (fun z => by cases z)
  -- what is tracked: the tables; the script, if the written part does not hold it
  obtain ⟨z, hzK, hzS, hzF⟩ : ∃ z : Option HO, ((∃ o, K.lookup a = some o) → z = none) ∧ SqL K (seed ts a z) a (ns.map V.int) ∧ ∀ u, z = some u → ∃ o, u = .frz o (.lst (ns.map V.int)) ∧ s0.heap.get? a = some o := by
    cases hk : K.lookup a with
    | some o =>
      have e := kin a o hk
      rw [arg] at e
      cases e
      exact ⟨none, fun _ => rfl, .inr ⟨_, vs.toArray, _, hk, rfl, rfl, rfl, by rw [List.size_toArray, ← rv.length, List.length_map]; exact len, by simpa using rv⟩, fun u h => by cases h⟩
    | none =>
      refine ⟨some (.frz { cls := .type "list", data := .seq vs.toArray } (.lst (ns.map V.int))), (fun ⟨_, h⟩ => by cases h), .inl (.inr ⟨{ cls := .type "list", data := .seq vs.toArray }, by unfold seed; rw [if_neg aT, if_pos rfl]⟩), fun u h => ⟨_, (Option.some.inj h).symm, arg⟩⟩
  obtain ⟨H, hH⟩ : ∃ H, H = seed ts a z := ⟨_, rfl⟩
  have tabH : ∀ p ∈ cs, H p.2 = some (.tbl #[]) := fun p hp => by
    rw [hH]
    exact if_pos (memT p hp)
  have out : ∀ {b}, b ∉ ts → (b = a → z = none) → H b = none := fun {b} h1 h2 => by
    rw [hH]
    exact seed_out h1 h2
  have hok : HOk P w H s0.heap := fun b u h => by
    rw [hH] at h
    rcases seed_some h with ⟨h1, e⟩ | ⟨e1, e2⟩
    · rw [e]
      exact emp h1
    · obtain ⟨o, e3, e4⟩ := hzF u e2
      rw [e3, e1]
      have e5 := arg.symm.trans e4
      cases e5
      exact ⟨arg, by rw [List.length_map]; exact len, vs, _, rv, arg⟩
  -- an object that is neither a list nor a table is hidden by nothing
  have off : ∀ {b : Addr} {o : Obj}, s0.heap.get? b = some o → (∀ its n, o.data ≠ .seq its n) → o.data ≠ .fields #[] → H b = none := fun {b o} e h1 h2 => by
    refine out (fun h => h2 ?_) fun h => absurd ?_ (h1 vs.toArray 0)
    · have e2 := e.symm.trans (emp h)
      cases e2
      rfl
    · rw [h] at e
      have e2 := e.symm.trans arg
      cases e2
      rfl
  have offD : ∀ {b : Addr} {o : Obj} {es : Array DictEntry} {ep : Nat}, s0.heap.get? b = some o → o.data = .dict es ep → H b = none := fun {b o es ep} e d => off e (fun its n h => by rw [d] at h; cases h) fun h => by rw [d] at h; cases h
  have nsB : ∀ {b : Addr} {m : Str → Option Value}, s0.heap.Ns b m → (hidT s0.heap H).Ns b m := fun {b m} ⟨o, es, ep, e, d, r⟩ => ⟨o, es, ep, hidT_get e (offD e d), d, r⟩
  have kinB : K.In (hidT s0.heap H) := fun b o e => hidT_get (kin b o e) (out (fun h => by
    obtain ⟨p, hp, e2⟩ := inT h
    rw [← e2, tabK p hp] at e
    cases e) fun h => hzK ⟨o, h ▸ e⟩)
  have modB : L2.Mod K mg (hidT s0.heap H) := ⟨kinB, nsB gl, ⟨mb, nsB bl, bb⟩, by
    obtain ⟨mc, h1, h2⟩ := nolim
    exact ⟨mc, nsB h1, h2⟩⟩
  have tabB : ∀ p ∈ cs, GxR.TabB (hidT s0.heap H) mg p.1 p.2 := fun p hp => by
    obtain ⟨go, ges, gep, ge, gd, _⟩ := id gl
    have hTp := tab p hp
    constructor
    · obtain ⟨o, us, file, t1, flags, t2, inF, text, t3, e1, r1, r2, r3, r⟩ := code p hp
      refine ⟨o, us, file, t1, flags, t2, inF, text, t3, hidT_get e1 (off e1 (fun its n h => ?_) fun h => ?_), r1, r2, r3, r⟩
      · rw [r2] at h
        cases h
      · rw [r2] at h
        cases h
        simp at r3
    · obtain ⟨m, ob, b1, b2, b3, b4, b5, b6⟩ := bm
      refine ⟨m, ob, b1, b2, fun h => ?_, fun h => ?_, hidT_get b3 (off b3 (fun its n h => ?_) fun h => ?_), b4, b5, b6⟩
      · rw [h, ge] at b3
        cases b3
        rw [gd] at b6
        cases b6
      · rw [h, hTp] at b3
        cases b3
        cases b6
      · rw [b6] at h
        cases h
      · rw [b6] at h
        cases h
    · intro h
      rw [h, hTp] at ge
      cases ge
      cases gd
  have env : Env0 P w K mg (hidT s0.heap H) callerA [] s0 H := ⟨rfl, modB, fun b o e => of_hidT e, Nat.le_of_eq (hidT_size _ _), trivial, fun b hb => absurd hb List.not_mem_nil, hok, .of_eq nogen⟩
  have sq : SqL K H a (ns.map V.int) := by
    rw [hH]
    exact hzS
  obtain ⟨f2, fd, ps, FG, named2, _, binds⟩ := F _ kinB (nsB gl) tabB
  rw [named] at named2
  cases named2
  have wish := want H tabH sq
  have bind := binds s0 [.ref a] kin (FG.many _ _ _ _ wish)
  refine codeAny_mono (FG.go callerA [] s0 H ⟨[.ref a], []⟩ [.ref a] [.ref a] _ _ rfl room env bind (.cons rfl .nil) wish) fun r s' h => ?_
  rcases r with e | fl
  · obtain ⟨_, _, _, _, _, _, _, _, _, _, _, _, q⟩ := h
    exact q.elim
  · cases fl with
    | next => exact h.elim
    | brk => exact h.elim
    | cont => exact h.elim
    | ret u =>
      (obtain ⟨v, H', os, bare, un, hok', r', q⟩ := h)
      have q2 : v = .bl true := q
      subst q2
      have eu : u = .bool true := r'
      subst eu
      have stay : ∀ b o, b ∉ ts → s0.heap.get? b = some o → s'.heap.get? b = some o := fun b o nb e => by
        cases hb : H b with
        | none => exact un.keep b o e hb (fun h => absurd h List.not_mem_nil) List.not_mem_nil
        | some u =>
          have hb2 := hb
          rw [hH] at hb2
          rcases seed_some hb2 with ⟨h1, _⟩ | ⟨h1, h2⟩
          · exact absurd h1 nb
          · obtain ⟨o2, e3, e4⟩ := hzF u h2
            rw [e3] at hb
            obtain ⟨e5, _⟩ := hok' b _ (un.frzs b o2 _ hb)
            rw [h1, e4] at e
            cases e
            exact e5
      have grown : ∀ p ∈ cs, ∃ ms : Array Value, s'.heap.get? p.2 = some { cls := .none, data := .fields ms } := fun p hp => by
        obtain ⟨more, hm⟩ := un.tbls p.2 #[] (tabH p hp)
        exact ⟨_, hok' p.2 _ hm⟩
      (refine ⟨rfl, ⟨fun b o e => ?_, fun b o e => ?_⟩, os, bare⟩)
      · by_cases hb : b ∈ ts
        · obtain ⟨p, hp, rfl⟩ := inT hb
          (obtain ⟨more, hm⟩ := grown p hp)
          have e2 := e.symm.trans (tab p hp)
          cases e2
          exact .inr (.inl ⟨((code p hp).tab (tab p hp)).isCodeTable, rfl, #[], more, rfl, by rw [Array.empty_append]; exact hm⟩)
        · exact .inl (stay b o hb e)
      · by_cases hb : b ∈ ts
        · obtain ⟨p, hp, rfl⟩ := inT hb
          (obtain ⟨more, hm⟩ := grown p hp)
          exact ⟨_, hm⟩
        · exact ⟨o, stay b o hb e⟩
end Hg
namespace Hg
open PySem PySem.Spec PyProof.Rows L2
/-! ### from the head's facts to the walk -/
abbrev PgL : Program := (PySem.Challenge.rw_heapgame_k95_whole_power_cuts).prog
theorem all_mem {α : Type} {l : List α} {p : α → Bool} (h : l.all p = true) {x : α} (hx : x ∈ l) : p x = true := List.all_eq_true.mp h x hx
section
variable {h : Heap} {K : PySem.W.Frag} {mg : Str → Option Value}
theorem iniD_of (c : SaysY h K) {p : Str × Stmt} (hp : p ∈ exiS) (hi : iniB K p.1 = true) (ho : PySem.W.nsIn K cStatics "thirdparty.any" = some none) : IniD PgL K (gA K p.1) (He.ma K (gA K p.1) "__init__") p.2 (p.1 ++ ".__init__") := by
  have e : iniFn K p.1 = iniVal p := by
    obtain ⟨i, hi2, e2⟩ := List.mem_iff_getElem.mp hp
    have e3 := congrArg (fun l : List IniV => l[i]?) c.ini
    simp only [List.getElem?_map, List.getElem?_eq_getElem hi2, Option.map_some, e2] at e3
    exact Option.some.inj e3
  obtain ⟨h1, hi⟩ := He.ba hi
  obtain ⟨h2, hi⟩ := He.ba hi
  obtain ⟨h3, hi⟩ := He.ba hi
  obtain ⟨h4, hi⟩ := He.ba hi
  obtain ⟨h5, hi⟩ := He.ba hi
  obtain ⟨h6, h7⟩ := He.ba hi
  refine ⟨?_, He.eqO_ok h3, of_decide_eq_true h4, of_decide_eq_true h5, He.eqO_ok h6, of_decide_eq_true h7, ho⟩
  unfold iniFn at e
  obtain ⟨cd, hcd⟩ := Option.isSome_iff_exists.mp h2
  split at h1
  · rename_i oc od fd osl lk
    rw [show K.lookup (iniAd K p.1) = some ⟨oc, od, .func fd, osl⟩ from lk] at e
    obtain ⟨nm, qn, params, body, scope, globals, cl, dV, kV, doc, pm, an, cdv, ct, bi⟩ := fd
    have e2 : (some (qn, params, body, scope, globals, bi) : IniV) = some (p.1 ++ ".__init__", defArgs p.2, .stmts (defBody p.2), defScope p.2, mainGlobals, builtinsNs) := e
    (simp only [Option.some.injEq, Prod.mk.injEq] at e2)
    obtain ⟨r1, r2, r3, r4, r5, r6⟩ := e2
    subst r1 r2 r3 r4 r5 r6
    dsimp only at h1
    split at h1
    · rename_i n cell cda
      obtain ⟨g1, h1⟩ := He.ba h1
      obtain ⟨g2, h1⟩ := He.ba h1
      obtain ⟨g3, g4⟩ := He.ba h1
      have g1 := of_decide_eq_true g1
      subst g1
      unfold cdaB at g3
      unfold cellB at g4
      split at g3
      · rename_i oc1 od1 vs sl1 lk1
        split at g3
        · rename_i file tk hv
          split at g4
          · rename_i oc2 od2 D sl2 lk2
            have g4 := of_decide_eq_true g4
            subst g4
            exact ⟨oc, od, nm, doc, pm, ct, an, cda, cell, osl, vs, file, tk, oc1, oc2, od1, od2, sl1, sl2, cd, lk, g2, lk1, hv, g3, lk2, hcd⟩
          · cases g4
        · cases g3
      · cases g3
    · cases h1
  · cases h1
theorem txt_of (kin : K.In h) (gl : h.Ns mainGlobals mg) (c : SaysY h K) : Txt PgL K mg := by
  obtain ⟨x1, x2⟩ := He.ba c.ex
  obtain ⟨x2, x3⟩ := He.ba x2
  obtain ⟨x3, x4⟩ := He.ba x3
  obtain ⟨y1, y2⟩ := He.ba x1
  obtain ⟨y2, y3⟩ := He.ba y2
  obtain ⟨y3, y4⟩ := He.ba y3
  obtain ⟨w1, w2⟩ := He.ba x3
  have fc : ∀ {f : He.Fa}, f ∈ fa → f.ok K = true := fun {f} hf => He.SaysD.facts c.d hf
  refine { fact := fun f hf => fc hf, defs := fun d hd => He.SaysD.defs c.d hd, glo := fun x hx => He.glo_ok kin gl (fc ?_), free := fun x hx => He.free_ok kin gl (fc ?_), mark := He.int_ok kin gl (fc (f := .int "MARK" 170) ?_), words := fun H => ?_, wordsD := ?_, exc := fun x hx => ?_, exc0 := fun x hx => all_mem y2 hx, exn := fun p hp f hf => He.eqO_ok (all_mem (all_mem y3 hp) hf), exm := fun x hx y hy => of_decide_eq_true (all_mem (all_mem y4 hx) hy), ini := fun p hp => iniD_of c hp (all_mem x2 hp) (He.eqO_ok x4), topS := by kernel_rfl }
  · simp only [fa, List.mem_append]
    exact .inl (mem_map' hx)
  · simp only [fa, List.mem_append]
    exact .inr (.inl (mem_map' hx))
  · simp only [fa, List.mem_append]
    exact .inr (.inr (.inl (List.mem_singleton.mpr rfl)))
  · have := He.tupB_ok w1 H
    rw [List.map_map] at this
    exact this
  · split at w2
    · rename_i t dt sl lk
      have w2 := of_decide_eq_true w2
      subst w2
      exact ⟨_, lk, rfl, rfl⟩
    · cases w2
  · obtain ⟨z1, z2⟩ := He.ba (all_mem y1 hx)
    exact ⟨oexB_ok z1, xfB_ok z2⟩
/-- the tables of the two defs -/
def csY (K : PySem.W.Frag) : List (Addr × Addr) := tf.map (He.cT K)
theorem tabD_of (kin : K.In h) (c : SaysY h K) {base : Heap} {x : Str} {st : Stmt} (hm : mkF x st ∈ fn) (tb : GxR.TabB base mg (He.cT K (x, none)).1 (He.cT K (x, none)).2) : TabD K mg base x st (He.cT K (x, none)).1 (He.cT K (x, none)).2 := by
  obtain ⟨fd, F⟩ := He.SaysD.defs c.d hm
  obtain ⟨oc, od, dV, kV, doc, pm, an, cdv, ct, osl, e, lk, hcd, _⟩ := F.ex
  obtain ⟨cc, rfl⟩ := He.codeIn_ref hcd
  subst e
  have e2 : He.codeOf K (x, none) = cc := He.codeOf_eq (p := (x, none)) lk rfl
  refine ⟨⟨oc, od, dV, kV, doc, pm, an, ct, osl, ?_, ?_⟩, tb⟩
  · show K.lookup (gA K x) = some ⟨oc, od, .func (PySem.W.fnOf x x (defArgs st) (defBody st) (defScope st) dV kV doc pm an (.ref (He.codeOf K (x, none))) ct), osl⟩
    rw [e2]
    exact lk
  · show PySem.W.codeIn K (.ref (He.codeOf K (x, none))) x = true
    rw [e2]
    exact hcd
end
end Hg
namespace Hg
open PySem PySem.Spec PyProof.Rows L2
theorem law_call {w : World} {mg mb : Str → Option Value} {f a : Addr} {s0 : Shared} {vs : List Value} {ns : List Int}
    (Y : hookY.says w s0.heap) (gl : s0.heap.Ns mainGlobals mg) (bl : s0.heap.Ns builtinsNs mb) (bb : ∀ y : Str, y ≠ "__name__" → mb y = bootBuiltins y) (nolim : s0.heap.NoLimit) (nogen : s0.gens = #[])
    (bm : ∃ (m : Addr) (ob : Obj), mg "__builtins__" = some (.ref m) ∧ m ≠ builtinsNs ∧ s0.heap.get? m = some ob ∧ ob.cls = .type "module" ∧ ob.dict = some builtinsNs ∧ ob.data = .plain)
    (arg : s0.heap.get? a = some { cls := .type "list", data := .seq vs.toArray }) (hin : IntsAre vs ns) (len : ns.length ≤ sizeLine) (named : mg "law" = some (.ref f)) :
    codeAny (model PgL w) callerA (.call (.ref f) ⟨[.ref a], []⟩) (fun r s' => r = .ok (.ret (.bool true)) ∧ OldK s0.heap s'.heap ∧ s'.os = s0.os ∧ AllBare s'.gens) s0 := by
  obtain ⟨K, kin, c⟩ := Y
  have T : Txt PgL K mg := txt_of kin gl c
  have memT : ∀ p ∈ csY K, ∃ q ∈ tf, He.cT K q = p := fun p hp => List.mem_map.mp hp
  refine runMain (cs := csY K) (k := 20) (x := "law") (sp := spLaw K (He.cT K ("fits", none)).2 (He.cT K ("is_relocation", none)).2) kin gl bl bb nolim nogen (fun p hp => ?_) (fun p hp => ?_) (fun p hp => ?_) bm arg hin len ⟨rfl, by decide, by decide⟩ (fun base hkb hns htb => ?_) named (fun H hT hS => ?_)
  · obtain ⟨q, hq, rfl⟩ := memT p hp
    exact c.empty q hq
  · obtain ⟨q, hq, rfl⟩ := memT p hp
    exact c.out q hq
  · obtain ⟨q, hq, rfl⟩ := memT p hp
    exact PySem.W.codeHd_of_K kin (c.hd q hq)
  · have t1 := htb (He.cT K ("fits", none)) (List.mem_map.mpr ⟨_, List.mem_cons_self .., rfl⟩)
    have t2 := htb (He.cT K ("is_relocation", none)) (List.mem_map.mpr ⟨_, List.mem_cons_of_mem _ (List.mem_cons_self ..), rfl⟩)
    have D : Tabs K mg base (He.cT K ("fits", none)).2 (He.cT K ("is_relocation", none)).2 := ⟨⟨_, tabD_of kin c (st := s_fits) (fn_mem 4 rfl) t1⟩, ⟨_, tabD_of kin c (st := s_is_relocation) (fn_mem 9 rfl) t2⟩⟩
    exact w_law (w := w) (base := base) T D
  · have t1 := hT (He.cT K ("fits", none)) (List.mem_map.mpr ⟨_, List.mem_cons_self .., rfl⟩)
    have t2 := hT (He.cT K ("is_relocation", none)) (List.mem_map.mpr ⟨_, List.mem_cons_of_mem _ (List.mem_cons_self ..), rfl⟩)
    exact ⟨a, ns, rfl, hS, ⟨⟨#[], t1, by simp [TriplesOk]⟩, ⟨#[], t2, by simp [TriplesOk]⟩⟩, fun _ => rfl⟩
end Hg
open PySem PySem.W PySem.Calls PyProof.Rows
theorem PySem.Challenge.cw_heapgame_k95_whole_power_cuts_holds : PySem.Challenge.rw_heapgame_k95_whole_power_cuts.Holds := by
  w_on; o_law
  refine HandSHeadRun.head_any (r := OpenLaw.row PySem.Challenge.rw_heapgame_k95_whole_power_cuts) (q := view (OpenLaw.row PySem.Challenge.rw_heapgame_k95_whole_power_cuts).prog [84]) (H := Hg.hookY) (ob := Hg.obY) (M := 12000) (loose := Hg.names) (d := HandSHeadRun.topDef (OpenLaw.row PySem.Challenge.rw_heapgame_k95_whole_power_cuts).prog 84) (kwd := []) Hg.obY_eq
    (by kernel_rfl) (fun s => by kernel_rfl) Hg.runY (by kernel_rfl) (by kernel_rfl) (by kernel_rfl) (by rfl) (by first | assumption | decide +kernel) (by decide +kernel) ⟨rfl, rfl, rfl, rfl, rfl, by decide +kernel⟩ ?hw ?hc
  case hw => w_witness2
  case hc =>
    refine Att.attach_callB (n := 63) rfl (by kernel_rfl) fun w s₀ s₁ mg mb fa o pm cd doc a vs ns G Y ho hd hcd hmg hobj hints hlen hbits hg => ?_
    have named : mg ("law" : PySem.Str) = some (.ref fa) := by
      have e : (HandSHeadRun.topDef (OpenLaw.row PySem.Challenge.rw_heapgame_k95_whole_power_cuts).prog 84).name = ("law" : PySem.Str) := by kernel_rfl
      rw [← e]
      exact hmg
    exact Hg.law_call Y G.T.g G.T.b G.T.builtins G.T.nolimit hg G.T.bmain hobj hints (Nat.le_trans hlen (by decide)) named
