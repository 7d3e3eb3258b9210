import PyProof.Rows.All
import Wide.All
import OpenK.AllK
import Wide.FinOn
import KE.KeyNested
import HandS.TupSets
import KE.KSetDisp
import KE.GoesSet
import HandS.TupMul
import HandS.TupAny
import HandS.ForMost
import HandS.Exc
import HandS.ExcOwn
import HandS.TryOnly
import HandS.WordsExc
import HandS.Wide
import HandS.Deep
import HandS.IsInst
import HandS.Defaults
import HandS.Style
import HandS.Flow
import HandS.List
import HandS.Lambda
import HandS.DictComp
import HandS.ExcInit
import HandS.ExcIs
import HandS.ExcField
import HandS.SetFor
import HandS.Text
import HandS.More
import KE.GoesEnum
import HandS.Iter
import HandS.Conv
import KE.KStateDown
import HandS.Head0
import HandS.Head1
import HandS.Head2
import HandS.HeadEnd
import HandS.HeadHook1
import HandS.HeadHook2
import HandS.HeadHook3
import HandS.HeadHook4
import HandS.HeadWalk
import HandS.EndTab
import PySem.Challenge.RW_sumways_k07_turned_into_other_formats
set_option Elab.async false
set_option linter.all false
set_option maxRecDepth 100000
set_option maxHeartbeats 0
set_option exponentiation.threshold 10000
/-! Small sets whose elements are tuples of texts, numbers and such tuples -/
namespace Sn
open PySem PySem.Spec PyProof.Rows L2
abbrev Nk := NestedKey
def KeyAt (h : Heap) (k : Nk) (b : Addr) : Prop := NestedIs h k (.ref b) ∧ k.depth ≤ 8
variable {P : Program} {w : World}
mutual
theorem cst_key : ∀ (k : Nk) (v : Value) (n : Nat) (s : Shared), NestedIs s.heap k v → k.depth ≤ n → ∀ (A : Around) (E : Value → Shared → Prop) (Q : Bool → Shared → Prop), Q false s → wpAny (model P w) A (ofAClassStatement n v) Q E s
  | .none, _, n, s, x, _, A, E, Q, h => by cases x; cases n <;> exact wpAny_pure h
  | .num i, _, n, s, x, _, A, E, Q, h => by cases x <;> cases n <;> exact wpAny_pure h
  | .text y, _, n, s, x, _, A, E, Q, h => by cases x; cases n <;> exact wpAny_pure h
  | .tup ks, _, n, s, x, hn, A, E, Q, h => by
    cases x with
    | @tup b o vs m _ hg hc hd hk =>
      simp only [NestedKey.depth] at hn
      cases n with
      | zero => omega
      | succ n =>
        have each := cst_keys ks _ n s hk (by omega)
        unfold ofAClassStatement
        refine wpAny_bind (wpAny_typeOf (v := .ref b) (T := "tuple") ⟨o, hg, hc⟩ ?_)
        have e : (("tuple" : String) == "tuple") = true := by decide
        simp only [e, if_true, Bool.not_true, Bool.false_eq_true, if_false]
        try refine wpAny_bind (wpAny_pure ?_)
        try simp only [Bool.not_true, Bool.false_eq_true, if_false]
        show wpAny _ _ (seqItems? (.ref b) >>= _) _ _ s
        refine wpAny_bind (wpAny_seqItems hg hd ?_)
        refine wpAny_bind ?_
        show wpAny _ _ (forIn vs _ _) _ _ s
        rw [← Array.forIn_toList]
        refine wpAny_forIn_list _ (fun rest r u => (∀ v ∈ rest, v ∈ vs.toList) ∧ r.1 = none ∧ u = s) _ ?_ ?_ _ _ ⟨fun v hv => hv, rfl, rfl⟩
        · rintro v rest r u ⟨sub, hr, rfl⟩
          refine wpAny_bind (each v (sub v List.mem_cons_self) _ _ _ ?_)
          simp only [Bool.false_eq_true, if_false]
          exact wpAny_pure ⟨fun y hy => sub y (List.mem_cons_of_mem _ hy), rfl, rfl⟩
        · rintro ⟨r1, r2⟩ u ⟨_, hr, rfl⟩
          simp only at hr
          subst hr
          exact wpAny_pure h
theorem cst_keys : ∀ (ks : List Nk) (vs : List Value) (n : Nat) (s : Shared), NestedAll s.heap ks vs → NestedKey.depthAll ks ≤ n → ∀ v ∈ vs, ∀ (A : Around) (E : Value → Shared → Prop) (Q : Bool → Shared → Prop), Q false s → wpAny (model P w) A (ofAClassStatement n v) Q E s
  | [], _, n, s, x, _, v, hv => by cases x; cases hv
  | k :: ks, _, n, s, x, hn, v, hv => by
    cases x with
    | cons x1 x2 =>
      simp only [NestedKey.depthAll] at hn
      rcases List.mem_cons.mp hv with e | hv
      · rw [e]; exact cst_key k _ n s x1 (by omega)
      · exact cst_keys ks _ n s x2 (by omega) v hv
end
mutual
theorem hbv_key : ∀ (k : Nk) (v : Value) (n : Nat) (s : Shared), NestedIs s.heap k v → ∀ (A : Around) (E : Value → Shared → Prop) (Q : Bool → Shared → Prop), (∀ b, Q b s) → wpAny (model P w) A (hashByValue n v) Q E s
  | .none, _, n, s, x, A, E, Q, h => by cases x; cases n <;> exact wpAny_pure (h _)
  | .num i, _, n, s, x, A, E, Q, h => by cases x <;> cases n <;> exact wpAny_pure (h _)
  | .text y, _, n, s, x, A, E, Q, h => by cases x; cases n <;> exact wpAny_pure (h _)
  | .tup ks, _, n, s, x, A, E, Q, h => by
    cases x with
    | @tup b o vs m _ hg hc hd hk =>
      cases n with
      | zero => exact wpAny_pure (h _)
      | succ n =>
        have each := hbv_keys ks _ n s hk
        have hT : s.TypeIs (.ref b) "tuple" := ⟨o, hg, hc⟩
        unfold hashByValue
        refine wpAny_bind (wpAny_specialOf hT F.slot_tuple_hash.lookup ?_)
        show wpAny _ _ (seqItems? (.ref b) >>= _) _ _ s
        refine wpAny_bind (wpAny_seqItems hg hd ?_)
        refine wpAny_bind ?_
        show wpAny _ _ (forIn vs _ _) _ _ s
        rw [← Array.forIn_toList]
        refine wpAny_forIn_list _ (fun rest r u => (∀ v ∈ rest, v ∈ vs.toList) ∧ r.1 = none ∧ u = s) _ ?_ ?_ _ _ ⟨fun v hv => hv, rfl, rfl⟩
        · rintro v rest r u ⟨sub, hr, rfl⟩
          refine wpAny_bind (each v (sub v List.mem_cons_self) _ _ _ fun b => ?_)
          cases b with
          | true =>
            simp only [Bool.not_true, Bool.false_eq_true, if_false]
            exact wpAny_pure ⟨fun y hy => sub y (List.mem_cons_of_mem _ hy), rfl, rfl⟩
          | false =>
            simp only [Bool.not_false, if_true]
            exact wpAny_pure (wpAny_pure (h _))
        · rintro ⟨r1, r2⟩ u ⟨_, hr, rfl⟩
          simp only at hr
          subst hr
          exact wpAny_pure (h _)
theorem hbv_keys : ∀ (ks : List Nk) (vs : List Value) (n : Nat) (s : Shared), NestedAll s.heap ks vs → ∀ v ∈ vs, ∀ (A : Around) (E : Value → Shared → Prop) (Q : Bool → Shared → Prop), (∀ b, Q b s) → wpAny (model P w) A (hashByValue n v) Q E s
  | [], _, n, s, x, v, hv => by cases x; cases hv
  | k :: ks, _, n, s, x, v, hv => by
    cases x with
    | cons x1 x2 =>
      rcases List.mem_cons.mp hv with e | hv
      · rw [e]; exact hbv_key k _ n s x1
      · exact hbv_keys ks _ n s x2 v hv
end
section
variable {A : Around} {E : Value → Shared → Prop} {s : Shared}
theorem eqN {x y : Nk} {a b : Addr} {Q : Bool → Shared → Prop} (hu : A.units + 8 < cLine) (hx : KeyAt s.heap x a) (hy : KeyAt s.heap y b) (h : Q (decide (x = y)) s) : wpAny (model P w) A (eqBool (.ref a) (.ref b)) Q E s :=
  (nestedKind P w).eqBool hu hx hy h
/-- looking for such a tuple among such tuples shows nothing -/
theorem seenN {k : Nk} {b : Addr} {Q : Bool → Shared → Prop} (hk : KeyAt s.heap k b) {ys : List Value} (hy : ∀ y ∈ ys, ∃ k' c, y = Value.ref c ∧ KeyAt s.heap k' c) (h : Q false s) : wpAny (model P w) A (searchCouldBeSeen (.ref b) ys) Q E s := by
  unfold searchCouldBeSeen
  refine wpAny_bind ?_
  refine wpAny_forIn_list _ (fun rest r u => (∀ y ∈ rest, y ∈ ys) ∧ r.1 = none ∧ u = s) _ ?_ ?_ _ _ ⟨fun v hv => hv, rfl, rfl⟩
  · rintro v rest r u ⟨sub, hr, rfl⟩
    obtain ⟨k', c, rfl, hc⟩ := hy v (sub v List.mem_cons_self)
    have sub' : ∀ y ∈ rest, y ∈ ys := fun y z => sub y (List.mem_cons_of_mem _ z)
    dsimp only
    by_cases hv : (b == c || (carriedByValue (.ref b) && carriedByValue (.ref c))) = true
    · exact wp_if_pos hv (wpAny_pure ⟨sub', rfl, rfl⟩)
    · refine wp_if_neg hv (wpAny_bind ((nestedKind P w).quiet hk ?_))
      simp only [Bool.not_true, Bool.false_eq_true, if_false]
      refine wpAny_bind ((nestedKind P w).quiet hc ?_)
      simp only [Bool.not_true, Bool.false_eq_true, if_false]
      refine wpAny_bind (cst_key _ _ 8 _ hk.1 hk.2 _ _ _ ?_)
      simp only [Bool.false_eq_true, if_false]
      refine wpAny_bind (cst_key _ _ 8 _ hc.1 hc.2 _ _ _ ?_)
      simp only [Bool.false_eq_true, if_false]
      exact wpAny_pure ⟨sub', rfl, rfl⟩
  · rintro ⟨r1, r2⟩ u ⟨_, hr, rfl⟩
    simp only at hr
    subst hr
    exact wpAny_pure h
/-- the rows of a small set -/
def rws (w : World) (L : List (Addr × Nk)) : List (Int × Value) := L.map fun p => (p.2.hash w, Value.ref p.1)
theorem rws_len {L : List (Addr × Nk)} : (rws w L).length = L.length := List.length_map ..
structure SetN (w : World) (h : Heap) (a : Addr) (L : List (Addr × Nk)) (es : Array (Int × Value)) (ep : Nat) (t : SetTable) : Prop where
  ob : ∃ o, h.get? a = some o ∧ (o.ExactSet ∧ o.data = .set es ep t)
  rows : es.toList = rws w L
  tab : TabOk t (L.map fun p => p.2.hash w)
  nd : (L.map (·.2)).Nodup
  keys : ∀ p ∈ L, KeyAt h p.2 p.1
  led : w.params.followText "set-order" = true ∨ t.led = true
  m7 : t.mask = 7
  few : L.length ≤ 4
variable {a : Addr} {L : List (Addr × Nk)} {es : Array (Int × Value)} {ep : Nat} {t : SetTable}
theorem SetN.size {h : Heap} (R : SetN w h a L es ep t) : es.size = L.length := by
  have q := congrArg List.length R.rows
  rwa [Array.length_toList, rws_len] at q
theorem SetN.fits {h : Heap} (R : SetN w h a L es ep t) : t.fits es.size = true := by
  have h1 := R.tab.sz
  rw [List.length_map] at h1
  have h2 := R.size
  have h3 := R.few
  have h4 := R.m7
  unfold SetTable.fits SetTable.fill
  rw [R.tab.dm, Bool.and_eq_true, beq_iff_eq, decide_eq_true_eq]
  show t.place.size = es.size ∧ t.place.size + 0 ≤ t.mask
  omega
theorem SetN.entry {h : Heap} (R : SetN w h a L es ep t) {i : Nat} {p : Addr × Nk} (q : L[i]? = some p) : es[i]? = some (p.2.hash w, Value.ref p.1) := by
  rw [← Array.getElem?_toList, R.rows, rws, List.getElem?_map, q]; rfl
theorem SetN.way {h : Heap} (R : SetN w h a L es ep t) : ¬ t.gaveWay = true := by
  unfold SetTable.gaveWay
  rw [R.m7]
  decide
abbrev pb (t : SetTable) (h : Int) (c : Nat) : SetTable.Probe := nth t.mask (runAt t.mask (SetTable.bits h % (t.mask + 1)) (SetTable.bits h)) c
theorem pb_dummy (m : Nat) : ∀ (n : Nat) (p : SetTable.Probe), p.dummy = none → (nth m p n).dummy = none
  | 0, _, h => h
  | n + 1, p, h => pb_dummy m n (adv m p) (by unfold adv; split <;> exact h)
theorem pb_add (t : SetTable) (h : Int) (c q : Nat) : nth t.mask (pb t h c) q = pb t h (c + q) := (nth_add t.mask c _ q).symm
/-- none of the first c probes met the key -/
def Unmet (w : World) (t : SetTable) (L : List (Addr × Nk)) (k : Nk) (c : Nat) : Prop := ∀ d, d < c → ∀ (i : Nat) (p : Addr × Nk), t.place.toList[i]? = some (way t.mask (k.hash w) d) → L[i]? = some p → p.2 ≠ k
/-- the search, from the c-th probe on -/
theorem lookN (R : SetN w s.heap a L es ep t) {x : Addr} {k : Nk} (hx : KeyAt s.heap k x) (hu : A.units + 8 < cLine) {K : Nat} (b1 : K < 10 * SetTable.turns t.mask)
    (b2 : way t.mask (k.hash w) K ∉ t.place.toList) (b3 : ∀ c, c < K → way t.mask (k.hash w) c ∈ t.place.toList) {Q : SetFound → Shared → Prop}
    (yes : k ∈ L.map (·.2) → Q (.there none) s) (no : k ∉ L.map (·.2) → Q (.free (way t.mask (k.hash w) K) false) s) :
    ∀ (f c : Nat) (st : Option SetTable.Probe), st.getD (t.probeStart (k.hash w)) = pb t (k.hash w) c → c ≤ K → K < c + f → Unmet w t L k c → wpAny (model P w) A (setSearchFrom a (.ref x) (k.hash w) true f st) Q E s
  | 0, c, st, _, _, hf, _ => by omega
  | f + 1, c, st, hst, hc, hf, un => by
    obtain ⟨_, there, _, data⟩ := R.ob
    have fit := R.fits
    rw [setSearchFrom_succ]
    apply wpAny_bind
    apply wpAny_setState_of there data fit
    dsimp only
    apply wp_if_neg R.way
    try apply wpAny_bind; apply wpAny_pure
    have at_ : ∀ q, (nth t.mask (pb t (k.hash w) c) q).j = way t.mask (k.hash w) (c + q) := fun q => congrArg SetTable.Probe.j (pb_add t _ c q)
    have hash_ : ∀ (i : Nat) p, L[i]? = some p → (fun i => (es[i]?.map (·.1)).getD 0) i = p.2.hash w := fun i p e => by
      simp only [R.entry e, Option.map_some, Option.getD_some]
    have back : c + (K - c) = K := by omega
    -- what the table itself says of the probes from here on
    have spec := go_spec t R.tab.ris R.tab.dm (fun i => (es[i]?.map (·.1)).getD 0) (k.hash w) (10 * SetTable.turns t.mask) (K - c) (pb t (k.hash w) c) (pb_dummy _ _ _ rfl) (by omega)
      (fun q z => by rw [at_]; exact b3 (c + q) (by omega)) (by rw [at_, back]; exact b2)
    -- a probe at which no hash is alike meets no such key
    have other : ∀ (m d : Nat), (∀ (q i : Nat), q < m → t.place.toList[i]? = some (nth t.mask (pb t (k.hash w) c) q).j → (fun i => (es[i]?.map (·.1)).getD 0) i ≠ k.hash w) → c ≤ d → d < c + m → ∀ (i : Nat) (p : Addr × Nk), t.place.toList[i]? = some (way t.mask (k.hash w) d) → L[i]? = some p → p.2 ≠ k := fun m d none h1 h2 i p e g z => by
      refine none (d - c) i (by omega) ?_ ((hash_ i p g).trans (by rw [z]))
      rw [at_, e]
      congr 2
      omega
    rcases spec with ⟨q, i, below, pos, _, clear, met⟩ | ⟨clear, met⟩
    · have met' : t.probe (fun i => (es[i]?.map (·.1)).getD 0) (k.hash w) (st.getD (t.probeStart (k.hash w))) = some (.candidate (way t.mask (k.hash w) (c + q)) i (pb t (k.hash w) (c + (q + 1)))) := by
        rw [hst, ← at_, ← pb_add]
        exact met
      rw [met']
      dsimp only
      rw [at_] at pos
      have il : i < L.length := by
        have z := (List.getElem?_eq_some_iff.mp pos).1
        rwa [Array.length_toList, R.tab.sz, List.length_map] at z
      obtain ⟨p, hp⟩ : ∃ p, L[i]? = some p := ⟨_, List.getElem?_eq_getElem il⟩
      have inL := List.mem_of_getElem? hp
      have rest : wpAny (model P w) A (searchRest a (.ref x) (k.hash w) true f es t (way t.mask (k.hash w) (c + q)) i (pb t (k.hash w) (c + (q + 1)))) Q E s := by
        unfold searchRest
        rw [R.entry hp]
        dsimp only
        apply wpAny_bind
        apply wpAny_holding
        apply eqN hu (R.keys p inL) hx
        apply wpAny_bind
        apply wpAny_setState_of there data fit
        dsimp only
        by_cases alike : p.2 = k
        · exact wp_if_pos (by simp [alike]) (wpAny_pure (yes (List.mem_map.mpr ⟨p, inL, alike⟩)))
        · apply wp_if_neg (by simp [alike])
          try apply wpAny_bind; apply wpAny_pure
          have live := slot_live R.tab.ris pos
          rw [sameMem]
          dsimp only
          simp only [live, R.entry hp, if_true]
          apply wpAny_bind
          apply wpAny_isSame_ref_self
          apply wpAny_bind
          apply wpAny_pure
          simp only [if_true]
          apply wp_if_neg (by simp [alike])
          refine lookN R hx hu b1 b2 b3 yes no f (c + (q + 1)) _ rfl (by omega) (by omega) fun d hd j r e g => ?_
          by_cases d1 : d < c
          · exact un d d1 j r e g
          by_cases d2 : d < c + q
          · exact other q d clear (by omega) d2 j r e g
          obtain rfl : d = c + q := by omega
          have twice := slot_live R.tab.ris e
          rw [live] at twice
          cases twice
          rw [hp] at g
          cases g
          exact alike
      by_cases led : t.led = true
      · apply wp_if_neg (by simp [led])
        try apply wpAny_bind; apply wpAny_pure
        exact rest
      · apply wp_if_pos (by simp [led])
        apply wpAny_bind
        refine seenN hx (fun y hy => ?_) ?_
        · obtain ⟨e, he, rfl⟩ := List.mem_map.mp hy
          have he2 : e ∈ es.toList := by
            have z : e ∈ es ∧ e.1 = k.hash w := by simpa using he
            simpa using z.1
          rw [R.rows] at he2
          obtain ⟨r, hr, rfl⟩ := List.mem_map.mp he2
          exact ⟨r.2, r.1, rfl, R.keys r hr⟩
        · apply wp_if_neg (by decide)
          try apply wpAny_bind; apply wpAny_pure
          exact rest
    · have met' : t.probe (fun i => (es[i]?.map (·.1)).getD 0) (k.hash w) (st.getD (t.probeStart (k.hash w))) = some (.empty (way t.mask (k.hash w) K) none) := by
        have e : way t.mask (k.hash w) K = (nth t.mask (pb t (k.hash w) c) (K - c)).j := by rw [at_, back]
        rw [hst, e]
        exact met
      rw [met']
      dsimp only
      refine wpAny_pure (no fun inM => ?_)
      obtain ⟨p, inL, alike⟩ := List.mem_map.mp inM
      obtain ⟨i, hp⟩ := List.getElem?_of_mem inL
      have il : i < t.place.toList.length := by
        rw [Array.length_toList, R.tab.sz, List.length_map]
        exact (List.getElem?_eq_some_iff.mp hp).1
      -- it would stand at a probe ahead of the empty slot
      obtain ⟨d, dK, e⟩ := R.tab.before b2 (i := i) (h := k.hash w) (by rw [List.getElem?_map, hp, ← alike]; rfl) (List.getElem?_eq_getElem il)
      have pos : t.place.toList[i]? = some (way t.mask (k.hash w) d) := by rw [e, List.getElem?_eq_getElem il]
      by_cases d1 : d < c
      · exact un d d1 i p pos hp alike
      · exact other (K - c) d clear (by omega) (by omega) i p pos hp alike
theorem searchN (R : SetN w s.heap a L es ep t) {x : Addr} {k : Nk} (hx : KeyAt s.heap k x) (hu : A.units + 8 < cLine) {Q : SetFound → Shared → Prop} (yes : k ∈ L.map (·.2) → Q (.there none) s)
    (no : ∀ K, k ∉ L.map (·.2) → way t.mask (k.hash w) K ∉ t.place.toList → (∀ c, c < K → way t.mask (k.hash w) c ∈ t.place.toList) → Q (.free (way t.mask (k.hash w) K) false) s) :
    wpAny (model P w) A (setSearch a (.ref x) (k.hash w) true) Q E s := by
  have few := R.few
  have m7 := R.m7
  obtain ⟨K, b1, b2, b3⟩ := R.tab.first (by rw [List.length_map, m7]; omega) (k.hash w)
  have most : 10 * SetTable.turns t.mask < 100000 := by unfold SetTable.turns; omega
  unfold setSearch
  exact lookN R hx hu b1 b2 b3 yes (fun n => no K n b2 b3) 100000 0 none rfl (Nat.zero_le _) (by omega) fun d z => absurd z (Nat.not_lt_zero d)
end
end Sn
/-! .. adding to it; set(list) -/
namespace Sn
open PySem PySem.Spec PyProof.Rows L2
variable {P : Program} {w : World} {A : Around} {E : Value → Shared → Prop} {s : Shared}
theorem KeyAt.but {h h' : Heap} {k : Nk} {a b : Addr} {o : Obj} {es : Array (Int × Value)} {ep : Nat} {t : SetTable} (x : KeyAt h k b) (ho : h.get? a = some o) (hd : o.data = .set es ep t) (hs : Heap.SameBut a h h') : KeyAt h' k b :=
  ⟨NestedIs.at (fun c u vs n hc hv => (hs.2 c fun e => by rw [e, ho] at hc; cases hc; rw [hd] at hv; cases hv).trans hc) _ _ x.1, x.2⟩
theorem KeyAt.kept {h h' : Heap} {k : Nk} {b : Addr} (x : KeyAt h k b) (hk : ∀ c o, h.get? c = some o → h'.get? c = some o) : KeyAt h' k b := ⟨NestedIs.at (fun c u _ _ hc _ => hk c u hc) _ _ x.1, x.2⟩
/-- the distinct ones -/
def dst : List Nk → List Nk
  | [] => []
  | x :: r => if x ∈ dst r then dst r else x :: dst r
theorem mem_dst {x : Nk} : ∀ {l : List Nk}, x ∈ dst l ↔ x ∈ l
  | [] => Iff.rfl
  | y :: r => by
    unfold dst
    split
    · rename_i h
      constructor
      · intro q; exact List.mem_cons_of_mem _ (mem_dst.mp q)
      · intro q
        rcases List.mem_cons.mp q with e | q
        · rw [e]; exact h
        · exact mem_dst.mpr q
    · rw [List.mem_cons, List.mem_cons, mem_dst (l := r)]
theorem nd_dst : ∀ {l : List Nk}, (dst l).Nodup
  | [] => List.nodup_nil
  | y :: r => by
    unfold dst
    split
    · exact nd_dst
    · rename_i h; exact List.nodup_cons.mpr ⟨h, nd_dst⟩
theorem sub_len : ∀ (l m : List Nk), l.Nodup → (∀ x ∈ l, x ∈ m) → l.length ≤ m.length
  | [], _, _, _ => Nat.zero_le _
  | x :: l, m, hn, hs => by
    obtain ⟨h1, h2⟩ := List.nodup_cons.mp hn
    have hx : x ∈ m := hs x List.mem_cons_self
    have ih := sub_len l (m.erase x) h2 fun y hy => (List.mem_erase_of_ne fun (e : y = x) => h1 (by rw [← e]; exact hy)).2 (hs y (List.mem_cons_of_mem _ hy))
    have e := List.length_erase_of_mem hx
    have hp : 0 < m.length := List.length_pos_of_mem hx
    rw [List.length_cons]
    omega
theorem rws_ins (L : List (Addr × Nk)) (p : Nat) (x : Addr) (k : Nk) : rws w (L.take p ++ (x, k) :: L.drop p) = (rws w L).take p ++ (k.hash w, Value.ref x) :: (rws w L).drop p := by
  unfold rws
  simp only [List.map_append, List.map_cons, List.map_take, List.map_drop]
theorem ins_perm {α : Type} (L : List α) (p : Nat) (x : α) : (L.take p ++ x :: L.drop p).Perm (x :: L) := by
  have h := List.perm_middle (a := x) (l₁ := L.take p) (l₂ := L.drop p)
  rwa [List.take_append_drop] at h
variable {a : Addr} {L : List (Addr × Nk)} {es : Array (Int × Value)} {ep : Nat} {t : SetTable}
/-- adding -/
theorem addN (R : SetN w s.heap a L es ep t) {x : Addr} {k : Nk} (hx : KeyAt s.heap k x) (hu : A.units + 8 < cLine) (few : k ∉ L.map (·.2) → L.length + 1 ≤ 4) {Q : Bool → Shared → Prop}
    (hQ : ∀ b h' L' es' ep' t', Heap.SameBut a s.heap h' → SetN w h' a L' es' ep' t' → (k ∈ L.map (·.2) → L' = L) → (k ∉ L.map (·.2) → L'.Perm ((x, k) :: L)) → Q b { s with heap := h' }) :
    wpAny (model P w) A (setAddHashed a (.ref x) (k.hash w)) Q E s := by
  obtain ⟨o, ho, hex, hd⟩ := R.ob
  have fit := R.fits
  have hsl := R.size
  unfold setAddHashed
  apply wpAny_holding
  show wpAny _ _ (setAddHashedIn a (.ref x) (k.hash w) (99999 + 1)) _ _ _
  rw [setAddHashedIn_succ]
  apply wpAny_bind
  apply wpAny_setState_of ho hd fit
  dsimp only
  apply wp_if_neg (by simp [byScan, Value.scannable])
  try apply wpAny_bind; apply wpAny_pure
  apply wpAny_bind
  refine searchN R hx hu (fun hm => ?_) fun K hm hK hb => ?_
  · exact wpAny_pure (hQ false s.heap L es ep t (Heap.SameBut.refl a s.heap) R (fun _ => rfl) fun z => absurd hm z)
  · have hfew := few hm
    dsimp only
    apply wpAny_bind
    apply wpAny_setState_of ho hd fit
    dsimp only
    obtain ⟨q1, q2, q3, q4, q5, _, _, _, q9⟩ := R.tab.put hK hb
    generalize hpt : t.put (way t.mask (k.hash w) K) = pt at q1 q3 q4 q5 q9 ⊢
    obtain ⟨t1, p⟩ := pt
    dsimp only at q1 q3 q4 q5 q9 ⊢
    subst q1
    -- the rest, whatever becomes of the mark
    have rest : ∀ t2 : SetTable, t2.place = t1.place → t2.dummies = t1.dummies → t2.mask = t1.mask → t2.led = t1.led → t2.fill = t1.fill →
        wpAny (model P w) A (do
          storeSet a (SetTable.insertAt es (SetTable.below t.place (way t.mask (k.hash w) K)) (k.hash w, Value.ref x)) t2
          if !false && t2.tooFull then setRelay a (SetTable.grown (es.size + 1))
          return true) Q E s := by
      intro t2 e1 e2 e3 e4 e5
      have hin : (SetTable.insertAt es (SetTable.below t.place (way t.mask (k.hash w) K)) (k.hash w, Value.ref x)).toList = rws w (L.take (SetTable.below t.place (way t.mask (k.hash w) K)) ++ (x, k) :: L.drop (SetTable.below t.place (way t.mask (k.hash w) K))) := by
        rw [SetTable.toList_insertAt, rws_ins, R.rows]
      generalize SetTable.below t.place (way t.mask (k.hash w) K) = p at q2 q3 hin ⊢
      obtain ⟨L1, eL⟩ : ∃ L1, L1 = L.take p ++ (x, k) :: L.drop p := ⟨_, rfl⟩
      have pm : L1.Perm ((x, k) :: L) := eL ▸ ins_perm L p (x, k)
      have hlen := pm.length_eq
      rw [List.length_cons] at hlen
      have hhs : L1.map (fun p => p.2.hash w) = (L.map fun p => p.2.hash w).take p ++ k.hash w :: (L.map fun p => p.2.hash w).drop p := by
        simp only [eL, List.map_append, List.map_cons, List.map_take, List.map_drop]
      rw [← hhs] at q3
      rw [← eL] at hin
      have nd1 : (L1.map (·.2)).Nodup := (pm.map (·.2)).nodup_iff.mpr (by rw [List.map_cons]; exact List.nodup_cons.mpr ⟨hm, R.nd⟩)
      have hes : (SetTable.insertAt es p (k.hash w, Value.ref x)).size = L.length + 1 := by
        have z := congrArg List.length hin
        rwa [Array.length_toList, rws_len, hlen] at z
      generalize SetTable.insertAt es p (k.hash w, Value.ref x) = es1 at hin hes ⊢
      apply wpAny_bind
      refine wpAny_storeSet_of ho hd ?_ (by rw [hes, sizeLine_eq]; omega)
      have sb : Heap.SameBut a s.heap (s.heap.update a (Obj.putSet es1 t2)) := Heap.SameBut.update ..
      have ho1 := store_at (ep := ep) (es' := es1) (t' := t2) ho hd
      generalize s.heap.update a (Obj.putSet es1 t2) = h1 at sb ho1 ⊢
      have notFull : t2.tooFull = false := by
        unfold SetTable.tooFull
        rw [e5, q9, e3, q4, R.m7, List.length_map]
        exact decide_eq_false (by omega)
      have T2 : TabOk t2 (L1.map fun p => p.2.hash w) := ⟨by rw [e1]; exact q3.ris, by rw [e2]; exact q3.dm, by rw [e1]; exact q3.sz, by rw [e3]; exact q3.mok, by rw [e1, e3]; exact q3.bd, by rw [e1, e3]; exact q3.reach⟩
      have R2 : SetN w h1 a L1 es1 (ep + 1) t2 := ⟨⟨_, ho1, ⟨hex.1, hex.2.1, hex.2.2⟩, rfl⟩, hin, T2, nd1, fun p hp => by
        rcases List.mem_cons.mp (pm.mem_iff.mp hp) with e | hp
        · rw [e]; exact hx.but ho hd sb
        · exact (R.keys p hp).but ho hd sb, by rw [e4, q5]; exact R.led, by rw [e3, q4]; exact R.m7, by rw [hlen]; exact hfew⟩
      rw [notFull]
      simp only [Bool.not_false, Bool.and_false, Bool.false_eq_true, if_false]
      try apply wpAny_bind; apply wpAny_pure
      exact wpAny_pure (hQ true h1 L1 es1 (ep + 1) t2 sb R2 (fun z => absurd z hm) fun _ => pm)
    by_cases hp1 : t1.plain = true
    · apply wp_if_pos hp1
      apply wpAny_bind
      refine hbv_key _ _ 8 _ hx.1 _ _ _ fun b => ?_
      cases b
      · exact rest _ rfl rfl rfl rfl rfl
      · exact rest _ rfl rfl rfl rfl rfl
    · apply wp_if_neg hp1
      apply wpAny_bind
      apply wpAny_pure
      exact rest _ rfl rfl rfl rfl rfl
end Sn
/-! .. set(list) -/
namespace Sn
open PySem PySem.Spec PyProof.Rows L2
variable {P : Program} {w : World} {A : Around} {E : Value → Shared → Prop} {s : Shared}
/-- what the set holds behind the first i items -/
structure Gs (ks : List (Addr × Nk)) (i : Nat) (L : List (Addr × Nk)) : Prop where
  sub : ∀ p ∈ L, p ∈ ks.take i
  all : ∀ p ∈ ks.take i, p.2 ∈ L.map (·.2)
theorem Gs.same {ks L : List (Addr × Nk)} {i : Nat} {x : Addr × Nk} (g : Gs ks i L) (h : ks[i]? = some x) (hm : x.2 ∈ L.map (·.2)) : Gs ks (i + 1) L := by
  have e : ks.take (i + 1) = ks.take i ++ [x] := by rw [List.take_succ, h]; rfl
  refine ⟨fun p hp => by rw [e]; exact List.mem_append_left _ (g.sub p hp), fun p hp => ?_⟩
  rw [e] at hp
  rcases List.mem_append.mp hp with z | z
  · exact g.all p z
  · rw [List.mem_singleton.mp z]; exact hm
theorem Gs.more {ks L L' : List (Addr × Nk)} {i : Nat} {x : Addr × Nk} (g : Gs ks i L) (h : ks[i]? = some x) (pm : L'.Perm (x :: L)) : Gs ks (i + 1) L' := by
  have e : ks.take (i + 1) = ks.take i ++ [x] := by rw [List.take_succ, h]; rfl
  refine ⟨fun p hp => ?_, fun p hp => ?_⟩
  · rw [e]
    rcases List.mem_cons.mp (pm.mem_iff.mp hp) with z | z
    · exact List.mem_append_right _ (List.mem_singleton.mpr z)
    · exact List.mem_append_left _ (g.sub p z)
  · rw [(pm.map (·.2)).mem_iff, List.map_cons]
    rw [e] at hp
    rcases List.mem_append.mp hp with z | z
    · exact List.mem_cons_of_mem _ (g.all p z)
    · rw [List.mem_singleton.mp z]; exact List.mem_cons_self
theorem Gs.few {ks L : List (Addr × Nk)} {i : Nat} {x : Addr × Nk} (g : Gs ks i L) (nd : (L.map (·.2)).Nodup) (h : ks[i]? = some x) (hm : x.2 ∉ L.map (·.2)) : L.length + 1 ≤ (dst (ks.map (·.2))).length := by
  have q := sub_len (x.2 :: L.map (·.2)) (dst (ks.map (·.2))) (List.nodup_cons.mpr ⟨hm, nd⟩) fun y hy => by
    refine mem_dst.mpr ?_
    rcases List.mem_cons.mp hy with z | z
    · rw [z]; exact List.mem_map.mpr ⟨x, List.mem_of_getElem? h, rfl⟩
    · obtain ⟨p, hp, e⟩ := List.mem_map.mp z
      exact List.mem_map.mpr ⟨p, List.mem_of_mem_take (g.sub p hp), e⟩
  simpa using q
theorem Gs.len {ks L : List (Addr × Nk)} (g : Gs ks ks.length L) (nd : (L.map (·.2)).Nodup) : L.length = (dst (ks.map (·.2))).length := by
  have h1 := sub_len (L.map (·.2)) (dst (ks.map (·.2))) nd fun y hy => by
    obtain ⟨p, hp, e⟩ := List.mem_map.mp hy
    exact mem_dst.mpr (List.mem_map.mpr ⟨p, List.mem_of_mem_take (g.sub p hp), e⟩)
  have h2 := sub_len (dst (ks.map (·.2))) (L.map (·.2)) nd_dst fun y hy => by
    obtain ⟨p, hp, e⟩ := List.mem_map.mp (mem_dst.mp hy)
    rw [← e]
    exact g.all p (by rw [List.take_length]; exact hp)
  simp only [List.length_map] at h1 h2
  omega
theorem SetN.kept {h h' : Heap} {a : Addr} {L : List (Addr × Nk)} {es : Array (Int × Value)} {ep : Nat} {t : SetTable} (R : SetN w h a L es ep t) (ha : ∀ o, h.get? a = some o → h'.get? a = some o) (hk : ∀ p ∈ L, KeyAt h' p.2 p.1) : SetN w h' a L es ep t :=
  let ⟨o, ho, r⟩ := R.ob
  ⟨⟨o, ha o ho, r⟩, R.rows, R.tab, R.nd, hk, R.led, R.m7, R.few⟩
abbrev emptyS (w : World) : Obj := { cls := .type "set", dict := none, data := .set #[] 0 (.fresh 0 0 (!w.params.followText "set-order")) }
theorem SetN.fresh {h : Heap} {a : Addr} (ho : h.get? a = some (emptyS w)) : SetN w h a [] #[] 0 (.fresh 0 0 (!w.params.followText "set-order")) :=
  ⟨⟨_, ho, ⟨rfl, rfl, rfl⟩, rfl⟩, rfl, ⟨List.Pairwise.nil, rfl, rfl, .inl rfl, fun x hx => (by cases hx), fun i h j hi => (by simp at hi)⟩, List.nodup_nil, fun p hp => (by cases hp), by
    show _ ∨ (!w.params.followText "set-order") = true
    cases w.params.followText "set-order"
    · exact .inr rfl
    · exact .inl rfl, rfl, Nat.zero_le _⟩
/-- the loop has come to item i: the set S stands, what stood ahead stands -/
def At (h₀ : Heap) (S : Addr) (ks : List (Addr × Nk)) (w : World) (i : Nat) (u : Shared) : Prop :=
  (∀ b o, h₀.get? b = some o → u.heap.get? b = some o) ∧ ∃ L es ep t, SetN w u.heap S L es ep t ∧ Gs ks i L
theorem At.moved {h₀ : Heap} {S : Addr} {ks : List (Addr × Nk)} {i : Nat} {u v : Shared} {wr : List Addr} {G : Array GenState → Array GenState → Prop} (a : At h₀ S ks w i u) (m : Moved wr G u v) (away : ∀ b ∈ wr, h₀.get? b = none) (hS : S ∉ wr) (keys : ∀ p ∈ ks, KeyAt h₀ p.2 p.1) : At h₀ S ks w i v := by
  obtain ⟨old, L, es, ep, t, R, g⟩ := a
  have old' : ∀ b o, h₀.get? b = some o → v.heap.get? b = some o := fun b o e => m.heap b o (fun z => by have := away b z; simp_all) (old b o e)
  exact ⟨old', L, es, ep, t, R.kept (fun o e => m.heap S o hS e) fun p z => (keys p (List.mem_of_mem_take (g.sub p z))).kept old', g⟩
/-- one more item goes in -/
theorem At.add {h₀ : Heap} {S : Addr} {ks : List (Addr × Nk)} {i : Nat} {u : Shared} {p : Addr × Nk} (a : At h₀ S ks w i u) (hp : ks[i]? = some p) (few : (dst (ks.map (·.2))).length ≤ 4) (free : h₀.get? S = none) (keys : ∀ p ∈ ks, KeyAt h₀ p.2 p.1) (room : A.units + 8 < cLine) {Q : Bool → Shared → Prop}
    (q : ∀ b v, At h₀ S ks w (i + 1) v → Heap.SameBut S u.heap v.heap → v.gens = u.gens → v.drawn = u.drawn → v.os = u.os → u.toks ≤ v.toks → (∃ h' n, v = { u with heap := h', toks := u.toks + n }) → Q b v) : wpAny (model P w) A (setAdd S (.ref p.1)) Q E u := by
  obtain ⟨old, L, es, ep, t, R, g⟩ := a
  have there : KeyAt u.heap p.2 p.1 := (keys p (List.mem_of_getElem? hp)).kept old
  unfold setAdd
  apply wpAny_holding
  apply wpAny_bind
  apply (nestedKind P w).pyHash room there
  refine addN (s := { u with toks := u.toks + p.2.draws }) R there room (fun z => Nat.le_trans (g.few R.nd hp z) few) fun b h2 L2 es2 ep2 t2 but R2 same more => ?_
  refine q b _ ⟨fun c o e => ?_, L2, es2, ep2, t2, R2, ?_⟩ but rfl rfl rfl (Nat.le_add_right _ _) ⟨_, _, rfl⟩
  · exact (but.2 c fun z => by simp_all).trans (old c o e)
  · rcases Classical.em (p.2 ∈ L.map (·.2)) with c | c
    · rw [same c]
      exact g.same hp c
    · exact g.more hp (more c)
/-- the model's own loop over an iterator -/
theorem fillN {I : Addr} {fp wr : List Addr} {G : Array GenState → Array GenState → Prop} {n : Nat} {Pv : Nat → Value → Prop} {St : Nat → Shared → Prop} {R : Result → Shared → Prop} (W : WalksS P w A.in1 I fp wr G n Pv St) {S : Addr} {ks : List (Addr × Nk)} {h₀ : Heap}
    (out : S ∉ fp) (cnt : n = ks.length) (few : (dst (ks.map (·.2))).length ≤ 4) (val : ∀ i v, Pv i v → ∃ p, ks[i]? = some p ∧ v = .ref p.1) (keys : ∀ p ∈ ks, KeyAt h₀ p.2 p.1) (free : h₀.get? S = none) (away : ∀ b ∈ wr, h₀.get? b = none) (room : A.in1.units + 8 < cLine) :
    ∀ (k i : Nat) (u : Shared), i + k = n → St i u → At h₀ S ks w i u → (∀ v, Moved (S :: wr) G u v → At h₀ S ks w n v → R (.ok (.ret .none)) v) → codeAny (model P w) A (.builtin "set.update.loop" ⟨[.ref S, .ref I], []⟩) R u := by
  have notW : S ∉ wr := fun z => out (W.sub _ z)
  have wide : ∀ {u v : Shared}, Moved wr G u v → Moved (S :: wr) G u v := fun m => m.mono fun b z => List.mem_cons_of_mem _ z
  intro k
  induction k with
  | zero =>
    rintro i u rfl st a fin
    apply codeAny_builtin F.entry_set_update_loop
    rw [Around.under_plainId F.plain_set_update_loop]
    unfold Builtin.«set.update.loop»
    apply wpAny_bind
    exact W.done u _ _ st fun v m => wpAny_pure (fin v (wide m) (a.moved m away notW keys))
  | succ k ih =>
    intro i u hk st a fin
    apply codeAny_builtin F.entry_set_update_loop
    rw [Around.under_plainId F.plain_set_update_loop]
    unfold Builtin.«set.update.loop»
    apply wpAny_bind
    refine W.item i u _ _ (by omega) st fun x v px sv m => ?_
    obtain ⟨p, hp, rfl⟩ := val i x px
    apply wpAny_bind
    apply wpAny_holding
    refine (a.moved m away notW keys).add hp few free keys room fun b y a2 but g1 g2 g3 tk ⟨h2, c, ey⟩ => ?_
    subst ey
    have apart : ∀ b ∈ fp, b ≠ S := fun b z e => out (by rw [← e]; exact z)
    refine wpAny_pure ⟨plainId_quiet F.plain_set_update_loop _, ih (i + 1) _ (by omega) (W.frame _ v _ _ sv (Nat.le_add_right _ _) fun b z o e => (but.2 b (apart b z)).trans e) a2 fun z m2 a3 => fin z ?_ a3⟩
    exact Moved.trans W.gtrans ((wide m).then_heap (Nat.le_add_right _ _) fun b o nb e => (but.2 b fun e2 => nb (by rw [e2]; exact List.mem_cons_self)).trans e) m2
/-- the set's own start, out of a list -/
theorem init_N {l S : Addr} {xs : Array Value} {u : Shared} {h₀ : Heap} (ks : List (Addr × Nk)) {B : Around} {R : Result → Shared → Prop} (calm : B.handled = none) (isl : u.heap.IsList l xs) (vals : xs.toList = ks.map fun p => Value.ref p.1) (fresh : u.heap.get? S = some (emptyS w))
    (old : ∀ b o, h₀.get? b = some o → u.heap.get? b = some o) (keys : ∀ p ∈ ks, KeyAt h₀ p.2 p.1) (free : ∀ b, S ≤ b → h₀.get? b = none) (lS : l < S) (few : (dst (ks.map (·.2))).length ≤ 4) (room : B.units + 12 < cLine)
    (q : ∀ v, At h₀ S ks w ks.length v → v.gens = u.gens → v.drawn = u.drawn → v.os = u.os → R (.ok (.ret .none)) v) : codeAny (model P w) B (.builtin "set.__init__" ⟨[.ref S, .ref l], []⟩) R u := by
  have cnt : xs.size = ks.length := by rw [← Array.length_toList, vals, List.length_map]
  have nI : S < u.heap.objs.size := Heap.lt_size fresh
  have lists := F.sub_list_set
  have frozen := F.sub_list_frozenset
  have diff : (Value.type "list" == Value.type "dict") = false := by decide
  apply codeAny_builtin F.entry_set_init
  rw [Around.under_plainId F.called_set.init.plain]
  obtain ⟨⟨_, dd, _, sl⟩, got, rfl, c, rfl⟩ := isl
  have again : u.heap.IsList l xs := ⟨_, got, rfl, c, rfl⟩
  unfold Builtin.«set.__init__» noKeywords Builtin.Frozenset.updateFrom
  generalize iq : pyIter = it
  wp_walk
  subst iq
  apply wpAny_pyIter_list again
  apply wpAny_bind
  apply wpAny_runValue
  have far : l ≠ u.heap.objs.size := Nat.ne_of_lt (Nat.lt_trans lS nI)
  have outside : S ∉ [u.heap.objs.size, l] := fun z => by
    rcases List.mem_cons.mp z with e | z
    · exact Nat.ne_of_lt nI e
    · exact Nat.ne_of_gt lS (List.mem_singleton.mp z)
  have val : ∀ (i : Nat) (x : Value), xs[i]? = some x → ∃ p, ks[i]? = some p ∧ x = .ref p.1 := fun i x e => by
    rw [← Array.getElem?_toList, vals, List.getElem?_map, Option.map_eq_some_iff] at e
    obtain ⟨p, e1, e2⟩ := e
    exact ⟨p, e1, e2.symm⟩
  refine fillN (h₀ := h₀) (Walks.list (by simp [calm]) _ l far xs).toS outside cnt few val keys (free S (Nat.le_refl _)) (fun b z => free b (by rw [List.mem_singleton.mp z]; exact Nat.le_of_lt nI)) (by show B.units + 2 + 8 < cLine; omega) xs.size 0 _ (Nat.zero_add _) ⟨⟨_, Heap.get?_push_size _ rfl, rfl, rfl⟩, again.push _⟩
    ⟨fun b o e => Heap.get?_push_of_some _ (old b o e), [], #[], 0, _, SetN.fresh (Heap.get?_push_of_some _ fresh), fun p z => (by cases z), fun p z => (by simp at z)⟩ fun v m a => ?_
  rw [cnt] at a
  refine wpAny_pure ?_
  exact wpAny_pure (q v a m.gens m.drawn m.os)
/-- set(xs) -/
theorem call_setN {l : Addr} {items : Array Value} (ks : List (Addr × Nk)) {Q : Value → Shared → Prop} (calm : A.handled = none) (isl : s.heap.IsList l items) (vals : items.toList = ks.map fun p => Value.ref p.1)
    (keys : ∀ p ∈ ks, KeyAt s.heap p.2 p.1) (few : (dst (ks.map (·.2))).length ≤ 4) (room : A.units + 16 < cLine) (q : ∀ v, At s.heap s.heap.objs.size ks w ks.length v → v.gens = s.gens → v.drawn = s.drawn → v.os = s.os → Q (.ref s.heap.objs.size) v) :
    wpAny (model P w) A (call (.type "set") [.ref l]) Q E s := by
  obtain ⟨_, _, mro⟩ := F.called_set.mro
  have made := F.called_set.made
  have own := F.called_set.sub
  have plainT := F.called_set.notType
  have able := F.called_set.canCreate
  have fits := F.typeCall_set_1 (.ref l)
  have find := F.called_set.init.lookup
  have bnd := F.called_set.init.bind (.ref s.heap.objs.size)
  have Z : (s.heap.push (emptyS w)).get? s.heap.objs.size = some (emptyS w) := Heap.get?_push_size _ rfl
  have isS : Shared.TypeIs { s with heap := s.heap.push (emptyS w) } (.ref s.heap.objs.size) "set" := ⟨_, Z, rfl⟩
  apply wpAny_call
  apply codeAny_of_tree
  show wpAny _ _ (callAny (.type "set") _) _ _ _
  refine wpAny_pure ⟨Code.quiet_builtin _ (by decide +kernel), ?_⟩
  apply codeAny_builtin F.entry_type_call
  rw [Around.under_plain (weight_type_call_type "set" [.ref l] []) rfl]
  repeat any_goals first | assumption | wp_step
  apply codeAny_mono (code_set_led1 (.ref l) (E := E) (Q₁ := fun x u => x = .ref s.heap.objs.size ∧ u = { s with heap := s.heap.push (emptyS w) }) ⟨rfl, rfl⟩)
  rintro (_ | _) u hx
  · exact hx
  · rename_i f
    cases f with
    | ret x =>
      obtain ⟨rfl, rfl⟩ := hx
      repeat any_goals first | assumption | wp_step
      apply codeAny_mono (codeAny_call_builtin_code (R := wants (fun r v => r = .none ∧ At s.heap s.heap.objs.size ks w ks.length v ∧ v.gens = s.gens ∧ v.drawn = s.drawn ∧ v.os = s.os) E) (plainId_quiet F.called_set.init.plain _) (check_set_init_1 isS (init_N ks (by simp [calm]) (isl.push _) vals Z (fun b o e => Heap.get?_push_of_some _ e) keys (fun b z => ?_) ?_ few (by show A.units + 1 + 12 < cLine; omega) fun v a g1 g2 g3 => ⟨rfl, a, g1, g2, g3⟩)))
      · rintro (_ | f) v hv
        · exact hv
        · cases f with
          | ret r =>
            obtain ⟨rfl, a, g1, g2, g3⟩ := hv
            repeat any_goals first | assumption | wp_step
            exact q v a g1 g2 g3
          | _ => exact hv.elim
      · obtain ⟨o, ho, _⟩ := isl
        exact Heap.lt_size ho
      · cases e : s.heap.get? b with
        | none => rfl
        | some o => exact absurd (Heap.lt_size e) (Nat.not_lt.mpr z)
    | _ => exact hx.elim
end Sn
/-! .. displays of two; whether two are alike -/
namespace Sn
open PySem PySem.Spec PyProof.Rows L2
section
variable {P : Program} {w : World} {A : Around} {E : Value → Shared → Prop} {s : Shared} {a : Addr} {L : List (Addr × Nk)} {es : Array (Int × Value)} {ep : Nat} {t : SetTable}
/-- the search, from the c-th probe on -/
theorem lookF (R : SetN w s.heap a L es ep t) {x : Addr} {k : Nk} (hx : KeyAt s.heap k x) (hu : A.units + 8 < cLine) {K : Nat} (b1 : K < 10 * SetTable.turns t.mask)
    (b2 : way t.mask (k.hash w) K ∉ t.place.toList) (b3 : ∀ c, c < K → way t.mask (k.hash w) c ∈ t.place.toList) {Q : SetFound → Shared → Prop}
    (yes : k ∈ L.map (·.2) → ∀ i, Q (.there (some i)) s) (no : k ∉ L.map (·.2) → Q (.free (way t.mask (k.hash w) K) false) s) :
    ∀ (f c : Nat) (st : Option SetTable.Probe), st.getD (t.probeStart (k.hash w)) = pb t (k.hash w) c → c ≤ K → K < c + f → Unmet w t L k c → wpAny (model P w) A (setSearchFrom a (.ref x) (k.hash w) false f st) Q E s
  | 0, c, st, _, _, hf, _ => by omega
  | f + 1, c, st, hst, hc, hf, un => by
    obtain ⟨_, there, _, data⟩ := R.ob
    have fit := R.fits
    rw [setSearchFrom_succ]
    apply wpAny_bind
    apply wpAny_setState_of there data fit
    dsimp only
    apply wp_if_neg R.way
    try apply wpAny_bind; apply wpAny_pure
    have at_ : ∀ q, (nth t.mask (pb t (k.hash w) c) q).j = way t.mask (k.hash w) (c + q) := fun q => congrArg SetTable.Probe.j (pb_add t _ c q)
    have hash_ : ∀ (i : Nat) p, L[i]? = some p → (fun i => (es[i]?.map (·.1)).getD 0) i = p.2.hash w := fun i p e => by
      simp only [R.entry e, Option.map_some, Option.getD_some]
    have back : c + (K - c) = K := by omega
    -- what the table itself says of the probes from here on
    have spec := go_spec t R.tab.ris R.tab.dm (fun i => (es[i]?.map (·.1)).getD 0) (k.hash w) (10 * SetTable.turns t.mask) (K - c) (pb t (k.hash w) c) (pb_dummy _ _ _ rfl) (by omega)
      (fun q z => by rw [at_]; exact b3 (c + q) (by omega)) (by rw [at_, back]; exact b2)
    -- a probe at which no hash is alike meets no such key
    have other : ∀ (m d : Nat), (∀ (q i : Nat), q < m → t.place.toList[i]? = some (nth t.mask (pb t (k.hash w) c) q).j → (fun i => (es[i]?.map (·.1)).getD 0) i ≠ k.hash w) → c ≤ d → d < c + m → ∀ (i : Nat) (p : Addr × Nk), t.place.toList[i]? = some (way t.mask (k.hash w) d) → L[i]? = some p → p.2 ≠ k := fun m d none h1 h2 i p e g z => by
      refine none (d - c) i (by omega) ?_ ((hash_ i p g).trans (by rw [z]))
      rw [at_, e]
      congr 2
      omega
    rcases spec with ⟨q, i, below, pos, _, clear, met⟩ | ⟨clear, met⟩
    · have met' : t.probe (fun i => (es[i]?.map (·.1)).getD 0) (k.hash w) (st.getD (t.probeStart (k.hash w))) = some (.candidate (way t.mask (k.hash w) (c + q)) i (pb t (k.hash w) (c + (q + 1)))) := by
        rw [hst, ← at_, ← pb_add]
        exact met
      rw [met']
      dsimp only
      rw [at_] at pos
      have il : i < L.length := by
        have z := (List.getElem?_eq_some_iff.mp pos).1
        rwa [Array.length_toList, R.tab.sz, List.length_map] at z
      obtain ⟨p, hp⟩ : ∃ p, L[i]? = some p := ⟨_, List.getElem?_eq_getElem il⟩
      have inL := List.mem_of_getElem? hp
      have rest : wpAny (model P w) A (searchRest a (.ref x) (k.hash w) false f es t (way t.mask (k.hash w) (c + q)) i (pb t (k.hash w) (c + (q + 1)))) Q E s := by
        unfold searchRest
        rw [R.entry hp]
        dsimp only
        apply wpAny_bind
        apply wpAny_holding
        apply eqN hu (R.keys p inL) hx
        apply wpAny_bind
        apply wpAny_setState_of there data fit
        dsimp only
        apply wp_if_neg (by simp)
        try apply wpAny_bind; apply wpAny_pure
        have live := slot_live R.tab.ris pos
        rw [sameMem]
        dsimp only
        simp only [live, R.entry hp, if_true]
        apply wpAny_bind
        apply wpAny_isSame_ref_self
        apply wpAny_bind
        apply wpAny_pure
        simp only [if_true]
        by_cases alike : p.2 = k
        · exact wp_if_pos (by simp [alike]) (wpAny_pure (yes (List.mem_map.mpr ⟨p, inL, alike⟩) _))
        · apply wp_if_neg (by simp [alike])
          refine lookF R hx hu b1 b2 b3 yes no f (c + (q + 1)) _ rfl (by omega) (by omega) fun d hd j r e g => ?_
          by_cases d1 : d < c
          · exact un d d1 j r e g
          by_cases d2 : d < c + q
          · exact other q d clear (by omega) d2 j r e g
          obtain rfl : d = c + q := by omega
          have twice := slot_live R.tab.ris e
          rw [live] at twice
          cases twice
          rw [hp] at g
          cases g
          exact alike
      by_cases led : t.led = true
      · apply wp_if_neg (by simp [led])
        try apply wpAny_bind; apply wpAny_pure
        exact rest
      · apply wp_if_pos (by simp [led])
        apply wpAny_bind
        refine seenN hx (fun y hy => ?_) ?_
        · obtain ⟨e, he, rfl⟩ := List.mem_map.mp hy
          have he2 : e ∈ es.toList := by
            have z : e ∈ es ∧ e.1 = k.hash w := by simpa using he
            simpa using z.1
          rw [R.rows] at he2
          obtain ⟨r, hr, rfl⟩ := List.mem_map.mp he2
          exact ⟨r.2, r.1, rfl, R.keys r hr⟩
        · apply wp_if_neg (by decide)
          try apply wpAny_bind; apply wpAny_pure
          exact rest
    · have met' : t.probe (fun i => (es[i]?.map (·.1)).getD 0) (k.hash w) (st.getD (t.probeStart (k.hash w))) = some (.empty (way t.mask (k.hash w) K) none) := by
        have e : way t.mask (k.hash w) K = (nth t.mask (pb t (k.hash w) c) (K - c)).j := by rw [at_, back]
        rw [hst, e]
        exact met
      rw [met']
      dsimp only
      refine wpAny_pure (no fun inM => ?_)
      obtain ⟨p, inL, alike⟩ := List.mem_map.mp inM
      obtain ⟨i, hp⟩ := List.getElem?_of_mem inL
      have il : i < t.place.toList.length := by
        rw [Array.length_toList, R.tab.sz, List.length_map]
        exact (List.getElem?_eq_some_iff.mp hp).1
      -- it would stand at a probe ahead of the empty slot
      obtain ⟨d, dK, e⟩ := R.tab.before b2 (i := i) (h := k.hash w) (by rw [List.getElem?_map, hp, ← alike]; rfl) (List.getElem?_eq_getElem il)
      have pos : t.place.toList[i]? = some (way t.mask (k.hash w) d) := by rw [e, List.getElem?_eq_getElem il]
      by_cases d1 : d < c
      · exact un d d1 i p pos hp alike
      · exact other (K - c) d clear (by omega) (by omega) i p pos hp alike
theorem searchF (R : SetN w s.heap a L es ep t) {x : Addr} {k : Nk} (hx : KeyAt s.heap k x) (hu : A.units + 8 < cLine) {Q : SetFound → Shared → Prop} (yes : k ∈ L.map (·.2) → ∀ i, Q (.there (some i)) s)
    (no : ∀ K, k ∉ L.map (·.2) → way t.mask (k.hash w) K ∉ t.place.toList → (∀ c, c < K → way t.mask (k.hash w) c ∈ t.place.toList) → Q (.free (way t.mask (k.hash w) K) false) s) :
    wpAny (model P w) A (setSearch a (.ref x) (k.hash w) false) Q E s := by
  have few := R.few
  have m7 := R.m7
  obtain ⟨K, b1, b2, b3⟩ := R.tab.first (by rw [List.length_map, m7]; omega) (k.hash w)
  have most : 10 * SetTable.turns t.mask < 100000 := by unfold SetTable.turns; omega
  unfold setSearch
  exact lookF R hx hu b1 b2 b3 yes (fun n => no K n b2 b3) 100000 0 none rfl (Nat.zero_le _) (by omega) fun d z => absurd z (Nat.not_lt_zero d)

/-- found, or not -/
theorem findN (R : SetN w s.heap a L es ep t) {x : Addr} {k : Nk} (hx : KeyAt s.heap k x) (hu : A.units + 8 < cLine) {Q : Option Nat → Shared → Prop} (h : ∀ r : Option Nat, r.isSome = decide (k ∈ L.map (·.2)) → Q r s) : wpAny (model P w) A (setFind a (.ref x) (k.hash w)) Q E s := by
  obtain ⟨o, ho, hex, hd⟩ := R.ob
  unfold setFind setFindIn
  refine wpAny_bind (wpAny_setState_of ho hd R.fits ?_)
  dsimp only
  apply wp_if_neg (by simp [byScan, Value.scannable])
  try apply wpAny_bind; apply wpAny_pure
  apply wpAny_bind
  refine searchF R hx hu (fun hm i => ?_) fun K hm _ _ => ?_
  · exact wpAny_pure (h (some i) (by simpa using hm))
  · exact wpAny_pure (h none (by simpa using hm))
/-- its elements in some turn -/
theorem walkN (R : SetN w s.heap a L es ep t) {Q : Array (Int × Value) → Shared → Prop} (h : ∀ (ys : Array (Int × Value)) d, ys.toList.Perm es.toList → Q ys { s with drawn := d }) : wpAny (model P w) A (setWalk a) Q E s := by
  obtain ⟨o, ho, hex, hd⟩ := R.ob
  unfold setWalk
  refine wpAny_bind (wpAny_setState_of ho hd R.fits ?_)
  dsimp only
  refine wpAny_bind (wpAny_byText ?_)
  by_cases bt : w.params.followText "set-order" = true
  · refine wp_if_pos bt ?_
    exact wpAny_bind (wpAny_askSetting (wpAny_pure (h _ s.drawn (pick_perm _ _))))
  · refine wp_if_neg bt ?_
    try refine wpAny_bind (wpAny_pure ?_)
    by_cases dr : (!t.plain && decide (es.size > 1)) = true
    · refine wp_if_pos dr ?_
      refine wpAny_bind (drawOrder_at _ _ _ _ (by simp) fun ys d pm => ?_)
      exact wpAny_pure (h _ d (by simpa using pm))
    · refine wp_if_neg dr ?_
      try refine wpAny_bind (wpAny_pure ?_)
      have led : t.led = true := by
        rcases R.led with z | z
        · exact absurd z bt
        · exact z
      refine wpAny_bind (wpAny_of_eq (a := ()) ?_ ?_)
      · show (if (!t.led && decide (es.size > 1)) = true then unsupported "set:maker-not-led" else pure ()) = pure ()
        rw [led]; rfl
      · exact wpAny_pure (h es s.drawn (List.Perm.refl _))
end
end Sn
/-! .. whether two small sets are alike -/
namespace Sn
open PySem PySem.Spec PyProof.Rows L2
section
variable {P : Program} {w : World} {A : Around} {E : Value → Shared → Prop} {s : Shared} {a b : Addr} {L L' : List (Addr × Nk)} {es es' : Array (Int × Value)} {ep ep' : Nat} {t t' : SetTable}
theorem SetN.entries (R : SetN w s.heap a L es ep t) {Q : Array (Int × Value) → Shared → Prop} (h : Q es s) : wpAny (model P w) A (setEntries a) Q E s := by
  obtain ⟨o, ho, hex, hd⟩ := R.ob
  unfold setEntries
  exact wpAny_bind (wpAny_setState_of ho hd R.fits (wpAny_pure h))
theorem SetN.epoch (R : SetN w s.heap a L es ep t) {Q : Nat → Shared → Prop} (h : Q ep s) : wpAny (model P w) A (setEpoch a) Q E s := by
  obtain ⟨o, ho, hex, hd⟩ := R.ob
  exact wpAny_setEpoch_of ho hd R.fits h
theorem SetN.type (R : SetN w s.heap a L es ep t) : s.TypeIs (.ref a) "set" := by
  obtain ⟨o, ho, hex, hd⟩ := R.ob
  exact ⟨o, ho, hex.1⟩
/-- the elements, each by its place and key -/
theorem SetN.mem (R : SetN w s.heap a L es ep t) {e : Int × Value} (h : e ∈ es.toList) : ∃ p ∈ L, e = (p.2.hash w, Value.ref p.1) := by
  rw [R.rows, rws] at h
  obtain ⟨p, hp, rfl⟩ := List.mem_map.mp h
  exact ⟨p, hp, rfl⟩
theorem quietN {x : Addr} {k : Nk} (hx : KeyAt s.heap k x) {Q : Bool → Shared → Prop} (h : Q false s) : wpAny (model P w) A (Builtin.Frozenset.quietEq (.ref x)) Q E s := by
  have ty : s.TypeIs (.ref x) "tuple" := by
    obtain ⟨h1, _⟩ := hx
    cases h1 with
    | tup hg hc hd hk => exact ⟨_, hg, hc⟩
  unfold Builtin.Frozenset.quietEq
  refine wpAny_bind (wpAny_specialOf ty F.slot_tuple_eq.lookup ?_)
  exact wpAny_pure (by
    have : (some (Value.builtin "tuple.__eq__") == some (Value.builtin "object.__eq__")) = false := by decide
    rw [this]; exact h)
theorem unseenN (R : SetN w s.heap a L es ep t) (R' : SetN w s.heap b L' es' ep' t') {Q : List (Int × Value) → Shared → Prop} (h : ∀ (ys : List (Int × Value)) d, ys.Perm es.toList → Q ys { s with drawn := d }) : wpAny (model P w) A (Builtin.Frozenset.walkUnseen a b) Q E s := by
  unfold Builtin.Frozenset.walkUnseen
  refine wpAny_bind (R.entries ?_)
  refine wpAny_bind (R'.entries ?_)
  have all : ∀ e ∈ es.toList ++ es'.toList, ∃ x k, e.2 = Value.ref x ∧ KeyAt s.heap k x := fun e he => by
    rcases List.mem_append.mp he with he | he
    · obtain ⟨p, hp, rfl⟩ := R.mem he
      exact ⟨p.1, p.2, rfl, R.keys p hp⟩
    · obtain ⟨p, hp, rfl⟩ := R'.mem he
      exact ⟨p.1, p.2, rfl, R'.keys p hp⟩
  generalize hl : es.toList ++ es'.toList = l at all
  cases l with
  | nil =>
    have e0 : es.toList = [] := (List.append_eq_nil_iff.mp hl).1
    rw [List.forIn_nil]
    refine wpAny_bind (wpAny_pure ?_)
    dsimp only
    refine wpAny_pure ?_
    exact h es.toList s.drawn (List.Perm.refl _)
  | cons e l =>
    obtain ⟨x, k, ex, kx⟩ := all e List.mem_cons_self
    rw [List.forIn_cons]
    refine wpAny_bind (wpAny_bind ?_)
    obtain ⟨e1, e2⟩ := e
    obtain rfl : e2 = Value.ref x := ex
    dsimp only
    refine wpAny_bind (quietN kx ?_)
    refine wp_if_pos rfl ?_
    refine wpAny_bind ?_
    unfold Builtin.Frozenset.walk
    refine wpAny_bind (walkN R fun ys d pm => ?_)
    refine wpAny_pure ?_
    refine wpAny_pure ?_
    dsimp only
    refine wpAny_pure ?_
    refine wpAny_pure ?_
    exact h ys.toList d pm
theorem perm_rows {α β : Type} {f : α → β} : ∀ {ys zs : List β} {L : List α}, ys.Perm zs → zs = L.map f → ∃ M : List α, ys = M.map f ∧ M.Perm L := by
  intro ys zs L h
  induction h generalizing L with
  | nil =>
    intro e
    exact ⟨L, e, List.Perm.refl _⟩
  | cons x h ih =>
    intro e
    cases L with
    | nil => cases e
    | cons y L =>
      rw [List.map_cons] at e
      injection e with e1 e2
      obtain ⟨M, rfl, pm⟩ := ih e2
      exact ⟨y :: M, by rw [List.map_cons, e1], pm.cons y⟩
  | swap x y l =>
    intro e
    rcases L with _ | ⟨u, _ | ⟨v, L⟩⟩
    · cases e
    · cases e
    · rw [List.map_cons, List.map_cons] at e
      injection e with e1 e2
      injection e2 with e2 e3
      exact ⟨v :: u :: L, by rw [List.map_cons, List.map_cons, e1, e2, e3], List.Perm.swap u v L⟩
  | trans h1 h2 ih1 ih2 =>
    intro e
    obtain ⟨M, e1, p1⟩ := ih2 e
    obtain ⟨M', e2, p2⟩ := ih1 e1
    exact ⟨M', e2, p2.trans p1⟩
theorem subLoop (R : SetN w s.heap a L es ep t) (R' : SetN w s.heap b L' es' ep' t') (hu : A.units + 8 < cLine) {id : String} : ∀ (M : List (Addr × Nk)), (∀ p ∈ M, KeyAt s.heap p.2 p.1) → wpAny (model P w) A (forIn (rws w M) ((none : Option Bool), ()) fun x _ =>
      match x with
      | (h, x) => do
        let r ← holding [x] (setFind b x h)
        if r.isNone = true then pure (ForInStep.done (some false, ()))
        else do
          Builtin.Frozenset.unchanged id a ep
          pure (ForInStep.yield (none, ())))
    (fun r u => u = s ∧ r.1 = if (M.all fun p => decide (p.2 ∈ L'.map (·.2))) = true then none else some false) E s
  | [], _ => by
    show wpAny _ _ (forIn ([] : List (Int × Value)) _ _) _ _ _
    rw [List.forIn_nil]
    exact wpAny_pure ⟨rfl, rfl⟩
  | p :: M, hk => by
    show wpAny _ _ (forIn ((p.2.hash w, Value.ref p.1) :: rws w M) _ _) _ _ _
    rw [List.forIn_cons]
    refine wpAny_bind ?_
    dsimp only
    refine wpAny_bind (wpAny_holding (findN R' (hk p List.mem_cons_self) hu fun r hr => ?_))
    by_cases c : p.2 ∈ L'.map (·.2)
    · rw [decide_eq_true c] at hr
      refine wp_if_neg (by simp [Option.isNone_iff_eq_none, Option.isSome_iff_ne_none] at hr ⊢; exact hr) ?_
      unfold Builtin.Frozenset.unchanged
      refine wpAny_bind (wpAny_bind (R.epoch ?_))
      refine wp_if_neg (by simp) ?_
      refine wpAny_pure ?_
      refine wpAny_pure ?_
      dsimp only
      refine wpAny_mono (subLoop R R' hu M fun q hq => hk q (List.mem_cons_of_mem _ hq)) (fun r u hr => ?_) fun _ _ x => x
      rw [List.all_cons, decide_eq_true c, Bool.true_and]
      exact hr
    · rw [decide_eq_false c] at hr
      refine wp_if_pos (by simpa using hr) ?_
      refine wpAny_pure ?_
      dsimp only
      refine wpAny_pure ⟨rfl, ?_⟩
      rw [List.all_cons, decide_eq_false c, Bool.false_and]
      rfl
theorem subN (R : SetN w s.heap a L es ep t) (R' : SetN w s.heap b L' es' ep' t') (hu : A.units + 8 < cLine) {id : String} {Q : Bool → Shared → Prop} (h : ∀ d, Q (decide (L.length ≤ L'.length) && L.all fun p => decide (p.2 ∈ L'.map (·.2))) { s with drawn := d }) :
    wpAny (model P w) A (Builtin.Frozenset.subsetOf id a b) Q E s := by
  unfold Builtin.Frozenset.subsetOf
  unfold Builtin.Frozenset.sizeOf
  refine wpAny_bind (wpAny_bind (R.entries (wpAny_pure ?_)))
  refine wpAny_bind (wpAny_bind (R'.entries (wpAny_pure ?_)))
  have z1 := R.size
  have z2 := R'.size
  by_cases hl : L.length ≤ L'.length
  · refine wp_if_neg (by omega) ?_
    try refine wpAny_bind (wpAny_pure ?_)
    refine wpAny_bind (R.epoch ?_)
    refine wpAny_bind (unseenN R R' fun ys d pm => ?_)
    obtain ⟨M, rfl, pM⟩ : ∃ M, ys = rws w M ∧ M.Perm L := perm_rows pm R.rows
    have pall : (L.all fun p => decide (p.2 ∈ L'.map (·.2))) = M.all fun p => decide (p.2 ∈ L'.map (·.2)) := by
      rw [Bool.eq_iff_iff, List.all_eq_true, List.all_eq_true]
      exact ⟨fun q p hp => q p (pM.mem_iff.mp hp), fun q p hp => q p (pM.mem_iff.mpr hp)⟩
    have q := h d
    rw [decide_eq_true hl, Bool.true_and, pall] at q
    have kM : ∀ p ∈ M, KeyAt s.heap p.2 p.1 := fun p hp => R.keys p (pM.mem_iff.mp hp)
    clear pM pm pall h
    refine wpAny_bind (wpAny_mono (subLoop (s := { s with drawn := d }) (id := id) R R' hu M kM) (fun r u hr => ?_) fun _ _ x => x)
    obtain ⟨rfl, hr⟩ := hr
    dsimp only
    rw [hr]
    cases hb : M.all fun p => decide (p.2 ∈ L'.map (·.2)) with
    | true =>
      rw [hb] at q
      exact wpAny_pure q
    | false =>
      rw [hb] at q
      exact wpAny_pure q
  · refine wp_if_pos (by omega) ?_
    have := h s.drawn
    rw [decide_eq_false hl, Bool.false_and] at this
    exact wpAny_pure this
theorem entry_set_eq : entryFor table "set.__eq__" = some Builtin.«frozenset.__eq__» :=
  entryFor_alias (id' := "frozenset.__eq__") (by kernel_rfl) rfl (by decide +kernel) (by kernel_rfl)
theorem sub_set_froz : isSubtype (.type "set") (.type "frozenset") = pure false := by rw [isSubtype_type]; kernel_rfl
/-- a == b of two small sets -/
theorem eqSets (R : SetN w s.heap a L es ep t) (R' : SetN w s.heap b L' es' ep' t') (hu : A.units + 16 < cLine) {Q : Value → Shared → Prop} (h : ∀ d, Q (.bool (decide (L.length = L'.length) && L.all fun p => decide (p.2 ∈ L'.map (·.2)))) { s with drawn := d }) :
    wpAny (model P w) A (compareOp .Eq (.ref a) (.ref b)) Q E s := by
  refine wpAny_richCompare_same_room (op := .Eq) R.type R'.type F.slot_set_eq (wpAny_call_entry F.slot_set_eq R.type entry_set_eq ?_ (F.args_set_eq_2 _ _)) (by omega)
  show wpAny _ _ (Builtin.Frozenset.slot1 "__eq__" ⟨[.ref a, .ref b], []⟩ >>= _) _ _ s
  unfold Builtin.Frozenset.slot1 slotArgs
  refine wpAny_bind (wpAny_bind (wpAny_pure (wpAny_pure ?_)))
  dsimp only
  unfold Builtin.Frozenset.isAnySet
  refine wpAny_bind ?_
  refine wpAny_bind (wpAny_isInstance (T := "set") R'.type F.sub_set_set ?_)
  refine wpAny_pure ?_
  refine wp_if_neg (by decide) ?_
  refine wpAny_bind (wpAny_pure ?_)
  refine wpAny_bind (wpAny_pure ?_)
  unfold Builtin.Frozenset.sizeOf
  refine wpAny_bind (wpAny_bind (R.entries (wpAny_pure ?_)))
  refine wpAny_bind (wpAny_bind (R'.entries (wpAny_pure ?_)))
  have z1 := R.size
  have z2 := R'.size
  by_cases hl : L.length = L'.length
  · refine wpAny_bind (wp_if_neg (by simp [z1, z2, hl]) ?_)
    refine wpAny_bind ?_
    refine wpAny_bind (wpAny_isInstance (T := "set") R.type sub_set_froz ?_)
    refine wpAny_pure ?_
    refine wp_if_neg (by decide) ?_
    refine subN R R' (by show A.units + 1 + 8 < cLine; omega) fun d => ?_
    have q := h d
    rw [decide_eq_true hl] at q
    rw [decide_eq_true (Nat.le_of_eq hl)]
    exact wpAny_pure ⟨_, rfl, (fun x => nomatch x), q⟩
  · refine wpAny_bind (wp_if_pos (by simp [z1, z2, hl]) ?_)
    have q := h s.drawn
    rw [decide_eq_false hl] at q
    exact wpAny_pure (wpAny_pure ⟨_, rfl, (fun x => nomatch x), q⟩)
end
end Sn
/-! a tuple once, no times -/
namespace Sw
open PySem PySem.Spec L2 PyProof.Rows
theorem tup_one (l : Addr) (its : Array Value) (n : Nat) (dd : Option Addr) (sl : Array (Option Value)) (u : Tok) :
    Meets (Builtin.«tuple.__mul__» ⟨[.ref l, .int 1 u], []⟩) (fun _ R s => s.heap.get? l = some { cls := .type "tuple", dict := dd, data := .seq its n, slots := sl } ∧ R (.ok (.ret (Value.ref l))) s) :=
  .of_wp fun prog w A R s h => by
    obtain ⟨hp, g, d, tk, os⟩ := s
    obtain ⟨hl, h⟩ := h
    have f1 := AutoSeq1.idx_int
    wp_walk using wpAny_loadPart' hl
    repeat (first
      | (refine wpAny_ite_false (decide_eq_false (by decide)) ?_; wp_walk using wpAny_loadPart' hl)
      | (refine wpAny_ite_true (decide_eq_true (by simp)) ?_; wp_walk using wpAny_loadPart' hl))
    exact ⟨_, rfl, h⟩
theorem tup_none (l : Addr) (its : Array Value) (n : Nat) (dd : Option Addr) (sl : Array (Option Value)) (u : Tok) (hne : its.isEmpty = false) :
    Meets (Builtin.«tuple.__mul__» ⟨[.ref l, .int 0 u], []⟩) (fun _ R s => s.heap.get? l = some { cls := .type "tuple", dict := dd, data := .seq its n, slots := sl } ∧
      R (.ok (.ret (Value.ref s.heap.objs.size))) { s with heap := s.heap.push { cls := Value.type "tuple", data := Data.seq #[] }, toks := s.toks }) :=
  .of_wp fun prog w A R s h => by
    obtain ⟨hp, g, d, tk, os⟩ := s
    obtain ⟨hl, h⟩ := h
    have f1 := AutoSeq1.idx_int
    wp_walk using wpAny_loadPart' hl
    repeat (first
      | (refine wpAny_ite_false (decide_eq_false (by decide)) ?_; wp_walk using wpAny_loadPart' hl)
      | (refine wpAny_ite_false (decide_eq_false (by simp [hne])) ?_; wp_walk using wpAny_loadPart' hl)
      | (refine wpAny_ite_true (decide_eq_true (by simp)) ?_; wp_walk using wpAny_loadPart' hl))
    exact ⟨_, rfl, h⟩
end Sw
namespace Sw
open PySem PySem.Spec L2 PyProof.Rows
/-- a tuple once: it is the same; no times: a new one -/
def rRep01 (K : PySem.W.Frag) : R2 := fun x y H Q => ∃ l xs, x = .ref l ∧ SqT K H l xs ∧ ((y = .int 1 ∧ Q (.ref l) H) ∨ (y = .int 0 ∧ xs ≠ [] ∧ ∀ p, H p = none → Q (.ref p) (upd H p (.tup []))))
theorem op_rep01 {X : Cx} : OpR X (binaryOp .Mult) (rRep01 X.K) := by
  intro pins s σ H x y v u Q I rx ry h
  obtain ⟨l, xs, rfl, hT, hy⟩ := h
  obtain rfl : v = Value.ref l := rx
  obtain ⟨its, r, ⟨⟨cls, dd, data, sl⟩, ho, hc, n, hd⟩, hs⟩ := I.tuple hT
  simp only at hc hd
  subst hc hd
  rcases hy with ⟨rfl, q⟩ | ⟨rfl, hne, q⟩
  · obtain ⟨t, rfl⟩ := ry
    exact wpAny_binaryOp_repeat_ref (T := "tuple") (U := "int") (by decide) ⟨_, ho, rfl⟩ (fun s' => typeIs_int s' 1 t) noFill_tuple_mul F.fills_int_mul F.slot_int_rmul repeat_tuple F.slot_int_index.lookup
      (call_meets F.slot_int_rmul (typeIs_int s 1 t) F.entry_int_rmul (F.args_int_rmul_2 _ _) (int_rmul_tuple 1 t l its.toArray n dd sl)
        ⟨ho, rfl, ⟨_, ho, rfl⟩, call_meets F.slot_tuple_mul ⟨_, ho, rfl⟩ F.entry_tuple_mul (F.args_tuple_mul_2 _ _) (tup_one l its.toArray n dd sl t) ⟨ho, .ref l, H, I, rfl, q⟩⟩)
  · obtain ⟨t, rfl⟩ := ry
    have hi : its.toArray.isEmpty = false := by
      cases its with
      | nil => cases r; exact absurd rfl hne
      | cons a b => rfl
    exact wpAny_binaryOp_repeat_ref (T := "tuple") (U := "int") (by decide) ⟨_, ho, rfl⟩ (fun s' => typeIs_int s' 0 t) noFill_tuple_mul F.fills_int_mul F.slot_int_rmul repeat_tuple F.slot_int_index.lookup
      (call_meets F.slot_int_rmul (typeIs_int s 0 t) F.entry_int_rmul (F.args_int_rmul_2 _ _) (int_rmul_tuple 0 t l its.toArray n dd sl)
        ⟨ho, rfl, ⟨_, ho, rfl⟩, call_meets F.slot_tuple_mul ⟨_, ho, rfl⟩ F.entry_tuple_mul (F.args_tuple_mul_2 _ _) (tup_none l its.toArray n dd sl t hi)
          ⟨ho, .ref s.heap.objs.size, _, I.laid (t' := s.toks) (o := .tup []) (fun b ob q => Heap.get?_push_of_some _ q) (Nat.le_refl _) ⟨Nat.zero_le _, [], .nil, IsTup.new _ _⟩, rfl, q _ (I.hok.fresh (Nat.le_refl _))⟩⟩)
end Sw
/-! The small language: data, programs, their run -/
namespace Sw
open PySem

/-- data that never changes -/
inductive D where
  | non | bl (b : Bool) | int (i : Int) | str (s : Str)
  | tup (xs : List D) | lst (xs : List D) | scr (ns : List Int)
  | dct (ks : List L2.Key) (xs : List D)
/-- what a name holds: data, or a list of the store -/
inductive A where
  | d (x : D) | r (k : Nat) | f (j : Nat)
/-- what stands in the store -/
inductive SO where
  | dead | lst (xs : List A)
/-- an exception: its class's number, its fields -/
inductive Ex where
  | mk (c : Nat) (fs : List D)
abbrev Sto := List SO
abbrev M (α : Type) := Sto → Option (Except Ex α × Sto)
def ret {α : Type} (a : α) : M α := fun s => some (.ok a, s)
def fail {α : Type} : M α := fun _ => none
def throw {α : Type} (x : Ex) : M α := fun s => some (.error x, s)
def bnd {α β : Type} (m : M α) (f : α → M β) : M β := fun s => match m s with
  | none => none
  | some (.error x, s') => some (.error x, s')
  | some (.ok a, s') => f a s'
def opt {α : Type} : Option α → M α
  | some a => ret a
  | none => fail
/-- what was laid in m is let go; nothing is raised -/
def trim {α : Type} (m : M α) : M α := fun s => match m s with
  | some (.ok a, s') => some (.ok a, s'.take s.length)
  | _ => none
def asD : A → M D
  | .d x => ret x
  | _ => fail
/-- a list of the store, as it stands -/
def allD : List A → Option (List D)
  | [] => some []
  | .d x :: r => (allD r).map (x :: ·)
  | _ :: _ => none
def pk : A → M D
  | .d x => ret x
  | .r k => fun s => match s[k]? with
    | some (.lst xs) => (match allD xs with
      | some ds => some (.ok (.lst ds), s)
      | none => none)
    | _ => none
  | .f _ => fail
/-- functions alone -/
def allF : List A → Option (List Nat)
  | [] => some []
  | .f j :: r => (allF r).map (j :: ·)
  | _ :: _ => none
/-- a list of functions, as it stands -/
def fns : A → M (List Nat)
  | .r k => fun s => match s[k]? with
    | some (.lst xs) => (match allF xs with
      | some js => some (.ok js, s)
      | none => none)
    | _ => none
  | _ => fail
/-- a list of the store, as it stands -/
def its : A → M (List A)
  | .r k => fun s => match s[k]? with
    | some (.lst xs) => some (.ok xs, s)
    | _ => none
  | _ => fail
def new (o : SO) : M A := fun s => some (.ok (.r s.length), s ++ [o])
/-- a list of the store is never changed from here on -/
def frz : A → M A
  | .d x => ret (.d x)
  | .r k => fun s => match s[k]? with
    | some (.lst xs) => (match allD xs with
      | some ds => some (.ok (.d (.lst ds)), s.set k .dead)
      | none => none)
    | _ => none
  | .f _ => fail
/-- a list that was just made is one of the store -/
def thaw : A → M A
  | .d (.lst xs) => new (.lst (xs.map .d))
  | _ => fail

abbrev Env := List (Option A)
/-- what may be called: the defs, the lambdas of one's own -/
structure CL where
  call : Nat → List A → M A
  lam : Nat → Env → M A
instance : CoeFun CL fun _ => Nat → List A → M A := ⟨CL.call⟩
/-- what is told of a refusal -/
def kindX (ks : List Str) : Ex → Option D
  | .mk c fs => (match ks[c]?, fs with
    | some x, [] => some (.str x)
    | some x, [d] => some (.tup [.str x, d])
    | _, _ => none)
/-- what something tells, or the kind of its refusal -/
def kindM (ks : List Str) (m : M A) : M D := fun s => match m s with
  | some (.ok (.d x), s') => some (.ok x, s'.take s.length)
  | some (.error x, s') => (match kindX ks x with
    | some d => some (.ok d, s'.take s.length)
    | none => none)
  | _ => none
/-- the list is still of these functions -/
def chkF (x : A) (js : List Nat) : M Unit := bnd (fns x) fun is => if is = js then ret () else fail
def kindsM (x : A) (js : List Nat) (f : Nat → M D) : List Nat → M (List D)
  | [] => bnd (chkF x js) fun _ => ret []
  | i :: is => bnd (chkF x js) fun _ => bnd (f i) fun d => bnd (kindsM x js f is) fun ds => ret (d :: ds)
def get : Env → Nat → Option A
  | [], _ => none
  | a :: _, 0 => a
  | _ :: r, n + 1 => get r n
def put : Env → Nat → Option A → Env
  | [], _, _ => []
  | _ :: r, 0, b => b :: r
  | a :: r, n + 1, b => a :: put r n b
def wip (e : Env) : List Nat → Env
  | [] => e
  | v :: vs => put (wip e vs) v none

inductive BOp where | add | sub | mul | fdiv | mod | pow
inductive COp where | eq | ne | lt | le | gt | ge | isN | notN | inn | nin
inductive BI where | len | abs | int | max2 | min2 | list | tuple | str | all
/-- what is done with one, two, three things -/
inductive OP1 where | dictP | lset | vals | srt | lrg
inductive OP2 where | dix | din | dnin | dne
inductive OP3 where | get
/-- a target -/
inductive T where
  | nm (i : Nat) | tp (is : List Nat)
mutual
inductive E where
  | var (i : Nat)
  | int (i : Int) | bl (b : Bool) | str (s : Str) | non
  | glob (j : Nat)
  | tup (es : EL) | lst (es : EL) | newl (es : EL)
  | bin (o : BOp) (a b : E)
  | neg (a : E)
  | cmp (o : COp) (a b : E)
  | chain (o1 o2 : COp) (a b c : E)
  | chain3 (o1 o2 o3 : COp) (a b c d : E)
  | seq (a b c d : E)
  | gget (ks : List Str) (vs : List Int) (b c : E)
  | and (a b : E) | or (a b : E) | not (a : E)
  | ife (c a b : E)
  | idx (a b : E)
  | slc (a : E) (lo hi : EL)
  | rev (a : E)
  | call (f : Nat) (es : EL)
  | bi (f : BI) (es : EL)
  | isi (a : E) (tys : List String)
  | lrng (it : I)
  | comp (elt : E) (t : T) (it : I) (cs : EL) (own : List Nat)
  | comp2 (elt : E) (t : T) (it : I) (t1 : T) (it1 : I) (own own1 : List Nat)
  | frz (a : E)
  | nw (a : E)
  | nev
  | dsp (ks : List L2.Key) (es : EL)
  | op1 (o : OP1) (a : E) | op2 (o : OP2) (a b : E) | op3 (o : OP3) (a b c : E)
  | lam (j : Nat) | catl (a : E) (es : EL) | kind (ks : List Str) (a : E) | kinds (ks : List Str) (a : E)
inductive EL where
  | nil | cons (e : E) (r : EL)
inductive I where
  | val (a : E) | rng1 (a : E) | rng2 (a b : E) | enm (a : E) | keys (a : E)
end
mutual
inductive S where
  | asg (t : T) (e : E)
  | par (i j : Nat) (a b : E)
  | seti (o ix e : E)
  | aug (o : BOp) (i : Nat) (e : E)
  | app (i : Nat) (e : E)
  | appf (i : Nat) (e : E)
  | ext (i : Nat) (e : E)
  | ife (c : E) (a b : SL)
  | forr (t : T) (it : I) (b : SL)
  | whil (c : E) (b : SL)
  | ret (e : E) | retN
  | exp (e : E)
  | pass | brk | cont | nev
  | rse (c : Nat) (es : EL)
inductive SL where
  | nil | cons (s : S) (r : SL)
end

/-! ### data -/
mutual
def D.eqv : D → D → Bool
  | .non, .non => true
  | .bl a, .bl b => a == b
  | .bl a, .int j => (if a then 1 else 0) == j
  | .int i, .bl b => i == (if b then 1 else 0)
  | .int i, .int j => i == j
  | .str x, .str y => x == y
  | .lst xs, .lst ys => D.eqvs xs ys
  | .tup xs, .tup ys => D.eqvs xs ys
  | _, _ => false
def D.eqvs : List D → List D → Bool
  | [], [] => true
  | x :: xs, y :: ys => D.eqv x y && D.eqvs xs ys
  | _, _ => false
end
mutual
/-- of no more than k within one another; texts as they should be -/
def D.ok : Nat → D → Bool
  | _, .non => true
  | _, .bl _ => true
  | _, .int _ => true
  | _, .str _ => true
  | k + 1, .tup xs => D.oks k xs
  | k + 1, .lst xs => D.oks k xs
  | _, _ => false
def D.oks : Nat → List D → Bool
  | _, [] => true
  | k, x :: xs => D.ok k x && D.oks k xs
end

def pks : List A → M (List D)
  | [] => ret []
  | a :: r => bnd (pk a) fun x => bnd (pks r) fun xs => ret (x :: xs)
def D.len : D → Option Nat
  | .lst xs => some xs.length
  | .tup xs => some xs.length
  | .scr ns => some ns.length
  | .str x => if x.length ≤ 16777216 then some x.length else none
  | _ => none
def D.items : D → Option (List D)
  | .lst xs => some xs
  | .tup xs => some xs
  | .scr ns => some (ns.map D.int)
  | _ => none
def okMul (a b : Int) : Bool := decide (a.natAbs < 18446744073709551616) || decide (b.natAbs < 18446744073709551616) || decide (a.natAbs.log2 + b.natAbs.log2 < 1000000)
def okDiv (b : Int) : Bool := decide (0 < b ∧ b.natAbs.log2 < 9000)
def bop : BOp → D → D → Option D
  | .add, .int a, .int b => some (.int (a + b))
  | .add, .str a, .str b => if a.length + b.length ≤ 16777216 then some (.str (a ++ b)) else none
  | .add, .lst a, .lst b => if a.length + b.length ≤ 16777216 then some (.lst (a ++ b)) else none
  | .add, .tup a, .tup b => if a.length + b.length ≤ 16777216 then some (.tup (a ++ b)) else none
  | .sub, .int a, .int b => some (.int (a - b))
  | .mul, .int a, .int b => if okMul a b then some (.int (a * b)) else none
  | .mul, .lst a, .int n => if -(2 ^ 63) ≤ n ∧ n < 2 ^ 63 ∧ a.length * n.toNat ≤ 16777216 then some (.lst (List.replicate n.toNat a).flatten) else none
  | .mul, .tup a, .int n => if n = 1 then some (.tup a) else if n = 0 then (if a ≠ [] then some (.tup []) else none) else if a ≠ [] ∧ 2 ≤ n ∧ n ≤ 1000 ∧ a.length ≤ 1000 then some (.tup (List.replicate n.toNat a).flatten) else none
  | .fdiv, .int a, .int b => if okDiv b then some (.int (a / b)) else none
  | .mod, .int a, .int b => if b = 0 then none else some (.int (a.fmod b))
  | .pow, .int a, .int b => if 0 ≤ b ∧ b ≤ 1000000 ∧ a.natAbs < 18446744073709551616 then some (.int (a ^ b.toNat)) else none
  | _, _, _ => none
/-- in place: numbers and texts -/
def aop : BOp → D → D → Option D
  | .add, .int a, .int b => some (.int (a + b))
  | .add, .str a, .str b => if a.length + b.length ≤ 16777216 then some (.str (a ++ b)) else none
  | .sub, .int a, .int b => some (.int (a - b))
  | .mul, .int a, .int b => if okMul a b then some (.int (a * b)) else none
  | .fdiv, .int a, .int b => if okDiv b then some (.int (a / b)) else none
  | _, _, _ => none
def eqD (a b : D) : Option Bool := if D.ok 60 a && D.ok 60 b then some (D.eqv a b) else none
def inD (x : D) : D → Option Bool
  | .lst xs => if D.ok 60 x && D.oks 60 xs then some (xs.any fun z => D.eqv z x) else none
  | .tup xs => if D.ok 60 x && D.oks 60 xs then some (xs.any fun z => D.eqv z x) else none
  | _ => none
def cop : COp → D → D → Option Bool
  | .eq, a, b => eqD a b
  | .ne, a, b => (eqD a b).map (!·)
  | .lt, .int a, .int b => some (decide (a < b))
  | .le, .int a, .int b => some (decide (a ≤ b))
  | .gt, .int a, .int b => some (decide (b < a))
  | .ge, .int a, .int b => some (decide (b ≤ a))
  | .isN, .non, .non => some true
  | .isN, _, .non => some false
  | .notN, .non, .non => some false
  | .notN, _, .non => some true
  | .inn, a, b => inD a b
  | .nin, a, b => (inD a b).map (!·)
  | _, _, _ => none
def ix {α : Type} (xs : List α) (i : Int) : Option α := if 0 ≤ i then xs[i.toNat]? else if -(xs.length : Int) ≤ i then xs[(i + xs.length).toNat]? else none
def idx : D → D → Option D
  | .lst xs, .int i => ix xs i
  | .tup xs, .int i => ix xs i
  | .scr ns, .int i => (ix ns i).map D.int
  | .str x, .int i => if x.length ≤ 16777216 then (ix x.cps.toList i).map fun c => .str ⟨#[c]⟩ else none
  | _, _ => none
/-- an item: of data, or of a list of the store -/
def idxA : A → D → M A
  | .d x, i => bnd (opt (idx x i)) fun z => ret (.d z)
  | .r k, .int i => fun s => match s[k]? with
    | some (.lst xs) => (match ix xs i with
      | some a => some (.ok a, s)
      | none => none)
    | _ => none
  | _, _ => fail
/-- a slice's place: none stands for d -/
def sPl (n d : Nat) : Option Int → Nat
  | none => d
  | some v => if v < 0 then (v + n).toNat else min v.toNat n
def cut {α : Type} (xs : List α) (lo hi : Option Int) : List α := (xs.drop (sPl xs.length 0 lo)).take (sPl xs.length xs.length hi - sPl xs.length 0 lo)
def slc (lo hi : Option Int) : D → Option D
  | .lst xs => some (.lst (cut xs lo hi))
  | .tup xs => some (.tup (cut xs lo hi))
  | .str x => if x.length ≤ 16777216 then some (.str ⟨(cut x.cps.toList lo hi).toArray⟩) else none
  | _ => none
def revD : D → Option D
  | .lst xs => some (.lst xs.reverse)
  | _ => none
def D.ints : List D → Option (List Int)
  | [] => some []
  | .int i :: r => (D.ints r).map (i :: ·)
  | _ => none
def D.bls : List D → Option (List Bool)
  | [] => some []
  | .bl i :: r => (D.bls r).map (i :: ·)
  | _ => none
def minI : List Int → Option Int
  | [] => none
  | x :: xs => some (xs.foldl min x)
def biD : BI → List D → Option D
  | .len, [x] => x.len.map fun (n : Nat) => D.int (n : Int)
  | .abs, [.int i] => some (.int (if i < 0 then -i else i))
  | .int, [.int i] => some (.int i)
  | .int, [.bl b] => some (.int (if b then 1 else 0))
  | .max2, [.int i, .int j] => some (.int (if j > i then j else i))
  | .min2, [.int i, .int j] => some (.int (if j < i then j else i))
  | .list, [x] => x.items.map .lst
  | .tuple, [x] => x.items.map .tup
  | .all, [.lst xs] => (D.bls xs).map fun bs => .bl (bs.all id)
  | _, _ => none
def kindD : D → String
  | .non => "NoneType"
  | .bl _ => "bool"
  | .int _ => "int"
  | .str _ => "str"
  | .tup _ => "tuple"
  | .lst _ => "list"
  | .scr _ => "list"
  | .dct _ _ => "dict"
def isK (k t : String) : Bool := k == t || (k == "bool" && t == "int")
def isT (x : D) (t : String) : Bool := isK (kindD x) t
def tru : A → Option Bool
  | .d (.bl b) => some b
  | _ => none
def rngs (lo hi : Int) : Option (List D) := if -(2 ^ 62) ≤ lo ∧ lo < 2 ^ 62 ∧ -(2 ^ 62) ≤ hi ∧ hi < 2 ^ 62 then some ((List.range (hi - lo).toNat).map fun (i : Nat) => D.int (lo + (i : Int))) else none
def enms : List D → Int → List D
  | [], _ => []
  | x :: r, i => .tup [.int i, x] :: enms r (i + 1)
def asgs : List Nat → List D → Env → Option Env
  | [], [], e => some e
  | i :: is, x :: xs, e => asgs is xs (put e i (some (.d x)))
  | _, _, _ => none
def asgT : T → A → Env → Option Env
  | .nm i, a, e => some (put e i (some a))
  | .tp is, .d (.tup xs), e => asgs is xs e
  | .tp is, .d (.lst xs), e => asgs is xs e
  | _, _, _ => none
/-! dicts that never change -/
def keyD : D → Option L2.Key
  | .int i => some (.inl i)
  | .str s => some (.inr s)
  | _ => none
def dKey : L2.Key → D
  | .inl i => .int i
  | .inr s => .str s
def dlook : List L2.Key → List D → L2.Key → Option D
  | k :: ks, x :: xs, j => if k = j then some x else dlook ks xs j
  | _, _, _ => none
def prsD : List D → Option (List L2.Key × List D)
  | [] => some ([], [])
  | .tup [k, x] :: r => (match keyD k, prsD r with
    | some k, some (ks, xs) => some (k :: ks, x :: xs)
    | _, _ => none)
  | _ => none
mutual
/-- as what may stand in a set -/
def nkD : D → Option NestedKey
  | .non => some .none
  | .bl b => some (.num (if b = true then 1 else 0))
  | .int i => some (.num i)
  | .str x => some (.text x)
  | .tup xs => (nksD xs).map .tup
  | _ => none
def nksD : List D → Option (List NestedKey)
  | [] => some []
  | x :: r => (match nkD x, nksD r with
    | some a, some b => some (a :: b)
    | _, _ => none)
end
def isTp : NestedKey → Bool
  | .tup _ => true
  | _ => false
def lsetD (ks : List NestedKey) : Option D := if ks.all isTp = true ∧ (∀ k ∈ ks, k.depth ≤ 8) ∧ (Sn.dst ks).length ≤ 4 then some (.int (Sn.dst ks).length) else none
def op1D : OP1 → D → Option D
  | .lset, .lst xs => (nksD xs).bind lsetD
  | .vals, .dct _ xs => some (.lst xs)
  | .lrg, .int n => if 0 ≤ n ∧ n ≤ 1000 then some (.lst ((List.range n.toNat).map fun (i : Nat) => D.int (i : Int))) else none
  | .srt, .lst xs => (D.ints xs).bind fun ns => if ns.length < 64 ∧ ns.Pairwise (· ≤ ·) then some (.lst xs) else none
  | .dictP, .lst ps => (match prsD ps with
    | some (ks, xs) => if ks.Nodup ∧ ks.length ≤ 1000 then some (.dct ks xs) else none
    | none => none)
  | _, _ => none
def op2D : OP2 → D → D → Option D
  | .dix, .dct ks xs, k => (keyD k).bind (dlook ks xs)
  | .din, k, .dct ks xs => (keyD k).map fun k => .bl (dlook ks xs k).isSome
  | .dnin, k, .dct ks xs => (keyD k).map fun k => .bl (!(dlook ks xs k).isSome)
  | .dne, .dct ks xs, .dct ls ys => (match nksD xs, nksD ys with
    | some a, some b => if ks = ls ∧ ks.Nodup ∧ a = b ∧ (∀ k ∈ a, k.depth ≤ 8) then some (.bl false) else none
    | _, _ => none)
  | _, _, _ => none
def op3D : OP3 → D → D → D → Option D
  | .get, .dct ks xs, k, z => (keyD k).map fun k => (dlook ks xs k).getD z
  | _, _, _, _ => none
/-- a tuple as what may stand in a set -/
def tkD (x : D) : Option NestedKey := (nkD x).bind fun k => if isTp k = true ∧ k.depth ≤ 8 then some k else none
/-- {x, y} == {z, u} -/
def seqD (x y z u : D) : Option D := (tkD x).bind fun a => (tkD y).bind fun b => (tkD z).bind fun c => (tkD u).bind fun d => some (.bl (decide ((a = c ∨ a = d) ∧ (b = c ∨ b = d) ∧ (c = a ∨ c = b) ∧ (d = a ∨ d = b))))
/-- what is asked of the first thing ahead of the others -/
def pre2 : OP2 → D → Option Unit
  | _, _ => some ()
def pre3 : OP3 → D → Option Unit
  | .get, .dct _ _ => some ()
  | _, _ => none
/-- a written table: texts to numbers -/
def gLook : List Str → List Int → Str → Option Int
  | k :: ks, v :: vs, x => if k = x then some v else gLook ks vs x
  | _, _, _ => none
def ggD (ks : List Str) (vs : List Int) : D → D → Option D
  | .str x, z => some (match gLook ks vs x with
    | some i => .int i
    | none => z)
  | _, _ => none
def keysD : D → Option (List D)
  | .dct ks _ => some (ks.map dKey)
  | .lst [] => some []
  | _ => none
def mapM (f : D → M (Option D)) : List D → M (List D)
  | [] => ret []
  | x :: xs => bnd (f x) fun r => bnd (mapM f xs) fun rs => ret (match r with
    | some y => y :: rs
    | none => rs)
def mapM2 (f : D → M (List D)) : List D → M (List D)
  | [] => ret []
  | x :: xs => bnd (f x) fun r => bnd (mapM2 f xs) fun rs => ret (r ++ rs)
def fin (rs : List D) : M A := if rs.length ≤ 16777216 then ret (.d (.lst rs)) else fail
section
variable (C : CL) (G : Nat → Option D)
mutual
def evE : E → Env → M A
  | .var i, env => opt (get env i)
  | .int i, _ => ret (.d (.int i))
  | .bl b, _ => ret (.d (.bl b))
  | .str s, _ => ret (.d (.str s))
  | .non, _ => ret (.d .non)
  | .glob j, _ => bnd (opt (G j)) fun x => ret (.d x)
  | .tup es, env => bnd (evL es env) fun xs => ret (.d (.tup xs))
  | .lst es, env => bnd (evL es env) fun xs => ret (.d (.lst xs))
  | .newl es, env => bnd (evA es env) fun xs => new (.lst xs)
  | .bin o a b, env => bnd (evE a env) fun x => bnd (evE b env) fun y => bnd (pk x) fun x => bnd (pk y) fun y => bnd (opt (bop o x y)) fun z => ret (.d z)
  | .neg a, env => bnd (evE a env) fun x => match x with
    | .d (.int i) => ret (.d (.int (-i)))
    | _ => fail
  | .cmp o a b, env => bnd (evE a env) fun x => bnd (evE b env) fun y => bnd (pk x) fun x => bnd (pk y) fun y => bnd (opt (cop o x y)) fun z => ret (.d (.bl z))
  | .chain o1 o2 a b c, env => bnd (evE a env) fun x => bnd (evE b env) fun y => bnd (pk x) fun x => bnd (pk y) fun y' => bnd (opt (cop o1 x y')) fun t =>
      if t then bnd (evE c env) fun z => bnd (pk y) fun y => bnd (pk z) fun z => bnd (opt (cop o2 y z)) fun t => ret (.d (.bl t)) else ret (.d (.bl false))
  | .chain3 o1 o2 o3 a b c d, env => bnd (evE a env) fun x => bnd (evE b env) fun y => bnd (pk x) fun x => bnd (pk y) fun y' => bnd (opt (cop o1 x y')) fun t =>
      if t then bnd (evE c env) fun z => bnd (pk y) fun y => bnd (pk z) fun z' => bnd (opt (cop o2 y z')) fun t =>
        if t then bnd (evE d env) fun u => bnd (pk z) fun z => bnd (pk u) fun u => bnd (opt (cop o3 z u)) fun t => ret (.d (.bl t)) else ret (.d (.bl false))
      else ret (.d (.bl false))
  | .seq a b c d, env => bnd (evE a env) fun x => bnd (asD x) fun x => bnd (evE b env) fun y => bnd (asD y) fun y => bnd (opt (tkD x)) fun _ => bnd (opt (tkD y)) fun _ =>
      bnd (evE c env) fun z => bnd (asD z) fun z => bnd (evE d env) fun u => bnd (asD u) fun u => bnd (opt (seqD x y z u)) fun t => ret (.d t)
  | .lam j, _ => ret (.f j)
  | .catl a es, env => bnd (evE a env) fun x => bnd (evA es env) fun ys => bnd (its x) fun xs => if xs.length + ys.length ≤ 1000 then new (.lst (xs ++ ys)) else fail
  | .kind ks a, env => bnd (evE a env) fun x => match x with
    | .f j => bnd (kindM ks (C.lam j env)) fun z => ret (.d z)
    | _ => fail
  | .kinds ks a, env => bnd (evE a env) fun x => bnd (fns x) fun js => bnd (trim (kindsM x js (fun j => kindM ks (C.lam j env)) js)) fin
  | .gget ks vs b c, env => bnd (evE b env) fun y => bnd (asD y) fun y => bnd (evE c env) fun z => bnd (asD z) fun z => bnd (opt (ggD ks vs y z)) fun z => ret (.d z)
  | .and a b, env => bnd (evE a env) fun x => match x with
    | .d (.bl true) => evE b env
    | .d (.bl false) => ret (.d (.bl false))
    | _ => fail
  | .or a b, env => bnd (evE a env) fun x => match x with
    | .d (.bl false) => evE b env
    | .d (.bl true) => ret (.d (.bl true))
    | _ => fail
  | .not a, env => bnd (evE a env) fun x => bnd (opt (tru x)) fun t => ret (.d (.bl !t))
  | .ife c a b, env => bnd (evE c env) fun x => bnd (opt (tru x)) fun t => if t then evE a env else evE b env
  | .idx a b, env => bnd (evE a env) fun x => bnd (evE b env) fun y => bnd (asD y) fun y => idxA x y
  | .slc a lo hi, env => bnd (evE a env) fun x => bnd (evO lo env) fun l => bnd (evO hi env) fun h => bnd (pk x) fun x => bnd (opt (slc l h x)) fun z => ret (.d z)
  | .rev a, env => bnd (evE a env) fun x => bnd (pk x) fun x => bnd (opt (revD x)) fun z => ret (.d z)
  | .call f es, env => bnd (evA es env) fun xs => C f xs
  | .bi f es, env => bnd (evA es env) fun xs => bnd (pks xs) fun xs => bnd (opt (biD f xs)) fun z => ret (.d z)
  | .isi a ts, env => bnd (evE a env) fun x => bnd (pk x) fun x => ret (.d (.bl (ts.any (isT x))))
  | .lrng it, env => bnd (evI it env) fun xs => fin xs
  | .comp elt t it cs own, env => bnd (evI it env) fun xs => bnd (trim (mapM (fun x => bnd (opt (asgT t (.d x) (wip env own))) fun env' => bnd (evT cs env') fun b => if b then bnd (evE elt env') fun y => bnd (asD y) fun y => ret (some y) else ret none) xs)) fin
  | .comp2 elt t it t1 it1 own own1, env => bnd (evI it env) fun xs => bnd (trim (mapM2 (fun x => bnd (opt (asgT t (.d x) (wip env own))) fun env' => bnd (evI it1 env') fun ys =>
      mapM (fun y => bnd (opt (asgT t1 (.d y) (wip env' own1))) fun env2 => bnd (evE elt env2) fun y => bnd (asD y) fun y => ret (some y)) ys) xs)) fin
  | .frz a, env => bnd (evE a env) frz
  | .nw a, env => bnd (evE a env) thaw
  | .nev, _ => fail
  | .dsp ks es, env => bnd (evL es env) fun xs => ret (.d (.dct ks xs))
  | .op1 o a, env => bnd (evE a env) fun x => bnd (asD x) fun x => bnd (opt (op1D o x)) fun z => ret (.d z)
  | .op2 o a b, env => bnd (evE a env) fun x => bnd (asD x) fun x => bnd (opt (pre2 o x)) fun _ => bnd (evE b env) fun y => bnd (asD y) fun y => bnd (opt (op2D o x y)) fun z => ret (.d z)
  | .op3 o a b c, env => bnd (evE a env) fun x => bnd (asD x) fun x => bnd (opt (pre3 o x)) fun _ => bnd (evE b env) fun y => bnd (asD y) fun y => bnd (evE c env) fun z => bnd (asD z) fun z => bnd (opt (op3D o x y z)) fun z => ret (.d z)
def evL : EL → Env → M (List D)
  | .nil, _ => ret []
  | .cons e r, env => bnd (evE e env) fun x => bnd (asD x) fun x => bnd (evL r env) fun xs => ret (x :: xs)
def evA : EL → Env → M (List A)
  | .nil, _ => ret []
  | .cons e r, env => bnd (evE e env) fun x => bnd (evA r env) fun xs => ret (x :: xs)
def evO : EL → Env → M (Option Int)
  | .nil, _ => ret none
  | .cons e _, env => bnd (evE e env) fun x => match x with
    | .d (.int i) => ret (some i)
    | _ => fail
def evT : EL → Env → M Bool
  | .nil, _ => ret true
  | .cons e _, env => bnd (evE e env) fun x => opt (tru x)
def evI : I → Env → M (List D)
  | .val a, env => bnd (evE a env) fun x => bnd (asD x) fun x => opt x.items
  | .rng1 a, env => bnd (evE a env) fun x => match x with
    | .d (.int n) => opt (rngs 0 n)
    | _ => fail
  | .rng2 a b, env => bnd (evE a env) fun x => bnd (evE b env) fun y => match x, y with
    | .d (.int l), .d (.int n) => opt (rngs l n)
    | _, _ => fail
  | .enm a, env => bnd (evE a env) fun x => match x with
    | .d (.lst xs) => ret (enms xs 0)
    | .d (.tup xs) => ret (enms xs 0)
    | _ => fail
  | .keys a, env => bnd (evE a env) fun x => bnd (asD x) fun x => opt (keysD x)
end
end

inductive Out where
  | nx (e : Env) | rt (a : A) | bk (e : Env) | ct (e : Env)
def forM (f : D → Env → M Out) : List D → Env → M Out
  | [], e => ret (.nx e)
  | x :: xs, e => bnd (f x e) fun o => match o with
    | .nx e => forM f xs e
    | .ct e => forM f xs e
    | .bk e => ret (.nx e)
    | .rt a => ret (.rt a)
def whlM (c : Env → M Bool) (f : Env → M Out) : Nat → Env → M Out
  | 0, _ => fail
  | n + 1, e => bnd (c e) fun t => if t then bnd (f e) fun o => match o with
    | .nx e => whlM c f n e
    | .ct e => whlM c f n e
    | .bk e => ret (.nx e)
    | .rt a => ret (.rt a)
    else ret (.nx e)
/-- there is a list of the store -/
def lstAt (k : Nat) : M Unit := fun s => match s[k]? with
  | some (.lst _) => some (.ok (), s)
  | _ => none
/-- a list of the store is changed -/
def chg (k : Nat) (f : List A → Option (List A)) : M Unit := fun s => match s[k]? with
  | some (.lst xs) => (match f xs with
    | some ys => some (.ok (), s.set k (.lst ys))
    | none => none)
  | _ => none
def asFn : A → M Nat
  | .f j => ret j
  | _ => fail
def asR : A → M Nat
  | .r k => ret k
  | _ => fail
abbrev ixN : Nat → Int → Option Nat := L2.ixN
/-- how often a while may turn -/
def wMost : Nat := 1000000
section
variable (C : CL) (G : Nat → Option D)
mutual
def evS : S → Env → M Out
  | .asg t e, env => bnd (evE C G e env) fun x => bnd (opt (asgT t x env)) fun env' => ret (.nx env')
  | .par i j a b, env => bnd (evE C G a env) fun x => bnd (evE C G b env) fun y => ret (.nx (put (put env i (some x)) j (some y)))
  | .seti o ix e, env => bnd (evE C G e env) fun x => bnd (asD x) fun x => bnd (evE C G o env) fun a => bnd (evE C G ix env) fun j => bnd (asR a) fun k => (match j with
    | .d (.int j) => bnd (chg k fun xs => (ixN xs.length j).map fun j => xs.set j (.d x)) fun _ => ret (.nx env)
    | _ => fail)
  | .aug o i e, env => bnd (opt (get env i)) fun x => bnd (asD x) fun x => bnd (evE C G e env) fun y => bnd (asD y) fun y => bnd (opt (aop o x y)) fun z => ret (.nx (put env i (some (.d z))))
  | .app i e, env => bnd (opt (get env i)) fun a => bnd (asR a) fun k => bnd (lstAt k) fun _ => bnd (evE C G e env) fun x => bnd (asD x) fun x => bnd (chg k fun xs => if xs.length < 16777216 then some (xs ++ [.d x]) else none) fun _ => ret (.nx env)
  | .appf i e, env => bnd (opt (get env i)) fun a => bnd (asR a) fun k => bnd (lstAt k) fun _ => bnd (evE C G e env) fun x => bnd (asFn x) fun j => bnd (chg k fun xs => if xs.length < 16777216 then some (xs ++ [.f j]) else none) fun _ => ret (.nx env)
  | .ext i e, env => bnd (opt (get env i)) fun a => bnd (asR a) fun k => bnd (lstAt k) fun _ => bnd (evE C G e env) fun x => bnd (asD x) fun x => (match x with
    | .lst ys => bnd (chg k fun xs => if xs.length + ys.length ≤ 16777216 then some (xs ++ ys.map .d) else none) fun _ => ret (.nx env)
    | _ => fail)
  | .ife c a b, env => bnd (evE C G c env) fun x => bnd (opt (tru x)) fun t => if t then evSL a env else evSL b env
  | .forr t it b, env => bnd (evI C G it env) fun xs => forM (fun x e => bnd (opt (asgT t (.d x) e)) fun e' => evSL b e') xs env
  | .whil c b, env => whlM (fun e => bnd (evE C G c e) fun x => opt (tru x)) (fun e => evSL b e) wMost env
  | .ret e, env => bnd (evE C G e env) fun x => ret (.rt x)
  | .retN, _ => ret (.rt (.d .non))
  | .exp e, env => bnd (evE C G e env) fun _ => ret (.nx env)
  | .pass, env => ret (.nx env)
  | .brk, env => ret (.bk env)
  | .cont, env => ret (.ct env)
  | .nev, _ => fail
  | .rse c es, env => bnd (evL C G es env) fun xs => throw (.mk c xs)
def evSL : SL → Env → M Out
  | .nil, env => ret (.nx env)
  | .cons s r, env => bnd (evS s env) fun o => match o with
    | .nx e => evSL r e
    | o => ret o
end
end
/-- a def: its parameters, its names, its body -/
structure DI where
  np : Nat
  nn : Nat
  body : SL
  lt : List E
def reps : Nat → Env
  | 0 => []
  | n + 1 => none :: reps n
/-- behind a call: data is handed back, what was laid is let go; or a list of the store -/
def outF (n : Nat) : Option (Except Ex A × Sto) → Option (Except Ex A × Sto)
  | some (.ok (.d x), s) => some (.ok (.d x), s.take n)
  | some (.error x, s) => some (.error x, s.take n)
  | some (.ok (.f _), _) => none
  | r => r
/-- a def with lambdas of its own is called from an empty store, with data -/
def lamOk (d : DI) (args : List A) (s : Sto) : Prop := d.lt.isEmpty = true ∨ (s.isEmpty = true ∧ (allD args).isSome = true)
instance (d : DI) (args : List A) (s : Sto) : Decidable (lamOk d args s) := inferInstanceAs (Decidable (_ ∨ _))
/-- a def with lambdas of its own tells data -/
def onlyD (d : DI) : Option (Except Ex A × Sto) → Option (Except Ex A × Sto)
  | some (.ok (.r k), s) => if d.lt.isEmpty = true then some (.ok (.r k), s) else none
  | r => r
def runF (C : CL) (G : Nat → Option D) (d : DI) (args : List A) : M A := fun s =>
  if args.length = d.np ∧ lamOk d args s then onlyD d (outF s.length (bnd (evSL C G d.body (args.map some ++ reps (d.nn - d.np))) (fun o => match o with
    | .nx _ => ret (.d .non)
    | .rt a => ret a
    | _ => fail) s)) else none
def interp (T : Nat → Option DI) (G : Nat → Option D) : Nat → Nat → List A → M A
  | 0, _, _ => fail
  | n + 1, f, args => match T f with
    | some d => runF ⟨interp T G n, fun j env => match n with
        | m + 2 => (match d.lt[j]? with
          | some e => evE ⟨interp T G m, fun _ _ => fail⟩ G e env
          | none => fail)
        | _ => fail⟩ G d args
    | none => fail
end Sw
/-! How the small language's run and the machine's lie together -/
namespace Sw
open PySem PySem.Spec L2

/-- where the store's objects stand; lists that are being made -/
structure Wd where
  io : List Addr
  hs : List Addr
/-- what may be changed -/
def Zm (w : Wd) (st : Sto) (a : Addr) : Prop := a ∈ w.hs ∨ ∃ (k : Nat) (o : SO), w.io[k]? = some a ∧ st[k]? = some o ∧ o ≠ SO.dead
/-- what the written part holds: a tuple, a list, whatever else is there -/
def KTup (K : PySem.W.Frag) (a : Addr) (xs : List V) : Prop := SqT K (fun _ => none) a xs
def KLst (K : PySem.W.Frag) (a : Addr) (xs : List V) : Prop := SqL K (fun _ => none) a xs
def keyOk : Key → Bool
  | .inl _ => true
  | .inr x => PyData.strOk x
mutual
inductive RV (K : PySem.W.Frag) (Z : Addr → Prop) (H : Hp) : V → D → Prop
  | non : RV K Z H .non .non
  | bl (b : Bool) : RV K Z H (.bl b) (.bl b)
  | int (i : Int) : RV K Z H (.int i) (.int i)
  | str {x : Str} (ok : PyData.strOk x = true) : RV K Z H (.str x) (.str x)
  | tup {a : Addr} {vs : List V} {ds : List D} : Rd H a (.tup vs) → ¬ Z a → RVs K Z H vs ds → RV K Z H (.ref a) (.tup ds)
  | tupK {a : Addr} {vs : List V} {ds : List D} : KTup K a vs → RVs K Z H vs ds → RV K Z H (.ref a) (.tup ds)
  | lst {a : Addr} {vs : List V} {ds : List D} : H a = some (.lst vs) → ¬ Z a → RVs K Z H vs ds → RV K Z H (.ref a) (.lst ds)
  | scr {a : Addr} {ns : List Int} : Rd H a (.lst (ns.map V.int)) → ¬ Z a → RV K Z H (.ref a) (.scr ns)
  | scrK {a : Addr} {ns : List Int} : KLst K a (ns.map V.int) → RV K Z H (.ref a) (.scr ns)
  | dct {a : Addr} {o : Obj} {kvs : List (Key × V)} {ks : List Key} {ds : List D} : H a = some (.frz o (.dK kvs)) → ¬ Z a → kvs.map (·.1) = ks → ks.all keyOk = true → RVs K Z H (kvs.map (·.2)) ds → RV K Z H (.ref a) (.dct ks ds)
inductive RVs (K : PySem.W.Frag) (Z : Addr → Prop) (H : Hp) : List V → List D → Prop
  | nil : RVs K Z H [] []
  | cons {v : V} {vs : List V} {d : D} {ds : List D} : RV K Z H v d → RVs K Z H vs ds → RVs K Z H (v :: vs) (d :: ds)
end
/-- what stands, stands on -/
def nT (o : HO) : Prop := ∀ ps, o ≠ .tbl ps
theorem nT.tup {vs : List V} : nT (.tup vs) := fun _ z => by cases z
theorem nT.lst {vs : List V} : nT (.lst vs) := fun _ z => by cases z
theorem nT.frz {o : Obj} {u : HO} : nT (.frz o u) := fun _ z => by cases z
theorem nT.xd {fs : List (Str × V)} : nT (.xd fs) := fun _ z => by cases z
theorem nT.ext {φ : Heap → Prop} : nT (.ext φ) := fun _ z => by cases z
def Kp (Z : Addr → Prop) (H : Hp) (Z' : Addr → Prop) (H' : Hp) : Prop := ∀ a o, H a = some o → nT o → ¬ Z a → H' a = some o ∧ ¬ Z' a
section
variable {K : PySem.W.Frag} {Z Z' : Addr → Prop} {H H' : Hp}
theorem Kp.rd (k : Kp Z H Z' H') {a : Addr} {u : HO} (r : Rd H a u) (n : nT u) (z : ¬ Z a) : Rd H' a u ∧ ¬ Z' a := by
  rcases r with r | ⟨o, r⟩
  · exact ⟨.inl (k a _ r n z).1, (k a _ r n z).2⟩
  · exact ⟨.inr ⟨o, (k a _ r .frz z).1⟩, (k a _ r .frz z).2⟩
mutual
theorem RV.mono (k : Kp Z H Z' H') : ∀ {v : V} {d : D}, RV K Z H v d → RV K Z' H' v d
  | _, _, .non => .non
  | _, _, .bl b => .bl b
  | _, _, .int i => .int i
  | _, _, .str h => .str h
  | _, _, .tup r z t => .tup (k.rd r .tup z).1 (k.rd r .tup z).2 (RVs.mono k t)
  | _, _, .tupK r t => .tupK r (RVs.mono k t)
  | _, _, .lst r z t => .lst (k _ _ r .lst z).1 (k _ _ r .lst z).2 (RVs.mono k t)
  | _, _, .scr r z => .scr (k.rd r .lst z).1 (k.rd r .lst z).2
  | _, _, .scrK r => .scrK r
  | _, _, .dct h z e q t => .dct (k _ _ h .frz z).1 (k _ _ h .frz z).2 e q (RVs.mono k t)
theorem RVs.mono (k : Kp Z H Z' H') : ∀ {vs : List V} {ds : List D}, RVs K Z H vs ds → RVs K Z' H' vs ds
  | _, _, .nil => .nil
  | _, _, .cons r t => .cons (RV.mono k r) (RVs.mono k t)
end
theorem RVs.length {vs : List V} {ds : List D} (r : RVs K Z H vs ds) : vs.length = ds.length := by
  induction ds generalizing vs with
  | nil => cases r; rfl
  | cons d ds ih => cases r with | cons a b => simp [ih b]
theorem RVs.append : ∀ {vs us : List V} {ds es : List D}, RVs K Z H vs ds → RVs K Z H us es → RVs K Z H (vs ++ us) (ds ++ es)
  | _, _, _, _, .nil, s => s
  | _, _, _, _, .cons r t, s => .cons r (RVs.append t s)
theorem RVs.get : ∀ {vs : List V} {ds : List D} {i : Nat} {d : D}, RVs K Z H vs ds → ds[i]? = some d → ∃ v, vs[i]? = some v ∧ RV K Z H v d
  | _, _, _, _, .nil, e => by simp at e
  | _, _, 0, _, .cons r _, e => by simp at e; subst e; exact ⟨_, rfl, r⟩
  | _, _, i + 1, d, .cons _ t, e => by
    obtain ⟨v, h1, h2⟩ := RVs.get (i := i) (d := d) t (by simpa using e)
    exact ⟨v, by simpa using h1, h2⟩
theorem RVs.drop : ∀ {vs : List V} {ds : List D} (n : Nat), RVs K Z H vs ds → RVs K Z H (vs.drop n) (ds.drop n)
  | _, _, 0, r => r
  | _, _, _ + 1, .nil => .nil
  | _, _, n + 1, .cons _ t => RVs.drop n t
theorem RVs.take : ∀ {vs : List V} {ds : List D} (n : Nat), RVs K Z H vs ds → RVs K Z H (vs.take n) (ds.take n)
  | _, _, 0, _ => .nil
  | _, _, _ + 1, .nil => .nil
  | _, _, n + 1, .cons r t => .cons r (RVs.take n t)
theorem RVs.set {v : V} {d : D} (r : RV K Z H v d) : ∀ {vs : List V} {ds : List D} (n : Nat), RVs K Z H vs ds → RVs K Z H (vs.set n v) (ds.set n d)
  | _, _, _, .nil => .nil
  | _, _, 0, .cons _ t => .cons r t
  | _, _, n + 1, .cons q t => .cons q (RVs.set r n t)
theorem RVs.reverse {vs : List V} {ds : List D} (r : RVs K Z H vs ds) : RVs K Z H vs.reverse ds.reverse := by
  induction ds generalizing vs with
  | nil => cases r; exact .nil
  | cons d ds ih => cases r with
    | cons a b =>
      rw [List.reverse_cons, List.reverse_cons]
      exact (ih b).append (.cons a .nil)
theorem RVs.ints : ∀ ns : List Int, RVs K Z H (ns.map V.int) (ns.map D.int)
  | [] => .nil
  | n :: r => .cons (.int n) (RVs.ints r)
/-- data, or a list of the store as it stands -/
def PV (K : PySem.W.Frag) (Z : Addr → Prop) (H : Hp) (v : V) (d : D) : Prop :=
  RV K Z H v d ∨ ∃ a vs ds, v = .ref a ∧ d = .lst ds ∧ H a = some (.lst vs) ∧ RVs K Z H vs ds
end

/-- what is known of the lambdas: which stand in the text, whose cells they see, the tables of code objects -/
structure FX where
  good : Nat → Arguments → Expr → Scope → Bool
  cells : List (Str × Addr)
  qual : Str
  tb : List (Addr × Str)
structure KX where
  k : PySem.W.Frag
  fx : FX
instance : Coe KX PySem.W.Frag := ⟨KX.k⟩
/-- a lambda's function: its defaults dv -/
def lamFd (qual : Str) (params : Arguments) (body : Expr) (scope : Scope) (cl : List (Str × Addr)) (dv pm cdv ct : Value) : FuncData :=
  { PySem.W.kla_fn "<lambda>" (qual ++ "<lambda>") params body scope cl pm cdv ct with defaults := dv }
def lamOb (qual : Str) (params : Arguments) (body : Expr) (scope : Scope) (cl : List (Str × Addr)) (dv pm : Value) (c' : Addr) (ct : Value) : Obj :=
  { cls := .type "function", data := .func (lamFd qual params body scope cl dv pm (.ref c') ct) }
def LamO (f c' : Addr) (qual : Str) (params : Arguments) (body : Expr) (scope : Scope) (cl : List (Str × Addr)) (dv : Value) : HO :=
  .ext fun h => ∃ pm ct, h.get? f = some (lamOb qual params body scope cl dv pm c' ct)
/-- no parameter, or one with the default 0 -/
def Dv (Z : Addr → Prop) (H : Hp) (params : Arguments) (dv : Value) : Prop :=
  (params.args = [] ∧ dv = .none) ∨ ∃ (x : Str) (T : Addr), params.args.map (·.arg) = [x] ∧ dv = .ref T ∧ H T = some (.tup [.int 0]) ∧ ¬ Z T
def RA (K : KX) (w : Wd) (st : Sto) (H : Hp) (v : V) : A → Prop
  | .d x => RV K (Zm w st) H v x
  | .r k => ∃ a, w.io[k]? = some a ∧ v = .ref a
  | .f j => ∃ (f c' : Addr) (params : Arguments) (body : Expr) (scope : Scope) (dv : Value), v = .ref f ∧ K.fx.good j params body scope = true ∧ H f = some (LamO f c' K.fx.qual params body scope (cloFrom K.fx.cells scope.names []) dv) ∧ ¬ Zm w st f ∧
      H c' = some (LamX.CodeO c' (K.fx.qual ++ "<lambda>")) ∧ ¬ Zm w st c' ∧ Dv (Zm w st) H params dv
inductive RAs (K : KX) (w : Wd) (st : Sto) (H : Hp) : List V → List A → Prop
  | nil : RAs K w st H [] []
  | cons {v : V} {vs : List V} {d : A} {ds : List A} : RA K w st H v d → RAs K w st H vs ds → RAs K w st H (v :: vs) (d :: ds)
/-- what a list of the store holds: data, older lists -/
def old (k : Nat) (as : List A) : Prop := ∀ j, A.r j ∈ as → j < k
def RO (K : KX) (w : Wd) (st : Sto) (H : Hp) (k : Nat) (a : Addr) : SO → Prop
  | .dead => True
  | .lst as => old k as ∧ ∃ vs, H a = some (.lst vs) ∧ RAs K w st H vs as
structure RS (K : KX) (w : Wd) (st : Sto) (H : Hp) : Prop where
  len : w.io.length = st.length
  nd : w.io.Nodup
  dis : ∀ a, a ∈ w.hs → a ∉ w.io
  trk : ∀ a, a ∈ w.io → H a ≠ none
  hl : ∀ a, a ∈ w.hs → ∃ vs, H a = some (.lst vs)
  obj : ∀ (k : Nat) (a : Addr) (o : SO), w.io[k]? = some a → st[k]? = some o → RO K w st H k a o
  tabs : LamX.Tabs K.fx.tb H
theorem RS.trkh {K : KX} {w : Wd} {st : Sto} {H : Hp} (R : RS K w st H) : ∀ a, a ∈ w.hs → H a ≠ none := fun a ha z => by
  obtain ⟨vs, e⟩ := R.hl a ha
  rw [e] at z
  cases z
/-- a list changes: the tables stay -/
theorem tabs_upd {T : List (Addr × Str)} {H : Hp} {a : Addr} {vs : List V} {o : HO} (t : LamX.Tabs T H) (h : H a = some (.lst vs)) : LamX.Tabs T (upd H a o) := fun p hp => by
  obtain ⟨ps, h1, h2, h3⟩ := t p hp
  refine ⟨ps, by rw [upd_ne (fun e => by rw [e, h] at h1; cases h1)]; exact h1, h2, fun pos cv hc => ?_⟩
  obtain ⟨c, e1, e2⟩ := h3 pos cv hc
  exact ⟨c, e1, by rw [upd_ne (fun e => by rw [e, h] at e2; cases e2)]; exact e2⟩
theorem tabs_new {T : List (Addr × Str)} {H : Hp} {a : Addr} {o : HO} (t : LamX.Tabs T H) (h : H a = none) : LamX.Tabs T (upd H a o) := t.ext fun b u e => by rw [upd_ne (ne_of_none e h)]; exact e
structure Tr (w : Wd) (st : Sto) (H : Hp) (w' : Wd) (st' : Sto) (H' : Hp) : Prop where
  hs : w'.hs = w.hs
  pre : w.io <+: w'.io
  keep : Kp (Zm w st) H (Zm w' st') H'
  hid : ∀ a, a ∈ w.hs → H' a = H a
section
variable {K : KX} {w w' w2 : Wd} {st st' st2 : Sto} {H H' H2 : Hp}
theorem Tr.refl : Tr w st H w st H := ⟨rfl, List.prefix_refl _, fun a o h _ z => ⟨h, z⟩, fun _ _ => rfl⟩
theorem Tr.trans (t : Tr w st H w' st' H') (u : Tr w' st' H' w2 st2 H2) : Tr w st H w2 st2 H2 :=
  ⟨u.hs.trans t.hs, t.pre.trans u.pre, fun a o h n z => u.keep a o (t.keep a o h n z).1 n (t.keep a o h n z).2, fun a ha => (u.hid a (by rw [t.hs]; exact ha)).trans (t.hid a ha)⟩
theorem pre_get {α : Type} {l l' : List α} (h : l <+: l') {k : Nat} {a : α} (e : l[k]? = some a) : l'[k]? = some a := by
  obtain ⟨t, rfl⟩ := h
  have hk : k < l.length := (List.getElem?_eq_some_iff.mp e).1
  rw [List.getElem?_append_left hk]; exact e
theorem Dv.mono {Z Z' : Addr → Prop} (k : Kp Z H Z' H') {ps : Arguments} {dv : Value} (d : Dv Z H ps dv) : Dv Z' H' ps dv := by
  rcases d with d | ⟨x, T, h1, h2, h3, h4⟩
  · exact .inl d
  · exact .inr ⟨x, T, h1, h2, k T _ h3 .tup h4⟩
theorem RF.mono (k : Kp (Zm w st) H (Zm w' st') H') {v : V} {j : Nat} (r : RA K w st H v (.f j)) : RA K w' st' H' v (.f j) := by
  obtain ⟨f, c', ps, b, sc, dv, rfl, h1, h2, h3, h4, h5, h6⟩ := r
  exact ⟨f, c', ps, b, sc, dv, rfl, h1, (k f _ h2 .ext h3).1, (k f _ h2 .ext h3).2, (k c' _ h4 .ext h5).1, (k c' _ h4 .ext h5).2, h6.mono k⟩
theorem RA.mono (t : Tr w st H w' st' H') {v : V} {a : A} (r : RA K w st H v a) : RA K w' st' H' v a := by
  cases a with
  | d x => exact RV.mono t.keep r
  | r k => obtain ⟨a, e, rfl⟩ := r; exact ⟨a, pre_get t.pre e, rfl⟩
  | f j => exact RF.mono t.keep r
theorem RAs.mono (t : Tr w st H w' st' H') : ∀ {vs : List V} {as : List A}, RAs K w st H vs as → RAs K w' st' H' vs as
  | _, _, .nil => .nil
  | _, _, .cons r s => .cons (r.mono t) (RAs.mono t s)
theorem RAs.length : ∀ {vs : List V} {as : List A}, RAs K w st H vs as → vs.length = as.length
  | _, _, .nil => rfl
  | _, _, .cons _ s => by simp [RAs.length s]
/-- a new thing that never changes is laid -/
theorem Tr.laid (R : RS K w st H) {p : Addr} {o : HO} (hp : H p = none) : Tr w st H w st (upd H p o) := by
  refine ⟨rfl, List.prefix_refl _, fun a u h _ z => ⟨?_, z⟩, fun a ha => ?_⟩
  · rw [upd_ne (ne_of_none h hp)]; exact h
  · refine upd_ne fun e => R.trkh a ha ?_
    rw [e]; exact hp
theorem Zm.trk (R : RS K w st H) {a : Addr} (z : Zm w st a) : H a ≠ none := by
  rcases z with z | ⟨k, o, h1, _⟩
  · exact R.trkh a z
  · exact R.trk a (List.mem_of_getElem? h1)
theorem Zm.notNew (R : RS K w st H) {p : Addr} (hp : H p = none) : ¬ Zm w st p := fun z => z.trk R hp
theorem RO.mono (R : RS K w st H) {p : Addr} {o : HO} (hp : H p = none) {k : Nat} {a : Addr} {x : SO} (r : RO K w st H k a x) : RO K w st (upd H p o) k a x := by
  cases x with
  | dead => trivial
  | lst ds =>
    obtain ⟨old, vs, h, r⟩ := r
    exact ⟨old, vs, by rw [upd_ne (ne_of_none h hp)]; exact h, r.mono (Tr.laid (o := o) R hp)⟩
theorem allD_ok : ∀ {as : List A} {vs : List V} {ds : List D}, RAs K w st H vs as → allD as = some ds → RVs K (Zm w st) H vs ds
  | _, _, ds, .nil, e => by simp only [allD] at e; cases e; exact .nil
  | a :: as, _, ds, .cons r t, e => by
    cases a with
    | r k => simp [allD] at e
    | f k => simp [allD] at e
    | d x =>
      simp only [allD, Option.map_eq_some_iff] at e
      obtain ⟨ds', e, rfl⟩ := e
      exact .cons r (allD_ok t e)
theorem RAs.append : ∀ {vs us : List V} {ds es : List A}, RAs K w st H vs ds → RAs K w st H us es → RAs K w st H (vs ++ us) (ds ++ es)
  | _, _, _, _, .nil, s => s
  | _, _, _, _, .cons r t, s => .cons r (RAs.append t s)
theorem RAs.set {v : V} {d : A} (r : RA K w st H v d) : ∀ {vs : List V} {ds : List A} (n : Nat), RAs K w st H vs ds → RAs K w st H (vs.set n v) (ds.set n d)
  | _, _, _, .nil => .nil
  | _, _, 0, .cons _ t => .cons r t
  | _, _, n + 1, .cons q t => .cons q (RAs.set r n t)
theorem RAs.get : ∀ {vs : List V} {ds : List A} {i : Nat} {d : A}, RAs K w st H vs ds → ds[i]? = some d → ∃ v, vs[i]? = some v ∧ RA K w st H v d
  | _, _, _, _, .nil, e => by simp at e
  | _, _, 0, _, .cons r _, e => by simp at e; subst e; exact ⟨_, rfl, r⟩
  | _, _, i + 1, d, .cons _ t, e => by
    obtain ⟨v, h1, h2⟩ := RAs.get (i := i) (d := d) t (by simpa using e)
    exact ⟨v, by simpa using h1, h2⟩
theorem RAs.of : ∀ {vs : List V} {ds : List D}, RVs K (Zm w st) H vs ds → RAs K w st H vs (ds.map A.d)
  | _, _, .nil => .nil
  | _, _, .cons r t => .cons r (RAs.of t)
theorem RAs.old (R : RS K w st H) : ∀ {vs : List V} {as : List A}, RAs K w st H vs as → old st.length as
  | _, _, .nil => fun j h => by cases h
  | _, _, .cons r t => fun j h => by
    rcases List.mem_cons.mp h with h | h
    · subst h
      obtain ⟨a, e, _⟩ := r
      have := (List.getElem?_eq_some_iff.mp e).1
      rw [R.len] at this
      exact this
    · exact RAs.old R t j h
theorem old_map (k : Nat) (ds : List D) : Sw.old k (ds.map A.d) := fun j h => by
  obtain ⟨d, _, e⟩ := List.mem_map.mp h
  cases e
theorem RS.laid (R : RS K w st H) {p : Addr} {o : HO} (hp : H p = none) : RS K w st (upd H p o) := by
  refine ⟨R.len, R.nd, R.dis, fun a ha => ?_, fun a ha => ?_, fun k a x h1 h2 => (R.obj k a x h1 h2).mono R hp, tabs_new R.tabs hp⟩
  · rw [upd_ne (fun e => R.trk a ha (by rw [e]; exact hp))]; exact R.trk a ha
  · rw [upd_ne (fun e => R.trkh a ha (by rw [e]; exact hp))]; exact R.hl a ha
end

/-! ### a run -/
/-- the classes of exceptions by number: where the class stands, its fields' names -/
abbrev XC := Nat → Option (Addr × List Str)
def RX (K : KX) (xc : XC) (w : Wd) (st : Sto) (H : Hp) (cls : Value) (dx : Option Addr) : Ex → Prop
  | .mk c ds => ∃ C ns, xc c = some (C, ns) ∧ cls = .ref C ∧ ((ns = [] ∧ ds = [] ∧ dx = none) ∨
      ∃ d fs, ns ≠ [] ∧ dx = some d ∧ H d = some (.xd fs) ∧ ¬ Zm w st d ∧ fs.map (·.1) = ns ∧ RVs K (Zm w st) H (fs.map (·.2)) ds)
def Run {α : Type} (K : KX) (xc : XC) (E : XK) (m : M α) (w : Wd) (st : Sto) (H : Hp) (P : α → Wd → Sto → Hp → Prop) : Prop :=
  ∃ r st', m st = some (r, st') ∧ match r with
    | .ok a => ∀ w' H', Tr w st H w' st' H' → RS K w' st' H' → P a w' st' H'
    | .error x => ∀ w' H' cls dx, Tr w st H w' st' H' → RS K w' st' H' → RX K xc w' st' H' cls dx x → E cls dx H'
section
variable {K : KX} {xc : XC} {E : XK} {w : Wd} {st : Sto} {H : Hp} {α β : Type}
theorem Run.bnd {m : M α} {f : α → M β} {P : β → Wd → Sto → Hp → Prop} (h : Run K xc E (bnd m f) w st H P) :
    Run K xc E m w st H fun a w1 st1 H1 => Run K xc E (f a) w1 st1 H1 P := by
  obtain ⟨r, st', e, q⟩ := h
  unfold Sw.bnd at e
  cases hm : m st with
  | none => rw [hm] at e; cases e
  | some p =>
    obtain ⟨r1, s1⟩ := p
    rw [hm] at e
    cases r1 with
    | error x =>
      cases e
      exact ⟨_, _, hm, q⟩
    | ok a =>
      refine ⟨_, _, hm, fun w1 H1 t1 R1 => ⟨r, st', e, ?_⟩⟩
      cases r with
      | ok b => exact fun w2 H2 t2 R2 => q w2 H2 (t1.trans t2) R2
      | error x => exact fun w2 H2 cls dx t2 R2 => q w2 H2 cls dx (t1.trans t2) R2
theorem Run.mono {m : M α} {P P' : α → Wd → Sto → Hp → Prop} (h : Run K xc E m w st H P) (hP : ∀ a w1 st1 H1, Tr w st H w1 st1 H1 → RS K w1 st1 H1 → P a w1 st1 H1 → P' a w1 st1 H1) : Run K xc E m w st H P' := by
  obtain ⟨r, st', e, q⟩ := h
  refine ⟨r, st', e, ?_⟩
  cases r with
  | ok a => exact fun w1 H1 t1 R1 => hP a w1 st' H1 t1 R1 (q w1 H1 t1 R1)
  | error x => exact q
theorem Run.ret {a : α} {P : α → Wd → Sto → Hp → Prop} (h : Run K xc E (ret a) w st H P) {w' : Wd} {H' : Hp} (t : Tr w st H w' st H') (R : RS K w' st H') : P a w' st H' := by
  obtain ⟨r, st', e, q⟩ := h
  cases e
  exact q w' H' t R
theorem Run.ret0 {a : α} {P : α → Wd → Sto → Hp → Prop} (h : Run K xc E (Sw.ret a) w st H P) (R : RS K w st H) : P a w st H := h.ret Tr.refl R
theorem Run.monoE {m : M α} {E' : XK} {P : α → Wd → Sto → Hp → Prop} (h : Run K xc E m w st H P) (hE : ∀ c d H, E c d H → E' c d H) : Run K xc E' m w st H P := by
  obtain ⟨r, st', e, q⟩ := h
  refine ⟨r, st', e, ?_⟩
  cases r with
  | ok a => exact q
  | error x => exact fun w1 H1 cls dx t1 R1 rx => hE _ _ _ (q w1 H1 cls dx t1 R1 rx)
theorem Run.of {m : M α} {a : α} {st' : Sto} (h : m st = some (.ok a, st')) : Run K xc E m w st H fun a' w' s' H' => a' = a ∧ s' = st' ∧ Tr w st H w' s' H' ∧ RS K w' s' H' :=
  ⟨_, _, h, fun w' H' t R => ⟨rfl, rfl, t, R⟩⟩
theorem Run.fail {P : α → Wd → Sto → Hp → Prop} (h : Run K xc E (fail : M α) w st H P) : False := by
  obtain ⟨r, st', e, q⟩ := h
  cases e
theorem Run.opt {o : Option α} {f : α → M β} {P : β → Wd → Sto → Hp → Prop} (h : Run K xc E (Sw.bnd (opt o) f) w st H P) : ∃ z, o = some z ∧ Run K xc E (f z) w st H P := by
  cases o with
  | none => exact (Run.fail (α := β) (P := P) h).elim
  | some z => exact ⟨z, rfl, h⟩
theorem Run.asD {a : A} {f : D → M β} {P : β → Wd → Sto → Hp → Prop} (h : Run K xc E (Sw.bnd (asD a) f) w st H P) : ∃ z, a = .d z ∧ Run K xc E (f z) w st H P := by
  cases a with
  | d z => exact ⟨z, rfl, h⟩
  | _ => exact (Run.fail (α := β) (P := P) h).elim
theorem Run.pk {a : A} {f : D → M β} {P : β → Wd → Sto → Hp → Prop} (R : RS K w st H) {v : V} (rv : RA K w st H v a) (h : Run K xc E (Sw.bnd (pk a) f) w st H P) : ∃ z, PV K (Zm w st) H v z ∧ Run K xc E (f z) w st H P := by
  cases a with
  | d z => exact ⟨z, .inl rv, h⟩
  | f k => exact (Run.fail (α := β) (P := P) h).elim
  | r k =>
    obtain ⟨a, e1, rfl⟩ := rv
    obtain ⟨r, st', e, q⟩ := h
    simp only [Sw.bnd, Sw.pk] at e
    cases hk : st[k]? with
    | none => rw [hk] at e; cases e
    | some o =>
      rw [hk] at e
      cases o with
      | dead => cases e
      | lst xs =>
        cases hd : allD xs with
        | none => simp only [hd] at e; cases e
        | some ds =>
          simp only [hd] at e
          obtain ⟨_, vs, h1, h2⟩ := R.obj k a _ e1 hk
          exact ⟨.lst ds, .inr ⟨a, vs, ds, rfl, rfl, h1, allD_ok h2 hd⟩, r, st', e, q⟩
end

def REnv (K : KX) (w : Wd) (st : Sto) (H : Hp) (σ : St) (env : Env) : Prop := env.length = σ.length ∧ ∀ i a, get env i = some a → ∃ v, σ[i]? = some (some v) ∧ RA K w st H v a
theorem REnv.mono {K : KX} {w w' : Wd} {st st' : Sto} {H H' : Hp} {σ : St} {env : Env} (t : Tr w st H w' st' H') (r : REnv K w st H σ env) : REnv K w' st' H' σ env :=
  ⟨r.1, fun i a e => let ⟨v, h1, h2⟩ := r.2 i a e; ⟨v, h1, h2.mono t⟩⟩
theorem get_put : ∀ (e : Env) (i j : Nat) (b : Option A), get (put e i b) j = if j = i ∧ i < e.length then b else get e j
  | [], i, j, b => by simp [put, get]
  | a :: r, 0, 0, b => by simp [put, get]
  | a :: r, 0, j + 1, b => by simp [put, get]
  | a :: r, i + 1, 0, b => by simp [put, get]
  | a :: r, i + 1, j + 1, b => by
    show get (put r i b) j = _
    rw [get_put r i j b]
    simp [get]
theorem put_len : ∀ (e : Env) (i : Nat) (b : Option A), (put e i b).length = e.length
  | [], _, _ => rfl
  | _ :: _, 0, _ => rfl
  | _ :: r, i + 1, b => by simp [put, put_len r i b]
theorem REnv.put {K : KX} {w : Wd} {st : Sto} {H : Hp} {σ : St} {env : Env} (r : REnv K w st H σ env) {v : V} {a : A} (rv : RA K w st H v a) (i : Nat) : REnv K w st H (σ.set i (some v)) (Sw.put env i (some a)) := by
  refine ⟨by rw [put_len, List.length_set]; exact r.1, fun j b e => ?_⟩
  rw [get_put] at e
  by_cases hj : j = i ∧ i < env.length
  · rw [if_pos hj] at e
    cases e
    obtain ⟨rfl, hl⟩ := hj
    exact ⟨v, List.getElem?_set_self (by rw [← r.1]; exact hl), rv⟩
  · rw [if_neg hj] at e
    obtain ⟨u, h1, h2⟩ := r.2 j b e
    refine ⟨u, ?_, h2⟩
    rw [List.getElem?_set_ne ?_]
    · exact h1
    · rintro rfl
      have := (List.getElem?_eq_some_iff.mp h1).1
      exact hj ⟨rfl, by rw [r.1]; exact this⟩
theorem REnv.wipe1 {K : KX} {w : Wd} {st : Sto} {H : Hp} {σ : St} {env : Env} (r : REnv K w st H σ env) (i : Nat) : REnv K w st H (σ.set i none) (Sw.put env i none) := by
  refine ⟨by rw [put_len, List.length_set]; exact r.1, fun j b e => ?_⟩
  rw [get_put] at e
  by_cases hj : j = i ∧ i < env.length
  · rw [if_pos hj] at e; cases e
  · rw [if_neg hj] at e
    obtain ⟨u, h1, h2⟩ := r.2 j b e
    refine ⟨u, ?_, h2⟩
    rw [List.getElem?_set_ne ?_]
    · exact h1
    · rintro rfl
      have := (List.getElem?_eq_some_iff.mp h1).1
      exact hj ⟨rfl, by rw [r.1]; exact this⟩
theorem REnv.wipe {K : KX} {w : Wd} {st : Sto} {H : Hp} {σ : St} {env : Env} (r : REnv K w st H σ env) : ∀ vs : List Nat, REnv K w st H (L2.wipe σ vs) (wip env vs)
  | [] => r
  | v :: vs => (REnv.wipe r vs).wipe1 v

/-! ### changes of the store -/
section
variable {K : KX} {w we : Wd} {st stE : Sto} {H He : Hp}
theorem Zm.sub {w w' : Wd} {st st' : Sto} (hh : ∀ a, a ∈ w.hs → a ∈ w'.hs) (ho : ∀ (k : Nat) (a : Addr) (o : SO), w.io[k]? = some a → st[k]? = some o → o ≠ SO.dead → Zm w' st' a) {a : Addr} (z : Zm w st a) : Zm w' st' a := by
  rcases z with z | ⟨k, o, h1, h2, h3⟩
  · exact .inl (hh a z)
  · exact ho k a o h1 h2 h3
theorem Kp.trans {Z Z' Z2 : Addr → Prop} {H H' H2 : Hp} (k : Kp Z H Z' H') (l : Kp Z' H' Z2 H2) : Kp Z H Z2 H2 := fun a o h n z => l a o (k a o h n z).1 n (k a o h n z).2
theorem Kp.shrink {Z Z' : Addr → Prop} {H : Hp} (h : ∀ a, Z' a → Z a) : Kp Z H Z' H := fun a o e _ z => ⟨e, fun q => z (h a q)⟩
theorem RA.monoK {w3 : Wd} {st3 : Sto} {H3 : Hp} (pre : w.io <+: w3.io) (k : Kp (Zm w st) H (Zm w3 st3) H3) {v : V} {a : A} (r : RA K w st H v a) : RA K w3 st3 H3 v a := by
  cases a with
  | d x => exact RV.mono k r
  | r k => obtain ⟨a, e, rfl⟩ := r; exact ⟨a, pre_get pre e, rfl⟩
  | f j => exact RF.mono k r
theorem RAs.monoK {w3 : Wd} {st3 : Sto} {H3 : Hp} (pre : w.io <+: w3.io) (k : Kp (Zm w st) H (Zm w3 st3) H3) : ∀ {vs : List V} {as : List A}, RAs K w st H vs as → RAs K w3 st3 H3 vs as
  | _, _, .nil => .nil
  | _, _, .cons r t => .cons (r.monoK pre k) (RAs.monoK pre k t)
theorem RO.monoK {w3 : Wd} {st3 : Sto} {H3 : Hp} (pre : w.io <+: w3.io) (k : Kp (Zm w st) H (Zm w3 st3) H3) {i : Nat} {a : Addr} (ha : H3 a = H a) {x : SO} (r : RO K w st H i a x) : RO K w3 st3 H3 i a x := by
  cases x with
  | dead => trivial
  | lst ds =>
    obtain ⟨old, vs, h, r⟩ := r
    exact ⟨old, vs, by rw [ha]; exact h, r.monoK pre k⟩
/-- into fewer lists: what is held is older -/
theorem RAs.less {w3 : Wd} {st3 : Sto} {H3 : Hp} {n : Nat} (pre : w3.io <+: w.io) (hn : n ≤ w3.io.length) (k : Kp (Zm w st) H (Zm w3 st3) H3) : ∀ {vs : List V} {as : List A}, RAs K w st H vs as → Sw.old n as → RAs K w3 st3 H3 vs as
  | _, _, .nil, _ => .nil
  | _, a :: as, .cons r t, o => by
    refine .cons ?_ (RAs.less pre hn k t fun j h => o j (List.mem_cons_of_mem _ h))
    cases a with
    | d x => exact RV.mono k r
    | f j => exact RF.mono k r
    | r j =>
      obtain ⟨ad, e, rfl⟩ := r
      have hj := o j List.mem_cons_self
      obtain ⟨t, ht⟩ := pre
      refine ⟨ad, ?_, rfl⟩
      rw [← ht, List.getElem?_append_left (by omega)] at e
      exact e
theorem get_take {α : Type} {l : List α} {n k : Nat} {a : α} (h : (l.take n)[k]? = some a) : l[k]? = some a ∧ k < n := by
  have hk := (List.getElem?_eq_some_iff.mp h).1
  rw [List.length_take] at hk
  rw [List.getElem?_take_of_lt (by omega)] at h
  exact ⟨h, by omega⟩
/-- what was laid behind st is let go -/
theorem out_trim (R : RS K w st H) (hs : ∀ a, a ∈ w.hs → a ∈ we.hs) (pre : w.io <+: we.io) (Re : RS K we stE He) (keep : Kp (Zm w st) H (Zm we stE) He) (hid : ∀ a, a ∈ w.hs → He a = H a) :
    Tr w st H w (stE.take st.length) He ∧ RS K w (stE.take st.length) He ∧ Kp (Zm we stE) He (Zm w (stE.take st.length)) He := by
  have sub : ∀ a, Zm w (stE.take st.length) a → Zm we stE a := fun a z => z.sub hs fun k a o h1 h2 h3 => .inr ⟨k, o, pre_get pre h1, (get_take h2).1, h3⟩
  have k2 : Kp (Zm we stE) He (Zm w (stE.take st.length)) He := Kp.shrink sub
  have hl : w.io.length ≤ stE.length := by
    have := pre.length_le
    rw [Re.len] at this
    exact this
  refine ⟨⟨rfl, List.prefix_refl _, keep.trans k2, hid⟩, ⟨?_, R.nd, R.dis, fun a ha => ?_, fun a ha => ?_, fun k a o h1 h2 => ?_, Re.tabs⟩, k2⟩
  · rw [List.length_take, R.len]
    have := R.len
    omega
  · exact Re.trk a (pre.subset ha)
  · exact Re.hl a (hs a ha)
  · have ro := Re.obj k a o (pre_get pre h1) (get_take h2).1
    cases o with
    | dead => trivial
    | lst as =>
      obtain ⟨ol, vs, h, r⟩ := ro
      have hk := (List.getElem?_eq_some_iff.mp h1).1
      exact ⟨ol, vs, h, r.less pre (by omega) k2 ol⟩
/-- a new list of the store -/
theorem out_new (R : RS K w st H) {p : Addr} {vs : List V} {xs : List A} (hp : H p = none) (r : RAs K w st H vs xs) :
    Tr w st H ⟨w.io ++ [p], w.hs⟩ (st ++ [.lst xs]) (upd H p (.lst vs)) ∧ RS K ⟨w.io ++ [p], w.hs⟩ (st ++ [.lst xs]) (upd H p (.lst vs)) ∧ (w.io ++ [p])[st.length]? = some p := by
  have np : p ∉ w.io := fun e => R.trk p e hp
  have nh : p ∉ w.hs := fun e => R.trkh p e hp
  have zz : ∀ a, Zm ⟨w.io ++ [p], w.hs⟩ (st ++ [.lst xs]) a → a = p ∨ Zm w st a := fun a z => by
    rcases z with z | ⟨k, o, h1, h2, h3⟩
    · exact .inr (.inl z)
    · by_cases hk : k < w.io.length
      · rw [List.getElem?_append_left hk] at h1
        rw [List.getElem?_append_left (by rw [← R.len]; exact hk)] at h2
        exact .inr (.inr ⟨k, o, h1, h2, h3⟩)
      · have hk2 := (List.getElem?_eq_some_iff.mp h1).1
        simp only [List.length_append, List.length_cons, List.length_nil] at hk2
        have : k = w.io.length := by omega
        subst this
        simp at h1
        exact .inl h1.symm
  have kp : Kp (Zm w st) H (Zm ⟨w.io ++ [p], w.hs⟩ (st ++ [.lst xs])) (upd H p (.lst vs)) := fun a o h _ z => by
    have ne : a ≠ p := ne_of_none h hp
    refine ⟨by rw [upd_ne ne]; exact h, fun q => ?_⟩
    rcases zz a q with q | q
    · exact ne q
    · exact z q
  refine ⟨⟨rfl, List.prefix_append _ _, kp, fun a ha => upd_ne fun e => nh (e ▸ ha)⟩, ⟨by simp [R.len], ?_, fun a ha hb => ?_, fun a ha => ?_, fun a ha => ?_, fun k a o h1 h2 => ?_, tabs_new R.tabs hp⟩, by rw [← R.len]; simp⟩
  · rw [List.nodup_append]
    exact ⟨R.nd, by simp, fun a ha b hb => by simp at hb; subst hb; rintro rfl; exact np ha⟩
  · rcases List.mem_append.mp hb with hb | hb
    · exact R.dis a ha hb
    · simp at hb; subst hb; exact nh ha
  · rcases List.mem_append.mp ha with ha | ha
    · rw [upd_ne (fun e : a = p => np (e ▸ ha))]; exact R.trk a ha
    · simp at ha; subst ha; rw [upd_same]; simp
  · rw [upd_ne (fun e : a = p => nh (e ▸ ha))]; exact R.hl a ha
  · by_cases hk : k < w.io.length
    · have h1 : (w.io ++ [p])[k]? = some a := h1
      rw [List.getElem?_append_left hk] at h1
      rw [List.getElem?_append_left (by rw [← R.len]; exact hk)] at h2
      exact (R.obj k a o h1 h2).monoK (List.prefix_append _ _) kp (upd_ne fun e => np (e ▸ List.mem_of_getElem? h1))
    · have h1 : (w.io ++ [p])[k]? = some a := h1
      have hk2 := (List.getElem?_eq_some_iff.mp h1).1
      simp only [List.length_append, List.length_cons, List.length_nil] at hk2
      have : k = w.io.length := by omega
      subst this
      rw [R.len] at h2 ⊢
      simp at h1 h2
      subst h1 h2
      exact ⟨r.old R, vs, upd_same, r.monoK (List.prefix_append _ _) kp⟩
theorem io_inj (R : RS K w st H) {i j : Nat} {a : Addr} (h1 : w.io[i]? = some a) (h2 : w.io[j]? = some a) : i = j := by
  obtain ⟨g1, e1⟩ := List.getElem?_eq_some_iff.mp h1
  obtain ⟨g2, e2⟩ := List.getElem?_eq_some_iff.mp h2
  exact (List.getElem_inj R.nd).mp (e1.trans e2.symm)
/-- a list of the store is changed -/
theorem out_chg (R : RS K w st H) {k : Nat} {a : Addr} {vs : List V} {xs ys : List A} (ha : w.io[k]? = some a) (hk : st[k]? = some (.lst xs)) (r : RAs K w st H vs ys) (ol : Sw.old k ys) :
    Tr w st H w (st.set k (.lst ys)) (upd H a (.lst vs)) ∧ RS K w (st.set k (.lst ys)) (upd H a (.lst vs)) := by
  have za : Zm w st a := .inr ⟨k, _, ha, hk, by simp⟩
  have zz : ∀ b, Zm w (st.set k (.lst ys)) b → Zm w st b := fun b z => z.sub (fun _ q => q) fun j b o h1 h2 h3 => by
    by_cases hj : j = k
    · subst hj; rw [ha] at h1; cases h1; exact za
    · rw [List.getElem?_set_ne (Ne.symm hj)] at h2; exact .inr ⟨j, o, h1, h2, h3⟩
  have kp : Kp (Zm w st) H (Zm w (st.set k (.lst ys))) (upd H a (.lst vs)) := fun b o h _ z => ⟨by rw [upd_ne (fun e : b = a => z (e.symm ▸ za))]; exact h, fun q => z (zz b q)⟩
  refine ⟨⟨rfl, List.prefix_refl _, kp, fun b hb => upd_ne fun e => R.dis b hb (e ▸ List.mem_of_getElem? ha)⟩, ⟨by simp [R.len], R.nd, R.dis, fun b hb => ?_, fun b hb => ?_, fun j b o h1 h2 => ?_, by
    obtain ⟨_, vs0, h0, _⟩ := R.obj k a _ ha hk
    exact tabs_upd R.tabs h0⟩⟩
  · by_cases e : b = a
    · subst e; rw [upd_same]; simp
    · rw [upd_ne e]; exact R.trk b hb
  · rw [upd_ne (fun e : b = a => R.dis b hb (e.symm ▸ List.mem_of_getElem? ha))]; exact R.hl b hb
  · by_cases hj : j = k
    · subst hj
      rw [ha] at h1; cases h1
      rw [List.getElem?_set_self (by exact (List.getElem?_eq_some_iff.mp hk).1)] at h2
      cases h2
      exact ⟨ol, vs, upd_same, r.monoK (List.prefix_refl _) kp⟩
    · rw [List.getElem?_set_ne (Ne.symm hj)] at h2
      exact (R.obj j b o h1 h2).monoK (List.prefix_refl _) kp (upd_ne fun e : b = a => hj (io_inj R h1 (e.symm ▸ ha)))
/-- a list of the store stands still from here on -/
theorem out_frz (R : RS K w st H) {k : Nat} {a : Addr} {as : List A} {xs : List D} (ha : w.io[k]? = some a) (hk : st[k]? = some (.lst as)) (hd : allD as = some xs) :
    Tr w st H w (st.set k .dead) H ∧ RS K w (st.set k .dead) H ∧ RV K (Zm w (st.set k .dead)) H (.ref a) (.lst xs) := by
  have zz : ∀ b, Zm w (st.set k .dead) b → Zm w st b ∧ b ≠ a := fun b z => by
    rcases z with z | ⟨j, o, h1, h2, h3⟩
    · exact ⟨.inl z, fun e => R.dis b z (e ▸ List.mem_of_getElem? ha)⟩
    · by_cases hj : j = k
      · subst hj
        rw [List.getElem?_set_self (by exact (List.getElem?_eq_some_iff.mp hk).1)] at h2
        cases h2
        exact absurd rfl h3
      · rw [List.getElem?_set_ne (Ne.symm hj)] at h2
        exact ⟨.inr ⟨j, o, h1, h2, h3⟩, fun e => hj (io_inj R h1 (e ▸ ha))⟩
  have kp : Kp (Zm w st) H (Zm w (st.set k .dead)) H := Kp.shrink fun b q => (zz b q).1
  obtain ⟨_, vs, hv, rv0⟩ := R.obj k a _ ha hk
  have rv := allD_ok rv0 hd
  refine ⟨⟨rfl, List.prefix_refl _, kp, fun _ _ => rfl⟩, ⟨by simp [R.len], R.nd, R.dis, R.trk, R.hl, fun j b o h1 h2 => ?_, R.tabs⟩, .lst hv (fun q => (zz a q).2 rfl) (rv.mono kp)⟩
  by_cases hj : j = k
  · subst hj
    rw [List.getElem?_set_self (by exact (List.getElem?_eq_some_iff.mp hk).1)] at h2
    cases h2
    trivial
  · rw [List.getElem?_set_ne (Ne.symm hj)] at h2
    exact (R.obj j b o h1 h2).monoK (List.prefix_refl _) kp rfl
end

/-! ### readings -/
section
variable (K : KX) (xc : XC) (C : CL) (G : Nat → Option D) (W : WX)
def tE (e : E) : TE := fun σ H Q => ∃ w st env, RS K w st H ∧ REnv K w st H σ env ∧ Run K xc (WE W σ) (evE C G e env) w st H fun a w' st' H' => ∀ v, RA K w' st' H' v a → Q v H'
def tT (e : E) : TT := fun σ H Q => ∃ w st env, RS K w st H ∧ REnv K w st H σ env ∧ Run K xc (WE W σ) (evE C G e env) w st H fun a w' st' H' => ∃ b, tru a = some b ∧ Q b H'
def tL (es : EL) : TA := fun σ H Q => ∃ w st env, RS K w st H ∧ REnv K w st H σ env ∧ Run K xc (WE W σ) (evL C G es env) w st H fun ds w' st' H' => ∀ vs, RVs K (Zm w' st') H' vs ds → Q vs H'
def tA (es : EL) : TA := fun σ H Q => ∃ w st env, RS K w st H ∧ REnv K w st H σ env ∧ Run K xc (WE W σ) (evA C G es env) w st H fun as w' st' H' => ∀ vs, RAs K w' st' H' vs as → Q vs H'
/-- what an iterator yields -/
def Wk (J : It) (w : Wd) (st : Sto) (H : Hp) (xs : List D) : Prop := ∀ (i : Nat) w' st' H', Kp (Zm w st) H (Zm w' st') H' → RS K w' st' H' →
  (∀ x, xs[i]? = some x → J.go i H' ∧ ∀ v H2, J.yld i H' v H2 → Tr w' st' H' w' st' H2 ∧ RS K w' st' H2 ∧ RV K (Zm w' st') H2 v x) ∧ (xs.length ≤ i → J.stop i H')
def tI (it : I) : TI := fun σ H R => ∃ w st env, RS K w st H ∧ REnv K w st H σ env ∧ Run K xc (WE W σ) (evI C G it env) w st H fun xs w' st' H' => ∀ J, Wk K J w' st' H' xs → R J H'
/-- what a def promises: what the function c says -/
def spC (c : List A → M A) : Sp := fun vs H Q E => ∃ w st as, RS K w st H ∧ RAs K w st H vs as ∧ Run K xc E (c as) w st H fun a w' st' H' => ∀ v, RA K w' st' H' v a → Q v H'
end
theorem PE.imp {X : Cx} {e : Expr} {t t' : TE} (h : PE X e t) (i : ∀ σ H Q, t' σ H Q → t σ H Q) : PE X e t' := ⟨fun pins s σ H Q I q => h.run pins s σ H Q I (i σ H Q q)⟩
theorem PT.imp {X : Cx} {e : Expr} {t t' : TT} (h : PT X e t) (i : ∀ σ H Q, t' σ H Q → t σ H Q) : PT X e t' := ⟨fun pins s σ H Q I q => h.run pins s σ H Q I (i σ H Q q)⟩
theorem PA.imp {X : Cx} {e : List Expr} {t t' : TA} (h : PA X e t) (i : ∀ σ H Q, t' σ H Q → t σ H Q) : PA X e t' := ⟨fun pos pins s σ H Q I q => h.run pos pins s σ H Q I (i σ H Q q)⟩
theorem PS.imp {X : Cx} {e : Stmt} {t t' : TS} (h : PS X e t) (i : ∀ D σ H, t' D σ H → t D σ H) : PS X e t' := ⟨fun pins s σ H D I q => h.run pins s σ H D I (i D σ H q)⟩
theorem PI.imp {X : Cx} {tg e : Expr} {t t' : TI} (h : PI X tg e t) (i : ∀ σ H Q, t' σ H Q → t σ H Q) : PI X tg e t' := ⟨fun pins s σ H Q I q => h.run pins s σ H Q I (i σ H Q q)⟩
end Sw
/-! Values: the operators' rules -/
namespace Sw
open PySem PySem.Spec L2

section
variable {K : PySem.W.Frag} {Z : Addr → Prop} {H : Hp} {v : V} {d : D}
theorem KTup.sq {a : Addr} {xs : List V} (h : KTup K a xs) : SqT K H a xs := h.elim (fun r => by rcases r with r | ⟨_, r⟩ <;> cases r) .inr
theorem KLst.sq {a : Addr} {xs : List V} (h : KLst K a xs) : SqL K H a xs := h.elim (fun r => by rcases r with r | ⟨_, r⟩ <;> cases r) .inr
theorem RV.tup_ {ds : List D} (r : RV K Z H v (.tup ds)) : ∃ a vs, v = .ref a ∧ SqT K H a vs ∧ RVs K Z H vs ds := by
  cases r with
  | tup h z t => exact ⟨_, _, rfl, .inl h, t⟩
  | tupK h t => exact ⟨_, _, rfl, h.sq, t⟩
theorem PV.tup {ds : List D} (r : PV K Z H v (.tup ds)) : ∃ a vs, v = .ref a ∧ SqT K H a vs ∧ RVs K Z H vs ds := by
  rcases r with r | ⟨_, _, _, _, e, _⟩
  · exact r.tup_
  · cases e
theorem PV.lst {ds : List D} (r : PV K Z H v (.lst ds)) : ∃ a vs, v = .ref a ∧ H a = some (.lst vs) ∧ RVs K Z H vs ds := by
  rcases r with r | ⟨a, vs, ds', e0, e, h, t⟩
  · cases r with
    | lst h z t => exact ⟨_, _, rfl, h, t⟩
  · cases e; exact ⟨a, vs, e0, h, t⟩
theorem RV.scr_ {ns : List Int} (r : RV K Z H v (.scr ns)) : ∃ a, v = .ref a ∧ SqL K H a (ns.map V.int) := by
  cases r with
  | scr h z => exact ⟨_, rfl, .inl h⟩
  | scrK h => exact ⟨_, rfl, h.sq⟩
theorem PV.scr {ns : List Int} (r : PV K Z H v (.scr ns)) : ∃ a, v = .ref a ∧ SqL K H a (ns.map V.int) := by
  rcases r with r | ⟨_, _, _, _, e, _⟩
  · exact r.scr_
  · cases e
theorem PV.dct {ks : List Key} {ds : List D} (r : PV K Z H v (.dct ks ds)) : ∃ a o kvs, v = .ref a ∧ H a = some (.frz o (.dK kvs)) ∧ ¬ Z a ∧ kvs.map (·.1) = ks ∧ ks.all keyOk = true ∧ RVs K Z H (kvs.map (·.2)) ds := by
  rcases r with r | ⟨_, _, _, _, e, _⟩
  · cases r with | dct h z e q t => exact ⟨_, _, _, rfl, h, z, e, q, t⟩
  · cases e
theorem PV.int {i : Int} (r : PV K Z H v (.int i)) : v = .int i := by
  rcases r with r | ⟨_, _, _, _, e, _⟩
  · cases r; rfl
  · cases e
theorem PV.bl {i : Bool} (r : PV K Z H v (.bl i)) : v = .bl i := by
  rcases r with r | ⟨_, _, _, _, e, _⟩
  · cases r; rfl
  · cases e
theorem PV.str {i : Str} (r : PV K Z H v (.str i)) : v = .str i ∧ PyData.strOk i = true := by
  rcases r with r | ⟨_, _, _, _, e, _⟩
  · cases r with | str h => exact ⟨rfl, h⟩
  · cases e
theorem PV.non (r : PV K Z H v .non) : v = .non := by
  rcases r with r | ⟨_, _, _, _, e, _⟩
  · cases r; rfl
  · cases e
theorem RVs.map_int : ∀ {vs : List V} {ds : List D} {ns : List Int}, RVs K Z H vs ds → D.ints ds = some ns → vs = ns.map V.int
  | _, _, ns, .nil, e => by simp [D.ints] at e; subst e; rfl
  | _, _, ns, .cons r t, e => by
    cases r with
    | int i =>
      simp only [D.ints, Option.map_eq_some_iff] at e
      obtain ⟨ms, e1, rfl⟩ := e
      rw [RVs.map_int t e1]; rfl
    | _ => simp [D.ints] at e
theorem RVs.map_bl : ∀ {vs : List V} {ds : List D} {ns : List Bool}, RVs K Z H vs ds → D.bls ds = some ns → vs = ns.map V.bl
  | _, _, ns, .nil, e => by simp [D.bls] at e; subst e; rfl
  | _, _, ns, .cons r t, e => by
    cases r with
    | bl i =>
      simp only [D.bls, Option.map_eq_some_iff] at e
      obtain ⟨ms, e1, rfl⟩ := e
      rw [RVs.map_bl t e1]; rfl
    | _ => simp [D.bls] at e
end

/-! ### equality -/
mutual
def D.py : D → PyData
  | .non => .none
  | .bl b => .bool b
  | .int i => .int i
  | .str s => .str s
  | .tup xs => .tuple (D.pys xs)
  | .lst xs => .list (D.pys xs)
  | .scr ns => .list (ns.map PyData.int)
  | .dct _ _ => .none
def D.pys : List D → List PyData
  | [] => []
  | x :: xs => D.py x :: D.pys xs
end
mutual
theorem eqv_py : ∀ (a b : D) (j k : Nat), D.ok j a = true → D.ok k b = true → PyData.eqv a.py b.py = D.eqv a b
  | .scr _, _, j, _, h, _ => by cases j <;> simp [D.ok] at h
  | _, .scr _, _, k, _, h => by cases k <;> simp [D.ok] at h
  | .dct _ _, _, j, _, h, _ => by cases j <;> simp [D.ok] at h
  | _, .dct _ _, _, k, _, h => by cases k <;> simp [D.ok] at h
  | .tup xs, .tup ys, j, k, h, h' => by
    cases j with
    | zero => simp [D.ok] at h
    | succ j => cases k with
      | zero => simp [D.ok] at h'
      | succ k =>
        simp only [D.py, PyData.eqv, D.eqv]
        exact eqvs_py xs ys j k (by simpa [D.ok] using h) (by simpa [D.ok] using h')
  | .lst xs, .lst ys, j, k, h, h' => by
    cases j with
    | zero => simp [D.ok] at h
    | succ j => cases k with
      | zero => simp [D.ok] at h'
      | succ k =>
        simp only [D.py, PyData.eqv, D.eqv]
        exact eqvs_py xs ys j k (by simpa [D.ok] using h) (by simpa [D.ok] using h')
  | .non, .non, _, _, _, _ => by simp [D.py, PyData.eqv, D.eqv]
  | .non, .bl _, _, _, _, _ => by simp [D.py, PyData.eqv, D.eqv]
  | .non, .int _, _, _, _, _ => by simp [D.py, PyData.eqv, D.eqv]
  | .non, .str _, _, _, _, _ => by simp [D.py, PyData.eqv, D.eqv]
  | .non, .tup _, _, _, _, _ => by simp [D.py, PyData.eqv, D.eqv]
  | .non, .lst _, _, _, _, _ => by simp [D.py, PyData.eqv, D.eqv]
  | .bl _, .non, _, _, _, _ => by simp [D.py, PyData.eqv, D.eqv]
  | .bl _, .bl _, _, _, _, _ => by simp [D.py, PyData.eqv, D.eqv]
  | .bl _, .int _, _, _, _, _ => by simp [D.py, PyData.eqv, D.eqv]
  | .bl _, .str _, _, _, _, _ => by simp [D.py, PyData.eqv, D.eqv]
  | .bl _, .tup _, _, _, _, _ => by simp [D.py, PyData.eqv, D.eqv]
  | .bl _, .lst _, _, _, _, _ => by simp [D.py, PyData.eqv, D.eqv]
  | .int _, .non, _, _, _, _ => by simp [D.py, PyData.eqv, D.eqv]
  | .int _, .bl _, _, _, _, _ => by simp [D.py, PyData.eqv, D.eqv]
  | .int _, .int _, _, _, _, _ => by simp [D.py, PyData.eqv, D.eqv]
  | .int _, .str _, _, _, _, _ => by simp [D.py, PyData.eqv, D.eqv]
  | .int _, .tup _, _, _, _, _ => by simp [D.py, PyData.eqv, D.eqv]
  | .int _, .lst _, _, _, _, _ => by simp [D.py, PyData.eqv, D.eqv]
  | .str _, .non, _, _, _, _ => by simp [D.py, PyData.eqv, D.eqv]
  | .str _, .bl _, _, _, _, _ => by simp [D.py, PyData.eqv, D.eqv]
  | .str _, .int _, _, _, _, _ => by simp [D.py, PyData.eqv, D.eqv]
  | .str _, .str _, _, _, _, _ => by simp [D.py, PyData.eqv, D.eqv]
  | .str _, .tup _, _, _, _, _ => by simp [D.py, PyData.eqv, D.eqv]
  | .str _, .lst _, _, _, _, _ => by simp [D.py, PyData.eqv, D.eqv]
  | .tup _, .non, _, _, _, _ => by simp [D.py, PyData.eqv, D.eqv]
  | .tup _, .bl _, _, _, _, _ => by simp [D.py, PyData.eqv, D.eqv]
  | .tup _, .int _, _, _, _, _ => by simp [D.py, PyData.eqv, D.eqv]
  | .tup _, .str _, _, _, _, _ => by simp [D.py, PyData.eqv, D.eqv]
  | .tup _, .lst _, _, _, _, _ => by simp [D.py, PyData.eqv, D.eqv]
  | .lst _, .non, _, _, _, _ => by simp [D.py, PyData.eqv, D.eqv]
  | .lst _, .bl _, _, _, _, _ => by simp [D.py, PyData.eqv, D.eqv]
  | .lst _, .int _, _, _, _, _ => by simp [D.py, PyData.eqv, D.eqv]
  | .lst _, .str _, _, _, _, _ => by simp [D.py, PyData.eqv, D.eqv]
  | .lst _, .tup _, _, _, _, _ => by simp [D.py, PyData.eqv, D.eqv]
theorem eqvs_py : ∀ (a b : List D) (j k : Nat), D.oks j a = true → D.oks k b = true → PyData.eqvAll (D.pys a) (D.pys b) = D.eqvs a b
  | [], [], _, _, _, _ => by simp [D.pys, PyData.eqvAll, D.eqvs]
  | [], _ :: _, _, _, _, _ => by simp [D.pys, PyData.eqvAll, D.eqvs]
  | _ :: _, [], _, _, _, _ => by simp [D.pys, PyData.eqvAll, D.eqvs]
  | x :: xs, y :: ys, j, k, h, h' => by
    simp only [D.oks, Bool.and_eq_true] at h h'
    simp only [D.pys, PyData.eqvAll, D.eqvs]
    rw [eqv_py x y j k h.1 h'.1, eqvs_py xs ys j k h.2 h'.2]
end
section
variable {K : PySem.W.Frag} {Z : Addr → Prop} {H : Hp}
mutual
theorem RV.py : ∀ {v : V} {d : D} {k : Nat}, RV K Z H v d → D.ok k d = true → Dp K H v d.py ∧ d.py.canLay0 = true ∧ d.py.depth ≤ k
  | _, _, _, .non, _ => ⟨by rw [D.py]; exact .non, by simp [D.py, PyData.canLay0], by simp [D.py, PyData.depth]⟩
  | _, _, _, .bl b, _ => ⟨by rw [D.py]; exact .bl b, by simp [D.py, PyData.canLay0], by simp [D.py, PyData.depth]⟩
  | _, _, _, .int i, _ => ⟨by rw [D.py]; exact .int i, by simp [D.py, PyData.canLay0], by simp [D.py, PyData.depth]⟩
  | _, _, _, .str h, _ => ⟨by rw [D.py]; exact .str _, by simp [D.py, PyData.canLay0, h], by simp [D.py, PyData.depth]⟩
  | _, _, 0, .tup r z t, h => by simp [D.ok] at h
  | _, _, k + 1, .tup r z t, h => by
    obtain ⟨h1, h2, h3⟩ := RVs.py (k := k) t (by simpa [D.ok] using h)
    exact ⟨by rw [D.py]; exact .tup (.inl r) h1, by simpa [D.py, PyData.canLay0] using h2, by simpa [D.py, PyData.depth] using h3⟩
  | _, _, 0, .tupK r t, h => by simp [D.ok] at h
  | _, _, k + 1, .tupK r t, h => by
    obtain ⟨h1, h2, h3⟩ := RVs.py (k := k) t (by simpa [D.ok] using h)
    exact ⟨by rw [D.py]; exact .tup (r.sq) h1, by simpa [D.py, PyData.canLay0] using h2, by simpa [D.py, PyData.depth] using h3⟩
  | _, _, 0, .lst r z t, h => by simp [D.ok] at h
  | _, _, k + 1, .lst r z t, h => by
    obtain ⟨h1, h2, h3⟩ := RVs.py (k := k) t (by simpa [D.ok] using h)
    exact ⟨by rw [D.py]; exact .lst (.inl (.inl r)) h1, by simpa [D.py, PyData.canLay0] using h2, by simpa [D.py, PyData.depth] using h3⟩
  | _, _, 0, .scr r z, h => by simp [D.ok] at h
  | _, _, k + 1, .scr r z, h => by simp [D.ok] at h
  | _, _, 0, .scrK r, h => by simp [D.ok] at h
  | _, _, k + 1, .scrK r, h => by simp [D.ok] at h
  | _, _, 0, .dct .., h => by simp [D.ok] at h
  | _, _, k + 1, .dct .., h => by simp [D.ok] at h
theorem RVs.py : ∀ {vs : List V} {ds : List D} {k : Nat}, RVs K Z H vs ds → D.oks k ds = true → DpAll K H vs (D.pys ds) ∧ PyData.canLayAll0 (D.pys ds) = true ∧ PyData.depthAll (D.pys ds) ≤ k
  | _, _, _, .nil, _ => ⟨by rw [D.pys]; exact .nil, by simp [D.pys, PyData.canLayAll0], by simp [D.pys, PyData.depthAll]⟩
  | _, _, k, .cons r t, h => by
    simp only [D.oks, Bool.and_eq_true] at h
    obtain ⟨h1, h2, h3⟩ := RV.py (k := k) r h.1
    obtain ⟨g1, g2, g3⟩ := RVs.py (k := k) t h.2
    exact ⟨by rw [D.pys]; exact .cons h1 g1, by simp [D.pys, PyData.canLayAll0, h2, g2], by simp only [D.pys, PyData.depthAll]; omega⟩
end
theorem PV.py {v : V} {d : D} {k : Nat} (r : PV K Z H v d) (h : D.ok k d = true) : Dp K H v d.py ∧ d.py.canLay0 = true ∧ d.py.depth ≤ k := by
  rcases r with r | ⟨a, vs, ds, rfl, rfl, h1, t⟩
  · exact r.py h
  · cases k with
    | zero => simp [D.ok] at h
    | succ k =>
      obtain ⟨g1, g2, g3⟩ := RVs.py (k := k) t (by simpa [D.ok] using h)
      exact ⟨by rw [D.py]; exact .lst (.inl (.inl h1)) g1, by simpa [D.py, PyData.canLay0] using g2, by simpa [D.py, PyData.depth] using g3⟩
theorem PV.shaped {v : V} {d : D} (r : PV K Z H v d) (h : D.ok 60 d = true) : Dp K H v d.py ∧ SeqAt.shaped d.py = true := by
  obtain ⟨h1, h2, h3⟩ := r.py h
  refine ⟨h1, ?_⟩
  unfold SeqAt.shaped
  rw [h2, Bool.true_and]
  exact decide_eq_true (by omega)
end

/-! ### operators -/
section
variable {X : Cx}
open PyProof.Rows in
theorem op_inT (hu : X.A.units + 65 < cLine) (neg : Bool) : OpR X (compareOp (if neg then .NotIn else .In)) (fun x y H Q => ∃ d ds, Dp X.K H x d ∧ Dp X.K H y (.tuple ds) ∧ SeqAt.shaped d = true ∧ SeqAt.shaped (.tuple ds) = true ∧ Q (.bl (if neg then !ds.any fun z => PyData.eqv z d else ds.any fun z => PyData.eqv z d)) H) := by
  intro pins s0 τ H0 one all v1 v2 Q inv k1 k2 ⟨e, es, p1, p2, g1, g2, q⟩
  obtain ⟨_, t1⟩ := Dp.reads inv e one v1 p1 k1
  obtain ⟨_, t2⟩ := Dp.reads inv (.tuple es) all v2 p2 k2
  have l1 := SeqAt.canLay_of_shaped g1
  have l2 := SeqAt.canLay_of_shaped g2
  cases neg
  · exact SeqAt.in_tuple_reads t2 t1 l2 l1 (PyProof.Rows.room_in_shaped g1 hu) ⟨.bl _, H0, inv, rfl, q⟩
  · exact SeqAt.notIn_tuple_reads t2 t1 l2 l1 (PyProof.Rows.room_in_shaped g1 hu) ⟨.bl _, H0, inv, rfl, q⟩
open PyProof.Rows in
theorem op_mulX : OpR X (binaryOp .Mult) (rI IntMulOk fun i j => .int (i * j)) := opI fun _ _ _ _ _ _ _ hc q => mul_int q hc
open PyProof.Rows in
theorem iop_mulX : OpR X (inplaceOp .Mult) (rI IntMulOk fun i j => .int (i * j)) := opI fun _ _ _ _ _ _ _ hc q => imul_int q hc
open PyProof.Rows in
theorem okMul_ok {i j : Int} (h : okMul i j = true) : IntMulOk i j := by
  unfold okMul at h
  rw [Bool.or_eq_true, Bool.or_eq_true] at h
  rcases h with (h | h) | h
  · have := of_decide_eq_true h
    exact CMul.ok (.inl ⟨by omega, by omega⟩)
  · have := of_decide_eq_true h
    exact CMul.ok (.inr ⟨by omega, by omega⟩)
  · exact CMulW.ok (of_decide_eq_true (p := i.natAbs.log2 + j.natAbs.log2 < 1000000) h)
theorem iop_fdivX : OpR X (inplaceOp .FloorDiv) (rI CDivW fun n m => .int (n / m)) := opI fun n m _ _ _ _ _ ⟨pos, small⟩ q => by
  have nz : m ≠ 0 := Int.ne_of_gt pos
  rw [← Int.fdiv_eq_ediv_of_nonneg n (Int.le_of_lt pos)] at q
  exact PyProof.Rows.ifloordiv_int nz q (.inl (PyProof.noPylong_of_log2 small))
def bo : BOp → Operator
  | .add => .Add
  | .sub => .Sub
  | .mul => .Mult
  | .fdiv => .FloorDiv
  | .mod => .Mod
  | .pow => .Pow
def rStr : R2 := fun x y H Q => ∃ i j, x = .str i ∧ y = .str j ∧ i.length + j.length ≤ sizeLine ∧ Q (.str (i ++ j)) H
def rB (K : PySem.W.Frag) : BOp → R2
  | .add => fun x y H Q => (rI0 (fun i j => .int (i + j)) x y H Q ∨ rStr x y H Q) ∨ rCat x y H Q ∨ rCatA K x y H Q
  | .sub => rI0 fun i j => .int (i - j)
  | .mul => fun x y H Q => ((rI IntMulOk (fun i j => .int (i * j)) x y H Q ∨ rRep x y H Q) ∨ rRepT K x y H Q) ∨ rRep01 K x y H Q
  | .fdiv => rI CDivW fun i j => .int (i / j)
  | .mod => rI (fun _ j => j ≠ 0) fun i j => .int (i.fmod j)
  | .pow => rI CPow fun i j => .int (i ^ j.toNat)
theorem opB (o : BOp) : OpR X (binaryOp (bo o)) (rB X.K o) := by
  cases o with
  | add => exact (op_add.or op_add_str).or (op_cat.or op_catA)
  | sub => exact op_sub
  | mul => exact ((op_mulX.or op_rep).or op_repT).or op_rep01
  | fdiv => exact op_fdivW
  | mod => exact op_modN
  | pow => exact op_pow
/-- what an operator gives is asked of the reading that is left -/
def FinQ (K : PySem.W.Frag) (Z : Addr → Prop) (H : Hp) (z : D) (Q : VK) : Prop := (∀ v, RV K Z H v z → Q v H) ∧ (∀ p o v, H p = none → RV K Z (upd H p o) v z → Q v (upd H p o))
theorem strOk_app {a b : Str} (h : PyData.strOk a = true) (h' : PyData.strOk b = true) : PyData.strOk (a ++ b) = true := by
  unfold PyData.strOk at *
  have e : (a ++ b).cps = a.cps ++ b.cps := rfl
  rw [e, Array.all_append, h, h']; rfl
theorem RVs.rep {K : PySem.W.Frag} {Z : Addr → Prop} {H : Hp} {vs : List V} {ds : List D} (r : RVs K Z H vs ds) : ∀ n : Nat, RVs K Z H (List.replicate n vs).flatten (List.replicate n ds).flatten
  | 0 => .nil
  | n + 1 => by
    rw [List.replicate_succ, List.replicate_succ, List.flatten_cons, List.flatten_cons]
    exact r.append (RVs.rep r n)
theorem bop_ok {K : KX} {w : Wd} {st : Sto} {H : Hp} (R : RS K w st H) {o : BOp} {v u : V} {x y z : D} {Q : VK} (rx : PV K (Zm w st) H v x) (ry : PV K (Zm w st) H u y) (e : bop o x y = some z) (h : FinQ K (Zm w st) H z Q) : rB K o v u H Q := by
  cases o with
  | add =>
    cases x <;> cases y <;> simp only [bop] at e <;> try (cases e; done)
    · cases e; exact .inl (.inl ⟨_, _, rx.int, ry.int, h.1 _ (.int _)⟩)
    · split at e
      · cases e
        exact .inl (.inr ⟨_, _, rx.str.1, ry.str.1, by rw [sizeLine_eq]; assumption, h.1 _ (.str (strOk_app rx.str.2 ry.str.2))⟩)
      · cases e
    · split at e
      · rename_i hz
        cases e
        obtain ⟨a, vs, rfl, h1, r1⟩ := rx.tup
        obtain ⟨b, us, rfl, h2, r2⟩ := ry.tup
        have l1 := r1.length
        have l2 := r2.length
        refine .inr (.inr ⟨a, b, vs, us, rfl, rfl, h1, h2, by rw [sizeLine_eq]; omega, fun e0 => ?_, fun _ e0 => ?_, fun _ _ p hp => ?_⟩)
        · subst e0; cases r1; exact h.1 _ (by rcases ry with q | ⟨_, _, _, _, q, _⟩; exact q; cases q)
        · subst e0; cases r2; rw [List.append_nil] at h; exact h.1 _ (by rcases rx with q | ⟨_, _, _, _, q, _⟩; exact q; cases q)
        · exact h.2 p _ _ hp (.tup (.inl upd_same) (Zm.notNew R hp) ((r1.append r2).mono (Tr.laid R hp).keep))
      · cases e
    · split at e
      · rename_i hz
        cases e
        obtain ⟨a, vs, rfl, h1, r1⟩ := rx.lst
        obtain ⟨b, us, rfl, h2, r2⟩ := ry.lst
        have l1 := r1.length
        have l2 := r2.length
        refine .inr (.inl ⟨a, b, vs, us, rfl, rfl, h1, h2, by rw [sizeLine_eq]; omega, fun p hp => ?_⟩)
        exact h.2 p _ _ hp (.lst upd_same (Zm.notNew R hp) ((r1.append r2).mono (Tr.laid R hp).keep))
      · cases e
  | sub =>
    cases x <;> cases y <;> simp only [bop] at e <;> try (cases e; done)
    cases e; exact ⟨_, _, rx.int, ry.int, h.1 _ (.int _)⟩
  | mul =>
    cases x <;> cases y <;> simp only [bop] at e <;> try (cases e; done)
    · split at e
      · rename_i hm
        have hm2 := okMul_ok hm
        cases e; exact .inl (.inl (.inl ⟨_, _, rx.int, ry.int, hm2, h.1 _ (.int _)⟩))
      · cases e
    · split at e
      · rename_i h1n
        subst h1n
        cases e
        obtain ⟨a, vs, rfl, h1, r1⟩ := rx.tup
        exact .inr ⟨a, vs, rfl, h1, .inl ⟨ry.int, h.1 _ (by rcases rx with q | ⟨_, _, _, _, q, _⟩; exact q; cases q)⟩⟩
      split at e
      · rename_i _ h0n
        subst h0n
        split at e
        · rename_i hne
          cases e
          obtain ⟨a, vs, rfl, h1, r1⟩ := rx.tup
          exact .inr ⟨a, vs, rfl, h1, .inr ⟨ry.int, fun e0 => hne (by subst e0; cases r1; rfl), fun p hp => h.2 p _ _ hp (.tup (.inl upd_same) (Zm.notNew R hp) .nil)⟩⟩
        · cases e
      split at e
      · rename_i hm
        cases e
        obtain ⟨a, vs, rfl, h1, r1⟩ := rx.tup
        have l1 := r1.length
        refine .inl <| .inr ⟨a, _, vs, rfl, ry.int, h1, fun e0 => hm.1 ?_, hm.2.1, hm.2.2.1, by omega, fun p hp => h.2 p _ _ hp (.tup (.inl upd_same) (Zm.notNew R hp) ((r1.rep _).mono (Tr.laid R hp).keep))⟩
        subst e0; cases r1; rfl
      · cases e
    · split at e
      · rename_i hm
        cases e
        obtain ⟨a, vs, rfl, h1, r1⟩ := rx.lst
        have l1 := r1.length
        exact .inl <| .inl (.inr ⟨a, _, vs, rfl, ry.int, h1, hm.1, hm.2.1, by rw [sizeLine_eq, l1]; exact hm.2.2, fun p hp => h.2 p _ _ hp (.lst upd_same (Zm.notNew R hp) ((r1.rep _).mono (Tr.laid R hp).keep))⟩)
      · cases e
  | fdiv =>
    cases x <;> cases y <;> simp only [bop] at e <;> try (cases e; done)
    split at e
    · rename_i hm
      unfold okDiv at hm
      have hm2 := of_decide_eq_true hm
      cases e; exact ⟨_, _, rx.int, ry.int, hm2, h.1 _ (.int _)⟩
    · cases e
  | mod =>
    cases x <;> cases y <;> simp only [bop] at e <;> try (cases e; done)
    split at e
    · cases e
    · rename_i hm
      cases e; exact ⟨_, _, rx.int, ry.int, hm, h.1 _ (.int _)⟩
  | pow =>
    cases x <;> cases y <;> simp only [bop] at e <;> try (cases e; done)
    split at e
    · rename_i hm
      cases e; exact ⟨_, _, rx.int, ry.int, hm, h.1 _ (.int _)⟩
    · cases e
end
end Sw
/-! data as what may stand in a set -/
namespace Sw
open PySem PySem.Spec L2
mutual
inductive NV (K : PySem.W.Frag) (H : Hp) : V → NestedKey → Prop
  | non : NV K H .non .none
  | bl (b : Bool) : NV K H (.bl b) (.num (if b = true then 1 else 0))
  | int (i : Int) : NV K H (.int i) (.num i)
  | str (x : Str) : NV K H (.str x) (.text x)
  | tup {a : Addr} {vs : List V} {ks : List NestedKey} : SqT K H a vs → NVs K H vs ks → NV K H (.ref a) (.tup ks)
inductive NVs (K : PySem.W.Frag) (H : Hp) : List V → List NestedKey → Prop
  | nil : NVs K H [] []
  | cons {v : V} {vs : List V} {k : NestedKey} {ks : List NestedKey} : NV K H v k → NVs K H vs ks → NVs K H (v :: vs) (k :: ks)
end
section
variable {X : Cx} {pins : List (Addr × Obj)} {σ : L2.St} {H : Hp} {s : Shared}
mutual
theorem NV.is (I : Inv X pins σ H s) : ∀ {k : NestedKey} {v : V} {u : Value}, NV X.K H v k → RelV v u → NestedIs s.heap k u
  | _, _, _, .non, r => by cases r; exact .none
  | _, _, _, .bl b, r => by cases r; exact .bool rfl
  | _, _, _, .int i, r => by obtain ⟨t, rfl⟩ := r; exact .int _ _
  | _, _, _, .str x, r => by obtain ⟨t, rfl⟩ := r; exact .text _ _
  | _, _, _, .tup q t, r => by
    cases r
    obtain ⟨its, rv, ⟨o, ho, hc, n, hd⟩, _⟩ := I.tuple q
    exact .tup ho hc hd (by simpa using NVs.is I t rv)
theorem NVs.is (I : Inv X pins σ H s) : ∀ {ks : List NestedKey} {vs : List V} {us : List Value}, NVs X.K H vs ks → Vals vs us → NestedAll s.heap ks us
  | _, _, _, .nil, .nil => .nil
  | _, _, _, .cons a b, .cons r t => .cons (NV.is I a r) (NVs.is I b t)
end
end
section
variable {K : PySem.W.Frag} {Z : Addr → Prop} {H : Hp}
mutual
theorem RV.nv : ∀ {v : V} {d : D} {k : NestedKey}, RV K Z H v d → nkD d = some k → NV K H v k
  | _, _, _, .non, e => by simp [nkD] at e; subst e; exact .non
  | _, _, _, .bl b, e => by
    simp only [nkD, Option.some.injEq] at e
    subst e; exact .bl b
  | _, _, _, .int i, e => by simp [nkD] at e; subst e; exact .int i
  | _, _, _, .str h, e => by simp [nkD] at e; subst e; exact .str _
  | _, _, _, .tup r z t, e => by
    simp only [nkD, Option.map_eq_some_iff] at e
    obtain ⟨ks, e, rfl⟩ := e
    exact .tup (.inl r) (RVs.nv t e)
  | _, _, _, .tupK r t, e => by
    simp only [nkD, Option.map_eq_some_iff] at e
    obtain ⟨ks, e, rfl⟩ := e
    exact .tup r.sq (RVs.nv t e)
  | _, _, _, .lst r z t, e => by simp [nkD] at e
  | _, _, _, .scr r z, e => by simp [nkD] at e
  | _, _, _, .scrK r, e => by simp [nkD] at e
  | _, _, _, .dct h1 h2 h3 h4 h5, e => by simp [nkD] at e
theorem RVs.nv : ∀ {vs : List V} {ds : List D} {ks : List NestedKey}, RVs K Z H vs ds → nksD ds = some ks → NVs K H vs ks
  | _, _, _, .nil, e => by simp [nksD] at e; subst e; exact .nil
  | _, _, _, @RVs.cons _ _ _ v vs d ds r t, e => by
    cases h1 : nkD d with
    | none => simp [nksD, h1] at e
    | some a =>
      cases h2 : nksD ds with
      | none => simp [nksD, h1, h2] at e
      | some b =>
        simp only [nksD, h1, h2, Option.some.injEq] at e
        subst e
        exact .cons (RV.nv r h1) (RVs.nv t h2)
end
/-- tuples only: their addresses -/
theorem NVs.refs : ∀ {vs : List V} {ks : List NestedKey}, NVs K H vs ks → ks.all isTp = true → ∃ ps : List (Addr × NestedKey), vs = ps.map (fun p => V.ref p.1) ∧ ps.map (·.2) = ks ∧ ∀ p ∈ ps, NV K H (.ref p.1) p.2
  | _, _, .nil, _ => ⟨[], rfl, rfl, fun p h => by cases h⟩
  | _, _, .cons r t, h => by
    rw [List.all_cons, Bool.and_eq_true] at h
    obtain ⟨ps, rfl, h2, h3⟩ := NVs.refs t h.2
    cases r with
    | @tup a us ks q m =>
      refine ⟨(a, .tup ks) :: ps, rfl, by rw [List.map_cons, h2], fun p hp => ?_⟩
      rcases List.mem_cons.mp hp with e | hp
      · rw [e]; exact .tup q m
      · exact h3 p hp
    | _ => simp [isTp] at h
end
section
open PyProof.Rows
variable {X : Cx}
theorem refsN : ∀ {ps : List (Addr × NestedKey)} {us : List Value}, Vals (ps.map fun p => V.ref p.1) us → us = ps.map fun p => Value.ref p.1
  | [], _, .nil => rfl
  | p :: ps, _, .cons r t => by
    cases r
    rw [refsN t]; rfl
/-- len(set(xs)) -/
def tLset (K : PySem.W.Frag) (ta : TE) : TE := fun σ H Q => ta σ H fun x H1 => ∃ (l : Addr) (vs : List V) (ks : List NestedKey), x = .ref l ∧ SqL K H1 l vs ∧ NVs K H1 vs ks ∧ ks.all isTp = true ∧ (∀ k ∈ ks, k.depth ≤ 8) ∧ (Sn.dst ks).length ≤ 4 ∧ Q (.int (Sn.dst ks).length) H1
theorem pe_lset {a : Expr} {ta : TE} {p p2 q pos : Pos} (hc : X.calm = true) (hu : X.A.units + 16 < cLine) (hg : Gl X "len") (hm : X.mg "len" = none) (hg2 : Gl X "set") (hm2 : X.mg "set" = none) (ha : PE X a ta)
    (na : starEach [a] X.env = (false, eval a X.env) :: starEach [] X.env := by rfl) : PE X (.Call (.Name "len" p) [.Call (.Name "set" p2) [a] [] q] [] pos) (tLset X.K ta) := by
  refine ⟨fun pins s σ H Q I h => ?_⟩
  refine Call_ (ld_blt I hg hm PySem.boot_len ?_)
  refine PyProof.Rows.callWith_builtin1 (PyProof.Rows.args_cons ?_ rfl) rfl rfl
  refine Call_ (ld_blt I hg2 hm2 PyProof.Rows.boot_set ?_)
  refine PyProof.Rows.callWith_type1 (PyProof.Rows.args_cons (thn (ha.run pins s σ H _ I h) fun v s1 ⟨x, H1, I1, r1, q1⟩ => PyProof.Rows.args_nil ?_) na) na rfl
  obtain ⟨l, vs, ks, rfl, hq, nv, tp, dp, few, q1⟩ := q1
  cases r1
  obtain ⟨ps, rfl, rfl, nvp⟩ := nv.refs tp
  obtain ⟨its, r, pl, hz⟩ := I1.list hq
  refine Sn.call_setN (P := X.prog) (w := X.w) ps (I1.ok.hd hc) pl.isList (by simpa using refsN r) (fun p hp => ⟨NV.is I1 (nvp p hp) rfl, dp _ (List.mem_map.mpr ⟨p, hp, rfl⟩)⟩) few hu fun v a g1 g2 g3 => ?_
  obtain ⟨old, L, es, ep, t, R, g⟩ := a
  obtain ⟨h', gn, dr, tk, os⟩ := v
  obtain rfl : gn = s1.gens := g1
  obtain rfl : dr = s1.drawn := g2
  obtain rfl : os = s1.os := g3
  apply PyProof.Rows.args_nil
  obtain ⟨o, ho, hex, hd⟩ := R.ob
  have I2 : Inv X pins σ H1 { s1 with heap := h', toks := tk } := I1.kept old
  have len : es.size = (Sn.dst (ps.map (·.2))).length := R.size.trans (g.len R.nd)
  exact call_len_set ho hex hd R.fits (by rw [len]; omega) ⟨.int _, H1, I2.tok _, ⟨_, by rw [len]⟩, q1⟩
/-- d != e, the same keys in the same order, the same values -/
def rDne (K : PySem.W.Frag) : R2 := fun x y H Q => ∃ (a b : Addr) (oa ob : Obj) (ka kb : List (Key × V)) (ns : List NestedKey), x = .ref a ∧ y = .ref b ∧ H a = some (.frz oa (.dK ka)) ∧ H b = some (.frz ob (.dK kb)) ∧ ka.map (·.1) = kb.map (·.1) ∧ (ka.map (·.1)).Nodup ∧
  NVs K H (ka.map (·.2)) ns ∧ NVs K H (kb.map (·.2)) ns ∧ (∀ n ∈ ns, n.depth ≤ 8) ∧ Q (.bl false) H
theorem NVs.get {K : PySem.W.Frag} {H : Hp} : ∀ {vs : List V} {ns : List NestedKey} {i : Nat} {v : V}, NVs K H vs ns → vs[i]? = some v → ∃ n, ns[i]? = some n ∧ NV K H v n
  | _, _, _, _, .nil, h => by simp at h
  | _, _, 0, _, .cons a _, h => by simp at h; subst h; exact ⟨_, rfl, a⟩
  | _, _, i + 1, v, .cons _ b, h => by
    obtain ⟨n, h1, h2⟩ := NVs.get (i := i) (v := v) b (by simpa using h)
    exact ⟨n, by simpa using h1, h2⟩
theorem NVs.get' {K : PySem.W.Frag} {H : Hp} : ∀ {vs : List V} {ns : List NestedKey} {i : Nat} {n : NestedKey}, NVs K H vs ns → ns[i]? = some n → ∃ v, vs[i]? = some v ∧ NV K H v n
  | _, _, _, _, .nil, h => by simp at h
  | _, _, 0, _, .cons a _, h => by simp at h; subst h; exact ⟨_, rfl, a⟩
  | _, _, i + 1, n, .cons _ b, h => by
    obtain ⟨v, h1, h2⟩ := NVs.get' (i := i) (n := n) b (by simpa using h)
    exact ⟨v, by simpa using h1, h2⟩
theorem hitsN {pins : List (Addr × Obj)} {σ : L2.St} {H : Hp} {s : Shared} (I : Inv X pins σ H s) {A : Around} (hu : A.units + 9 < cLine) {kb : List (Key × V)} {vb : List (Key × Value)} (rb : KV kb vb) {ka : List (Key × V)} {va : List (Key × Value)} (ra : KV ka va) :
    (∀ p ∈ ka, ∃ n w, NV X.K H p.2 n ∧ n.depth ≤ 8 ∧ valV kb p.1 = some w ∧ NV X.K H w n) → PySem.W.KeqHits A s vb va true := by
  unfold KV at ra
  induction ra with
  | nil => intro _; exact .nil
  | @cons p q ps qs h t ih =>
    intro hp
    obtain ⟨h1, h2⟩ := h
    obtain ⟨n, y, n1, dn, e, n2⟩ := hp p List.mem_cons_self
    have rr : RelO (some y) (valueAt vb p.1) := by rw [← e]; exact rb.val p.1
    obtain ⟨z, hz, rz⟩ := rr.some_of
    obtain ⟨k, v⟩ := q
    have h1' : p.1 = k := h1
    rw [h1'] at hz
    show PySem.W.KeqHits A s vb ((k, v) :: qs) (true && true)
    refine .hit hz ?_ (ih fun p' hm => hp p' (List.mem_cons_of_mem _ hm))
    have q := eqAt_key n n A s v z (NV.is I n1 h2) (NV.is I n2 rz) (by omega)
    rwa [NestedKey.beq_self] at q
theorem op_dne (hu : X.A.units + 16 < cLine) : OpR X (compareOp .NotEq) (rDne X.K) := by
  intro pins s σ H x y v u Q I rx ry h
  obtain ⟨a, b, oa, ob, ka, kb, ns, rfl, rfl, ea, eb, same, nd, na, nb, dn, q⟩ := h
  obtain rfl : v = Value.ref a := rx
  obtain rfl : u = Value.ref b := ry
  obtain ⟨ya, _, _, _, _, va, _, _, ra, ma⟩ := I.frzK ea
  obtain ⟨yb, _, _, _, _, vb, _, _, rb, mb⟩ := I.frzK eb
  have hl0 : ka.length = kb.length := by simpa using congrArg List.length same
  have hl : va.length = vb.length := by rw [← ra.length, ← rb.length]; exact hl0
  refine PySem.W.keq_ne (knd := mixKind X.prog X.w) (r := true) ya yb ma.dictOf mb.dictOf (by omega) (fun _ => hitsN I (by show X.A.units + 1 + 9 < cLine; omega) rb ra fun p hp => ?_) (fin_bl I q (by simp [hl]))
  obtain ⟨i, hi⟩ := List.getElem?_of_mem hp
  obtain ⟨n, hn, n1⟩ := na.get (i := i) (v := p.2) (by rw [List.getElem?_map, hi]; rfl)
  obtain ⟨w, hw, n2⟩ := nb.get' hn
  rw [List.getElem?_map, Option.map_eq_some_iff] at hw
  obtain ⟨⟨k, w'⟩, hw, rfl⟩ := hw
  have hk : k = p.1 := by
    have h1 : (ka.map (·.1))[i]? = some p.1 := by rw [List.getElem?_map, hi]; rfl
    have h2 : (kb.map (·.1))[i]? = some k := by rw [List.getElem?_map, hw]; rfl
    rw [same, h2] at h1
    exact Option.some.inj h1
  subst hk
  exact ⟨n, w', n1, dn n (List.mem_of_getElem? hn), val_nodup (by rw [← same]; exact nd) _ (List.mem_of_getElem? hw), n2⟩
theorem KV.snds : ∀ {kvs : List (Key × V)} {vs : List (Key × Value)}, KV kvs vs → Vals (kvs.map (·.2)) (vs.map (·.2))
  | _, _, .nil => .nil
  | _, _, .cons h t => .cons h.2 (KV.snds t)
/-- list(d.values()) -/
def tVals (ta : TE) : TE := fun σ H Q => ta σ H fun x H1 => ∃ d o kvs, x = .ref d ∧ H1 d = some (.frz o (.dK kvs)) ∧ ∀ p, H1 p = none → Q (.ref p) (upd H1 p (.lst (kvs.map (·.2))))
theorem pe_vals {a : Expr} {ta : TE} {p pos ap cp : Pos} (hc : X.calm = true) (hg : Gl X "list") (hm : X.mg "list" = none) (ha : PE X a ta) (hbase : attributeBase a "values" X.env (eval a X.env) = eval a X.env) (hline : (ap.endLine == cp.line) = true) :
    PE X (.Call (.Name "list" p) [.Call (.Attribute a "values" ap) [] [] cp] [] pos) (tVals ta) := by
  refine ⟨fun pins s σ H Q I h => ?_⟩
  refine Call_ (ld_blt I hg hm PyProof.Rows.boot_list ?_)
  refine PyProof.Rows.callWith_type1 (PyProof.Rows.args_cons ?_ rfl) rfl rfl
  refine wpAny_Call_method (T := "dict") (id := "dict.values") hbase rfl hline F.plainAttrs_dict F.slot_dict_values F.type_dict_values (thn (ha.run pins s σ H _ I h) fun u s1 ⟨x, H1, I1, rx, d, o, kvs, ex, hd, q⟩ => ?_)
  subst ex
  obtain rfl : u = Value.ref d := rx
  obtain ⟨hs, hgd, hx, es, ep, vs, hdt, hsz, kv, hm⟩ := I1.frzK hd
  refine ⟨hm.dictOf.typeIs, hm.dictOf.mapOf.noDict, ?_⟩
  have I2 : Inv X pins σ H1 { s1 with heap := s1.heap.push { cls := .type "dict_values", data := .fields #[.ref d] } } := I1.kept (t' := s1.toks) fun b ob q => Heap.get?_push_of_some _ q
  have hl : kvs.length = vs.length := Paired.length kv
  have few : kvs.length ≤ sizeLine := (I1.hok d _ hd).2.1
  show wpAny _ _ (callWith cp (.builtin "dict.values") [.ref d] [] []) _ X.xe s1
  refine method_meetsIn F.slot_dict_values F.entry_dict_values rfl (PySem.evalArgs_none ⟨rfl, hm.dictOf.typeIs, F.args_dict_values_1 _, _, meets_dict_values (mixKind X.prog X.w) d hs, ⟨vs, hm.dictOf⟩, ?_⟩)
  refine PyProof.Rows.args_nil ?_
  refine PySem.W.kdl_call (s := { s1 with heap := s1.heap.push { cls := .type "dict_values", data := .fields #[.ref d] } }) (PySem.W.kdl_values (knd := mixKind X.prog X.w) (r := s1.heap.objs.size) (d := d) (kvs := vs) (ep := ep)) (I1.ok.hd hc) ⟨⟨_, Heap.get?_push_size _ rfl, rfl, rfl⟩, hm.push _⟩ (by rw [← hl]; exact few) fun h' tk acc c' hk hD hacc => ?_
  have e1 := PySem.W.kdl_vals_eq acc.toList (by rw [Array.length_toList]; exact hacc.1) fun j v e => hacc.2 j v (by rw [← Array.getElem?_toList]; exact e)
  refine ⟨.ref _, upd H1 _ (.lst (kvs.map (·.2))), I2.laid (t' := tk) hk (Nat.le_refl _) (show ObjOk X.prog X.w _ _ _ (.lst (kvs.map (·.2))) from ⟨by rw [List.length_map]; exact few, acc.toList, c', by rw [e1]; exact KV.snds kv, by rw [Array.toArray_toList]; exact hD⟩), rfl, q _ (I2.hok.fresh (Nat.le_refl _))⟩
end
end Sw
/-! {a, b} == {c, d} -/
namespace Sw
open PySem PySem.Spec L2 PyProof.Rows
section
variable {X : Cx} {pins : List (Addr × Obj)} {σ : L2.St} {H : Hp} {s : Shared} {a b c d : Expr} {p p1 p2 pos : Pos} {ta tb tc td : TE}
theorem Inv.drawn {X : Cx} {pins : List (Addr × Obj)} {σ : L2.St} {H : Hp} {s : Shared} (I : Inv X pins σ H s) (d : Drawn) : Inv X pins σ H { s with drawn := d } :=
  ⟨I.ok, I.os, I.bare, I.base, I.loc, I.cell, I.free, I.freeC, I.pin, I.hok, I.len⟩
/-- one more goes into the set -/
theorem put1 {S x : Addr} {k : NestedKey} {L : List (Addr × NestedKey)} {es : Array (Int × Value)} {ep : Nat} {t : SetTable} (I : Inv X pins σ H s) (F : FpOk X pins H S) (R : Sn.SetN X.w s.heap S L es ep t) (nx : NV X.K H (.ref x) k) (dk : k.depth ≤ 8) (hu : X.A.units + 8 < cLine) (hl : L.length + 1 ≤ 4)
    {Q : Bool → Shared → Prop} {E : Value → Shared → Prop} (q : ∀ b s' L' es' ep' t', Inv X pins σ H s' → Sn.SetN X.w s'.heap S L' es' ep' t' → (k ∈ L.map (·.2) → L' = L) → (k ∉ L.map (·.2) → L'.Perm ((x, k) :: L)) → Q b s') : wpAny (model X.prog X.w) X.A (setAdd S (.ref x)) Q E s := by
  have there : Sn.KeyAt s.heap k x := ⟨NV.is I nx rfl, dk⟩
  unfold setAdd
  apply wpAny_holding
  apply wpAny_bind
  apply (nestedKind X.prog X.w).pyHash hu there
  refine Sn.addN (s := { s with toks := s.toks + k.draws }) R there hu (fun _ => hl) fun b h2 L2 es2 ep2 t2 but R2 same more => ?_
  obtain ⟨f0, f1, f2, f3, f4, f5⟩ := F
  exact q b _ L2 es2 ep2 t2 ((I.tok (s.toks + k.draws)).turned (it := S) (t' := s.toks + k.draws) (fun c o ne e => (but.2 c ne).trans e) f0 f1 f3 f4 f5) R2 same more
theorem dispN {Q : Value → Shared → Prop} {R : Addr → NestedKey → Addr → NestedKey → Hp → Prop} (pa : PE X a ta) (pb : PE X b tb) (na : starEach [a, b] X.env = [(false, eval a X.env), (false, eval b X.env)]) (hcode : PySem.W.kdsCode X.K X.env.code = true) (hu : X.A.units + 8 < cLine) (I : Inv X pins σ H s)
    (h : ta σ H fun x H1 => tb σ H1 fun y H2 => ∃ xa ka ya kb, x = .ref xa ∧ y = .ref ya ∧ NV X.K H2 (.ref xa) ka ∧ NV X.K H2 (.ref ya) kb ∧ ka.depth ≤ 8 ∧ kb.depth ≤ 8 ∧ R xa ka ya kb H2)
    (hq : ∀ xa ka ya kb H2 s2 S L es ep t, Inv X pins σ H2 s2 → FpOk X pins H2 S → Sn.SetN X.w s2.heap S L es ep t → (∀ p ∈ L, p = (xa, ka) ∨ p = (ya, kb)) → (∀ k, k ∈ L.map (·.2) ↔ k = ka ∨ k = kb) → R xa ka ya kb H2 → Q (.ref S) s2) :
    wpAny (model X.prog X.w) X.A (eval (.Set [a, b] 0 p) X.env) Q X.xe s := by
  rw [arm_eval_Set]
  refine wpAny_bind (wpAny_standAt ?_)
  refine wpAny_bind (PySem.W.kds_main I.kIn hcode fun fs => ?_)
  rw [na]
  show wpAny _ _ (setDisplay .oneByOne fs [(false, eval a X.env >>= fun v => standAt p >>= fun _ => pure v), (false, eval b X.env >>= fun v => standAt p >>= fun _ => pure v)]) _ _ _
  unfold setDisplay
  try dsimp only
  rw [if_neg (by decide)]
  refine wpAny_bind (wpAny_newSet_raw fun led hled => ?_)
  dsimp only
  subst hled
  generalize hS : s.heap.objs.size = S
  have I1 : Inv X pins σ H { s with heap := s.heap.push (Sn.emptyS X.w) } := I.kept (t' := s.toks) fun b ob q => Heap.get?_push_of_some _ q
  have F : FpOk X pins H S := I.fpOk (Nat.le_of_eq hS) (I.hok.fresh (Nat.le_of_eq hS))
  have Z1 : (s.heap.push (Sn.emptyS X.w)).get? S = some (Sn.emptyS X.w) := by rw [← hS]; exact Heap.get?_push_size _ rfl
  have I2 : Inv X (pins ++ [(S, Sn.emptyS X.w)]) σ H { s with heap := s.heap.push (Sn.emptyS X.w) } := I1.pins_of fun q hq => by
    rcases List.mem_append.mp hq with hq | hq
    · exact I1.pin q (List.mem_append_right _ hq)
    · obtain rfl : q = (S, Sn.emptyS X.w) := by simpa using hq
      exact ⟨Z1, F.1, F.2.1, F.2.2.1, fun v => by simp [Sn.emptyS]⟩
  refine wpAny_bind (wpAny_holding ?_)
  show wpAny _ _ (evalAll [eval a X.env >>= fun v => standAt p >>= fun _ => pure v, eval b X.env >>= fun v => standAt p >>= fun _ => pure v] >>= _) _ _ _
  refine wpAny_bind ?_
  show wpAny _ _ ((eval a X.env >>= fun v => standAt p >>= fun _ => pure v) >>= fun v => holding [v] (evalAll [eval b X.env >>= fun v => standAt p >>= fun _ => pure v]) >>= fun r => pure (v :: r)) _ _ _
  refine wpAny_bind (wpAny_bind (thn (pa.run _ _ σ H _ I2 h) fun u1 s1 ⟨x, H1, I3, r1, h1⟩ => wpAny_bind (wpAny_standAt (wpAny_pure ?_))))
  refine wpAny_bind (wpAny_holding ?_)
  show wpAny _ _ ((eval b X.env >>= fun v => standAt p >>= fun _ => pure v) >>= fun v => holding [v] (evalAll []) >>= fun r => pure (v :: r)) _ _ _
  refine wpAny_bind (wpAny_bind (thn (pb.run _ _ σ H1 _ I3 h1) fun u2 s2 ⟨y, H2, I4, r2, h2⟩ => wpAny_bind (wpAny_standAt (wpAny_pure ?_))))
  refine wpAny_bind (wpAny_holding (wpAny_pure (wpAny_pure (wpAny_pure ?_))))
  obtain ⟨xa, ka, ya, kb, rfl, rfl, n1, n2, d1, d2, hR⟩ := h2
  cases r1
  cases r2
  obtain ⟨g1, g2, _⟩ := I4.pin (S, Sn.emptyS X.w) (by simp)
  have I5 : Inv X pins σ H2 s2 := I4.unpinned
  have F2 : FpOk X pins H2 S := ⟨g2, F.2⟩
  have R0 := Sn.SetN.fresh g1
  refine wpAny_bind (wpAny_holding ?_)
  rw [List.forIn_cons]
  refine wpAny_bind (wpAny_bind (wpAny_bind (put1 I5 F2 R0 n1 d1 hu (by simp) fun b1 s3 L3 es3 ep3 t3 I6 R3 same3 more3 => wpAny_pure ?_)))
  dsimp only
  have p3 : L3.Perm [(xa, ka)] := more3 (by simp)
  obtain rfl : L3 = [(xa, ka)] := List.perm_singleton.mp p3
  rw [List.forIn_cons]
  refine wpAny_bind (wpAny_bind (put1 I6 F2 R3 n2 d2 hu (by simp) fun b2 s4 L4 es4 ep4 t4 I7 R4 same4 more4 => wpAny_pure ?_))
  dsimp only
  rw [List.forIn_nil]
  refine wpAny_pure ?_
  refine wp_if_neg (by decide) ?_
  refine wpAny_pure ?_
  show wpAny _ _ (forIn ([] : List (Bool × Sem Value)) _ _ >>= _) _ _ _
  rw [List.forIn_nil]
  refine wpAny_bind (wpAny_pure (wpAny_pure ?_))
  refine wpAny_pure ?_
  refine hq xa ka ya kb H2 s4 S L4 es4 ep4 t4 I7 F2 R4 ?_ ?_ hR
  · intro q hq
    by_cases c : kb ∈ ([(xa, ka)] : List (Addr × NestedKey)).map (·.2)
    · rw [same4 c] at hq
      exact .inl (by simpa using hq)
    · have := (more4 c).mem_iff.mp hq
      simp only [List.mem_cons, List.not_mem_nil, or_false] at this
      exact this.symm
  · intro k
    by_cases c : kb ∈ ([(xa, ka)] : List (Addr × NestedKey)).map (·.2)
    · rw [same4 c]
      have : kb = ka := by simpa using c
      subst this
      simp
    · rw [((more4 c).map (·.2)).mem_iff]
      simp only [List.map_cons, List.map_nil, List.mem_cons, List.not_mem_nil, or_false]
      exact or_comm
/-- {a, b} == {c, d} -/
def tSeq (K : PySem.W.Frag) (ta tb tc td : TE) : TE := fun σ H Q => ta σ H fun x H1 => tb σ H1 fun y H2 => ∃ xa ka ya kb, x = .ref xa ∧ y = .ref ya ∧ NV K H2 (.ref xa) ka ∧ NV K H2 (.ref ya) kb ∧ ka.depth ≤ 8 ∧ kb.depth ≤ 8 ∧
  (tc σ H2 fun z H3 => td σ H3 fun u H4 => ∃ za kc ua kd, z = .ref za ∧ u = .ref ua ∧ NV K H4 (.ref za) kc ∧ NV K H4 (.ref ua) kd ∧ kc.depth ≤ 8 ∧ kd.depth ≤ 8 ∧ NV K H4 (.ref xa) ka ∧ NV K H4 (.ref ya) kb ∧
    Q (.bl (decide ((ka = kc ∨ ka = kd) ∧ (kb = kc ∨ kb = kd) ∧ (kc = ka ∨ kc = kb) ∧ (kd = ka ∨ kd = kb)))) H4)
theorem len_alike {L L' : List (Addr × NestedKey)} (nd : (L.map (·.2)).Nodup) (nd' : (L'.map (·.2)).Nodup) :
    (decide (L.length = L'.length) && L.all fun p => decide (p.2 ∈ L'.map (·.2))) = decide ((∀ k, k ∈ L.map (·.2) → k ∈ L'.map (·.2)) ∧ ∀ k, k ∈ L'.map (·.2) → k ∈ L.map (·.2)) := by
  rw [Bool.eq_iff_iff, Bool.and_eq_true, List.all_eq_true, decide_eq_true_eq, decide_eq_true_eq]
  have e1 : (L.map (·.2)).length = L.length := List.length_map ..
  have e2 : (L'.map (·.2)).length = L'.length := List.length_map ..
  constructor
  · rintro ⟨hl, ha⟩
    have sub : ∀ k, k ∈ L.map (·.2) → k ∈ L'.map (·.2) := fun k hk => by
      obtain ⟨p, hp, rfl⟩ := List.mem_map.mp hk
      exact of_decide_eq_true (ha p hp)
    refine ⟨sub, fun k hk => Classical.byContradiction fun nk => ?_⟩
    have := Sn.sub_len (k :: L.map (·.2)) (L'.map (·.2)) (List.nodup_cons.mpr ⟨nk, nd⟩) fun x hx => by
      rcases List.mem_cons.mp hx with rfl | hx
      · exact hk
      · exact sub x hx
    rw [List.length_cons] at this
    omega
  · rintro ⟨h1, h2⟩
    have l1 := Sn.sub_len _ _ nd h1
    have l2 := Sn.sub_len _ _ nd' h2
    refine ⟨by omega, fun p hp => decide_eq_true (h1 _ (List.mem_map.mpr ⟨p, hp, rfl⟩))⟩
theorem seq_core {Q : Value → Shared → Prop} (pa : PE X a ta) (pb : PE X b tb) (pc : PE X c tc) (pd : PE X d td) (na : starEach [a, b] X.env = [(false, eval a X.env), (false, eval b X.env)]) (nc : starEach [c, d] X.env = [(false, eval c X.env), (false, eval d X.env)])
    (hcode : PySem.W.kdsCode X.K X.env.code = true) (hu : X.A.units + 16 < cLine) (I : Inv X pins σ H s) {R : VK} (h : tSeq X.K ta tb tc td σ H R) (q : ∀ z H4 u s4, Inv X pins σ H4 s4 → RelV z u → R z H4 → Q u s4) :
    wpAny (model X.prog X.w) X.A (eval (.Set [a, b] 0 p1) X.env) (fun v s1 => wpAny (model X.prog X.w) X.A (eval (.Set [c, d] 0 p2) X.env) (fun u s2 => wpAny (model X.prog X.w) X.A (compareOp .Eq v u) Q X.xe s2) X.xe s1) X.xe s := by
  refine dispN pa pb na hcode (by omega) I (R := fun xa ka ya kb H2 => tc σ H2 fun z H3 => td σ H3 fun u H4 => ∃ za kc ua kd, z = .ref za ∧ u = .ref ua ∧ NV X.K H4 (.ref za) kc ∧ NV X.K H4 (.ref ua) kd ∧ kc.depth ≤ 8 ∧ kd.depth ≤ 8 ∧ NV X.K H4 (.ref xa) ka ∧ NV X.K H4 (.ref ya) kb ∧
    R (.bl (decide ((ka = kc ∨ ka = kd) ∧ (kb = kc ∨ kb = kd) ∧ (kc = ka ∨ kc = kb) ∧ (kd = ka ∨ kd = kb)))) H4) h ?_
  intro xa ka ya kb H2 s2 S L es ep t I2 F R2 sub mem h2
  obtain ⟨o, ho, hex, hd⟩ := R2.ob
  have I3 : Inv X (pins ++ [(S, o)]) σ H2 s2 := I2.pins_of fun q hq => by
    rcases List.mem_append.mp hq with hq | hq
    · exact I2.pin q (List.mem_append_right _ hq)
    · obtain rfl : q = (S, o) := by simpa using hq
      exact ⟨ho, F.1, F.2.1, F.2.2.1, fun v => by rw [hd]; simp⟩
  refine dispN pc pd nc hcode (by omega) I3 (R := fun za kc ua kd H4 => NV X.K H4 (.ref xa) ka ∧ NV X.K H4 (.ref ya) kb ∧ R (.bl (decide ((ka = kc ∨ ka = kd) ∧ (kb = kc ∨ kb = kd) ∧ (kc = ka ∨ kc = kb) ∧ (kd = ka ∨ kd = kb)))) H4) ?_ ?_
  · exact h2
  · intro za kc ua kd H4 s4 S' L' es' ep' t' I4 F' R4 sub' mem' h4
    obtain ⟨n1, n2, hr⟩ := h4
    obtain ⟨g1, g2, _⟩ := I4.pin (S, o) (by simp)
    have I5 : Inv X pins σ H4 s4 := I4.unpinned
    have R5 : Sn.SetN X.w s4.heap S L es ep t := ⟨⟨o, g1, hex, hd⟩, R2.rows, R2.tab, R2.nd, fun q hq => by
      rcases sub q hq with rfl | rfl
      · exact ⟨NV.is I5 n1 rfl, (R2.keys _ hq).2⟩
      · exact ⟨NV.is I5 n2 rfl, (R2.keys _ hq).2⟩, R2.led, R2.m7, R2.few⟩
    refine Sn.eqSets R5 R4 hu fun dr => ?_
    refine q _ H4 _ _ (Inv.drawn I5 dr) ?_ hr
    have key : (decide (L.length = L'.length) && L.all fun p => decide (p.2 ∈ L'.map (·.2))) = decide ((ka = kc ∨ ka = kd) ∧ (kb = kc ∨ kb = kd) ∧ (kc = ka ∨ kc = kb) ∧ (kd = ka ∨ kd = kb)) := by
      rw [len_alike R5.nd R4.nd, Bool.eq_iff_iff, decide_eq_true_eq, decide_eq_true_eq]
      constructor
      · rintro ⟨h1, h2⟩
        exact ⟨(mem' _).mp (h1 _ ((mem _).mpr (.inl rfl))), (mem' _).mp (h1 _ ((mem _).mpr (.inr rfl))), (mem _).mp (h2 _ ((mem' _).mpr (.inl rfl))), (mem _).mp (h2 _ ((mem' _).mpr (.inr rfl)))⟩
      · rintro ⟨h1, h2, h3, h4⟩
        refine ⟨fun k hk => (mem' _).mpr ?_, fun k hk => (mem _).mpr ?_⟩
        · rcases (mem _).mp hk with e | e
          · rw [e]; exact h1
          · rw [e]; exact h2
        · rcases (mem' _).mp hk with e | e
          · rw [e]; exact h3
          · rw [e]; exact h4
    rw [key]
    rfl
theorem pe_seq (pa : PE X a ta) (pb : PE X b tb) (pc : PE X c tc) (pd : PE X d td) (na : starEach [a, b] X.env = [(false, eval a X.env), (false, eval b X.env)]) (nc : starEach [c, d] X.env = [(false, eval c X.env), (false, eval d X.env)])
    (hcode : PySem.W.kdsCode X.K X.env.code = true) (hu : X.A.units + 16 < cLine) : PE X (.Compare (.Set [a, b] 0 p1) [.Eq] [.Set [c, d] 0 p2] pos) (tSeq X.K ta tb tc td) := by
  refine ⟨fun pins s σ H Q I h => ?_⟩
  exact wpAny_Compare1 (seq_core pa pb pc pd na nc hcode hu I h fun z H4 u s4 I4 r hr => ⟨z, H4, I4, r, hr⟩) rfl
theorem pt_seq (pa : PE X a ta) (pb : PE X b tb) (pc : PE X c tc) (pd : PE X d td) (na : starEach [a, b] X.env = [(false, eval a X.env), (false, eval b X.env)]) (nc : starEach [c, d] X.env = [(false, eval c X.env), (false, eval d X.env)])
    (hcode : PySem.W.kdsCode X.K X.env.code = true) (hu : X.A.units + 16 < cLine) : PT X (.Compare (.Set [a, b] 0 p1) [.Eq] [.Set [c, d] 0 p2] pos) (tTest (tSeq X.K ta tb tc td)) := by
  refine ⟨fun pins s σ H Q I h => ?_⟩
  refine wpAny_isTrue_Compare1 (seq_core pa pb pc pd na nc hcode hu I h fun z H4 u s4 I4 r hr => ?_) rfl
  obtain ⟨k, rfl, hr⟩ := hr
  cases r
  exact wpAny_truthy_bool ⟨H4, I4, hr⟩
end
end Sw
/-! Values: comparisons, places, slices, built-in functions -/
namespace Sw
open PySem PySem.Spec L2

section
variable {X : Cx}
def co : COp → CmpOp
  | .eq => .Eq
  | .ne => .NotEq
  | .lt => .Lt
  | .le => .LtE
  | .gt => .Gt
  | .ge => .GtE
  | .isN => .Is
  | .notN => .IsNot
  | .inn => .In
  | .nin => .NotIn
def rInT (K : PySem.W.Frag) (neg : Bool) : R2 := fun x y H Q => ∃ d ds, Dp K H x d ∧ Dp K H y (.tuple ds) ∧ SeqAt.shaped d = true ∧ SeqAt.shaped (.tuple ds) = true ∧ Q (.bl (if neg then !ds.any fun z => PyData.eqv z d else ds.any fun z => PyData.eqv z d)) H
def rC (K : PySem.W.Frag) : COp → R2
  | .eq => rEqD K
  | .ne => rNeD K
  | .lt => rI0 fun i j => .bl (decide (i < j))
  | .le => rI0 fun i j => .bl (decide (i ≤ j))
  | .gt => rI0 fun i j => .bl (decide (j < i))
  | .ge => rI0 fun i j => .bl (decide (j ≤ i))
  | .isN => fun x y H Q => y = .non ∧ Q (.bl (decide (x = .non))) H
  | .notN => fun x y H Q => y = .non ∧ Q (.bl (!decide (x = .non))) H
  | .inn => fun x y H Q => rInD K x y H Q ∨ rInT K false x y H Q
  | .nin => fun x y H Q => rNotInD K x y H Q ∨ rInT K true x y H Q
theorem opC (hr : Room 0 X.A) (o : COp) : OpR X (compareOp (co o)) (rC X.K o) := by
  have hu : X.A.units + 65 < cLine := by have := hr.un; omega
  cases o with
  | eq => exact op_eqD (by omega)
  | ne => exact op_neD (by omega)
  | lt => exact op_lt
  | le => exact op_le
  | gt => exact op_gt
  | ge => exact op_ge
  | isN => exact op_isN
  | notN => exact op_notN
  | inn => exact (op_inD hu).or (op_inT hu false)
  | nin => exact (op_notInD hu).or (op_inT hu true)
theorem eqD_some {a b : D} {t : Bool} (h : eqD a b = some t) : D.ok 60 a = true ∧ D.ok 60 b = true ∧ D.eqv a b = t := by
  unfold eqD at h
  split at h
  · rename_i q
    rw [Bool.and_eq_true] at q
    exact ⟨q.1, q.2, Option.some.inj h⟩
  · cases h
theorem any_py : ∀ (xs : List D) (x : D) (j k : Nat), D.oks j xs = true → D.ok k x = true → ((D.pys xs).any fun z => PyData.eqv z x.py) = xs.any fun z => D.eqv z x
  | [], _, _, _, _, _ => rfl
  | y :: ys, x, j, k, h, h' => by
    simp only [D.oks, Bool.and_eq_true] at h
    show (PyData.eqv y.py x.py || (D.pys ys).any fun z => PyData.eqv z x.py) = _
    rw [eqv_py y x j k h.1 h', any_py ys x j k h.2 h']
    rfl
theorem oks_ok {xs : List D} (h : D.oks 60 xs = true) : D.ok 61 (.lst xs) = true ∧ D.ok 61 (.tup xs) = true := ⟨by simpa [D.ok] using h, by simpa [D.ok] using h⟩
theorem PV.shaped1 {K : PySem.W.Frag} {Z : Addr → Prop} {H : Hp} {v : V} {d : D} (r : PV K Z H v d) (h : D.ok 61 d = true) : Dp K H v d.py ∧ SeqAt.shaped d.py = true := by
  obtain ⟨h1, h2, h3⟩ := r.py h
  refine ⟨h1, ?_⟩
  unfold SeqAt.shaped
  rw [h2, Bool.true_and]
  exact decide_eq_true (by omega)
theorem cop_ok {K : PySem.W.Frag} {Z : Addr → Prop} {H : Hp} {o : COp} {v u : V} {x y : D} {t : Bool} {Q : VK} (rx : PV K Z H v x) (ry : PV K Z H u y) (e : cop o x y = some t) (h : Q (.bl t) H) : rC K o v u H Q := by
  cases o with
  | eq =>
    obtain ⟨h1, h2, h3⟩ := eqD_some e
    obtain ⟨a1, a2⟩ := rx.shaped h1
    obtain ⟨b1, b2⟩ := ry.shaped h2
    exact ⟨_, _, a1, b1, a2, b2, by rw [eqv_py x y 60 60 h1 h2, h3]; exact h⟩
  | ne =>
    simp only [cop, Option.map_eq_some_iff] at e
    obtain ⟨b, e, rfl⟩ := e
    obtain ⟨h1, h2, h3⟩ := eqD_some e
    obtain ⟨a1, a2⟩ := rx.shaped h1
    obtain ⟨b1, b2⟩ := ry.shaped h2
    exact ⟨_, _, a1, b1, a2, b2, by rw [eqv_py x y 60 60 h1 h2, h3]; exact h⟩
  | lt =>
    cases x <;> cases y <;> simp only [cop] at e <;> try (cases e; done)
    cases e; exact ⟨_, _, rx.int, ry.int, h⟩
  | le =>
    cases x <;> cases y <;> simp only [cop] at e <;> try (cases e; done)
    cases e; exact ⟨_, _, rx.int, ry.int, h⟩
  | gt =>
    cases x <;> cases y <;> simp only [cop] at e <;> try (cases e; done)
    cases e; exact ⟨_, _, rx.int, ry.int, h⟩
  | ge =>
    cases x <;> cases y <;> simp only [cop] at e <;> try (cases e; done)
    cases e; exact ⟨_, _, rx.int, ry.int, h⟩
  | isN =>
    cases y <;> cases x <;> simp only [cop] at e <;> try (cases e; done)
    · cases e; refine ⟨ry.non, ?_⟩; rw [rx.non]; exact h
    · cases e; refine ⟨ry.non, ?_⟩; rw [rx.bl]; exact h
    · cases e; refine ⟨ry.non, ?_⟩; rw [rx.int]; exact h
    · cases e; refine ⟨ry.non, ?_⟩; rw [rx.str.1]; exact h
    · cases e; refine ⟨ry.non, ?_⟩; obtain ⟨a, vs, rfl, _⟩ := rx.tup; exact h
    · cases e; refine ⟨ry.non, ?_⟩; obtain ⟨a, vs, rfl, _⟩ := rx.lst; exact h
    · cases e; refine ⟨ry.non, ?_⟩; obtain ⟨a, rfl, _⟩ := rx.scr; exact h
    · cases e; refine ⟨ry.non, ?_⟩; obtain ⟨a, _, _, rfl, _⟩ := rx.dct; exact h
  | notN =>
    cases y <;> cases x <;> simp only [cop] at e <;> try (cases e; done)
    · cases e; refine ⟨ry.non, ?_⟩; rw [rx.non]; exact h
    · cases e; refine ⟨ry.non, ?_⟩; rw [rx.bl]; exact h
    · cases e; refine ⟨ry.non, ?_⟩; rw [rx.int]; exact h
    · cases e; refine ⟨ry.non, ?_⟩; rw [rx.str.1]; exact h
    · cases e; refine ⟨ry.non, ?_⟩; obtain ⟨a, vs, rfl, _⟩ := rx.tup; exact h
    · cases e; refine ⟨ry.non, ?_⟩; obtain ⟨a, vs, rfl, _⟩ := rx.lst; exact h
    · cases e; refine ⟨ry.non, ?_⟩; obtain ⟨a, rfl, _⟩ := rx.scr; exact h
    · cases e; refine ⟨ry.non, ?_⟩; obtain ⟨a, _, _, rfl, _⟩ := rx.dct; exact h
  | inn =>
    cases y <;> simp only [cop, inD] at e <;> try (cases e; done)
    · split at e
      · rename_i q
        rw [Bool.and_eq_true] at q
        obtain ⟨a1, a2⟩ := rx.shaped q.1
        obtain ⟨b1, b2⟩ := ry.shaped1 (oks_ok q.2).2
        have e2 := any_py _ x 60 60 q.2 q.1
        refine .inr ⟨_, _, a1, by simpa [D.py] using b1, a2, by simpa [D.py] using b2, ?_⟩
        show Q (.bl _) H
        rw [if_neg Bool.false_ne_true, e2, Option.some.inj e]; exact h
      · cases e
    · split at e
      · rename_i q
        rw [Bool.and_eq_true] at q
        obtain ⟨a1, a2⟩ := rx.shaped q.1
        obtain ⟨b1, b2⟩ := ry.shaped1 (oks_ok q.2).1
        have e2 := any_py _ x 60 60 q.2 q.1
        refine .inl ⟨_, _, a1, by simpa [D.py] using b1, a2, by simpa [D.py] using b2, ?_⟩
        rw [e2, Option.some.inj e]; exact h
      · cases e
  | nin =>
    simp only [cop, Option.map_eq_some_iff] at e
    obtain ⟨b, e, rfl⟩ := e
    cases y <;> simp only [inD] at e <;> try (cases e; done)
    · split at e
      · rename_i q
        rw [Bool.and_eq_true] at q
        obtain ⟨a1, a2⟩ := rx.shaped q.1
        obtain ⟨b1, b2⟩ := ry.shaped1 (oks_ok q.2).2
        have e2 := any_py _ x 60 60 q.2 q.1
        refine .inr ⟨_, _, a1, by simpa [D.py] using b1, a2, by simpa [D.py] using b2, ?_⟩
        rw [if_pos rfl, e2, Option.some.inj e]; exact h
      · cases e
    · split at e
      · rename_i q
        rw [Bool.and_eq_true] at q
        obtain ⟨a1, a2⟩ := rx.shaped q.1
        obtain ⟨b1, b2⟩ := ry.shaped1 (oks_ok q.2).1
        have e2 := any_py _ x 60 60 q.2 q.1
        refine .inl ⟨_, _, a1, by simpa [D.py] using b1, a2, by simpa [D.py] using b2, ?_⟩
        rw [e2, Option.some.inj e]; exact h
      · cases e
/-! ### places, slices -/
theorem ix_at {α : Type} {xs : List α} {i : Int} {x : α} (h : ix xs i = some x) : atI xs i = some x := by
  unfold ix at h
  unfold atI L2.ixN
  by_cases h0 : 0 ≤ i
  · rw [if_pos h0] at h ⊢
    have hl : i < xs.length := by
      have := (List.getElem?_eq_some_iff.mp h).1
      omega
    rw [if_pos hl]
    exact h
  · rw [if_neg h0] at h ⊢
    split at h
    · rename_i h1
      rw [if_pos h1]; exact h
    · cases h
theorem ix_lt {α : Type} {xs : List α} {i : Int} {x : α} (h : ix xs i = some x) : ∃ j : Nat, xs[j]? = some x ∧ ∀ {β : Type} (ys : List β), ys.length = xs.length → ix ys i = ys[j]? := by
  unfold ix at h
  by_cases h0 : 0 ≤ i
  · rw [if_pos h0] at h
    exact ⟨_, h, fun ys _ => by unfold ix; rw [if_pos h0]⟩
  · rw [if_neg h0] at h
    split at h
    · rename_i h1
      exact ⟨_, h, fun ys e => by unfold ix; rw [if_neg h0, e, if_pos h1]⟩
    · cases h
theorem idx_ok {K : PySem.W.Frag} {Z : Addr → Prop} {H : Hp} {v u : V} {x y z : D} {Q : VK} (rx : PV K Z H v x) (ry : PV K Z H u y) (e : idx x y = some z) (h : ∀ v, RV K Z H v z → Q v H) : rIx K v u H Q := by
  cases x <;> cases y <;> simp only [idx] at e <;> try (cases e; done)
  · obtain ⟨rfl, hs⟩ := rx.str
    cases ry.int
    split at e
    · rename_i hl
      rw [Option.map_eq_some_iff] at e
      obtain ⟨c, e, rfl⟩ := e
      refine .inr (.inr ⟨_, _, c, rfl, rfl, by rw [sizeLine_eq]; exact hl, ix_at e, h _ (.str ?_)⟩)
      obtain ⟨j, e2, _⟩ := ix_lt e
      unfold PyData.strOk at hs ⊢
      rw [Array.all_eq_true] at hs
      have hj := (List.getElem?_eq_some_iff.mp e2)
      obtain ⟨hj, e3⟩ := hj
      have := hs j (by simpa using hj)
      simp at e3
      simpa [e3] using this
    · cases e
  · obtain ⟨a, vs, rfl, h1, r⟩ := rx.tup
    cases ry.int
    obtain ⟨j, e2, e3⟩ := ix_lt e
    obtain ⟨u, h3, h4⟩ := r.get e2
    exact .inr (.inl ⟨a, vs, _, u, rfl, rfl, h1, ix_at ((e3 vs r.length).trans h3), h _ h4⟩)
  · obtain ⟨a, vs, rfl, h1, r⟩ := rx.lst
    cases ry.int
    obtain ⟨j, e2, e3⟩ := ix_lt e
    obtain ⟨u, h3, h4⟩ := r.get e2
    exact .inl ⟨a, vs, _, u, rfl, rfl, .inl (.inl h1), ix_at ((e3 vs r.length).trans h3), h _ h4⟩
  · obtain ⟨a, rfl, h1⟩ := rx.scr
    cases ry.int
    rw [Option.map_eq_some_iff] at e
    obtain ⟨n, e, rfl⟩ := e
    obtain ⟨j, e2, e3⟩ := ix_lt e
    refine .inl ⟨a, _, _, .int n, rfl, rfl, h1, ix_at ((e3 _ (by simp)).trans ?_), h _ (.int n)⟩
    rw [List.getElem?_map, e2]; rfl
def rSl (K : PySem.W.Frag) : V → Option Int → Option Int → Hp → VK → Prop := fun x lo hi H Q => (rSlL K x lo hi H Q ∨ rSlA K x lo hi H Q) ∨ rSlS x lo hi H Q
theorem sl_all : SlR X (rSl X.K) := (sl_list.or sl_tupA).or sl_str
theorem cutV_eq (xs : List V) (lo hi : Option Int) : cutV xs lo hi = cut xs lo hi := by
  unfold cutV cut
  have e : ∀ n d o, HT.sIx n d o = sPl n d o := fun n d o => by cases o <;> rfl
  rw [e, e]
theorem RVs.cut {K : PySem.W.Frag} {Z : Addr → Prop} {H : Hp} {vs : List V} {ds : List D} (r : RVs K Z H vs ds) (lo hi : Option Int) : RVs K Z H (Sw.cut vs lo hi) (Sw.cut ds lo hi) := by
  unfold Sw.cut
  rw [r.length]
  exact (r.drop _).take _
theorem cut_all {α : Type} {xs : List α} {lo hi : Option Int} (h : sPl xs.length 0 lo = 0 ∧ sPl xs.length xs.length hi = xs.length) : cut xs lo hi = xs := by
  unfold cut
  rw [h.1, h.2]; simp
theorem slc_ok {K : KX} {w : Wd} {st : Sto} {H : Hp} (R : RS K w st H) {v : V} {x z : D} {lo hi : Option Int} {Q : VK} (rx : PV K (Zm w st) H v x) (e : slc lo hi x = some z) (h : FinQ K (Zm w st) H z Q) : rSl K v lo hi H Q := by
  cases x <;> simp only [slc] at e <;> try (cases e; done)
  · obtain ⟨rfl, hs⟩ := rx.str
    split at e
    · rename_i hl
      cases e
      have hcut : ∀ z : Str, cutS z lo hi = ⟨(cut z.cps.toList lo hi).toArray⟩ := fun z => by
        unfold cutS cut
        have e : ∀ n d o, HT.sIx n d o = sPl n d o := fun n d o => by cases o <;> rfl
        rw [e, e]
        have hl : z.length = z.cps.toList.length := by show z.cps.size = _; simp
        rw [hl]
      refine .inr ⟨_, rfl, by rw [sizeLine_eq]; exact hl, ?_⟩
      rw [hcut]
      refine h.1 _ (.str ?_)
      unfold PyData.strOk at hs ⊢
      rw [Array.all_eq_true] at hs
      rw [List.all_toArray, List.all_eq_true]
      intro c hc
      have hc2 : c ∈ (Str.cps _).toList := List.mem_of_mem_drop (List.mem_of_mem_take hc)
      obtain ⟨j, hj, e3⟩ := List.getElem_of_mem hc2
      have := hs j (by simpa using hj)
      simp at e3
      simpa [e3] using this
    · cases e
  · cases e
    obtain ⟨a, vs, rfl, h1, r⟩ := rx.tup
    have e2 : ∀ n d o, HT.sIx n d o = sPl n d o := fun n d o => by cases o <;> rfl
    refine .inl (.inr ⟨a, vs, rfl, h1, fun hw => ?_, fun hw p hp => ?_⟩)
    · rw [e2, e2, r.length] at hw
      rw [cut_all hw] at h
      exact h.1 _ (by rcases rx with q | ⟨_, _, _, _, q, _⟩; exact q; cases q)
    · rw [cutV_eq]
      exact h.2 p _ _ hp (.tup (.inl upd_same) (Zm.notNew R hp) ((r.cut lo hi).mono (Tr.laid R hp).keep))
  · cases e
    obtain ⟨a, vs, rfl, h1, r⟩ := rx.lst
    refine .inl (.inl ⟨a, vs, rfl, .inl (.inl h1), fun p hp => ?_⟩)
    rw [cutV_eq]
    exact h.2 p _ _ hp (.lst upd_same (Zm.notNew R hp) ((r.cut lo hi).mono (Tr.laid R hp).keep))
/-! ### built-in functions -/
def biN : BI → Str
  | .len => "len"
  | .abs => "abs"
  | .int => "int"
  | .max2 => "max"
  | .min2 => "min"
  | .list => "list"
  | .tuple => "tuple"
  | .str => "str"
  | .all => "all"
def biF : BI → Value
  | .len => .builtin "len"
  | .abs => .builtin "abs"
  | .int => .type "int"
  | .max2 => .builtin "max"
  | .min2 => .builtin "min"
  | .list => .type "list"
  | .tuple => .type "tuple"
  | .str => .type "str"
  | .all => .builtin "all"
def rBI (K : PySem.W.Frag) : BI → List V → Hp → VK → Prop
  | .len => fun xs H Q => ∃ x n, xs = [x] ∧ LenV K x H n ∧ Q (.int n) H
  | .abs => fun xs H Q => ∃ i, xs = [.int i] ∧ Q (.int (if i < 0 then -i else i)) H
  | .int => fun xs H Q => (∃ i, xs = [.int i] ∧ Q (.int i) H) ∨ ∃ k, xs = [.bl k] ∧ Q (.int (if k then 1 else 0)) H
  | .max2 => fun xs H Q => ∃ i j, xs = [.int i, .int j] ∧ Q (.int (if j > i then j else i)) H
  | .min2 => fun xs H Q => ∃ i j, xs = [.int i, .int j] ∧ Q (.int (if j < i then j else i)) H
  | .list => fun xs H Q => ∃ p ys, xs = [.ref p] ∧ (SqL K H p ys ∨ SqT K H p ys) ∧ ∀ l, H l = none → Q (.ref l) (upd H l (.lst ys))
  | .tuple => fun xs H Q => ∃ p ys, xs = [.ref p] ∧ ((SqL K H p ys ∧ ∀ l, H l = none → Q (.ref l) (upd H l (.tup ys))) ∨ (SqT K H p ys ∧ Q (.ref p) H))
  | .str => fun _ _ _ => False
  | .all => rAll K
theorem callBI (hc : X.calm = true) (f : BI) : CallR X (biF f) (rBI X.K f) := by
  cases f with
  | len => exact call_len
  | abs => exact call_abs
  | int => exact call_int1
  | max2 => exact call_max2 hc
  | min2 => exact call_min2 hc
  | list => exact call_list_of
  | tuple => exact call_tuple_of
  | str => intro pins s σ H xs us Q I r h; exact h.elim
  | all => exact cr_all hc
inductive PVs (K : PySem.W.Frag) (Z : Addr → Prop) (H : Hp) : List V → List D → Prop
  | nil : PVs K Z H [] []
  | cons {v : V} {vs : List V} {d : D} {ds : List D} : PV K Z H v d → PVs K Z H vs ds → PVs K Z H (v :: vs) (d :: ds)
theorem items_ok {K : PySem.W.Frag} {Z : Addr → Prop} {H : Hp} {v : V} {x : D} {ds : List D} (rx : PV K Z H v x) (e : x.items = some ds) : ∃ p ys, v = .ref p ∧ (SqL K H p ys ∨ SqT K H p ys) ∧ RVs K Z H ys ds ∧ (SqT K H p ys → ¬ SqL K H p ys → True) := by
  cases x <;> simp only [D.items] at e <;> try (cases e; done)
  · cases e; obtain ⟨a, vs, rfl, h1, r⟩ := rx.tup; exact ⟨a, vs, rfl, .inr h1, r, fun _ _ => trivial⟩
  · cases e; obtain ⟨a, vs, rfl, h1, r⟩ := rx.lst; exact ⟨a, vs, rfl, .inl (.inl (.inl h1)), r, fun _ _ => trivial⟩
  · cases e; obtain ⟨a, rfl, h1⟩ := rx.scr; exact ⟨a, _, rfl, .inl h1, RVs.ints _, fun _ _ => trivial⟩
theorem bi_ok {K : KX} {w : Wd} {st : Sto} {H : Hp} (R : RS K w st H) {f : BI} {vs : List V} {xs : List D} {z : D} {Q : VK} (rx : PVs K (Zm w st) H vs xs) (e : biD f xs = some z) (h : FinQ K (Zm w st) H z Q) : rBI K f vs H Q := by
  cases f with
  | len =>
    cases rx with
    | nil => cases e
    | cons r t => cases t with
      | cons _ _ => simp [biD] at e
      | nil =>
        simp only [biD, Option.map_eq_some_iff] at e
        obtain ⟨n, e, rfl⟩ := e
        refine ⟨_, n, rfl, ?_, h.1 _ (.int _)⟩
        rename_i v d
        cases d <;> simp only [D.len] at e <;> try (cases e; done)
        · split at e
          · rename_i hl
            obtain ⟨rfl, _⟩ := r.str
            cases e
            exact ⟨by rw [sizeLine_eq]; exact hl, rfl⟩
          · cases e
        · cases e; obtain ⟨a, vs, rfl, h1, r⟩ := r.tup; exact .inr ⟨vs, h1, r.length.symm⟩
        · cases e; obtain ⟨a, vs, rfl, h1, r⟩ := r.lst; exact .inl ⟨vs, .inl (.inl h1), r.length.symm⟩
        · cases e; obtain ⟨a, rfl, h1⟩ := r.scr; exact .inl ⟨_, h1, by simp⟩
  | abs =>
    cases rx with
    | nil => cases e
    | cons r t => cases t with
      | cons _ _ => rename_i d _ _ _ _ _ _ ; cases d <;> simp [biD] at e
      | nil =>
        rename_i v d
        cases d <;> simp only [biD] at e <;> try (cases e; done)
        cases e; cases r.int; exact ⟨_, rfl, h.1 _ (.int _)⟩
  | int =>
    cases rx with
    | nil => cases e
    | cons r t => cases t with
      | cons _ _ => rename_i d _ _ _ _ _ _ ; cases d <;> simp [biD] at e
      | nil =>
        rename_i v d
        cases d <;> simp only [biD] at e <;> try (cases e; done)
        · cases e; cases r.bl; exact .inr ⟨_, rfl, h.1 _ (.int _)⟩
        · cases e; cases r.int; exact .inl ⟨_, rfl, h.1 _ (.int _)⟩
  | max2 =>
    cases rx with
    | nil => cases e
    | cons r t => cases t with
      | nil => rename_i d; cases d <;> simp [biD] at e
      | cons r2 t => cases t with
        | cons _ _ => rename_i d _ _ _ _ _ d2 _ _ _; cases d <;> simp [biD] at e
        | nil =>
          rename_i d1 _ d2
          cases d1 <;> cases d2 <;> simp only [biD] at e <;> try (cases e; done)
          cases e; cases r.int; cases r2.int; exact ⟨_, _, rfl, h.1 _ (.int _)⟩
  | min2 =>
    cases rx with
    | nil => cases e
    | cons r t => cases t with
      | nil => rename_i d; cases d <;> simp [biD] at e
      | cons r2 t => cases t with
        | cons _ _ => rename_i d _ _ _ _ _ d2 _ _ _; cases d <;> simp [biD] at e
        | nil =>
          rename_i d1 _ d2
          cases d1 <;> cases d2 <;> simp only [biD] at e <;> try (cases e; done)
          cases e; cases r.int; cases r2.int; exact ⟨_, _, rfl, h.1 _ (.int _)⟩
  | list =>
    cases rx with
    | nil => cases e
    | cons r t => cases t with
      | cons _ _ => simp [biD] at e
      | nil =>
        simp only [biD, Option.map_eq_some_iff] at e
        obtain ⟨ds, e, rfl⟩ := e
        obtain ⟨p, ys, rfl, h1, r2, _⟩ := items_ok r e
        exact ⟨p, ys, rfl, h1, fun l hl => h.2 l _ _ hl (.lst upd_same (Zm.notNew R hl) (r2.mono (Tr.laid R hl).keep))⟩
  | tuple =>
    cases rx with
    | nil => cases e
    | cons r t => cases t with
      | cons _ _ => simp [biD] at e
      | nil =>
        simp only [biD, Option.map_eq_some_iff] at e
        obtain ⟨ds, e, rfl⟩ := e
        rename_i v d
        cases d <;> simp only [D.items] at e <;> try (cases e; done)
        · cases e
          obtain ⟨a, vs, rfl, h1, r2⟩ := r.tup
          exact ⟨a, vs, rfl, .inr ⟨h1, h.1 _ (by rcases r with q | ⟨_, _, _, _, q, _⟩; exact q; cases q)⟩⟩
        · cases e
          obtain ⟨a, vs, rfl, h1, r2⟩ := r.lst
          exact ⟨a, vs, rfl, .inl ⟨.inl (.inl h1), fun l hl => h.2 l _ _ hl (.tup (.inl upd_same) (Zm.notNew R hl) (r2.mono (Tr.laid R hl).keep))⟩⟩
        · cases e
          obtain ⟨a, rfl, h1⟩ := r.scr
          exact ⟨a, _, rfl, .inl ⟨h1, fun l hl => h.2 l _ _ hl (.tup (.inl upd_same) (Zm.notNew R hl) (RVs.ints _))⟩⟩
  | str => simp [biD] at e
  | all =>
    cases rx with
    | nil => cases e
    | cons r t => cases t with
      | cons _ _ => rename_i d _ _ _ _ _ _ ; cases d <;> simp [biD] at e
      | nil =>
        rename_i v d
        cases d <;> simp only [biD] at e <;> try (cases e; done)
        rw [Option.map_eq_some_iff] at e
        obtain ⟨bs, e, rfl⟩ := e
        obtain ⟨a, vs, rfl, h1, r2⟩ := r.lst
        rw [r2.map_bl e] at h1
        exact ⟨a, bs, rfl, .inl (.inl h1), h.1 _ (.bl _)⟩
/-! ### isinstance -/
theorem tyX_of {K : PySem.W.Frag} {Z : Addr → Prop} {H : Hp} {v : V} {d : D} (r : PV K Z H v d) : TyX K H v (.type (kindD d)) := by
  cases d with
  | non => cases r.non; exact .base .non
  | bl b => cases r.bl; exact .base (.bl _)
  | int i => cases r.int; exact .base (.int _)
  | str s => cases r.str.1; exact .base (.str _)
  | tup xs =>
    obtain ⟨a, vs, rfl, h1, _⟩ := r.tup
    rcases h1 with (h1 | ⟨o, h1⟩) | ⟨o, its, n, h1, h2, _⟩
    · exact .base (.tup h1)
    · exact .fTuple h1
    · exact .kTuple h1 h2
  | lst xs =>
    obtain ⟨a, vs, rfl, h1, _⟩ := r.lst
    exact .base (.lst h1)
  | scr ns =>
    obtain ⟨a, rfl, h1⟩ := r.scr
    rcases h1 with (h1 | ⟨o, h1⟩) | ⟨o, its, n, h1, h2, _⟩
    · exact .base (.lst h1)
    · exact .base (.frz h1)
    · exact .kList h1 h2
  | dct ks xs =>
    obtain ⟨a, o, kvs, rfl, h1, _⟩ := r.dct
    exact .fDict h1
def tyOk (t : String) : Bool := t == "bool" || t == "int" || t == "str" || t == "tuple" || t == "list" || t == "dict"
theorem kit0 : ∀ k ∈ ["NoneType", "bool", "int", "str", "tuple", "list", "dict"], ∀ t ∈ ["bool", "int", "str", "tuple", "list", "dict"], kitB k t = some (isK k t) := by decide +kernel
theorem kindD_mem (d : D) : kindD d ∈ ["NoneType", "bool", "int", "str", "tuple", "list", "dict"] := by cases d <;> simp [kindD]
theorem kit1 {K : PySem.W.Frag} (d : D) (t : String) (h : tyOk t = true) : PySem.W.kitOne K (.type (kindD d)) (.type t) = some (isT d t) := by
  have h : t = "bool" ∨ t = "int" ∨ t = "str" ∨ t = "tuple" ∨ t = "list" ∨ t = "dict" := by simpa [tyOk, or_assoc] using h
  exact kit_ty (kit0 _ (kindD_mem d) t (by simp [h]))
theorem kits {K : PySem.W.Frag} (d : D) : ∀ ts : List String, ts.all tyOk = true → PySem.W.kitAny K (.type (kindD d)) (ts.map Value.type) = some (ts.any (isT d))
  | [], _ => rfl
  | t :: ts, h => by
    rw [List.all_cons, Bool.and_eq_true] at h
    refine kitAny_cons (kit1 d t h.1) (fun e => ?_) fun e => ?_
    · rw [kits d ts h.2, List.any_cons, e, Bool.false_or]
    · rw [List.any_cons, e, Bool.true_or]
end
end Sw
/-! The checker: is this the small program of that text? -/
namespace Sw
open PySem PySem.Spec L2

structure Nm where
  fn : Nat → Option Str
  gl : Nat → Option Str
  gd : List (Str × List Str × List Int)
  ex : Nat → Option Str
  exf : Nat → Option Str
  ks : List Str
  sq : Bool
  lon : Scope → Bool
  lam : Nat → Arguments → Expr → Scope → Bool
def glB (sc : Scope) (x : Str) : Bool := decide (sc.names.lookup x = some .globalImplicit) && decide (x ≠ "__debug__")
def visB (sc : Scope) (x : Str) : Bool := (match sc.names.lookup x with
  | some .local => true
  | some .cell => true
  | some .free => true
  | _ => false) && decide (x ≠ "__debug__") && decide (x ≠ "__classdict__")
def locB (sc : Scope) (x : Str) : Bool := match sc.names.lookup x with
  | some .local => true
  | some .cell => true
  | _ => false
def notStar : Expr → Bool
  | .Starred _ _ => false
  | _ => true
def notSet : Expr → Bool
  | .Set _ _ _ => false
  | _ => true
/-- the base of a method's call is looked at as it stands -/
def notSuper : Expr → Bool
  | .Name _ _ => true
  | .Dict _ _ _ => true
  | .Subscript _ _ _ => true
  | .Attribute _ _ _ => true
  | .Constant _ _ _ => true
  | _ => false
def notSlice : Expr → Bool
  | .Slice _ _ _ _ => false
  | _ => true
def isM1 : Expr → Bool
  | .UnaryOp .USub (.Constant (.int i) _ _) _ => decide (i = 1)
  | .BinOp (.Constant (.int i) _ _) .Sub (.Constant (.int j) _ _) _ => decide (i = 0) && decide (j = 1)
  | _ => false
def tysOk (sc : Scope) : List Expr → List String → Bool
  | [], [] => true
  | .Name x _ :: es, t :: ts => decide (x = Str.ofString t) && glB sc x && tyOk t && tysOk sc es ts
  | _, _ => false
def bltNames : List Str := ["len", "abs", "int", "max", "min", "list", "tuple", "str", "all", "isinstance", "range", "enumerate", "bool", "dict", "set", "sorted"]
section
variable (nm : Nm) (N : List Str)
def chkT (tl : Str → Bool) : T → Expr → Bool
  | .nm i, .Name x _ => decide (N[i]? = some x) && tl x && decide (x ≠ "__debug__")
  | .tp is, .Tuple es _ _ => go is es
  | _, _ => false
where go : List Nat → List Expr → Bool
  | [], [] => true
  | i :: is, .Name x _ :: es => decide (N[i]? = some x) && tl x && decide (x ≠ "__debug__") && go is es
  | _, _ => false
def tsl : T → List Nat
  | .nm i => [i]
  | .tp is => is
/-- a comprehension's own name -/
def ownB (scope : Scope) (x : Str) : Bool := match scope.names.lookup x with
  | some .local => true
  | some .cell => true
  | _ => false
def ownP (own : List Nat) : List (Str × Nat) := own.filterMap fun i => (N[i]?).map fun x => (x, i)
def isTup : Expr → Bool
  | .Tuple _ _ _ => true
  | _ => false
def isEnm : I → Bool
  | .enm _ => true
  | _ => false
/-- what makes a list of its own -/
def dspK : List Key → List (Option Expr) → Bool
  | [], [] => true
  | .inr k :: ks, some (.Constant (.str x) _ _) :: xs => decide (k = x) && PyData.strOk k && dspK ks xs
  | .inl k :: ks, some (.Constant (.int x) _ _) :: xs => decide (k = x) && dspK ks xs
  | _, _ => false
def args1 : OP1 → Scope → Expr → Option Expr
  | .dictP, sc, .Call (.Name x _) [a] [] _ => if decide (x = "dict") && glB sc x && notStar a then some a else none
  | .lset, sc, .Call (.Name x _) [.Call (.Name y _) [a] [] _] [] _ => if decide (x = "len") && glB sc x && decide (y = "set") && glB sc y && notStar a then some a else none
  | .vals, sc, .Call (.Name x _) [.Call (.Attribute a m ap) [] [] cp] [] _ => if decide (x = "list") && glB sc x && decide (m = "values") && decide (ap.endLine = cp.line) && notSuper a then some a else none
  | .srt, sc, .Call (.Name x _) [a] [] _ => if decide (x = "sorted") && glB sc x && notStar a then some a else none
  | .lrg, sc, .Call (.Name x _) [.Call (.Name y _) [a] [] _] [] _ => if decide (x = "list") && glB sc x && decide (y = "range") && glB sc y && notStar a then some a else none
  | _, _, _ => none
def args2 : OP2 → Scope → Expr → Option (Expr × Expr)
  | .dix, _, .Subscript a b _ => if notSlice b then some (a, b) else none
  | .din, _, .Compare a [.In] [b] _ => if notSet b then some (a, b) else none
  | .dnin, _, .Compare a [.NotIn] [b] _ => if notSet b then some (a, b) else none
  | .dne, _, .Compare a [.NotEq] [b] _ => if notSet b then some (a, b) else none
  | _, _, _ => none
def args3 : OP3 → Scope → Expr → Option (Expr × Expr × Expr)
  | .get, _, .Call (.Attribute a m ap) [b, c] [] cp => if decide (m = "get") && notStar b && notStar c && decide (ap.endLine = cp.line) && notSuper a then some (a, b, c) else none
  | _, _, _ => none
def isNw : E → Bool
  | .lst _ => true
  | .bin .add _ _ => true
  | .comp _ _ _ _ _ => true
  | .bi .list _ => true
  | _ => false
mutual
def chkE : Scope → E → Expr → Bool
  | sc, .var i, .Name x _ => decide (N[i]? = some x) && visB sc x
  | _, .int i, .Constant (.int j) _ _ => decide (i = j)
  | _, .bl i, .Constant (.bool j) _ _ => decide (i = j)
  | _, .str i, .Constant (.str j) _ _ => decide (i = j) && PyData.strOk i
  | _, .non, .Constant .none _ _ => true
  | sc, .glob j, .Name x _ => decide (nm.gl j = some x) && glB sc x
  | sc, .tup es, .Tuple xs _ _ => chkL sc es xs && decide (xs.length ≤ 1000)
  | sc, .lst es, .List xs _ => chkL sc es xs && decide (xs.length ≤ 1000)
  | sc, .newl es, .List xs _ => chkA sc es xs && decide (xs.length ≤ 1000)
  | sc, .bin o a b, .BinOp l op r _ => decide (op = bo o) && chkE sc a l && chkE sc b r
  | sc, .neg a, .UnaryOp .USub x _ => chkE sc a x
  | sc, .cmp o a b, .Compare l [op] [r] _ => decide (op = co o) && chkE sc a l && chkE sc b r && notSet r
  | sc, .chain o1 o2 a b c, .Compare l [op1, op2] [r, q] _ => decide (op1 = co o1) && decide (op2 = co o2) && chkE sc a l && chkE sc b r && chkE sc c q && notSet q
  | sc, .and a b, .BoolOp .And [v, w] _ => chkE sc a v && chkE sc b w
  | sc, .and a b, .BoolOp .And (v :: w :: u :: r) p => chkE sc a v && chkE sc b (.BoolOp .And (w :: u :: r) p)
  | sc, .or a b, .BoolOp .Or [v, w] _ => chkE sc a v && chkE sc b w
  | sc, .or a b, .BoolOp .Or (v :: w :: u :: r) p => chkE sc a v && chkE sc b (.BoolOp .Or (w :: u :: r) p)
  | sc, .not a, .UnaryOp .Not x _ => chkE sc a x
  | sc, .ife c a b, .IfExp t x y _ => chkE sc c t && chkE sc a x && chkE sc b y
  | sc, .idx a b, .Subscript x i _ => chkE sc a x && chkE sc b i && notSlice i
  | sc, .slc a lo hi, .Subscript x (.Slice l h none _) _ => chkE sc a x && chkO sc lo l && chkO sc hi h
  | sc, .rev a, .Subscript x (.Slice none none (some st) _) _ => chkE sc a x && isM1 st
  | sc, .call f es, .Call (.Name x _) (a :: as) [] _ => decide (nm.fn f = some x) && glB sc x && chkA sc es (a :: as)
  | sc, .bi f es, .Call (.Name x _) (a :: as) [] _ => decide (x = biN f) && glB sc x && chkA sc es (a :: as)
  | sc, .isi a ts, .Call (.Name x _) [v, .Tuple es _ _] [] _ => decide (x = "isinstance") && glB sc x && chkE sc a v && notStar v && tysOk sc es ts && decide (es.length ≤ 1000)
  | sc, .isi a ts, .Call (.Name x _) [v, t] [] _ => decide (x = "isinstance") && glB sc x && chkE sc a v && notStar v && tysOk sc [t] ts
  | sc, .comp elt t it cs own, .ListComp e [⟨tg, iter, ifs, 0⟩] scope _ => chkI sc it iter && notSet iter && (own.all fun i => decide (i < N.length)) && blkC N sc scope (ownP N own) &&
      chkT N (ownB scope) t tg && (tsl t).all (fun i => own.contains i) && chkC (relS scope sc) cs ifs && chkE (relS scope sc) elt e && ((isTup tg || !isEnm it) && !nm.lon (relS scope sc))
  | sc, .comp2 elt t it t1 it1 own own1, .ListComp e [⟨tg, iter, [], 0⟩, ⟨tg1, iter1, [], 0⟩] scope _ => chkI sc it iter && notSet iter && (own.all fun i => decide (i < N.length)) && blkC N sc scope (ownP N own) &&
      chkT N (ownB scope) t tg && (tsl t).all (fun i => own.contains i) && chkI (relS scope sc) it1 iter1 && notSet iter1 && chkT N (ownB scope) t1 tg1 && (tsl t1).all (fun i => own1.contains i) && chkE (relS scope sc) elt e && own1.all (fun i => own.contains i) && ((isTup tg || !isEnm it) && !nm.lon (relS scope sc)) && (isTup tg1 || !isEnm it1)
  | sc, .frz a, x => chkE sc a x
  | sc, .nw a, x => isNw a && chkE sc a x
  | _, .nev, _ => true
  | sc, .dsp ks es, .Dict keys vals _ => dspK ks keys && chkL sc es vals && decide (ks ≠ []) && decide (ks.length ≤ 15) && decide ks.Nodup && decide (keys.length = vals.length)
  | sc, .op1 o a, x => (match args1 o sc x with
    | some y => chkE sc a y
    | none => false)
  | sc, .op2 o a b, x => (match args2 o sc x with
    | some (y, z) => chkE sc a y && chkE sc b z
    | none => false)
  | sc, .chain3 o1 o2 o3 a b c d, .Compare l [op1, op2, op3] [r, q, t] _ => decide (op1 = co o1) && (decide (op2 = co o2) && (decide (op3 = co o3) && (chkE sc a l && (chkE sc b r && (chkE sc c q && (chkE sc d t && notSet t))))))
  | sc, .seq a b c d, .Compare (.Set [x, y] 0 _) [.Eq] [.Set [z, u] 0 _] _ => chkE sc a x && (chkE sc b y && (chkE sc c z && (chkE sc d u && (notStar x && (notStar y && (notStar z && (notStar u && nm.sq)))))))
  | sc, .gget ks vs b c, .Call (.Attribute (.Name x _) m ap) [y, z] [] cp => decide (m = "get") && (nm.gd.any (fun p => decide (p = (x, ks, vs))) && (glB sc x && (notStar y && (notStar z && (decide (ap.endLine = cp.line) && (chkE sc b y && chkE sc c z))))))
  | sc, .lam j, .Lambda ps b s _ => nm.lon sc && nm.lam j ps b s
  | sc, .catl a es, .BinOp l .Add (.List xs _) _ => nm.lon sc && chkE sc a l && chkA sc es xs
  | sc, .kind ks a, .Call (.Name x _) [v] [] _ => nm.lon sc && decide (x = "_law_kind") && glB sc x && decide (ks = nm.ks) && chkE sc a v && notStar v
  | sc, .kinds ks a, .ListComp (.Call (.Name x _) [.Name y _] [] _) [⟨.Name z _, it, [], 0⟩] scp _ => nm.lon sc && (decide (x = "_law_kind") && (decide (y = z) && (decide (ks = nm.ks) && (chkE sc a it && (notSet it && (glB (relS scp sc) x &&
      (decide (scp.names.lookup y = some .local) && (decide (y ≠ "__debug__") && (decide (y ≠ "__classdict__") && (decide (N.idxOf y < N.length) && blkC N sc scp [(y, N.idxOf y)]))))))))))
  | sc, .op3 o a b c, x => (match args3 o sc x with
    | some (y, z, w) => chkE sc a y && chkE sc b z && chkE sc c w
    | none => false)
  | _, _, _ => false
def chkL : Scope → EL → List Expr → Bool
  | _, .nil, [] => true
  | sc, .cons a r, x :: xs => chkE sc a x && notStar x && chkL sc r xs
  | _, _, _ => false
def chkA : Scope → EL → List Expr → Bool
  | _, .nil, [] => true
  | sc, .cons a r, x :: xs => chkE sc a x && notStar x && chkA sc r xs
  | _, _, _ => false
def chkO : Scope → EL → Option Expr → Bool
  | _, .nil, none => true
  | sc, .cons a .nil, some x => chkE sc a x
  | _, _, _ => false
def chkC : Scope → EL → List Expr → Bool
  | _, .nil, [] => true
  | sc, .cons a .nil, [x] => chkE sc a x
  | _, _, _ => false
def chkI : Scope → I → Expr → Bool
  | sc, .rng1 a, .Call (.Name x _) [v] [] _ => decide (x = "range") && glB sc x && chkE sc a v && notStar v
  | sc, .rng2 a b, .Call (.Name x _) [v, u] [] _ => decide (x = "range") && glB sc x && chkE sc a v && notStar v && chkE sc b u && notStar u
  | sc, .enm a, .Call (.Name x _) [v] [] _ => decide (x = "enumerate") && glB sc x && chkE sc a v && notStar v
  | sc, .val a, x => chkE sc a x
  | sc, .keys a, x => chkE sc a x
  | _, _, _ => false
end
end
end Sw
/-! an own exception's __init__ that calls its own base's (the base has none of its own) -/
namespace Sw
open PySem PySem.Spec L2 PyProof.Rows
/-- what must be known of the own base -/
structure BaseI (K : PySem.W.Frag) (mg : Str → Option Value) (B : Str) (F : Addr) : Prop where
  mg : mg B = some (.ref F)
  rd : PySem.W.readsIn K F (.type "type") = true
  ga : PySem.W.specialIn K (.ref F) "__getattribute__" = some (some (.builtin "type.__getattribute__"))
  at_ : PySem.W.findCls K (.ref F) (.type "type") "__init__" = some (.val (.builtin "ValueError.__init__"))
theorem pe_oinit {X : Cx} {B : Str} {F : Addr} {e : Expr} {es : List Expr} {ta : TA} {p1 p2 pos : Pos} (b : BaseI X.K X.mg B F) (hg : Gl X B) (hdb : (B == ("__debug__" : Str)) = false) (ha : PA X (e :: es) ta) (hline : (p2.endLine == pos.line) = true)
    (hfew : ((backTo pos (starEach (e :: es) X.env)).all (fun x => !x.1) && (backToKw pos (keywordEach [] X.env)).all (fun x => x.1.isSome)
      && decide ((e :: es).length + ([] : List Keyword).length + (if ([] : List Keyword).isEmpty then 0 else 1) < 30)) = true := by rfl)
    (he : starEach (e :: es) X.env = (false, eval e X.env) :: starEach es X.env := by rfl) (hpl : (backTo pos (starEach es X.env)).any (·.1) = false := by rfl) :
    PE X (.Call (.Attribute (.Name B p1) "__init__" p2) (e :: es) [] pos) (tVeI X.K ta) := by
  refine ⟨fun pins s σ H Q I h => ?_⟩
  have hbase : attributeBase (.Name B p1) "__init__" X.env (eval (.Name B p1) X.env) = eval (.Name B p1) X.env := rfl
  rw [arm_eval_Call, hbase]
  refine wpAny_bind (ld_glob I hg b.mg ?_ hdb)
  refine wpAny_bind (wpAny_standAt ?_)
  have hform : methodCallForm ((e :: es).length + ([] : List Keyword).length) (backTo pos (starEach (e :: es) X.env)) (backToKw pos (keywordEach [] X.env)) = true := hfew
  have hpos : methodCallPos true (.Name B p1) X.env p2 pos = pure pos := by unfold methodCallPos; simp [hline]
  unfold methodCall
  rw [hform]
  refine wpAny_bind (wpAny_holding ?_)
  show wpAny _ _ (getMethod (.ref F) "__init__" _) _ _ _
  refine PySem.W.method_cls I.kIn b.ga ?_
  refine PySem.W.cls_value I.kIn b.rd b.at_ (by decide +kernel) ?_
  refine wpAny_bind (wpAny_of_eq hpos ?_)
  show wpAny _ _ (callWith pos (Value.builtin "ValueError.__init__") [] (backTo pos (starEach (e :: es) X.env)) []) _ _ _
  refine PyProof.Rows.callWith_method1 (thn (ha.run pos pins _ σ H _ (I.tok _) h) fun us s1 ⟨vs, H1, I1, r1, a, C, ws, ev, hl, T, ea, q⟩ => ?_) he hpl
  subst ev
  cases r1 with
  | @cons _ u0 _ ur ra rw' =>
    obtain rfl : u0 = Value.ref a := ra
    have hlen : ur.length ≤ sizeLine := by
      rw [← Paired.length rw', sizeLine_eq]
      omega
    exact oinit_ok T I1 ea hlen fun s' J => ⟨.non, H1, J, rfl, q⟩
/-- what such an __init__ does -/
def spI (K : PySem.W.Frag) (f : Str) : Sp := fun vs H Q _ => ∃ (a C : Addr) (n : V), vs = [.ref a, n] ∧ OexC K C ∧ PySem.W.findIn K (.ref C) f = some none ∧ H a = some (exo a C none) ∧ ∀ d, H d = none → d ≠ a → Q .non (upd (upd H d (exd d [(f, n)])) a (exo a C (some d)))
theorem okI {qual x : Str} {params : Arguments} {body : List Stmt} {scope : Scope} {dvs : List V} {kws : List (Str × V)} {f : Addr} {fd : FuncData} {CX : CXT} {N ps : List Str} {k : Nat} {sp : Sp} {P : Program} {w : World} {K : PySem.W.Frag} {mg : Str → Option Value} {base : Heap} (F : FunD K x qual params body scope dvs kws f fd) (S : FnScope N ps scope) (len : ∀ vs H Q E, sp vs H Q E → vs.length = ps.length)
    (hbody : ∀ (cdv : Value), ∀ (A : Around) (outer : List PySem.Env) (s : Shared) (H : Hp) (vs : List V) (Q : VK) (E : XK), sp vs H Q E →
      ∃ t, PSs (cxOf CX P w K mg base N qual scope f cdv A outer s H E) body t ∧ t { nx := fun _ H' => Q .non H', rt := Q } (L2.start N vs) H) : FnOk P w K mg base CX (k + 1) f fd ps sp := by
  obtain ⟨oc, od, dV, kV, doc, pm, an, cdv, ct, osl, rfl, lk, hcd, _, _⟩ := F.ex
  exact fn_of lk hcd S len fun A outer s H vs Q E hr hsp => hbody cdv A outer s H vs Q E hsp
section
variable {P : Program} {w : World} {K : PySem.W.Frag} {mg : Str → Option Value} {base : Heap}
theorem init_ok {m y fl qual : Str} {j k : Nat} {F fI : Addr} {fd : FuncData} {params : Arguments} {scope : Scope} {p1 p2 p3 p4 p5 p6 p7 p8 p9 p10 : Pos} {CX : CXT} (b : BaseI K mg "FloatError" F) (hB : glB scope "FloatError" = true)
    (FD : FunD K "__init__" qual params [.Expr (.Call (.Attribute (.Name "FloatError" p1) "__init__" p2) [.Name "self" p3, .Constant (.str m) j p4] [] p5) p6, .Assign [.Attribute (.Name "self" p7) fl p8] (.Name y p9) p10] scope [] [] fI fd)
    (S : FnScope ["self", y] ["self", y] scope) (hs : scope.names.lookup ("self" : Str) = some .local) (hy : scope.names.lookup y = some .local) (hline : (p2.endLine == p5.line) = true) (hyd : (y == ("__debug__" : Str)) = false) (hyc : (y == ("__classdict__" : Str)) = false) : FnOk P w K mg base CX (k + 1) fI fd ["self", y] (spI K fl) := by
  refine okI FD S (fun vs H Q E ⟨a, C, n, e, _⟩ => by rw [e]; rfl) fun cdv A outer s H vs Q E ⟨a, C, n, e, T, hf, hH, q⟩ => ?_
  subst e
  unfold glB at hB
  rw [Bool.and_eq_true, decide_eq_true_eq, decide_eq_true_eq] at hB
  have g : Gl (cxOf CX P w K mg base ["self", y] qual scope fI cdv A outer s H E) "FloatError" := hB.1
  have hd : (("FloatError" : Str) == ("__debug__" : Str)) = false := by simpa using hB.2
  have vs : ∀ pos, PE (cxOf CX P w K mg base ["self", y] qual scope fI cdv A outer s H E) (.Name "self" pos) (tVar 0) := fun pos => pe_var rfl (.inl hs) (by decide +kernel) (by decide +kernel)
  have vy : ∀ pos, PE (cxOf CX P w K mg base ["self", y] qual scope fI cdv A outer s H E) (.Name y pos) (tVar 1) := fun pos => pe_var rfl (.inl hy) hyd hyc
  have b' : BaseI (cxOf CX P w K mg base ["self", y] qual scope fI cdv A outer s H E).K (cxOf CX P w K mg base ["self", y] qual scope fI cdv A outer s H E).mg "FloatError" F := b
  have s1 : PS (cxOf CX P w K mg base ["self", y] qual scope fI cdv A outer s H E) (.Expr (.Call (.Attribute (.Name "FloatError" p1) "__init__" p2) [.Name "self" p3, .Constant (.str m) j p4] [] p5) p6) _ := ps_expr (pe_oinit b' g hd (pa_cons (vs p3) (pa_cons pe_str pa_nil)) hline)
  have s2 := ps_ost (f := fl) (p' := p8) (pos := p10) (vs p7) (vy p9)
  refine ⟨_, pss_cons s1 (pss_one s2), ?_⟩
  refine ⟨.ref a, rfl, a, C, _, rfl, by simp, T, hH, ?_⟩
  exact ⟨n, rfl, .ref a, rfl, a, C, rfl, T, hf, .inl ⟨hH, fun d h1 h2 => q d h1 h2⟩⟩
end
end Sw
/-! isinstance of a caught exception that has fields -/
namespace Sw
open PySem PySem.W PySem.Spec L2 PyProof.Rows
section
variable {prog : Program} {w : World} {A : Around} {E : Value → Shared → Prop} {s : Shared} {K : PySem.W.Frag} {x D : Addr} {ox od : Obj}
theorem cls_find {K : PySem.W.Frag} {a g : Value} {od : Option Obj} {name : Str} (hc : (clsIn K D).isSome = true) (ha : findIn K (.ref D) name = some (some a)) (hg : specialIn K a "__get__" = some (some g)) (ht : takesIn K a = some true) : findObj K D od name = some (.bind g a) := by
  obtain ⟨cd, hc⟩ := Option.isSome_iff_exists.mp hc
  unfold findObj
  rw [hc, Option.bind_some, ha, Option.bind_some]
  simp [hg, ht]
theorem kin_classD (C : ExcC K D) (X : K.In s.heap) (I : InstAt s.heap x ox D (some od)) {Q : Option Value → Shared → Prop} (h : Q (some (.ref D)) { s with toks := s.toks + 1 }) : wpAny (model prog w) A (getAttr? (.ref x) "__class__") Q E s := by
  have hf : findObj K D (some od) "__class__" = some (.bind (.builtin "getset_descriptor.__get__") (.builtin "object.__class__")) := cls_find (by obtain ⟨cd, hc, _⟩ := any_some C.hd; rw [hc]; rfl) C.ha C.hn C.ht
  obtain ⟨hp, g, d, t, os⟩ := s
  have L0 := I.type (M := model prog w)
  have L1 := looks_findIn (M := model prog w) X C.hg
  have L2 := looks_findIn (M := model prog w) X C.hk
  have L3 := looks_find (M := model prog w) X I hf
  have sub : Looks (model prog w) hp (isInstance (.ref x) (.type "BaseException")) true := L0.andThen (looks_subIn X C.hs)
  have hx0 : (false && onTheHeap (Value.builtin "BaseException.__getattribute__")) = false := rfl
  have hx2 : (Value.builtin "BaseException.__getattribute__" == Value.builtin "object.__getattribute__") = false := by decide +kernel
  have hx1 : (onTheHeap (Value.ref D) && Value.builtin "BaseException.__getattribute__" == Value.builtin "object.__getattribute__") = false := by rw [hx2]; rfl
  unfold getAttr? getAttrBy? getAttrBy
  refine wpAny_bind (wpAny_mkText (wpAny_bind (wpAny_attempt (wpAny_holding (wpAny_bind (L0.at (wpAny_bind (L1.at ?_))))))))
  show wpAny _ _ (if (onTheHeap (Value.ref D) && Value.builtin "BaseException.__getattribute__" == Value.builtin "object.__getattribute__") = true then _ else _) _ _ _
  rw [hx1, if_neg Bool.false_ne_true]
  unfold getAttrByItsOwn hookBefore
  refine wpAny_bind ?_
  rw [if_pos (show onTheHeap (Value.ref D) = true from rfl)]
  refine L2.at ?_
  refine wpAny_bind (wpAny_attempt (wpAny_holding ?_))
  unfold callGetattribute
  rw [hx0, if_neg Bool.false_ne_true]
  unfold boundAndCalled
  rw [PySem.F.excAttr_ValueError.ga.bind (.ref x)]
  refine wpAny_bind (wpAny_pure ?_)
  show wpAny _ _ (call (.builtin "BaseException.__getattribute__") [.ref x, .str "__class__" t]) _ _ _
  refine wpAny_call (codeAny_call_builtin PySem.F.excAttr_ValueError.ga.plain PySem.F.entry_bexc_ga ?_)
  refine @check_slot (model prog w) _ _ ⟨hp, g, d, t + 1, os⟩ "BaseException.__getattribute__" "BaseException" "__getattribute__" (.ref x) [.str "__class__" t] [] _ (by decide +kernel) (by decide +kernel) sub (PySem.F.args_bexc_ga (.ref x) (.str "__class__" t)) ?_
  unfold Builtin.«object.__getattribute__»
  refine wpAny_bind (wpAny_of_eq (a := ((Value.ref x : Value), [Value.str "__class__" t])) (by first | rfl | (simp only [slotArgs]; rfl)) ?_)
  refine wpAny_bind (wpAny_pure (wpAny_bind (L0.at (wpAny_bind (L3.at ?_)))))
  show wpAny _ _ (holding [Value.builtin "object.__class__"] (call (.builtin "getset_descriptor.__get__") [.builtin "object.__class__", .ref x, .ref D]) >>= PySem.ret) _ _ _
  refine wpAny_bind (wpAny_holding (wpAny_call (class_get (s := ⟨hp, g, d, t + 1, os⟩) (ox := ox) (od := some od) X I C.hm ?_)))
  refine wpAny_pure ?_
  show wpAny _ _ (handedOut (.ref D)) _ _ _
  rw [handedOut_of (v := .ref D) rfl]
  first
    | exact wpAny_pure (wpAny_pure h)
    | exact wpAny_pure h
    | exact wpAny_pure (wpAny_bind (wpAny_pure (wpAny_pure h)))
theorem kitx_D (C : ExcC K D) : KitX K (.ref x) (.ref D) (fun h => ∃ od, InstAt h x ox D (some od)) where
  ty := fun _ _ _ ⟨_, I⟩ => I.type
  it := fun _ _ X _ => by
    obtain ⟨cdD, hcD, _⟩ := any_some C.hd
    unfold clsIn at hcD
    split at hcD
    · rename_i c' d' cd' sl' ho
      intro A' Q' E' s' k q
      unfold isType loadHead
      exact wpAny_bind (wpAny_loadPart (k _ _ (X _ _ ho)) (wpAny_pure q))
    · cases hcD
  ne := fun h tp dd its n sl X htp => by
    obtain ⟨cdD, hcD, _⟩ := any_some C.hd
    refine Bool.eq_false_iff.mpr fun q => ?_
    have e : D = tp := Value.ref.inj (beq_iff_eq.mp q)
    subst e
    unfold clsIn at hcD
    split at hcD
    · rename_i c' d' cd' sl' ho
      have z := (X _ _ ho).symm.trans htp
      cases z
    · cases hcD
  ca := fun X ⟨_, I⟩ k => kin_classD C X I k
end
/-- isinstance(e, c), e the exception that the suite holds, whatever its dict -/
theorem call_isD {X : Cx} {a D : Addr} {oe : Obj} {pn : List (Addr × Obj)} {dx : Option Addr} (C : ExcC X.K D) (hz : Zc (.ref D) dx oe) (hf : ∃ vs, oe.data = .fields vs) : CallR (X.suite a ((a, oe) :: pn)) (.builtin "isinstance") (fun xs H Q => (dx = none ∨ ∃ d fs, dx = some d ∧ H d = some (.xd fs)) ∧ rIsE X.K D a xs H Q) := by
  cases dx with
  | none =>
    intro pins s σ H xs us Q I r h
    exact call_isE C hz hf pins s σ H xs us Q I r h.2
  | some d =>
    intro pins s σ H xs us Q I r h
    obtain ⟨hd, c, cv, b, rfl, hcv, e, q⟩ := h
    obtain hd | ⟨d', fs, ed, hd⟩ := hd
    · cases hd
    cases ed
    cases r with
    | cons rx rr =>
      cases rr with
      | cons rt rr =>
        cases rr
        cases rx
        have ec := hcv _ rt
        subst ec
        obtain ⟨hget, _⟩ := I.pin (a, oe) (List.mem_append.mpr (.inl List.mem_cons_self))
        obtain ⟨vs, hv⟩ := hf
        have hx : ObjOk X.prog X.w H s.heap d (.xd fs) := I.hok d _ hd
        obtain ⟨mA, hns, hr⟩ := hx
        obtain ⟨od, ho, hl⟩ := lookIn_ns hns
        have J : PySem.W.InstAt s.heap a oe D (some od) := by
          refine ⟨hget, hz.1, ?_, ?_⟩
          · unfold PySem.W.notCls; rw [hv] <;> rfl
          · rw [hz.2]; exact ho
        exact PySem.W.kia_one (kitx_D C) I.kIn ⟨od, J⟩ e (fun z => nomatch z) fun tk => ⟨.bl b, H, I.kept (t' := tk) fun _ _ z => z, rfl, q⟩
end Sw
/-! What something tells, or the kind of its refusal -/
namespace Sw
open PySem PySem.Spec L2 PyProof.Rows LamX
def isiA (n C : Str) (q : Nat → Pos) (k : Nat) : Expr := .Call (.Name "isinstance" (q k)) [.Name n (q (k + 1)), .Name C (q (k + 2))] [] (q (k + 3))
def kWords : Str := "BadFormat BadFloat BadFraction BadRule BadWord BadTerm BadTree BadCount TooMany BadText BadMeet"
def suiteA (n : Str) (q : Nat → Pos) : List Stmt := [
 .Assign [.Name "_law_kinds" (q 0)] (.List [isiA n "BadFormat" q 1, isiA n "BadFloat" q 5, isiA n "BadFraction" q 9, isiA n "BadRule" q 13] (q 17)) (q 18),
 .Assign [.Name "_law_kinds" (q 19)] (.BinOp (.Name "_law_kinds" (q 20)) .Add (.List [isiA n "BadWord" q 21, isiA n "BadTerm" q 25, isiA n "BadTree" q 29] (q 33)) (q 34)) (q 35),
 .Assign [.Name "_law_kinds" (q 36)] (.BinOp (.Name "_law_kinds" (q 37)) .Add (.List [isiA n "BadCount" q 38, isiA n "TooMany" q 42, isiA n "BadText" q 46] (q 50)) (q 51)) (q 52),
 .Expr (.Call (.Attribute (.Name "_law_kinds" (q 53)) "append" (q 54)) [isiA n "BadMeet" q 55] [] (q 59)) (q 60),
 .Assign [.Name "_law_words" (q 61)] (.Constant (.str kWords) 0 (q 62)) (q 63),
 .If (.BoolOp .Or [.Compare (.Call (.Attribute (.Name "_law_kinds" (q 64)) "count" (q 65)) [.Constant (.bool true) 0 (q 66)] [] (q 67)) [.NotEq] [.Constant (.int 1) 0 (q 68)] (q 69), .UnaryOp .Not (isiA n "ValueError" q 70) (q 74)] (q 75)) [.Return (some (.Constant (.str "other") 0 (q 76))) (q 77)] [] (q 78),
 .Assign [.Name "_law_word" (q 79)] (.Subscript (.Call (.Attribute (.Name "_law_words" (q 80)) "split" (q 81)) [.Constant (.str " ") 0 (q 82)] [] (q 83)) (.Call (.Attribute (.Name "_law_kinds" (q 84)) "index" (q 85)) [.Constant (.bool true) 0 (q 86)] [] (q 87)) (q 88)) (q 89),
 .If (.Compare (.Name "_law_word" (q 90)) [.Eq] [.Constant (.str "BadFloat") 0 (q 91)] (q 92)) [.Return (some (.Tuple [.Name "_law_word" (q 93), .Attribute (.Name n (q 94)) "number" (q 95)] 0 (q 96))) (q 97)] [] (q 98),
 .Return (some (.IfExp (.Compare (.Name "_law_word" (q 99)) [.Eq] [.Constant (.str "BadTerm") 0 (q 100)] (q 101)) (.Tuple [.Name "_law_word" (q 102), .Attribute (.Name n (q 103)) "place" (q 104)] 0 (q 105)) (.Name "_law_word" (q 106)) (q 107))) (q 108)]
def kindA (n : Str) (q : Nat → Pos) : List Stmt :=
 [.Try [.Return (some (.Call (.Name "_law_work" (q 109)) [] [] (q 110))) (q 111)] [.ExceptHandler (some (.Name "FloatError" (q 112))) (some n) (suiteA n q) (q 113)] [] [] (q 114)]
def kNames : List Str := ["BadFormat", "BadFloat", "BadFraction", "BadRule", "BadWord", "BadTerm", "BadTree", "BadCount", "TooMany", "BadText", "BadMeet"]
/-! ### list.count of flat values -/
section
variable {X : Cx}
theorem count_eqU {y : V} : ∀ {ys : List V} {us : List Value}, Vals ys us → ys.all flatV = true → us.countP (eqU y) = ys.countP fun z => eqV z y
  | _, _, .nil, _ => rfl
  | z :: ys, u :: us, .cons r t, f => by
    rw [List.all_cons, Bool.and_eq_true] at f
    rw [List.countP_cons, List.countP_cons, count_eqU t f.2, eqU_of r f.1]
def rCntV (K : PySem.W.Frag) : V → List V → Hp → VK → Prop := fun x xs H Q => ∃ (p : Addr) (ys : List V) (y : V), x = .ref p ∧ xs = [y] ∧ SqL K H p ys ∧ flatV y = true ∧ ys.all flatV = true ∧ Q (.int (ys.countP fun z => eqV z y : Nat)) H
theorem mt_countV : MtR X "list.count" (rCntV X.K) := by
  intro pins s σ H x xs v us Q I rx rxs h
  obtain ⟨p, ys, y, rfl, rfl, hs, fy, fys, q⟩ := h
  cases rx
  obtain ⟨u, rfl, ru⟩ := rxs.one
  obtain ⟨its, rv, ⟨⟨cls, dd, data, sl⟩, n, ho, hc, hdn, hd⟩, hlen⟩ := I.list hs
  simp only at hc hd
  subst hc hd
  refine call_meets PySem.F.slot_list_count ⟨_, ho, rfl⟩ PySem.F.entry_list_count (PySem.F.args_list_count_2 _ _)
    (SeqAt.list_countAt p its.toArray n dd sl u (eqU y)) ⟨ho, fun w hw => mem_eqAt ru fy rv fys w (by simpa using hw), ?_⟩
  have ec : its.toArray.toList.countP (eqU y) = ys.countP fun z => eqV z y := count_eqU rv fys
  refine ⟨.int (ys.countP fun z => eqV z y : Nat), H, I.tok _, ⟨s.toks, ?_⟩, q⟩
  show Value.int ((its.toArray.toList.countP (eqU y) : Nat) : Int) s.toks = Value.int ((ys.countP fun z => eqV z y : Nat) : Int) s.toks
  rw [ec]
end
end Sw
/-! .. the except clause's suite -/
namespace Sw
open PySem PySem.Spec L2 PyProof.Rows LamX
/-- what the written part says of the refusals, D one of them, the number j -/
structure KindC (K : PySem.W.Frag) (mg : Str → Option Value) (D : Addr) (j : Nat) : Prop where
  ex : ExcC K D
  iso : ∀ (i : Nat) (C : Str), kNames[i]? = some C → ∃ Ca, mg C = some (.ref Ca) ∧ PySem.W.kitOne K (.ref D) (.ref Ca) = some (decide (i = j))
  ve : PySem.W.kitOne K (.ref D) (.type "ValueError") = some true
  xf : XfC K D
  n1 : PySem.W.findIn K (.ref D) "number" = some none
  n5 : PySem.W.findIn K (.ref D) "place" = some none
/-- the caught exception stands in its slot, its dict (none | there) -/
def AtE (a : Addr) (dx : Option Addr) (σ : L2.St) (H : Hp) : Prop := σ[1]? = some (some (.ref a)) ∧ (dx = none ∨ ∃ d fs, dx = some d ∧ H d = some (.xd fs))
theorem AtE.ext {a : Addr} {dx : Option Addr} {σ σ' : L2.St} {H H' : Hp} (h : AtE a dx σ H) (e : σ'[1]? = some (some (.ref a))) (x : ∀ b o, H b = some o → H' b = some o) : AtE a dx σ' H' := by
  refine ⟨e, ?_⟩
  rcases h.2 with h | ⟨d, fs, h1, h2⟩
  · exact .inl h
  · exact .inr ⟨d, fs, h1, x _ _ h2⟩
/-- the field that a kind has -/
def kF (j : Nat) : Option Str := if j = 1 then some "number" else if j = 5 then some "place" else none
/-- what is told of a refusal of the kind j -/
def KRes (j : Nat) (dx : Option Addr) (H : Hp) (c : Str) (Q : VK) (H' : Hp) : Prop := match kF j with
  | none => Q (.str c) H'
  | some f => ∃ d v, dx = some d ∧ H d = some (.xd [(f, v)]) ∧ ∀ p, H' p = none → Q (.ref p) (upd H' p (.tup [.str c, v]))
/-- the names of _law_kind -/
structure KindN (X : Cx) (n : Str) : Prop where
  N : X.N = (["_law_work", n, "_law_kinds", "_law_words", "_law_word"] : List Str)
  nd : X.N.Nodup
  loc : ∀ x ∈ X.N, X.env.scope.names.lookup x = some .local
  glo : ∀ x ∈ ((["isinstance", "ValueError", "FloatError"] : List Str) ++ kNames), X.env.scope.names.lookup x = some .globalImplicit
  dbg : (n == ("__debug__" : Str)) = false ∧ (n == ("__classdict__" : Str)) = false
  bi : X.mg "isinstance" = none
  bv : X.mg "ValueError" = none
section
variable {X : Cx} {n : Str} {a D : Addr} {oe : Obj} {pn : List (Addr × Obj)} {j : Nat} {q : Nat → Pos} {dx : Option Addr}
abbrev Yx (X : Cx) (a : Addr) (oe : Obj) (pn : List (Addr × Obj)) : Cx := X.suite a ((a, oe) :: pn)
theorem p_e (S : KindN X n) {pos : Pos} : PE (Yx X a oe pn) (.Name n pos) (tVar 1) :=
  pe_var (by show X.N[1]? = _; rw [S.N]; rfl) (.inl (S.loc n (by rw [S.N]; simp))) S.dbg.1 S.dbg.2
theorem p_isiC (S : KindN X n) (C : KindC X.K X.mg D j) (hz : Zc (.ref D) dx oe) (hf : ∃ vs, oe.data = .fields vs) {i k : Nat} {c : Str} (hc : kNames[i]? = some c) (hcm : c ∈ kNames) (hdb : (c == ("__debug__" : Str)) = false) :
    PE (Yx X a oe pn) (isiA n c q k) (fun σ H Q => AtE a dx σ H ∧ Q (.bl (decide (i = j))) H) := by
  obtain ⟨Ca, hm, hk⟩ := C.iso i c hc
  have g1 : Gl (Yx X a oe pn) "isinstance" := S.glo _ (by simp)
  have g2 : Gl (Yx X a oe pn) c := S.glo _ (by simp [hcm])
  have pc : PE (Yx X a oe pn) (.Name c (q (k + 2))) (tC (.ref Ca)) := pe_glob g2 hm rfl hdb
  refine PE.imp (pe_callB (call_isD C.ex hz hf) g1 S.bi PyProof.Rows.boot_isinstance (pa_cons (p_e S) (pa_cons pc pa_nil)) (by decide +kernel) (by decide +kernel)) fun σ H Q h => ?_
  exact ⟨.ref a, h.1.1, h.1.2, .ref Ca, .ref Ca, decide (i = j), rfl, fun u r => r, hk, h.2⟩
theorem p_isiV (S : KindN X n) (C : KindC X.K X.mg D j) (hz : Zc (.ref D) dx oe) (hf : ∃ vs, oe.data = .fields vs) {k : Nat} :
    PE (Yx X a oe pn) (isiA n "ValueError" q k) (fun σ H Q => AtE a dx σ H ∧ Q (.bl true) H) := by
  have g1 : Gl (Yx X a oe pn) "isinstance" := S.glo _ (by simp)
  have g2 : Gl (Yx X a oe pn) "ValueError" := S.glo _ (by simp)
  have pc : PE (Yx X a oe pn) (.Name "ValueError" (q (k + 2))) (tC (.ty "ValueError")) := pe_bltn (v := .ty "ValueError") g2 S.bv (by decide +kernel) rfl (by decide +kernel) (by decide +kernel)
  refine PE.imp (pe_callB (call_isD C.ex hz hf) g1 S.bi PyProof.Rows.boot_isinstance (pa_cons (p_e S) (pa_cons pc pa_nil)) (by decide +kernel) (by decide +kernel)) fun σ H Q h => ?_
  exact ⟨.ref a, h.1.1, h.1.2, .ty "ValueError", .type "ValueError", true, rfl, fun u r => r, C.ve, h.2⟩
/-- where the suite stands: the kinds so far -/
structure At2 (a : Addr) (H0 : Hp) (σ : L2.St) (H : Hp) (p : Addr) (bs : List Bool) : Prop where
  e : σ[1]? = some (some (.ref a))
  k : σ[2]? = some (some (.ref p))
  l : H p = some (.lst (bs.map V.bl))
  ext : ∀ b o, H0 b = some o → H b = some o
  new : H0 p = none
  len : σ.length = 5
end
end Sw
/-! Lambdas: what a def's context gives -/
namespace Sw
open PySem PySem.Spec L2 PyProof.Rows
/-- the lines on which the method calls stand -/
structure KindL (q : Nat → Pos) : Prop where
  l1 : ((q 54).endLine == (q 59).endLine) = true ∧ ((q 54).endLine == (q 59).line) = true
  l2 : ((q 65).endLine == (q 67).line) = true
  l3 : ((q 81).endLine == (q 83).line) = true
  l4 : ((q 85).endLine == (q 87).line) = true
  l5 : ((q 54).endLine == (q 59).line) = true
/-- a reading, of what is run in the slots -/
def tM (K : KX) (xc : XC) (m : Env → M A) (W : WX) : TE := fun σ H Q => ∃ w st env, RS K w st H ∧ REnv K w st H σ env ∧ Run K xc (WE W σ) (m env) w st H fun a w' st' H' => ∀ v, RA K w' st' H' v a → Q v H'
/-- the cells and the tables are those of the def that runs -/
structure LamMk (K : KX) (X : Cx) : Prop where
  cells : K.fx.cells = X.env.cells
  qual : K.fx.qual = X.env.qual
  tab : ∃ c P : Addr, X.env.code = .ref c ∧ LamX.TabB X.base X.mg c P ∧ (P, X.env.qual ++ "<lambda>") ∈ K.fx.tb ∧ ∀ p ∈ K.fx.tb, p.1 = P → p.2 = X.env.qual ++ "<lambda>"
/-- captured names and globals; a parameter of its own with a default that is written -/
structure LamSD (N : List Str) (sc scope : Scope) (ps : Arguments) : Prop where
  kind : scope.kind = .function
  co : scope.isCoroutine = false
  gen : scope.isGenerator = false
  own : ∀ y ∈ scope.names, y.2 ≠ .cell ∧ (y.2 = .local → y.1 ∈ ps.args.map (·.arg))
  par : ∀ x ∈ ps.args.map (·.arg), scope.names.lookup x = some .local
  parN : ∀ x ∈ ps.args.map (·.arg), x ∉ N
  free : ∀ y ∈ scope.names, y.2 = .free → sc.names.lookup y.1 = some .cell ∨ sc.names.lookup y.1 = some .free
  form : (ps.posonlyargs = [] ∧ ps.vararg = none ∧ ps.kwonlyargs = [] ∧ ps.kw_defaults = [] ∧ ps.kwarg = none) ∧ ((ps.args = [] ∧ ps.defaults = []) ∨ ∃ a p, ps.args = [a] ∧ ps.defaults = [.Constant (.int 0) 0 p])
/-- the fields of a refusal -/
def kFields (j : Nat) (ns : List Str) : Prop := ns = (kF j).toList
/-- the def that tells the kind of a refusal, the refusals -/
structure KindFn (nm : Nm) (xc : XC) (X : Cx) : Prop where
  fd : ∃ (g : Addr) (oc : Value) (od : Option Addr) (pg : Arguments) (n : Str) (q : Nat → Pos) (sg : Scope) (dV kV doc pm : Value) (an : Option Addr) (cdv ct : Value) (osl : Array (Option Value)),
    X.mg "_law_kind" = some (.ref g) ∧ PySem.W.keepIn X.K (.ref g) = true ∧ X.K.lookup g = some ⟨oc, od, .func (PySem.W.fnOf "_law_kind" "_law_kind" pg (kindA n q) sg dV kV doc pm an cdv ct), osl⟩ ∧ PySem.W.codeIn X.K cdv "_law_kind" = true ∧
    L2.Binds X.K (PySem.W.fnOf "_law_kind" "_law_kind" pg (kindA n q) sg dV kV doc pm an cdv ct) ["_law_work"] [] ∧ FnScope ["_law_work", n, "_law_kinds", "_law_words", "_law_word"] ["_law_work"] sg ∧ KindL q ∧
    (∀ x ∈ (["_law_work", n, "_law_kinds", "_law_words", "_law_word"] : List Str), sg.names.lookup x = some .local) ∧ (∀ x ∈ ((["isinstance", "ValueError", "FloatError"] : List Str) ++ kNames), sg.names.lookup x = some .globalImplicit) ∧
    ((n == ("__debug__" : Str)) = false ∧ (n == ("__classdict__" : Str)) = false)
  cls : ∀ c C ns, xc c = some (C, ns) → ∃ j x, kNames[j]? = some x ∧ nm.ks[c]? = some x ∧ KindC X.K X.mg C j ∧ kFields j ns
  fe : ∃ FE : Addr, X.mg "FloatError" = some (.ref FE) ∧ ∀ c C ns, xc c = some (C, ns) → PySem.W.exmOne X.K (.ref C) (.ref FE) = some true
  bi : X.mg "isinstance" = none
  bv : X.mg "ValueError" = none
/-- where lambdas may stand -/
structure Lo (nm : Nm) (K : KX) (xc : XC) (C : CL) (X : Cx) : Prop where
  mak : LamMk K X
  good : ∀ j ps b s, nm.lam j ps b s = true → K.fx.good j ps b s = true
  sd : ∀ j ps b s, K.fx.good j ps b s = true → LamSD X.N X.env.scope s ps
  run : (∀ j env, C.lam j env = fail) ∨ ∃ n, Room (n + 2) X.A ∧ ∀ j ps b s, K.fx.good j ps b s = true → ∀ (A : Around) (outer : List PySem.Env) (s0 : Shared) (H : Hp) (E : XK) (f c' : Addr), Room n (A.deeper (LamX.lamEnv X s s0.heap.objs.size f c')) →
    PE (LamX.lamCx X A outer s0 H E s f c') b (tM K xc (C.lam j) (fun cls d _ H => E cls d H))
  kf : KindFn nm xc X
end Sw
/-! Lambdas are made -/
namespace Sw
open PySem PySem.Spec L2 PyProof.Rows PySem.W
section
variable {M : Model} {A : Around} {E : Value → Shared → Prop} {s : Shared} {ql : Str} {ps : Arguments} {bd : Expr} {sc : Scope} {env : PySem.Env} {c P : Addr} {tb : Array Value} {pos : Pos} {mg : Str → Option Value} {clos : List (Str × Addr)} {Q : Value → Shared → Prop} {dv : Value}
theorem lam_end (he : env.globals = mainGlobals) {h1 : Heap} {t1 : Nat} (G : h1.Ns mainGlobals mg) (B : h1.BuiltinsAt mg P) {cv ctv : Value} (q : Q (.ref h1.objs.size) { s with heap := h1.push { cls := .type "function", data := .func (lamFd ql ps bd sc clos dv ((mg "__name__").getD .none) cv ctv) }, toks := t1 }) :
    wpAny M A (do
      let bl ← builtinsFor env.globals env.builtins
      let m ← nsGet env.globals "__name__"
      let doc ← pure Value.none
      newObj (.type "function") (.func { name := "<lambda>", qualname := ql ++ "<lambda>", params := ps, body := .expr bd, scope := sc, globals := env.globals, closure := clos, closureTuple := ctv, code := cv, builtins := bl, defaults := dv, kwdefaults := .none, annotations := none, pyModule := m.getD .none, doc := doc })) Q E { s with heap := h1, toks := t1 } := by
  obtain ⟨bm, ob, b1, b2, b3, b4, b5, b6, b7, b8⟩ := B
  rw [he]
  refine wpAny_bind (wpAny_builtinsFor G b1 b2 b5 b6 b7 b8 (wpAny_bind (wpAny_nsGet G (wpAny_bind (wpAny_pure (wpAny_newObj_type q (by size_fits)))))))
theorem lam_tail (hcl : closureFor sc env = pure clos) (he : env.globals = mainGlobals) (hq : ql = env.qual) (G : s.heap.Ns mainGlobals mg) (hc : env.code = .ref c) (CH : CodeHd s.heap c P) (hP : s.heap.get? P = some (tabObj tb)) (ht : TriplesOk tb.toList) (nP : mainGlobals ≠ P) (B : s.heap.BuiltinsAt mg P)
    (miss : codeAmong pos tb.toList = none → ∀ (c' : Addr) (ct : Value) (h1 : Heap) (t1 : Nat), Heap.ExtBut P s.heap h1 → s.heap.objs.size ≤ c' → c' < h1.objs.size → h1.CodeRec (.ref c') (ql ++ "<lambda>") → h1.get? P = some (tabObj (tb ++ #[rawInt pos.line, rawInt pos.col, .ref c'])) →
      Q (.ref h1.objs.size) { s with heap := h1.push (lamOb ql ps bd sc clos dv ((mg "__name__").getD .none) c' ct), toks := t1 })
    (hit : ∀ cv, codeAmong pos tb.toList = some cv → ∀ (ct : Value) (h1 : Heap) (t1 : Nat), (∀ b o, s.heap.get? b = some o → h1.get? b = some o) → s.heap.objs.size ≤ h1.objs.size →
      Q (.ref h1.objs.size) { s with heap := h1.push { cls := .type "function", data := .func (lamFd ql ps bd sc clos dv ((mg "__name__").getD .none) cv ct) }, toks := t1 }) :
    wpAny M A (makeTail "<lambda>" (ql ++ "<lambda>") ps (.expr bd) sc env dv .none none pos pos.line) Q E s := by
  have go : ∀ (ct : Value) (h0 : Heap), (∀ b o, s.heap.get? b = some o → h0.get? b = some o) → s.heap.objs.size ≤ h0.objs.size →
      wpAny M A (do
        let cd ← functionCode env pos pos.line "<lambda>" (ql ++ "<lambda>") ps sc (.expr bd)
        let bl ← builtinsFor env.globals env.builtins
        let m ← nsGet env.globals "__name__"
        let doc ← pure Value.none
        newObj (.type "function") (.func { name := "<lambda>", qualname := ql ++ "<lambda>", params := ps, body := .expr bd, scope := sc, globals := env.globals, closure := clos, closureTuple := ct, code := cd, builtins := bl, defaults := dv, kwdefaults := .none, annotations := none, pyModule := m.getD .none, doc := doc })) Q E { s with heap := h0 } := by
    intro ct h0 k0 z0
    have C0 := CH.keeps k0
    have P0 := k0 _ _ hP
    have G0 := G.keeps k0
    have B0 := B.keeps k0
    cases hf : codeAmong pos tb.toList with
    | some cv =>
      refine wpAny_bind (wpAny_functionCode_hit hc (C0.code P0 ht) hf ?_)
      exact lam_end (s := s) he G0 B0 (hit cv hf ct h0 s.toks k0 z0)
    | none =>
      refine wpAny_bind (wpAny_functionCodeX hc (C0.code P0 ht) (C0.tab P0) hf fun c' h1 t1 x1 ge lt _ rec tab _ => ?_)
      refine lam_end (P := P) (s := s) he (G0.extBut x1 nP) ?_ (miss hf c' ct h1 t1 (fun b o n e => x1 b o n (k0 b o e)) (Nat.le_trans z0 ge) lt rec tab.2)
      obtain ⟨bm, ob, b1, b2, b3, b4, b5, b6, b7, b8⟩ := B0
      exact ⟨bm, ob, b1, b2, b3, b4, x1 _ _ b4 b5, b6, b7, b8⟩
  unfold makeTail
  rw [hcl]
  refine wpAny_bind (wpAny_pure ?_)
  cases clos with
  | nil =>
    simp only [List.isEmpty_nil, if_true]
    exact wpAny_bind (wpAny_pure (go .none s.heap (fun _ _ e => e) (Nat.le_refl _)))
  | cons p r =>
    simp only [List.isEmpty_cons, Bool.false_eq_true, if_false]
    exact wpAny_bind (wpAny_newTextTuple (go _ _ (fun b o e => Heap.get?_push_of_some _ e) (by rw [Heap.size_push]; omega)))
end
end Sw
/-! Lambdas are made: in a def's context -/
namespace Sw
open PySem PySem.Spec L2 PyProof.Rows PySem.W
theorem lamO_ok {P : Program} {w : World} {H : Hp} {h : Heap} {f c' : Addr} {ql : Str} {ps : Arguments} {bd : Expr} {sc : Scope} {cl : List (Str × Addr)} {dv pm ct : Value} (e : h.get? f = some (lamOb ql ps bd sc cl dv pm c' ct)) : ObjOk P w H h f (LamO f c' ql ps bd sc cl dv) :=
  ⟨⟨pm, ct, e⟩, ⟨_, e⟩, fun h1 h2 ⟨pm, ct, e⟩ st => ⟨pm, ct, st _ e⟩⟩
theorem code_nT {c : Addr} {q : Str} : nT (LamX.CodeO c q) := fun _ z => by
  unfold LamX.CodeO at z
  cases z
theorem lamO_nT {f c' : Addr} {ql : Str} {ps : Arguments} {bd : Expr} {sc : Scope} {cl : List (Str × Addr)} {dv : Value} : nT (LamO f c' ql ps bd sc cl dv) := fun _ z => by
  unfold LamO at z
  cases z
/-- all but the tables stay, none goes -/
def Grow (H H' : Hp) : Prop := LamX.ExtN H H' ∧ ∀ a, H a ≠ none → H' a ≠ none
theorem Grow.new {H H1 : Hp} {p : Addr} {o : HO} (g : Grow H H1) (n : H1 p = none) : Grow H (upd H1 p o) := by
  refine ⟨fun b u e t => ?_, fun a e => ?_⟩
  · rw [upd_ne (ne_of_none (g.1 b u e t) n)]
    exact g.1 b u e t
  · by_cases z : a = p
    · rw [z, upd_same]
      simp
    · rw [upd_ne z]
      exact g.2 a e
section
variable {X : Cx} {K : KX} {pins : List (Addr × Obj)} {σ : L2.St} {H : Hp} {s : Shared} {ps : Arguments} {bd : Expr} {sc : Scope} {pos : Pos} {Q : Value → Shared → Prop} {E : Value → Shared → Prop}
/-- what a lambda's making tells -/
def Made (X : Cx) (K : KX) (pins : List (Addr × Obj)) (σ : L2.St) (H : Hp) (ps : Arguments) (bd : Expr) (sc : Scope) (Q : Value → Shared → Prop) (dv : Value) (H1 : Hp) : Prop :=
  ∀ (f c' : Addr) (H2 : Hp) (s' : Shared), Inv X pins σ H2 s' → Grow H1 H2 → LamX.Tabs K.fx.tb H2 → H2 f = some (LamO f c' K.fx.qual ps bd sc (cloFrom K.fx.cells sc.names []) dv) → H1 f = none →
    H2 c' = some (LamX.CodeO c' (K.fx.qual ++ "<lambda>")) → (H1 c' = none ∨ H1 c' = some (LamX.CodeO c' (K.fx.qual ++ "<lambda>"))) → Q (.ref f) s'
theorem lam_made0 (I : Inv X pins σ H s) (mk : LamMk K X) (free : ∀ y ∈ sc.names, y.2 = .free → ∃ c, X.env.cells.lookup y.1 = some c) (hT : LamX.Tabs K.fx.tb H) {dv : Value} (h : Made X K pins σ H ps bd sc Q dv H) :
    wpAny (model X.prog X.w) X.A (makeTail "<lambda>" (X.env.qual ++ "<lambda>") ps (.expr bd) sc X.env dv .none none pos pos.line) Q E s := by
  obtain ⟨hcl, hq, c, P, hc, TB, hm, hu⟩ := mk
  unfold Made at h
  rw [hcl, hq] at h
  obtain ⟨tb, hP, ht, ha⟩ := hT _ hm
  have bP : s.heap.BuiltinsAt X.mg P := TB.bm.keeps I.bk
  have hP' : s.heap.get? P = some { cls := .none, data := .fields tb } := I.hok P _ hP
  refine lam_tail (closure_ok free) I.ok.glob rfl (I.mod.glob.keeps I.bk) hc (TB.code.keeps I.bk) hP' ht TB.gP bP (fun hmiss c' ct h1 t1 x1 ge lt rec tab => ?_) fun cv hhit ct h1 t1 k1 z1 => ?_
  · obtain ⟨c2, oc, vs, t, e2, hoc, hd, hv⟩ := rec
    cases e2
    have nC : H c' = none := I.hok.fresh ge
    have nPc : P ≠ c' := ne_of_none hP nC
    have I1 := LamX.inv_table (t' := t1) (more := #[rawInt pos.line, rawInt pos.col, .ref c']) (h' := h1) (q := X.env.qual ++ "<lambda>") I hP (fun b o hb e => x1 b o hb e) tab ge ⟨oc, vs, t, hoc, hd, hv⟩
    obtain ⟨G, hG⟩ : ∃ G, G = upd (upd H P (.tbl (tb ++ #[rawInt pos.line, rawInt pos.col, .ref c']))) c' (LamX.CodeO c' (X.env.qual ++ "<lambda>")) := ⟨_, rfl⟩
    rw [← hG] at I1
    have nF : G h1.objs.size = none := I1.hok.fresh (Nat.le_refl _)
    have hx : LamX.ExtN H G := fun b o e n => by
      rw [hG, upd_ne (ne_of_none e nC), upd_ne (fun z => n tb (Option.some.inj (e.symm.trans (by rw [z]; exact hP))))]
      exact e
    have g1 : Grow H G := ⟨hx, fun a e => by
      rw [hG]
      by_cases z : a = c'
      · rw [z, upd_same]; simp
      · rw [upd_ne z]
        by_cases z2 : a = P
        · rw [z2, upd_same]; simp
        · rw [upd_ne z2]; exact e⟩
    have hGc : G c' = some (LamX.CodeO c' (X.env.qual ++ "<lambda>")) := by rw [hG]; exact upd_same
    have T1 : LamX.Tabs K.fx.tb G := fun p hp => by
      by_cases hb : p.1 = P
      · rw [hu p hp hb, hb]
        have eL : (tb ++ #[rawInt pos.line, rawInt pos.col, Value.ref c']).toList = tb.toList ++ [rawInt pos.line, rawInt pos.col, .ref c'] := by simp
        refine ⟨tb ++ #[rawInt pos.line, rawInt pos.col, .ref c'], by rw [hG, upd_ne nPc, upd_same], by rw [eL]; exact PySem.TriplesOk_snoc _ _ _ _ ht, fun p' cv hcv => ?_⟩
        rw [eL] at hcv
        rcases LamX.among_app _ ht hcv with z | z
        · obtain ⟨c0, e1, e2⟩ := ha p' cv z
          exact ⟨c0, e1, hx _ _ e2 code_nT⟩
        · exact ⟨c', z, hGc⟩
      · obtain ⟨tb', a1, a2, a3⟩ := hT p hp
        refine ⟨tb', by rw [hG, upd_ne (ne_of_none a1 nC), upd_ne hb]; exact a1, a2, fun p' cv hcv => ?_⟩
        obtain ⟨c0, e1, e2⟩ := a3 p' cv hcv
        exact ⟨c0, e1, hx _ _ e2 code_nT⟩
    have I2 : Inv X pins σ (upd G h1.objs.size (LamO h1.objs.size c' X.env.qual ps bd sc (cloFrom X.env.cells sc.names []) dv)) { s with heap := h1.push (lamOb X.env.qual ps bd sc (cloFrom X.env.cells sc.names []) dv ((X.mg "__name__").getD .none) c' ct), toks := t1 } :=
      I1.laid (t' := t1) (fun b o e => Heap.get?_push_of_some _ e) (Nat.le_refl _) (lamO_ok (Heap.get?_push_size _ rfl))
    exact h _ c' _ _ I2 (g1.new nF) (tabs_new T1 nF) upd_same (I.hok.fresh (Nat.le_of_lt (Nat.lt_of_le_of_lt ge lt))) (by rw [upd_ne (ne_of_none hGc nF)]; exact hGc) (.inl nC)
  · obtain ⟨c', e, hco⟩ := ha pos cv hhit
    subst e
    have I1 : Inv X pins σ H { s with heap := h1, toks := t1 } := I.kept k1
    have nF : H h1.objs.size = none := I1.hok.fresh (Nat.le_refl _)
    have I2 : Inv X pins σ (upd H h1.objs.size (LamO h1.objs.size c' X.env.qual ps bd sc (cloFrom X.env.cells sc.names []) dv)) { s with heap := h1.push (lamOb X.env.qual ps bd sc (cloFrom X.env.cells sc.names []) dv ((X.mg "__name__").getD .none) c' ct), toks := t1 } :=
      I1.laid (t' := t1) (fun b o e => Heap.get?_push_of_some _ e) (Nat.le_refl _) (lamO_ok (Heap.get?_push_size _ rfl))
    have hco : H c' = some (LamX.CodeO c' (X.env.qual ++ "<lambda>")) := hco
    exact h _ c' _ _ I2 (Grow.new ⟨LamX.ExtN.refl H, fun _ e => e⟩ nF) (tabs_new hT nF) upd_same nF (by rw [upd_ne (ne_of_none hco nF)]; exact hco) (.inr hco)
theorem lam_made (I : Inv X pins σ H s) (mk : LamMk K X) (L : LamSD X.N X.env.scope sc ps) (hT : LamX.Tabs K.fx.tb H)
    (h : ∀ (dv : Value) (H1 : Hp), Grow H H1 → ((ps.args = [] ∧ dv = .none ∧ H1 = H) ∨ ∃ (x : Str) (T : Addr), ps.args.map (·.arg) = [x] ∧ dv = .ref T ∧ H T = none ∧ H1 T = some (.tup [.int 0])) → Made X K pins σ H ps bd sc Q dv H1) (hx : ∀ e s', E e s' → X.xe e s') :
    wpAny (model X.prog X.w) X.A (eval (.Lambda ps bd sc pos) X.env) Q X.xe s := by
  have free : ∀ y ∈ sc.names, y.2 = .free → ∃ c, X.env.cells.lookup y.1 = some c := fun y hy e => by
    rcases L.free y hy e with k | k
    · exact I.ok.has _ (.inl k)
    · exact I.ok.has _ (.inr k)
  obtain ⟨⟨f1, f2, f3, f4, f5⟩, f6⟩ := L.form
  rw [arm_eval_Lambda]
  obtain ⟨po, ar, va, ko, kd, kw, df⟩ := ps
  simp only at f1 f2 f3 f4 f5 f6 h
  subst f1 f2 f3 f4 f5
  rcases f6 with ⟨rfl, rfl⟩ | ⟨a, p, rfl, rfl⟩
  · show wpAny _ _ (do let dv ← evalAll []; let kdv ← holding dv (evalAllOpt []); makeFunction "<lambda>" (X.env.qual ++ "<lambda>") _ (.expr bd) sc X.env dv kdv [] pos pos.line) _ _ s
    refine wpAny_bind (wpAny_pure (wpAny_bind (wpAny_holding (wpAny_pure ?_))))
    rw [makeFunction_eq]
    simp only [List.zip_nil_right, List.filterMap_nil, List.isEmpty_nil, if_true, pure_bind]
    exact lam_made0 I mk free hT (h .none H ⟨LamX.ExtN.refl H, fun _ e => e⟩ (.inl ⟨rfl, rfl, rfl⟩))
  · show wpAny _ _ (do let dv ← evalAll [eval (.Constant (.int 0) 0 p) X.env]; let kdv ← holding dv (evalAllOpt []); makeFunction "<lambda>" (X.env.qual ++ "<lambda>") _ (.expr bd) sc X.env dv kdv [] pos pos.line) _ _ s
    refine wpAny_bind ?_
    show wpAny _ _ (do let v ← eval (.Constant (.int 0) 0 p) X.env; return v :: (← holding [v] (evalAll []))) _ _ s
    refine wpAny_bind (thn (pe_int.run pins s σ H (fun v H1 => v = .int 0 ∧ H1 = H) I ⟨rfl, rfl⟩) fun u s1 ⟨v, H1, I1, r1, e1, e2⟩ => ?_)
    subst e1 e2
    obtain ⟨t, rfl⟩ := r1
    refine wpAny_bind (wpAny_holding (wpAny_pure (wpAny_pure (wpAny_bind (wpAny_holding (wpAny_pure ?_))))))
    rw [makeFunction_eq]
    simp only [List.zip_nil_right, List.filterMap_nil, List.isEmpty_nil, if_true, pure_bind, List.isEmpty_cons, Bool.false_eq_true, if_false]
    refine wpAny_bind (wpAny_newTextTuple ?_)
    have nT : H1 s1.heap.objs.size = none := I1.hok.fresh (Nat.le_refl _)
    have I2 : Inv X pins σ (upd H1 s1.heap.objs.size (.tup [.int 0])) { s1 with heap := s1.heap.push { cls := .type "tuple", data := .seq [Value.int 0 t].toArray } } :=
      I1.laid (t' := s1.toks) (fun b o e => Heap.get?_push_of_some _ e) (Nat.le_refl _) ⟨by rw [sizeLine_eq]; decide, [.int 0 t], .cons ⟨t, rfl⟩ .nil, ⟨_, Heap.get?_push_size _ rfl, rfl, _, rfl⟩⟩
    refine lam_made0 I2 mk free (tabs_new hT nT) ?_
    have := h (.ref s1.heap.objs.size) (upd H1 s1.heap.objs.size (.tup [.int 0])) (Grow.new ⟨LamX.ExtN.refl H1, fun _ e => e⟩ nT) (.inr ⟨a.arg, _, rfl, rfl, nT, upd_same⟩)
    exact this
end
end Sw
/-! A lambda is called -/
namespace Sw
open PySem PySem.Spec L2 PyProof.Rows PySem.W
section
variable {M : Model} {A : Around} {E : Value → Shared → Prop} {s : Shared} {Q : List (Str × Value) → Shared → Prop} {ql : Str} {ps : Arguments} {bd : Expr} {sc : Scope} {cl : List (Str × Addr)} {dv pm cv ct : Value}
/-- nothing is handed in: the default, if there is one -/
theorem lam_bind (hf : (ps.posonlyargs = [] ∧ ps.vararg = none ∧ ps.kwonlyargs = [] ∧ ps.kw_defaults = [] ∧ ps.kwarg = none))
    (hd : (ps.args = [] ∧ dv = .none) ∨ ∃ (x : Str) (T : Addr) (o : Obj) (v : Value) (n : Nat), ps.args.map (·.arg) = [x] ∧ dv = .ref T ∧ s.heap.get? T = some o ∧ o.data = .seq #[v] n)
    (q : ∀ bs : List (Str × Value), bs.map (·.1) = ps.args.map (·.arg) → Q bs s) : wpAny M A (bindArgs (lamFd ql ps bd sc cl dv pm cv ct) ⟨[], []⟩) Q E s := by
  obtain ⟨po, ar, va, ko, kd, kw, df⟩ := ps
  obtain ⟨h1, h2, h3, h4, h5⟩ := hf
  simp only at h1 h2 h3 h4 h5
  subst h1 h2 h3 h4 h5
  rcases hd with ⟨h6, h7⟩ | ⟨x, T, o, v, n, h6, h7, h8, h9⟩
  · simp only at h6
    subst h6 h7
    have e : bindArgs (lamFd ql ⟨[], [], none, [], [], none, df⟩ bd sc cl .none pm cv ct) ⟨[], []⟩ = pure [] := rfl
    rw [e]
    exact wpAny_pure (q [] rfl)
  · simp only at h6
    subst h7
    rcases ar with _ | ⟨a, _ | ⟨b, ar⟩⟩
    · cases h6
    · have e : ∃ k, bindArgs (lamFd ql ⟨[], [a], none, [], [], none, df⟩ bd sc cl (.ref T) pm cv ct) ⟨[], []⟩ = seqItems? (.ref T) >>= k ∧ k (some #[v]) = pure [(a.arg, v)] := ⟨_, rfl, by simp [lamFd, PySem.W.kla_fn, List.lookup]⟩
      obtain ⟨k, e1, e2⟩ := e
      rw [e1]
      refine wpAny_bind (wpAny_seqItems h8 h9 ?_)
      rw [e2]
      exact wpAny_pure (q [(a.arg, v)] rfl)
    · cases h6
end
end Sw
namespace Sw
open PySem PySem.Spec L2 PyProof.Rows PySem.W
section
variable {X : Cx} {pins : List (Addr × Obj)} {σ : L2.St} {H HZ : Hp} {s s1 : Shared} {A : Around} {outer : List PySem.Env} {E : XK} {scope : Scope} {ps : Arguments} {f c' : Addr}
/-- the lambda's body is entered: what it captured is as in the def, whatever its parameter holds -/
theorem lam_enter {hh : Heap} {tk : Nat} {m : Str → Option Value} (I : Inv X pins σ H s) (L : LamSD X.N X.env.scope scope ps) (e0 : Env0 X.prog X.w X.K X.mg X.base A outer s1 HZ) (hd : A.handled = none) (un : Un (frs X.stack) [] H HZ s.heap s1.heap)
    (hm : hh.Ns s1.heap.objs.size m) (kp : ∀ b o, s1.heap.get? b = some o → hh.get? b = some o) : Inv (LamX.lamCx X A outer s1 HZ E scope f c') [] σ HZ { s1 with heap := hh, toks := tk } := by
  have have_ : ∀ y ∈ scope.names, y.2 = .free → ∃ c, X.env.cells.lookup y.1 = some c := fun y hy e => by
    rcases L.free y hy e with k | k
    · exact I.ok.has _ (.inl k)
    · exact I.ok.has _ (.inr k)
  have same : ∀ {y c}, (cloFrom X.env.cells scope.names []).lookup y = some c → X.env.cells.lookup y = some c := fun {y c} e => by
    rcases cloFrom_mem (PySem.mem_of_lookup e) with z | ⟨z1, z2⟩
    · cases z
    · obtain ⟨c1, hc⟩ := have_ _ z1 rfl
      have hc : X.env.cells.lookup y = some c1 := hc
      have : c = c1 := by rw [z2, hc] <;> rfl
      rw [this]
      exact hc
  have there : ∀ {y}, scope.names.lookup y = some .free → ∃ c, (cloFrom X.env.cells scope.names []).lookup y = some c := fun {y} hl => mem_lookup (cloFrom_has (cells := X.env.cells) (acc := []) (PySem.mem_of_lookup hl))
  have cellOn : ∀ {c : Addr} {v : Option Value}, H c = none → s.heap.IsCell c v → hh.IsCell c v := fun {c v} n ⟨o, ho, hdd⟩ => by
    obtain ⟨sl, q⟩ := un.any ho n (by simp)
    exact ⟨_, kp _ _ q, hdd⟩
  have none_ : ∀ b : Addr, b ∉ (LamX.lamCx X A outer s1 HZ E scope f c').ex := fun b z => absurd (show b ∈ ([] : List Addr) from z) (by simp)
  have okC : (LamX.lamCx X A outer s1 HZ E scope f c').Ok := by
    refine ⟨e0.mod, L.kind, rfl, rfl, Nat.le_refl _, fun y z c e1 e2 => I.ok.inj y z c (same e1) (same e2), fun y hy => ?_, fun y c z _ => (nomatch (show false = true from z)), fun _ => hd, Around.frames_deeper e0.frames, .inr ⟨rfl, rfl⟩, fun b z => absurd z (none_ b), e0.bs, e0.bsz, fun b _ _ => none_ b, fun b z => absurd z (none_ b), e0.funs, e0.frf⟩
    have hy : scope.names.lookup y = some .cell ∨ scope.names.lookup y = some .free := hy
    rcases hy with hy | hy
    · exact absurd rfl (L.own _ (PySem.mem_of_lookup hy)).1
    · exact there hy
  refine ⟨okC, rfl, e0.bare, Un.kept kp, ⟨_, hm, fun i y v e1 e2 e3 => ?_⟩, fun y c e => ?_, e0.hok.fresh (Nat.le_refl _), fun y c e => ?_, fun q hq => absurd (show q ∈ ([] : List (Addr × Obj)) ++ [] from hq) (by simp), e0.hok.kept kp, I.len⟩
  · have e3 : Vis scope y := e3
    rcases e3 with k | k | k
    · exact absurd (List.mem_of_getElem? e1) (L.parN _ ((L.own _ (PySem.mem_of_lookup k)).2 rfl))
    · exact absurd rfl (L.own _ (PySem.mem_of_lookup k)).1
    · obtain ⟨m0, hn, hl⟩ := I.loc
      have vis : Vis X.env.scope y := (L.free _ (PySem.mem_of_lookup k) rfl).elim (fun k => .inr (.inl k)) (fun k => .inr (.inr k))
      obtain ⟨w', r, q⟩ := hl i y v e1 e2 vis
      obtain ⟨c2, h2⟩ := there k
      refine ⟨w', r, .inr ⟨.inr k, c2, h2, ?_⟩⟩
      have c1 := same h2
      rcases q with ⟨k', _⟩ | ⟨_, c3, e', z⟩
      · have k' : X.env.scope.names.lookup y = some .local := k'
        rcases L.free _ (PySem.mem_of_lookup k) rfl with k2 | k2
        · rw [show X.env.scope.names.lookup y = _ from k2] at k'; cases k'
        · rw [show X.env.scope.names.lookup y = _ from k2] at k'; cases k'
      · rw [c1] at e'
        cases e'
        exact cellOn (I.freeC y _ c1) z
  · obtain ⟨w', z⟩ := I.cell y c (same e)
    exact ⟨w', cellOn (I.freeC y c (same e)) z⟩
  · obtain ⟨v, o, ho, _⟩ := I.cell y c (same e)
    exact un.free c o ho (I.freeC y c (same e)) (by simp)
/-- a lambda's function, as it stands -/
structure IsLam (X : Cx) (H : Hp) (f c' : Addr) (ps : Arguments) (bd : Expr) (scope : Scope) (dv : Value) : Prop where
  at_ : H f = some (LamO f c' X.env.qual ps bd scope (cloFrom X.env.cells scope.names []) dv)
  cd : H c' = some (LamX.CodeO c' (X.env.qual ++ "<lambda>"))
  dv : (ps.args = [] ∧ dv = .none) ∨ ∃ (x : Str) (T : Addr), ps.args.map (·.arg) = [x] ∧ dv = .ref T ∧ H T = some (.tup [.int 0])
/-- x(), in the def that got the lambda: Z is that def's context, entered at s -/
theorem lam_act {CXg : CXT} {Eg : XK} {Ng : List Str} {qg : Str} {sg : Scope} {g : Addr} {cdg dv : Value} {bd : Expr} {k i : Nat} {a : Str} {pn : List (Addr × Obj)} {xe : Value → Shared → Prop} {W : WX} {t : TE} {p1 p2 : Pos}
    (I : Inv X pins σ H s) (L : LamSD X.N X.env.scope scope ps)
    (tk : Takes ((cxOf CXg X.prog X.w X.K X.mg X.base Ng qg sg g cdg X.A X.stack s H Eg).tr pn xe) W) (hW : ∀ cls d (σ' : L2.St) H', σ'.length = Ng.length → E cls d H' → W cls d σ' H') (hr : Room (k + 1) (X.A.deeper (envOfC qg sg s.heap.objs.size g cdg)))
    (hb : ∀ (A : Around) (outer : List PySem.Env) (s : Shared) (H : Hp), Room k (A.deeper (LamX.lamEnv X scope s.heap.objs.size f c')) → PE (LamX.lamCx X A outer s H E scope f c') bd t)
    (hN : Ng[i]? = some a) (hv : Vis sg a) (hd : (a == ("__debug__" : Str)) = false) (hcd : (a == ("__classdict__" : Str)) = false) :
    PE ((cxOf CXg X.prog X.w X.K X.mg X.base Ng qg sg g cdg X.A X.stack s H Eg).tr pn xe) (.Call (.Name a p1) [] [] p2) (fun σZ HZ Q => σZ[i]? = some (some (.ref f)) ∧ IsLam X HZ f c' ps bd scope dv ∧ t σ HZ Q) := by
  refine ⟨fun pinsZ sZ σZ HZ Q IZ ⟨hs, IL, ht⟩ => ?_⟩
  refine wpAny_Call_Name_kw (thn ((pe_var (pos := p1) (i := i) hN hv hd hcd).run pinsZ sZ σZ HZ (fun v H1 => v = .ref f ∧ H1 = HZ) IZ ⟨.ref f, hs, rfl, rfl⟩) fun u s1 ⟨v, H1, I1, r1, ev, eH⟩ => ?_)
  subst ev eH
  obtain rfl : u = Value.ref f := r1
  obtain ⟨⟨pm, ct, of1⟩, _, _⟩ := I1.hok f _ IL.at_
  refine PySem.W.callWith_F0 ⟨_, _, _, _, of1⟩ ?_
  have un : Un (frs X.stack) [] H H1 s.heap s1.heap := I1.base
  obtain ⟨⟨oc, vs, tq, hoc, hdc, hvc⟩, _, _⟩ := I1.hok c' _ IL.cd
  have rc : codeAny (model X.prog X.w) (X.A.deeper (envOfC qg sg s.heap.objs.size g cdg)) (.call (.ref f) ⟨[], []⟩) (CR (L2.CX X.prog X.w) (envOfC qg sg s.heap.objs.size g cdg :: X.stack) X.prog X.w H1 s1 Q E) s1 := by
    refine PySem.W.kla_callFunE hr.depth of1 rfl L.co L.gen rfl ⟨c', oc, vs, tq, rfl, hoc, hdc, hvc⟩ ?_
    refine lam_bind L.form.1 ?_ fun bs hbs => ?_
    · rcases IL.dv with h0 | ⟨x, T, e1, e2, e3⟩
      · exact .inl h0
      · obtain ⟨_, its, rv, o, ho, hcl, n, hdt⟩ := I1.hok T _ e3
        cases rv with
        | cons ra rt =>
          cases rt
          exact .inr ⟨x, T, o, _, n, e1, e2, ho, hdt⟩
    · refine wpAny_newFunctionEnv (fun y hy => (L.own y hy).1) (fun y hy => L.par _ (by rw [← hbs]; exact List.mem_map_of_mem hy)) (fun hh hns hsb => ⟨I1.nolimit.fresh _ hsb, ?_⟩) L.kind
      have kp : ∀ b o, s1.heap.get? b = some o → hh.get? b = some o := fun b o e => hsb.extBut b o (Nat.ne_of_lt (Heap.lt_size e)) (Heap.get?_push_of_some _ e)
      have J : Inv (LamX.lamCx X (X.A.deeper (envOfC qg sg s.heap.objs.size g cdg)) (envOfC qg sg s.heap.objs.size g cdg :: X.stack) s1 H1 E scope f c') [] σ H1 { s1 with heap := hh, toks := s1.toks + bs.length } :=
        lam_enter I L I1.env0 hr.hd un hns kp
      refine PySem.W.kla_codeExpr (wpAny_mono ((hb _ _ s1 H1 (hr.deeper _)).run [] _ _ H1 Q J ht) (fun v s' hq => ?_) fun e s' hq => hq)
      obtain ⟨w', H', J', rv, q⟩ := hq
      exact ⟨w', H', J'.os, J'.bare, J'.base, J'.hok, rv, q⟩
  refine wpAny_call (codeAny_mono rc fun r s' hq => ?_)
  cases r with
  | error e => exact tk e s' (XE.of_call I1 (fun cls d H' h => hW cls d σZ H' I1.len h) hq)
  | ok fl =>
    cases fl with
    | ret u => exact I1.after hq
    | next => exact False.elim hq
    | brk => exact False.elim hq
    | cont => exact False.elim hq
end
end Sw
/-! .. the suite's term, and what it tells -/
namespace Sw
open PySem PySem.Spec L2 PyProof.Rows LamX
section
variable {X : Cx} {n : Str} {a D : Addr} {oe : Obj} {pn : List (Addr × Obj)} {j : Nat} {q : Nat → Pos} {dx : Option Addr}
theorem ext_upd {H H' : Hp} {p : Addr} {o : HO} (x : ∀ b o, H b = some o → H' b = some o) (np : H' p = none) : ∀ b u, H b = some u → upd H' p o b = some u := fun b u hb => by
  rw [upd_ne (ne_of_none (x b u hb) np)]; exact x b u hb
theorem ext_none {H H' : Hp} {p : Addr} (x : ∀ b o, H b = some o → H' b = some o) (np : H' p = none) : H p = none := by
  cases hc : H p with
  | none => rfl
  | some o => rw [x p o hc] at np; cases np
theorem p_never {Y : Cx} {e : Expr} : PE Y e (fun _ _ _ => False) := ⟨fun _ _ _ _ _ _ h => h.elim⟩
theorem p_slot (S : KindN X n) {i : Nat} {x : Str} {pos : Pos} (hx : X.N[i]? = some x) (hd : (x == ("__debug__" : Str)) = false) (hc : (x == ("__classdict__" : Str)) = false) : PE (Yx X a oe pn) (.Name x pos) (tVar i) :=
  pe_var hx (.inl (S.loc x (List.mem_of_getElem? hx))) hd hc
theorem suite_ok (S : KindN X n) (L : KindL q) (C : KindC X.K X.mg D j) (hj : j < 11) (hz : Zc (.ref D) dx oe) (hf : ∃ vs, oe.data = .fields vs) :
    ∃ t, PSs (Yx X a oe pn) (suiteA n q) t ∧ ∀ (Dn : Ends) (σ : L2.St) (H : Hp), σ.length = 5 → AtE a dx σ H → (∀ H' c, kNames[j]? = some c → (∀ b o, H b = some o → H' b = some o) → KRes j dx H c Dn.rt H') → t Dn σ H := by
  have i2 : X.N[2]? = some ("_law_kinds" : Str) := by rw [S.N]; rfl
  have i3 : X.N[3]? = some ("_law_words" : Str) := by rw [S.N]; rfl
  have i4 : X.N[4]? = some ("_law_word" : Str) := by rw [S.N]; rfl
  have v2 : ∀ pos, PE (Yx X a oe pn) (.Name "_law_kinds" pos) (tVar 2) := fun pos => p_slot S i2 (by decide +kernel) (by decide +kernel)
  have v3 : ∀ pos, PE (Yx X a oe pn) (.Name "_law_words" pos) (tVar 3) := fun pos => p_slot S i3 (by decide +kernel) (by decide +kernel)
  have v4 : ∀ pos, PE (Yx X a oe pn) (.Name "_law_word" pos) (tVar 4) := fun pos => p_slot S i4 (by decide +kernel) (by decide +kernel)
  have L2' : Loc X.env.scope ("_law_kinds" : Str) := .inl (S.loc _ (List.mem_of_getElem? i2))
  have L3' : Loc X.env.scope ("_law_words" : Str) := .inl (S.loc _ (List.mem_of_getElem? i3))
  have L4' : Loc X.env.scope ("_law_word" : Str) := .inl (S.loc _ (List.mem_of_getElem? i4))
  have isi : ∀ (i k : Nat) (c : Str), kNames[i]? = some c → (c == ("__debug__" : Str)) = false → PE (Yx X a oe pn) (isiA n c q k) (fun σ H Q => AtE a dx σ H ∧ Q (.bl (decide (i = j))) H) := fun i k c hc hd => p_isiC S C hz hf hc (List.mem_of_getElem? hc) hd
  have f0 := isi 0 1 "BadFormat" rfl (by decide +kernel)
  have f1 := isi 1 5 "BadFloat" rfl (by decide +kernel)
  have f2 := isi 2 9 "BadFraction" rfl (by decide +kernel)
  have f3 := isi 3 13 "BadRule" rfl (by decide +kernel)
  have f4 := isi 4 21 "BadWord" rfl (by decide +kernel)
  have f5 := isi 5 25 "BadTerm" rfl (by decide +kernel)
  have f6 := isi 6 29 "BadTree" rfl (by decide +kernel)
  have f7 := isi 7 38 "BadCount" rfl (by decide +kernel)
  have f8 := isi 8 42 "TooMany" rfl (by decide +kernel)
  have f9 := isi 9 46 "BadText" rfl (by decide +kernel)
  have f10 := isi 10 55 "BadMeet" rfl (by decide +kernel)
  have s1 : PS (Yx X a oe pn) (.Assign [.Name "_law_kinds" (q 0)] (.List [isiA n "BadFormat" q 1, isiA n "BadFloat" q 5, isiA n "BadFraction" q 9, isiA n "BadRule" q 13] (q 17)) (q 18)) _ :=
    ps_set (i := 2) S.nd i2 L2' (pe_lst (pa_cons f0 (pa_cons f1 (pa_cons f2 (pa_cons f3 pa_nil))))) rfl (.inr (S.loc _ (List.mem_of_getElem? i2)))
  have s2 : PS (Yx X a oe pn) (.Assign [.Name "_law_kinds" (q 19)] (.BinOp (.Name "_law_kinds" (q 20)) .Add (.List [isiA n "BadWord" q 21, isiA n "BadTerm" q 25, isiA n "BadTree" q 29] (q 33)) (q 34)) (q 35)) _ :=
    ps_set (i := 2) S.nd i2 L2' (pe_op op_cat (v2 _) (pe_lst (pa_cons f4 (pa_cons f5 (pa_cons f6 pa_nil))))) rfl (.inr (S.loc _ (List.mem_of_getElem? i2)))
  have s3 : PS (Yx X a oe pn) (.Assign [.Name "_law_kinds" (q 36)] (.BinOp (.Name "_law_kinds" (q 37)) .Add (.List [isiA n "BadCount" q 38, isiA n "TooMany" q 42, isiA n "BadText" q 46] (q 50)) (q 51)) (q 52)) _ :=
    ps_set (i := 2) S.nd i2 L2' (pe_op op_cat (v2 _) (pe_lst (pa_cons f7 (pa_cons f8 (pa_cons f9 pa_nil))))) rfl (.inr (S.loc _ (List.mem_of_getElem? i2)))
  have s4 : PS (Yx X a oe pn) (.Expr (.Call (.Attribute (.Name "_law_kinds" (q 53)) "append" (q 54)) [isiA n "BadMeet" q 55] [] (q 59)) (q 60)) _ :=
    ps_expr (pe_bm PySem.F.plainAttrs_list PySem.F.slot_list_append PySem.F.type_list_append (fun pins s σ H x xs v us Q I r1 r2 h => mt_append pins s σ H x xs v us Q I r1 r2 h) (v2 _) (pa_cons f10 pa_nil) rfl rfl L.l5 rfl rfl)
  have s5 : PS (Yx X a oe pn) (.Assign [.Name "_law_words" (q 61)] (.Constant (.str kWords) 0 (q 62)) (q 63)) _ :=
    ps_set (i := 3) S.nd i3 L3' pe_str rfl (.inr (S.loc _ (List.mem_of_getElem? i3)))
  have s6 : PS (Yx X a oe pn) (.If (.BoolOp .Or [.Compare (.Call (.Attribute (.Name "_law_kinds" (q 64)) "count" (q 65)) [.Constant (.bool true) 0 (q 66)] [] (q 67)) [.NotEq] [.Constant (.int 1) 0 (q 68)] (q 69), .UnaryOp .Not (isiA n "ValueError" q 70) (q 74)] (q 75)) [.Return (some (.Constant (.str "other") 0 (q 76))) (q 77)] [] (q 78)) _ :=
    ps_if (PW.pt (pw_or (pt_cmpR op_ne (pe_bm PySem.F.plainAttrs_list PySem.F.slot_list_count PySem.F.type_list_count mt_countV (v2 _) (pa_cons pe_bl pa_nil) rfl rfl L.l2 rfl rfl) pe_int rfl) (pw_or1 (pt_not (pt_val (p_isiV S C hz hf)))))) (pss_one (ps_ret pe_str)) pss_nil
  have s7 : PS (Yx X a oe pn) (.Assign [.Name "_law_word" (q 79)] (.Subscript (.Call (.Attribute (.Name "_law_words" (q 80)) "split" (q 81)) [.Constant (.str " ") 0 (q 82)] [] (q 83)) (.Call (.Attribute (.Name "_law_kinds" (q 84)) "index" (q 85)) [.Constant (.bool true) 0 (q 86)] [] (q 87)) (q 88)) (q 89)) _ :=
    ps_set (i := 4) S.nd i4 L4' (pe_ix ix_list (pe_bm PySem.F.plainAttrs_str PySem.F.slot_str_split PySem.F.type_str_split mt_split (v3 _) (pa_cons pe_str pa_nil) rfl rfl L.l3 rfl rfl)
      (pe_bm PySem.F.plainAttrs_list PySem.F.slot_list_index PySem.F.type_list_index mt_index (v2 _) (pa_cons pe_bl pa_nil) rfl rfl L.l4 rfl rfl) (fun o i => rfl)) rfl (.inr (S.loc _ (List.mem_of_getElem? i4)))
  have s8 : PS (Yx X a oe pn) (.If (.Compare (.Name "_law_word" (q 90)) [.Eq] [.Constant (.str "BadFloat") 0 (q 91)] (q 92)) [.Return (some (.Tuple [.Name "_law_word" (q 93), .Attribute (.Name n (q 94)) "number" (q 95)] 0 (q 96))) (q 97)] [] (q 98)) _ :=
    ps_if (pt_cmpR op_eq (v4 _) pe_str rfl) (pss_one (ps_ret (pe_tup (pa_cons (v4 _) (pa_cons (pe_xf C.xf C.n1 hz hf (p_e S)) pa_nil))))) pss_nil
  have s9 : PS (Yx X a oe pn) (.Return (some (.IfExp (.Compare (.Name "_law_word" (q 99)) [.Eq] [.Constant (.str "BadTerm") 0 (q 100)] (q 101)) (.Tuple [.Name "_law_word" (q 102), .Attribute (.Name n (q 103)) "place" (q 104)] 0 (q 105)) (.Name "_law_word" (q 106)) (q 107))) (q 108)) _ :=
    ps_ret (pe_ifExp (pt_cmpR op_eq (v4 _) pe_str rfl) (pe_tup (pa_cons (v4 _) (pa_cons (pe_xf C.xf C.n5 hz hf (p_e S)) pa_nil))) (v4 _))
  refine ⟨_, pss_cons s1 (pss_cons s2 (pss_cons s3 (pss_cons s4 (pss_cons s5 (pss_cons s6 (pss_cons s7 (pss_cons s8 (pss_one s9)))))))), ?_⟩
  intro Dn σ H hl hat hQ
  have he := hat.1
  have szl : sizeLine = 16777216 := sizeLine_eq
  refine ⟨hat, hat, hat, hat, by rw [szl]; simp, fun p1 np1 => ?_⟩
  have e1 : (σ.set 2 (some (V.ref p1)))[1]? = some (some (.ref a)) := by rw [List.getElem?_set_ne (by decide)]; exact he
  have k1 : (σ.set 2 (some (V.ref p1)))[2]? = some (some (.ref p1)) := List.getElem?_set_self (by omega)
  have x1 : ∀ b o, H b = some o → upd H p1 (.lst [.bl (decide (0 = j)), .bl (decide (1 = j)), .bl (decide (2 = j)), .bl (decide (3 = j))]) b = some o := fun b o hb => by rw [upd_ne (ne_of_none hb np1)]; exact hb
  have t1 : upd H p1 (.lst [.bl (decide (0 = j)), .bl (decide (1 = j)), .bl (decide (2 = j)), .bl (decide (3 = j))]) p1 = some (.lst [.bl (decide (0 = j)), .bl (decide (1 = j)), .bl (decide (2 = j)), .bl (decide (3 = j))]) := upd_same
  have l1 : (σ.set 2 (some (V.ref p1))).length = 5 := by rw [List.length_set]; exact hl
  refine ⟨.ref p1, k1, hat.ext e1 x1, hat.ext e1 x1, hat.ext e1 x1, by rw [szl]; simp, fun p2 np2 => ⟨p1, p2, _, _, rfl, rfl, by rw [upd_ne (ne_of_none t1 np2)]; exact t1, upd_same, by rw [szl]; simp, fun p3 np3 => ?_⟩⟩
  obtain ⟨H3, hH3⟩ : ∃ H3, H3 = upd (upd (upd H p1 (.lst [.bl (decide (0 = j)), .bl (decide (1 = j)), .bl (decide (2 = j)), .bl (decide (3 = j))])) p2 (.lst [.bl (decide (4 = j)), .bl (decide (5 = j)), .bl (decide (6 = j))])) p3
    (.lst ([.bl (decide (0 = j)), .bl (decide (1 = j)), .bl (decide (2 = j)), .bl (decide (3 = j))] ++ [.bl (decide (4 = j)), .bl (decide (5 = j)), .bl (decide (6 = j))])) := ⟨_, rfl⟩
  have x2 := ext_upd (o := .lst [.bl (decide (4 = j)), .bl (decide (5 = j)), .bl (decide (6 = j))]) x1 np2
  have n3 : H p3 = none := ext_none x2 np3
  have x3 : ∀ b o, H b = some o → H3 b = some o := by rw [hH3]; exact ext_upd x2 np3
  have t3 : H3 p3 = some (.lst [.bl (decide (0 = j)), .bl (decide (1 = j)), .bl (decide (2 = j)), .bl (decide (3 = j)), .bl (decide (4 = j)), .bl (decide (5 = j)), .bl (decide (6 = j))]) := by rw [hH3]; exact upd_same
  obtain ⟨σ3, hσ3⟩ : ∃ σ3, σ3 = List.set (List.set σ 2 (some (V.ref p1))) 2 (some (V.ref p3)) := ⟨_, rfl⟩
  have e3 : σ3[1]? = some (some (.ref a)) := by rw [hσ3, List.getElem?_set_ne (by decide)]; exact e1
  have k3 : σ3[2]? = some (some (.ref p3)) := by rw [hσ3]; exact List.getElem?_set_self (by omega)
  have l3 : σ3.length = 5 := by rw [hσ3, List.length_set]; exact l1
  show L2.tSeq _ _ Dn (List.set (List.set σ 2 (some (V.ref p1))) 2 (some (V.ref p3))) _
  rw [← hσ3]
  have goal3 : ∀ (T : TS), T Dn σ3 H3 → T Dn σ3 (upd (upd (upd H p1 (.lst [.bl (decide (0 = j)), .bl (decide (1 = j)), .bl (decide (2 = j)), .bl (decide (3 = j))])) p2 (.lst [.bl (decide (4 = j)), .bl (decide (5 = j)), .bl (decide (6 = j))])) p3
    (.lst ([.bl (decide (0 = j)), .bl (decide (1 = j)), .bl (decide (2 = j)), .bl (decide (3 = j))] ++ [.bl (decide (4 = j)), .bl (decide (5 = j)), .bl (decide (6 = j))]))) := fun T h => by rw [← hH3]; exact h
  refine goal3 _ ?_
  clear goal3 hH3 hσ3 x2 t1 x1 e1 k1 l1 np1 np2 np3
  refine ⟨.ref p3, k3, hat.ext e3 x3, hat.ext e3 x3, hat.ext e3 x3, by rw [szl]; simp, fun p4 np4 => ⟨p3, p4, _, _, rfl, rfl, by rw [upd_ne (ne_of_none t3 np4)]; exact t3, upd_same, by rw [szl]; simp, fun p5 np5 => ?_⟩⟩
  obtain ⟨L5, hL5⟩ : ∃ L5 : List V, L5 = [V.bl (decide (0 = j)), V.bl (decide (1 = j)), V.bl (decide (2 = j)), V.bl (decide (3 = j)), V.bl (decide (4 = j)), V.bl (decide (5 = j)), V.bl (decide (6 = j))] ++ [V.bl (decide (7 = j)), V.bl (decide (8 = j)), V.bl (decide (9 = j))] := ⟨_, rfl⟩
  obtain ⟨H5, hH5⟩ : ∃ H5, H5 = upd (upd H3 p4 (.lst [.bl (decide (7 = j)), .bl (decide (8 = j)), .bl (decide (9 = j))])) p5 (.lst L5) := ⟨_, rfl⟩
  have x4 := ext_upd (o := .lst [.bl (decide (7 = j)), .bl (decide (8 = j)), .bl (decide (9 = j))]) x3 np4
  have n5 : H p5 = none := ext_none x4 np5
  have x5 : ∀ b o, H b = some o → H5 b = some o := by rw [hH5]; exact ext_upd x4 np5
  have t5 : H5 p5 = some (.lst L5) := by rw [hH5]; exact upd_same
  obtain ⟨σ5, hσ5⟩ : ∃ σ5, σ5 = List.set σ3 2 (some (V.ref p5)) := ⟨_, rfl⟩
  have e5 : σ5[1]? = some (some (.ref a)) := by rw [hσ5, List.getElem?_set_ne (by decide)]; exact e3
  have k5 : σ5[2]? = some (some (.ref p5)) := by rw [hσ5]; exact List.getElem?_set_self (by omega)
  have l5 : σ5.length = 5 := by rw [hσ5, List.length_set]; exact l3
  have goal5 : ∀ (T : TS), T Dn σ5 H5 → T Dn (List.set σ3 2 (some (V.ref p5))) (upd (upd H3 p4 (.lst [.bl (decide (7 = j)), .bl (decide (8 = j)), .bl (decide (9 = j))])) p5
    (.lst ([V.bl (decide (0 = j)), V.bl (decide (1 = j)), V.bl (decide (2 = j)), V.bl (decide (3 = j)), V.bl (decide (4 = j)), V.bl (decide (5 = j)), V.bl (decide (6 = j))] ++ [V.bl (decide (7 = j)), V.bl (decide (8 = j)), V.bl (decide (9 = j))]))) := fun T h => by
    rw [← hL5, ← hH5, ← hσ5]; exact h
  show L2.tSeq _ _ Dn (List.set σ3 2 (some (V.ref p5))) _
  refine goal5 _ ?_
  clear goal5 hH5 hσ5 x4 t3 x3 e3 k3 l3 np4 np5 n3
  have len5 : L5.length = 10 := by rw [hL5]; rfl
  -- append
  refine ⟨.ref p5, k5, .inl ⟨rfl, _, SqL.of t5⟩, hat.ext e5 x5, p5, L5, _, rfl, rfl, t5, by rw [szl, len5]; decide, ?_⟩
  have eL : L5 ++ [V.bl (decide (10 = j))] = ((List.range 11).map fun i => V.bl (decide (i = j))) := by rw [hL5]; rfl
  rw [eL]
  obtain ⟨L6, hL6⟩ : ∃ L6 : List V, L6 = (List.range 11).map fun i => V.bl (decide (i = j)) := ⟨_, rfl⟩
  rw [← hL6]
  have x6 : ∀ b o, H b = some o → upd H5 p5 (.lst L6) b = some o := fun b o hb => (upd_ne (ne_of_none hb n5)).trans (x5 b o hb)
  have t6 : upd H5 p5 (.lst L6) p5 = some (.lst L6) := upd_same
  obtain ⟨H6, hH6⟩ : ∃ H6, H6 = upd H5 p5 (.lst L6) := ⟨_, rfl⟩
  rw [← hH6] at x6 t6 ⊢
  clear hH6 x5 t5 len5 hL5 eL
  -- the words
  dsimp only
  refine (show ∀ (T : TS), T Dn (List.set σ5 3 (some (V.str kWords))) H6 → L2.tSeq (tAsg (tC (V.str kWords)) (gName 3)) T Dn σ5 H6 from fun T h => h) _ ?_
  obtain ⟨σ6, hσ6⟩ : ∃ σ6, σ6 = List.set σ5 3 (some (V.str kWords)) := ⟨_, rfl⟩
  have e6 : σ6[1]? = some (some (.ref a)) := by rw [hσ6, List.getElem?_set_ne (by decide)]; exact e5
  have k6 : σ6[2]? = some (some (.ref p5)) := by rw [hσ6, List.getElem?_set_ne (by decide)]; exact k5
  have w6 : σ6[3]? = some (some (.str kWords)) := by rw [hσ6]; exact List.getElem?_set_self (by omega)
  have l6 : σ6.length = 5 := by rw [hσ6, List.length_set]; exact l5
  rw [← hσ6]
  clear hσ6 e5 k5 l5
  have flat6 : L6.all flatV = true := by rw [hL6]; simp [flatV]
  have cnt : (L6.countP fun z => eqV z (.bl true)) = 1 := by
    rw [hL6]
    have : ∀ j < 11, (((List.range 11).map fun i => V.bl (decide (i = j))).countP fun z => eqV z (.bl true)) = 1 := by decide
    exact this j hj
  -- the test
  refine ⟨.ref p5, k6, .inl ⟨rfl, _, SqL.of t6⟩, p5, L6, .bl true, rfl, rfl, SqL.of t6, rfl, flat6, ?_⟩
  rw [cnt]
  refine ⟨rfl, !decide (V.int ((1 : Nat) : Int) = V.int 1), rfl, ?_⟩
  have d1 : (!decide (V.int ((1 : Nat) : Int) = V.int 1)) = false := by decide
  rw [d1]
  dsimp only
  rw [if_neg Bool.false_ne_true]
  refine ⟨hat.ext e6 x6, true, rfl, ?_⟩
  dsimp only
  rw [if_neg (show ¬ (!true) = true by decide)]
  dsimp only [tNext]
  -- the word
  refine ⟨.str kWords, w6, rfl, kWords, " ", rfl, rfl, by decide +kernel, by rw [szl]; decide +kernel, fun p7 np7 => ?_⟩
  have t7 : upd H6 p7 (.lst ((Txt.split kWords " ").map V.str)) p5 = some (.lst L6) := (upd_ne (ne_of_none t6 np7)).trans t6
  have x7 : ∀ b o, H b = some o → upd H6 p7 (.lst ((Txt.split kWords " ").map V.str)) b = some o := fun b o hb => (upd_ne (ne_of_none (x6 b o hb) np7)).trans (x6 b o hb)
  have hz6 : L6[j]? = some (.bl true) := by
    rw [hL6, List.getElem?_map, List.getElem?_range hj]
    simp
  have hn6 : ∀ (m : Nat) (z' : V), m < j → L6[m]? = some z' → eqV z' (.bl true) = false := fun m z' hm hz' => by
    rw [hL6, List.getElem?_map, List.getElem?_range (by omega)] at hz'
    simp only [Option.map_some, Option.some.injEq] at hz'
    subst hz'
    have : ¬ m = j := by omega
    simp [this, eqV]
  refine ⟨.ref p5, k6, .inl ⟨rfl, _, SqL.of t7⟩, p5, L6, .bl true, j, .bl true, rfl, rfl, SqL.of t7, rfl, flat6, hz6, rfl, hn6, ?_⟩
  obtain ⟨c, hc⟩ : ∃ c, kNames[j]? = some c := ⟨_, List.getElem?_eq_getElem (show j < kNames.length from hj)⟩
  have sp : Txt.split kWords " " = kNames := by decide +kernel
  refine ⟨p7, (Txt.split kWords " ").map V.str, (j : Nat), .str c, rfl, rfl, SqL.of upd_same, ?_, ?_⟩
  · rw [sp]
    have kx : ∀ j < 11, L2.ixN 11 ((j : Nat) : Int) = some j := by decide
    show (L2.ixN 11 ((j : Nat) : Int)).bind _ = _
    rw [kx j hj, Option.bind_some, List.getElem?_map, hc]
    rfl
  dsimp only [gName]
  have w7 : (List.set σ6 4 (some (V.str c)))[4]? = some (some (.str c)) := List.getElem?_set_self (by omega)
  have e7 : (List.set σ6 4 (some (V.str c)))[1]? = some (some (.ref a)) := by rw [List.getElem?_set_ne (by decide)]; exact e6
  have res := hQ _ c hc x7
  unfold KRes at res
  by_cases h1 : j = 1
  · subst h1
    have ec : c = "BadFloat" := Option.some.inj (hc.symm.trans rfl)
    subst ec
    obtain ⟨d, v, hd, hH, hr⟩ := res
    refine ⟨.str "BadFloat", w7, ⟨rfl, true, rfl, ?_⟩⟩
    dsimp only
    rw [if_pos rfl]
    exact ⟨.str "BadFloat", w7, .ref a, e7, rfl, rfl, d, _, v, hd, x7 _ _ hH, rfl, by rw [szl]; simp, hr⟩
  by_cases h5 : j = 5
  · subst h5
    have ec : c = "BadTerm" := Option.some.inj (hc.symm.trans rfl)
    subst ec
    obtain ⟨d, v, hd, hH, hr⟩ := res
    refine ⟨.str "BadTerm", w7, ⟨rfl, decide (V.str "BadTerm" = V.str "BadFloat"), rfl, ?_⟩⟩
    rw [decide_eq_false (show ¬ V.str "BadTerm" = V.str "BadFloat" from fun z => absurd (V.str.inj z) (by decide +kernel))]
    dsimp only
    rw [if_neg Bool.false_ne_true]
    dsimp only [tNext]
    refine ⟨.str "BadTerm", w7, ⟨rfl, true, rfl, ?_⟩⟩
    dsimp only
    rw [if_pos rfl]
    exact ⟨.str "BadTerm", w7, .ref a, e7, rfl, rfl, d, _, v, hd, x7 _ _ hH, rfl, by rw [szl]; simp, hr⟩
  have ek : kF j = none := by unfold kF; rw [if_neg h1, if_neg h5]
  rw [ek] at res
  have ne : c ≠ "BadFloat" ∧ c ≠ "BadTerm" := by
    have key : ∀ j < 11, j ≠ 1 → j ≠ 5 → kNames[j]? ≠ some ("BadFloat" : Str) ∧ kNames[j]? ≠ some ("BadTerm" : Str) := by decide +kernel
    obtain ⟨k1, k2⟩ := key j hj h1 h5
    exact ⟨fun z => k1 (by rw [hc, z]), fun z => k2 (by rw [hc, z])⟩
  refine ⟨.str c, w7, ⟨rfl, decide (V.str c = V.str "BadFloat"), rfl, ?_⟩⟩
  rw [decide_eq_false (fun z => ne.1 (by injection z))]
  dsimp only
  rw [if_neg Bool.false_ne_true]
  dsimp only [tNext]
  refine ⟨.str c, w7, ⟨rfl, decide (V.str c = V.str "BadTerm"), rfl, ?_⟩⟩
  rw [decide_eq_false (fun z => ne.2 (by injection z))]
  dsimp only
  rw [if_neg Bool.false_ne_true]
  exact ⟨.str c, w7, res⟩
end
end Sw
/-! What something tells, or the kind of its refusal: the def that asks it -/
namespace Sw
open PySem PySem.Spec L2 PyProof.Rows PySem.W LamX
/-! ### more stands in the heap -/
section
variable {K : KX} {w : Wd} {st : Sto} {H H' : Hp}
theorem Tr.more (R : RS K w st H) (h : ∀ b o, H b = some o → H' b = some o) : Tr w st H w st H' :=
  ⟨rfl, List.prefix_refl _, fun a o e _ z => ⟨h a o e, z⟩, fun a ha => by
    obtain ⟨vs, e⟩ := R.hl a ha
    rw [e, h _ _ e]⟩
theorem RS.more (R : RS K w st H) (h : ∀ b o, H b = some o → H' b = some o) : RS K w st H' := by
  refine ⟨R.len, R.nd, R.dis, fun a ha => ?_, fun a ha => ?_, fun k a o h1 h2 => ?_, R.tabs.ext h⟩
  · cases e : H a with
    | none => exact absurd e (R.trk a ha)
    | some o => rw [h a o e]; simp
  · obtain ⟨vs, e⟩ := R.hl a ha
    exact ⟨vs, h _ _ e⟩
  · have ro := R.obj k a o h1 h2
    cases o with
    | dead => trivial
    | lst as =>
      obtain ⟨ol, vs, e, r⟩ := ro
      exact ⟨ol, vs, h _ _ e, r.mono (Tr.more R h)⟩
end
/-- the exceptions that the def catches: their kinds are told -/
def EK (nm : Nm) (xc : XC) (Q : VK) : XK := fun cls dx H' => ∃ c C x ns, cls = .ref C ∧ xc c = some (C, ns) ∧ nm.ks[c]? = some x ∧ ((ns = [] ∧ dx = none ∧ ∀ H'', (∀ b o, H' b = some o → H'' b = some o) → Q (.str x) H'') ∨
  ∃ f d v, ns = [f] ∧ dx = some d ∧ H' d = some (.xd [(f, v)]) ∧ ∀ H'' p, (∀ b o, H' b = some o → H'' b = some o) → H'' p = none → Q (.ref p) (upd H'' p (.tup [.str x, v])))
theorem EK.at {nm : Nm} {xc : XC} {Q : VK} {c : Nat} {C : Addr} {x : Str} {j : Nat} {ns : List Str} {dx : Option Addr} {H' : Hp} (kf : kFields j ns)
    (h : (ns = [] ∧ dx = none ∧ ∀ H'', (∀ b o, H' b = some o → H'' b = some o) → Q (.str x) H'') ∨ ∃ f d v, ns = [f] ∧ dx = some d ∧ H' d = some (.xd [(f, v)]) ∧ ∀ H'' p, (∀ b o, H' b = some o → H'' b = some o) → H'' p = none → Q (.ref p) (upd H'' p (.tup [.str x, v]))) :
    (dx = none ∨ ∃ d fs, dx = some d ∧ H' d = some (.xd fs)) ∧ ∀ H1 H'', (∀ b o, H' b = some o → H1 b = some o) → (∀ b o, H1 b = some o → H'' b = some o) → KRes j dx H1 x Q H'' := by
  unfold kFields at kf
  rcases h with ⟨h1, h2, h3⟩ | ⟨f, d, v, h1, h2, h3, h4⟩
  · refine ⟨.inl h2, fun H1 H'' q1 q2 => ?_⟩
    have ek : kF j = none := by cases hk : kF j with
      | none => rfl
      | some f => rw [hk, h1] at kf; cases kf
    unfold KRes
    rw [ek]
    exact h3 H'' fun b o z => q2 b o (q1 b o z)
  · refine ⟨.inr ⟨d, _, h2, h3⟩, fun H1 H'' q1 q2 => ?_⟩
    have ek : kF j = some f := by cases hk : kF j with
      | none => rw [hk, h1] at kf; cases kf
      | some g => rw [hk, h1] at kf; cases kf; rfl
    unfold KRes
    rw [ek]
    exact ⟨d, v, h2, q1 _ _ h3, fun p np => h4 H'' p (fun b o z => q2 b o (q1 b o z)) np⟩
theorem kNames_ok : ∀ x ∈ kNames, PyData.strOk x = true := by decide +kernel
/-- what a run tells: its kind's told all the same -/
theorem kind_read {nm : Nm} {K : KX} {xc : XC} {E : XK} {m : M A} {w : Wd} {st : Sto} {H : Hp} {Q : VK} (cls : ∀ c C ns, xc c = some (C, ns) → ∃ j x, kNames[j]? = some x ∧ nm.ks[c]? = some x ∧ kFields j ns) (R : RS K w st H) {P : D → Wd → Sto → Hp → Prop}
    (hP : ∀ d w' st' H', Tr w st H w' st' H' → RS K w' st' H' → P d w' st' H' → ∀ v, RV K (Zm w' st') H' v d → Q v H') (run : Run K xc E (kindM nm.ks m) w st H P) :
    Run K xc (EK nm xc Q) m w st H fun a w' st' H' => ∀ v, RA K w' st' H' v a → Q v H' := by
  obtain ⟨r, s1, e, q⟩ := run
  unfold kindM at e
  cases hm : m st with
  | none => rw [hm] at e; cases e
  | some p =>
    obtain ⟨ro, s2⟩ := p
    rw [hm] at e
    refine ⟨ro, s2, hm, ?_⟩
    cases ro with
    | ok a =>
      cases a with
      | r k => cases e
      | f k => cases e
      | d x =>
        cases e
        intro w' H' t R' v rv
        obtain ⟨t2, R2, k2⟩ := out_trim R (fun a ha => by rw [t.hs]; exact ha) t.pre R' t.keep t.hid
        exact hP x w _ H' t2 R2 (q w H' t2 R2) v (RV.mono k2 rv)
    | error x =>
      cases x with
      | mk c ds =>
        simp only at e
        intro w' H' cl dx t R' rx
        obtain ⟨C, ns, h1, rfl, h3⟩ := rx
        obtain ⟨j, x, hj, hx, kf⟩ := cls c C ns h1
        rcases h3 with ⟨rfl, rfl, rfl⟩ | ⟨d, fs, h0, rfl, h5, h6, h7, h8⟩
        · have ek : kindX nm.ks (.mk c []) = some (.str x) := by simp only [kindX, hx]
          rw [ek] at e
          cases e
          refine ⟨c, C, x, [], rfl, h1, hx, .inl ⟨rfl, rfl, fun H'' hext => ?_⟩⟩
          obtain ⟨t2, R2, _⟩ := out_trim R (fun a ha => by rw [t.hs]; exact ha) t.pre R' t.keep t.hid
          have t3 := t2.trans (Tr.more R2 hext)
          have R3 := R2.more hext
          exact hP _ w _ H'' t3 R3 (q w H'' t3 R3) _ (.str (kNames_ok x (List.mem_of_getElem? hj)))
        · obtain ⟨f, hf⟩ : ∃ f, ns = [f] := by
            unfold kFields at kf
            cases hk : kF j with
            | none => rw [hk] at kf; exact absurd kf h0
            | some f => rw [hk] at kf; exact ⟨f, kf⟩
          subst hf
          obtain ⟨v, rfl⟩ : ∃ v, fs = [(f, v)] := by
            cases fs with
            | nil => cases h7
            | cons a r =>
              obtain ⟨a1, a2⟩ := a
              cases r with
              | nil =>
                simp only [List.map_cons, List.map_nil, List.cons.injEq, and_true] at h7
                exact ⟨a2, by rw [h7]⟩
              | cons _ _ => simp at h7
          cases h8 with
          | cons rv r0 =>
          cases r0
          rename_i dd
          have ek : kindX nm.ks (.mk c [dd]) = some (.tup [.str x, dd]) := by simp only [kindX, hx]
          rw [ek] at e
          cases e
          refine ⟨c, C, x, [f], rfl, h1, hx, .inr ⟨f, d, v, rfl, rfl, h5, fun H'' p hext np => ?_⟩⟩
          obtain ⟨t2, R2, k2⟩ := out_trim R (fun a ha => by rw [t.hs]; exact ha) t.pre R' t.keep t.hid
          have t3 := t2.trans (Tr.more R2 hext)
          have R3 := R2.more hext
          have t4 := Tr.laid (o := .tup [.str x, v]) R3 np
          have R4 := RS.laid (o := .tup [.str x, v]) R3 np
          refine hP _ w _ _ (t3.trans t4) R4 (q w _ (t3.trans t4) R4) _ (.tup (.inl upd_same) ?_ (.cons (.str (kNames_ok x (List.mem_of_getElem? hj))) (.cons ?_ .nil)))
          · rintro (z | ⟨k3, o, z1, z2, z3⟩)
            · exact R3.trkh p z np
            · exact R3.trk p (List.mem_of_getElem? z1) np
          · exact RV.mono t4.keep (RV.mono (Tr.more R2 hext).keep (RV.mono k2 rv))
section
variable {nm : Nm} {xc : XC} {X : Cx} {g f : Addr} {n : Str} {q : Nat → Pos} {sg : Scope} {cdv : Value} {s : Shared} {H : Hp} {Q : VK} {IL : Hp → Prop} {tl : XK → Hp → VK → Prop}
abbrev Ngk (n : Str) : List Str := ["_law_work", n, "_law_kinds", "_law_words", "_law_word"]
theorem kind_gives (S : FnScope (Ngk n) ["_law_work"] sg) (L : KindL q) (loc : ∀ x ∈ Ngk n, sg.names.lookup x = some .local) (glo : ∀ x ∈ ((["isinstance", "ValueError", "FloatError"] : List Str) ++ kNames), sg.names.lookup x = some .globalImplicit)
    (dbg : (n == ("__debug__" : Str)) = false ∧ (n == ("__classdict__" : Str)) = false) (bi : X.mg "isinstance" = none) (bv : X.mg "ValueError" = none) {FE : Addr} (fe : X.mg "FloatError" = some (.ref FE))
    (cls : ∀ c C ns, xc c = some (C, ns) → ∃ j x, kNames[j]? = some x ∧ nm.ks[c]? = some x ∧ KindC X.K X.mg C j ∧ kFields j ns) (fex : ∀ c C ns, xc c = some (C, ns) → exmOne X.K (.ref C) (.ref FE) = some true)
    (act : ∀ (W : WX) (pn : List (Addr × Obj)) (xe : Value → Shared → Prop) (E : XK) (p1 p2 : Pos), Takes ((cxOf C8.CX0 X.prog X.w X.K X.mg X.base (Ngk n) "_law_kind" sg g cdv X.A X.stack s H C8.E0).tr pn xe) W → (∀ cls d (σ' : L2.St) H', σ'.length = (Ngk n).length → E cls d H' → W cls d σ' H') →
      PE ((cxOf C8.CX0 X.prog X.w X.K X.mg X.base (Ngk n) "_law_kind" sg g cdv X.A X.stack s H C8.E0).tr pn xe) (.Call (.Name "_law_work" p1) [] [] p2) (fun σZ HZ Q => σZ[0]? = some (some (.ref f)) ∧ IL HZ ∧ tl E HZ Q))
    (hIL : IL H) (h : tl (EK nm xc Q) H Q) :
    ∃ t, PSs (cxOf C8.CX0 X.prog X.w X.K X.mg X.base (Ngk n) "_law_kind" sg g cdv X.A X.stack s H C8.E0).nox (kindA n q) t ∧ t { nx := fun _ H' => Q .non H', rt := Q } (L2.start (Ngk n) [.ref f]) H := by
  obtain ⟨Z, hZ⟩ : ∃ Z, Z = (cxOf C8.CX0 X.prog X.w X.K X.mg X.base (Ngk n) "_law_kind" sg g cdv X.A X.stack s H C8.E0).nox := ⟨_, rfl⟩
  have SN : KindN Z n := by
    subst hZ
    exact ⟨rfl, S.nd, loc, glo, dbg, bi, bv⟩
  have hge : sg.names.lookup ("FloatError" : Str) = some .globalImplicit := glo _ (by simp)
  -- the suite, whatever was caught
  have hsu : ∀ (a : Addr) (oe : Obj) (c : Value) (d : Option Addr) (pn : List (Addr × Obj)), Zc c d oe → (∃ vs, oe.data = .fields vs) → PSs (Z.suite a ((a, oe) :: pn)) (suiteA n q) (fun D σ H => ∃ (C : Addr) (j : Nat), c = .ref C ∧ KindC X.K X.mg C j ∧ j < 11 ∧ σ.length = 5 ∧ AtE a d σ H ∧
      ∀ H' c, kNames[j]? = some c → (∀ b o, H b = some o → H' b = some o) → KRes j d H c D.rt H') := fun a oe c d pn hz hf => ⟨fun pins s' σ H' D I hh => by
    obtain ⟨C, j, rfl, kc, hj, hl, ha, hr⟩ := hh
    have kc : KindC Z.K Z.mg C j := by subst hZ; exact kc
    obtain ⟨t, ht, hq⟩ := suite_ok (a := a) (pn := pn) SN L kc hj hz hf
    exact ht.run pins s' σ H' D I (hq D σ H' hl ha hr)⟩
  have hs0 : (L2.start (Ngk n) [V.ref f])[0]? = some (some (V.ref f)) := rfl
  rw [← hZ]
  refine ⟨_, pss_one (ps_try_as (X := Z) (c := .ref FE) (i := 1) (n := n) (body := [.Return (some (.Call (.Name "_law_work" (q 109)) [] [] (q 110))) (q 111)])
      (tb := fun W D σ H => ∃ Ech : XK, (∀ cls d (σ' : L2.St) H', σ'.length = (Ngk n).length → Ech cls d H' → W cls d σ' H') ∧ σ[0]? = some (some (.ref f)) ∧ IL H ∧ tl Ech H D.rt)
      (by subst hZ; rfl) (by subst hZ; rfl) SN.nd (by rw [SN.N]; rfl) (by subst hZ; exact loc n (by simp)) (by subst hZ; exact ⟨hge, by decide +kernel, .inl fe⟩) LamX.takes0 (fun W pn xe tk _ => ?_) hsu), ?_⟩
  · subst hZ
    refine ⟨fun pins s' σ' H' D I h' => ?_⟩
    obtain ⟨Ech, hW, h1, h2, h3⟩ := h'
    exact (pss_one (ps_ret (pos := q 111) (act W pn xe Ech (q 109) (q 110) tk hW))).run pins s' σ' H' D I ⟨h1, h2, h3⟩
  · refine ⟨EK nm xc Q, fun cd d σ' H' hl ek => ?_, hs0, hIL, h⟩
    obtain ⟨c, C, x, ns, rfl, hc, hx, hq⟩ := ek
    obtain ⟨j, x', hj, hx', kc, kf⟩ := cls c C ns hc
    rw [hx] at hx'
    cases hx'
    have ex : exmOne Z.K (.ref C) (.ref FE) = some true := by subst hZ; exact fex c C ns hc
    have hj11 : j < 11 := (List.getElem?_eq_some_iff.mp hj).1
    obtain ⟨q1, q2⟩ := EK.at (nm := nm) (xc := xc) (c := c) (C := C) kf hq
    refine ⟨true, ex, fun _ a na => ⟨C, j, rfl, kc, hj11, by rw [List.length_set]; exact hl, ⟨List.getElem?_set_self (by rw [hl]; show 1 < 5; decide), q1⟩, fun H'' y hy hext => ?_⟩, fun z => by cases z⟩
    rw [hj] at hy
    cases hy
    exact q2 _ H'' (fun _ _ z => z) hext
end
end Sw
/-! The checker's word holds: expressions -/
namespace Sw
open PySem PySem.Spec L2

/-- a written table of the top -/
structure GdOk (w : World) (K : PySem.W.Frag) (mg : Str → Option Value) (p : Str × List Str × List Int) : Prop where
  ex : ∃ a es n, mg p.1 = some (.ref a) ∧ KDict K w a es n ∧ ∀ z, match gLook p.2.1 p.2.2 z with
    | none => PySem.W.nsIn K a z = some none
    | some i => ∃ tk, PySem.W.nsIn K a z = some (some (.int i tk))
/-- what the context gives -/
structure Okx (nm : Nm) (N : List Str) (K : KX) (xc : XC) (C : CL) (G : Nat → Option D) (W : WX) (sc : Scope) (X : Cx) : Prop where
  k : X.K = K
  n : X.N = N
  sc : X.env.scope = sc
  calm : X.calm = true
  nd : X.N.Nodup
  room : Room 0 X.A
  fns : ∀ i x, nm.fn i = some x → ∃ f fd ps k, X.mg x = some (.ref f) ∧ PySem.W.keepIn X.K (.ref f) = true ∧ Binds X.K fd ps [] ∧ FnOk X.prog X.w X.K X.mg X.base (L2.CX X.prog X.w) k f fd ps (spC K xc (C i)) ∧ Room k X.A
  gls : ∀ j x d, nm.gl j = some x → G j = some d → ∃ u v, X.mg x = some u ∧ RelV v u ∧ ∀ Z H, RV K Z H v d
  gds : ∀ p, p ∈ nm.gd → GdOk X.w X.K X.mg p
  blt : ∀ x, x ∈ bltNames → X.mg x = none
  pass : ∀ σ, PassesAt (L2.CX X.prog X.w) X σ (WE W σ)
  code : nm.sq = true → PySem.W.kdsCode X.K X.env.code = true
  lo : nm.lon X.env.scope = true → Lo nm K xc C X

/-! ### side conditions -/
theorem star_cons {e : Expr} {es : List Expr} {env : PySem.Env} (h : notStar e = true) : starEach (e :: es) env = (false, eval e env) :: starEach es env := by
  cases e <;> first | rfl | cases h
theorem star_any {env : PySem.Env} {pos : Pos} : ∀ {es : List Expr}, es.all notStar = true → (backTo pos (starEach es env)).any (·.1) = false
  | [], _ => rfl
  | e :: es, h => by
    rw [List.all_cons, Bool.and_eq_true] at h
    rw [star_cons h.1]
    show (false || (backTo pos (starEach es env)).any (·.1)) = false
    rw [star_any h.2]; rfl
theorem folded_not {e : Expr} {env : PySem.Env} (h : notSet e = true) : ∀ x, foldedSetIterable e env x = pure x := by
  intro x
  cases e <;> first | rfl | cases h
theorem marks_not {op : CmpOp} {e : Expr} (h : notSet e = true) : behindInMarks op e = false := by
  cases e <;> first | rfl | cases h
theorem plain_ix {b : Expr} (h : notSlice b = true) : PlainIx b := by
  intro o i
  cases b <;> first | rfl | cases h
theorem attr_base {o : Expr} {attr : Str} {env : PySem.Env} (h : ∀ p q, o ≠ .Call (.Name "super" p) [] [] q) : True := trivial

section
variable {nm : Nm} {N : List Str} {K : KX} {xc : XC} {C : CL} {G : Nat → Option D} {W : WX} {sc : Scope} {X : Cx}
theorem Okx.gl (O : Okx nm N K xc C G W sc X) {x : Str} (h : glB sc x = true) : Gl X x ∧ (x == ("__debug__" : Str)) = false := by
  unfold glB at h
  rw [Bool.and_eq_true, decide_eq_true_eq, decide_eq_true_eq] at h
  refine ⟨?_, by simpa using h.2⟩
  show X.env.scope.names.lookup x = _
  rw [O.sc]; exact h.1
theorem Okx.vis (O : Okx nm N K xc C G W sc X) {x : Str} (h : visB sc x = true) : Vis X.env.scope x ∧ (x == ("__debug__" : Str)) = false ∧ (x == ("__classdict__" : Str)) = false := by
  unfold visB at h
  rw [Bool.and_eq_true, Bool.and_eq_true, decide_eq_true_eq, decide_eq_true_eq] at h
  refine ⟨?_, by simpa using h.1.2, by simpa using h.2⟩
  rw [O.sc]
  have h1 := h.1.1
  unfold Vis
  cases e : sc.names.lookup x with
  | none => rw [e] at h1; cases h1
  | some k => cases k <;> simp_all
theorem Okx.loc (O : Okx nm N K xc C G W sc X) {x : Str} (h : locB sc x = true) : L2.Loc X.env.scope x := by
  unfold locB at h
  rw [O.sc]
  unfold L2.Loc
  cases e : sc.names.lookup x with
  | none => rw [e] at h; cases h
  | some k => cases k <;> simp_all
/-- a name that is no builtin's here -/
theorem Okx.bl (O : Okx nm N K xc C G W sc X) {x : Str} (h : x ∈ bltNames) : X.mg x = none := O.blt x h
/-- what a reading of data is left with -/
theorem finQ {E : XK} {w : Wd} {st : Sto} {H : Hp} {z : D} {Q : VK} (R : RS K w st H) (h : Run K xc E (ret (A.d z)) w st H fun a w' st' H' => ∀ v, RA K w' st' H' v a → Q v H') : FinQ K (Zm w st) H z Q :=
  ⟨fun v r => h.ret0 R v r, fun p o v hp r => h.ret (Tr.laid R hp) (R.laid hp) v r⟩
/-- a value's test, where the test is the value's truth -/
theorem pt_of {ast : Expr} {e : E} (h : PE X ast (tE K xc C G W e)) (he : ∀ whole, isTrue ast X.env whole = (do let v ← whole; standAt ast.pos; holding [v] (truthy v)) := by intro _; rfl) : PT X ast (tT K xc C G W e) := by
  refine PT.imp (pt_val h he) fun σ H Q q => ?_
  obtain ⟨w, st, env, R, RE, run⟩ := q
  refine ⟨w, st, env, R, RE, run.mono fun a w1 st1 H1 t1 R1 q v rv => ?_⟩
  obtain ⟨b, e1, q⟩ := q
  cases a with
  | r k => cases e1
  | f k => cases e1
  | d x => cases x <;> simp only [tru] at e1 <;> try (cases e1; done)
           cases e1
           cases rv
           exact ⟨_, rfl, q⟩
theorem pe_ifx {c a b : Expr} {tc : TT} {ta tb : TT} {pos : Pos} (hc : PT X c tc) (ha : PT X a ta) (hb : PT X b tb) : PT X (.IfExp c a b pos) (fun σ H Q => tc σ H fun k H1 => if k = true then ta σ H1 Q else tb σ H1 Q) := by
  refine ⟨fun pins s σ H Q I h => ?_⟩
  refine PyProof.Rows.isTrue_IfExp (thn (hc.run pins s σ H _ I h) fun d s1 ⟨H1, I1, q1⟩ => ?_)
  cases d with
  | true => exact ha.run pins s1 σ H1 Q I1 q1
  | false => exact hb.run pins s1 σ H1 Q I1 q1

/-! ### one lemma a construct -/
variable {a b c : Expr} {ea eb ec : E} {pos : Pos}
theorem s_bin (ha : PE X a (tE K xc C G W ea)) (hb : PE X b (tE K xc C G W eb)) (o : BOp) (O : Okx nm N K xc C G W sc X) : PE X (.BinOp a (bo o) b pos) (tE K xc C G W (.bin o ea eb)) := by
  refine PE.imp (pe_op (opB o) ha hb) fun σ H Q q => ?_
  obtain ⟨w, st, env, R, RE, run⟩ := q
  rw [O.k]
  refine ⟨w, st, env, R, RE, run.bnd.mono fun x w1 st1 H1 t1 R1 run v rv => ?_⟩
  refine ⟨w1, st1, env, R1, RE.mono t1, run.bnd.mono fun y w2 st2 H2 t2 R2 run u ru => ?_⟩
  obtain ⟨dx, px, run⟩ := run.pk R2 (rv.mono t2)
  obtain ⟨dy, py, run⟩ := run.pk R2 ru
  obtain ⟨z, e, run⟩ := run.opt
  exact bop_ok R2 px py e (finQ R2 run)
theorem s_cmp (ha : PE X a (tE K xc C G W ea)) (hb : PE X b (tE K xc C G W eb)) (o : COp) (O : Okx nm N K xc C G W sc X) (hs : notSet b = true) : PE X (.Compare a [co o] [b] pos) (tE K xc C G W (.cmp o ea eb)) := by
  refine PE.imp (pe_cmpR (opC O.room o) ha hb (marks_not hs)) fun σ H Q q => ?_
  obtain ⟨w, st, env, R, RE, run⟩ := q
  rw [O.k]
  refine ⟨w, st, env, R, RE, run.bnd.mono fun x w1 st1 H1 t1 R1 run v rv => ?_⟩
  refine ⟨w1, st1, env, R1, RE.mono t1, run.bnd.mono fun y w2 st2 H2 t2 R2 run u ru => ?_⟩
  obtain ⟨dx, px, run⟩ := run.pk R2 (rv.mono t2)
  obtain ⟨dy, py, run⟩ := run.pk R2 ru
  obtain ⟨z, e, run⟩ := run.opt
  exact cop_ok px py e (run.ret0 R2 _ (.bl z))
theorem s_cmpT (ha : PE X a (tE K xc C G W ea)) (hb : PE X b (tE K xc C G W eb)) (o : COp) (O : Okx nm N K xc C G W sc X) (hs : notSet b = true) : PT X (.Compare a [co o] [b] pos) (tT K xc C G W (.cmp o ea eb)) := by
  refine PT.imp (pt_cmpR (opC O.room o) ha hb (marks_not hs)) fun σ H Q q => ?_
  obtain ⟨w, st, env, R, RE, run⟩ := q
  rw [O.k]
  refine ⟨w, st, env, R, RE, run.bnd.mono fun x w1 st1 H1 t1 R1 run v rv => ?_⟩
  refine ⟨w1, st1, env, R1, RE.mono t1, run.bnd.mono fun y w2 st2 H2 t2 R2 run u ru => ?_⟩
  obtain ⟨dx, px, run⟩ := run.pk R2 (rv.mono t2)
  obtain ⟨dy, py, run⟩ := run.pk R2 ru
  obtain ⟨z, e, run⟩ := run.opt
  obtain ⟨k, e2, q⟩ := run.ret0 R2
  cases e2
  exact cop_ok px py e ⟨_, rfl, q⟩
theorem s_chain (ha : PE X a (tE K xc C G W ea)) (hb : PE X b (tE K xc C G W eb)) (hc : PE X c (tE K xc C G W ec)) (o o' : COp) (O : Okx nm N K xc C G W sc X) (hs : notSet c = true) : PE X (.Compare a [co o, co o'] [b, c] pos) (tE K xc C G W (.chain o o' ea eb ec)) := by
  refine PE.imp (pe_chain (opC O.room o) (opC O.room o') ha hb hc (by show behindInMarks _ _ = false; exact marks_not hs)) fun σ H Q q => ?_
  obtain ⟨w, st, env, R, RE, run⟩ := q
  rw [O.k]
  refine ⟨w, st, env, R, RE, run.bnd.mono fun x w1 st1 H1 t1 R1 run v rv => ?_⟩
  refine ⟨w1, st1, env, R1, RE.mono t1, run.bnd.mono fun y w2 st2 H2 t2 R2 run u ru => ?_⟩
  obtain ⟨dx, px, run⟩ := run.pk R2 (rv.mono t2)
  obtain ⟨dy, py, run⟩ := run.pk R2 ru
  obtain ⟨z, e, run⟩ := run.opt
  refine cop_ok px py e ⟨_, rfl, ?_⟩
  cases z with
  | false =>
    rw [if_neg Bool.false_ne_true] at run ⊢
    exact run.ret0 R2 _ (.bl _)
  | true =>
    rw [if_pos rfl] at run ⊢
    refine ⟨w2, st2, env, R2, (RE.mono t1).mono t2, run.bnd.mono fun z w3 st3 H3 t3 R3 run u' ru' => ?_⟩
    obtain ⟨dy, py, run⟩ := run.pk R3 (ru.mono t3)
    obtain ⟨dz, pz, run⟩ := run.pk R3 ru'
    obtain ⟨t, e, run⟩ := run.opt
    exact cop_ok py pz e (run.ret0 R3 _ (.bl t))
theorem s_chainT (ha : PE X a (tE K xc C G W ea)) (hb : PE X b (tE K xc C G W eb)) (hc : PE X c (tE K xc C G W ec)) (o o' : COp) (O : Okx nm N K xc C G W sc X) (hs : notSet c = true) : PT X (.Compare a [co o, co o'] [b, c] pos) (tT K xc C G W (.chain o o' ea eb ec)) := by
  refine PT.imp (pt_chain (opC O.room o) (opC O.room o') ha hb hc (by show behindInMarks _ _ = false; exact marks_not hs)) fun σ H Q q => ?_
  obtain ⟨w, st, env, R, RE, run⟩ := q
  rw [O.k]
  refine ⟨w, st, env, R, RE, run.bnd.mono fun x w1 st1 H1 t1 R1 run v rv => ?_⟩
  refine ⟨w1, st1, env, R1, RE.mono t1, run.bnd.mono fun y w2 st2 H2 t2 R2 run u ru => ?_⟩
  obtain ⟨dx, px, run⟩ := run.pk R2 (rv.mono t2)
  obtain ⟨dy, py, run⟩ := run.pk R2 ru
  obtain ⟨z, e, run⟩ := run.opt
  refine cop_ok px py e ⟨_, rfl, ?_⟩
  cases z with
  | false =>
    rw [if_neg Bool.false_ne_true] at run ⊢
    obtain ⟨k, e2, q⟩ := run.ret0 R2
    cases e2
    exact ⟨_, rfl, q⟩
  | true =>
    rw [if_pos rfl] at run ⊢
    refine ⟨w2, st2, env, R2, (RE.mono t1).mono t2, run.bnd.mono fun z w3 st3 H3 t3 R3 run u' ru' => ?_⟩
    obtain ⟨dy, py, run⟩ := run.pk R3 (ru.mono t3)
    obtain ⟨dz, pz, run⟩ := run.pk R3 ru'
    obtain ⟨t, e, run⟩ := run.opt
    obtain ⟨k, e2, q⟩ := run.ret0 R3
    cases e2
    exact cop_ok py pz e ⟨_, rfl, q⟩
theorem s_neg (ha : PE X a (tE K xc C G W ea)) : PE X (.UnaryOp .USub a pos) (tE K xc C G W (.neg ea)) := by
  refine PE.imp (pe_un un_neg ha) fun σ H Q q => ?_
  obtain ⟨w, st, env, R, RE, run⟩ := q
  refine ⟨w, st, env, R, RE, run.bnd.mono fun x w1 st1 H1 t1 R1 run v rv => ?_⟩
  cases x with
  | r k => exact run.fail.elim
  | f k => exact run.fail.elim
  | d x =>
    cases x <;> try (exact run.fail.elim)
    cases rv
    exact ⟨_, rfl, run.ret0 R1 _ (.int _)⟩
theorem s_and (ha : PE X a (tE K xc C G W ea)) {bs : List Expr} {b : Expr} (hb : PE X (.BoolOp .And (b :: bs) pos) (tE K xc C G W eb)) : PE X (.BoolOp .And (a :: b :: bs) pos) (tE K xc C G W (.and ea eb)) := by
  refine PE.imp (pe_and ha hb) fun σ H Q q => ?_
  obtain ⟨w, st, env, R, RE, run⟩ := q
  refine ⟨w, st, env, R, RE, run.bnd.mono fun x w1 st1 H1 t1 R1 run v rv => ?_⟩
  cases x with
  | r k => exact run.fail.elim
  | f k => exact run.fail.elim
  | d x =>
    cases x <;> try (exact run.fail.elim)
    rename_i t
    cases rv
    refine ⟨_, rfl, ?_⟩
    cases t with
    | true => exact ⟨w1, st1, env, R1, RE.mono t1, run⟩
    | false => exact run.ret0 R1 _ (.bl _)
theorem s_or (ha : PE X a (tE K xc C G W ea)) {bs : List Expr} {b : Expr} (hb : PE X (.BoolOp .Or (b :: bs) pos) (tE K xc C G W eb)) : PE X (.BoolOp .Or (a :: b :: bs) pos) (tE K xc C G W (.or ea eb)) := by
  refine PE.imp (pe_or ha hb) fun σ H Q q => ?_
  obtain ⟨w, st, env, R, RE, run⟩ := q
  refine ⟨w, st, env, R, RE, run.bnd.mono fun x w1 st1 H1 t1 R1 run v rv => ?_⟩
  cases x with
  | r k => exact run.fail.elim
  | f k => exact run.fail.elim
  | d x =>
    cases x <;> try (exact run.fail.elim)
    rename_i t
    cases rv
    refine ⟨_, rfl, ?_⟩
    cases t with
    | true => exact run.ret0 R1 _ (.bl _)
    | false => exact ⟨w1, st1, env, R1, RE.mono t1, run⟩
theorem pw_of {op : BoolOp} {vs : List Expr} {t : TT} (h : PT X (.BoolOp op vs pos) t) : PW X (.BoolOp op vs pos) t := ⟨fun whole pins s σ H Q I q => by
  have := h.run pins s σ H Q I q
  have e : ∀ w1, PySem.isTrue (.BoolOp op vs pos) X.env w1 = PySem.allTrue op vs X.env := fun w1 => by rfl
  rw [e] at this ⊢
  exact this⟩
theorem tT_bool {e : E} {σ : St} {H : Hp} {Q : Bool → Hp → Prop} {w : Wd} {st : Sto} {env : Env} (R : RS K w st H) (RE : REnv K w st H σ env) (run : Run K xc (WE W σ) (evE C G e env) w st H fun a w' st' H' => ∃ b, tru a = some b ∧ Q b H') : tT K xc C G W e σ H Q := ⟨w, st, env, R, RE, run⟩
theorem s_andT (ha : PT X a (tT K xc C G W ea)) {bs : List Expr} {b : Expr} (hb : PT X (.BoolOp .And (b :: bs) pos) (tT K xc C G W eb)) : PT X (.BoolOp .And (a :: b :: bs) pos) (tT K xc C G W (.and ea eb)) := by
  refine PT.imp (PW.pt (pw_and ha (pw_of hb))) fun σ H Q q => ?_
  obtain ⟨w, st, env, R, RE, run⟩ := q
  refine ⟨w, st, env, R, RE, run.bnd.mono fun x w1 st1 H1 t1 R1 run => ?_⟩
  cases x with
  | r k => exact run.fail.elim
  | f k => exact run.fail.elim
  | d x =>
    cases x <;> try (exact run.fail.elim)
    rename_i t
    refine ⟨_, rfl, ?_⟩
    cases t with
    | true => exact ⟨w1, st1, env, R1, RE.mono t1, run⟩
    | false =>
      obtain ⟨k, e2, q⟩ := run.ret0 R1
      cases e2; exact q
theorem s_orT (ha : PT X a (tT K xc C G W ea)) {bs : List Expr} {b : Expr} (hb : PT X (.BoolOp .Or (b :: bs) pos) (tT K xc C G W eb)) : PT X (.BoolOp .Or (a :: b :: bs) pos) (tT K xc C G W (.or ea eb)) := by
  refine PT.imp (PW.pt (pw_or ha (pw_of hb))) fun σ H Q q => ?_
  obtain ⟨w, st, env, R, RE, run⟩ := q
  refine ⟨w, st, env, R, RE, run.bnd.mono fun x w1 st1 H1 t1 R1 run => ?_⟩
  cases x with
  | r k => exact run.fail.elim
  | f k => exact run.fail.elim
  | d x =>
    cases x <;> try (exact run.fail.elim)
    rename_i t
    refine ⟨_, rfl, ?_⟩
    cases t with
    | false => exact ⟨w1, st1, env, R1, RE.mono t1, run⟩
    | true =>
      obtain ⟨k, e2, q⟩ := run.ret0 R1
      cases e2; exact q
theorem tru_bl {a : A} {b : Bool} (h : tru a = some b) : a = .d (.bl b) := by
  cases a with
  | r k => cases h
  | f k => cases h
  | d x => cases x <;> simp only [tru] at h <;> try (cases h; done)
           cases h; rfl
theorem s_not (ha : PE X a (tE K xc C G W ea)) : PE X (.UnaryOp .Not a pos) (tE K xc C G W (.not ea)) := by
  refine PE.imp (pe_not ha) fun σ H Q q => ?_
  obtain ⟨w, st, env, R, RE, run⟩ := q
  refine ⟨w, st, env, R, RE, run.bnd.mono fun x w1 st1 H1 t1 R1 run v rv => ?_⟩
  obtain ⟨z, e, run⟩ := run.opt
  cases tru_bl e
  cases rv
  exact ⟨_, rfl, run.ret0 R1 _ (.bl _)⟩
theorem s_notT (ha : PT X a (tT K xc C G W ea)) : PT X (.UnaryOp .Not a pos) (tT K xc C G W (.not ea)) := by
  refine PT.imp (pt_not ha) fun σ H Q q => ?_
  obtain ⟨w, st, env, R, RE, run⟩ := q
  refine ⟨w, st, env, R, RE, run.bnd.mono fun x w1 st1 H1 t1 R1 run => ?_⟩
  obtain ⟨z, e, run⟩ := run.opt
  obtain ⟨k, e2, q⟩ := run.ret0 R1
  cases e2
  exact ⟨_, e, q⟩
theorem s_ife (hc : PT X c (tT K xc C G W ec)) (ha : PE X a (tE K xc C G W ea)) (hb : PE X b (tE K xc C G W eb)) : PE X (.IfExp c a b pos) (tE K xc C G W (.ife ec ea eb)) := by
  refine PE.imp (pe_ifExp hc ha hb) fun σ H Q q => ?_
  obtain ⟨w, st, env, R, RE, run⟩ := q
  refine ⟨w, st, env, R, RE, run.bnd.mono fun x w1 st1 H1 t1 R1 run => ?_⟩
  obtain ⟨z, e, run⟩ := run.opt
  refine ⟨z, e, ?_⟩
  cases z with
  | true => rw [if_pos rfl] at run ⊢; exact ⟨w1, st1, env, R1, RE.mono t1, run⟩
  | false => rw [if_neg Bool.false_ne_true] at run ⊢; exact ⟨w1, st1, env, R1, RE.mono t1, run⟩
theorem s_ifeT (hc : PT X c (tT K xc C G W ec)) (ha : PT X a (tT K xc C G W ea)) (hb : PT X b (tT K xc C G W eb)) : PT X (.IfExp c a b pos) (tT K xc C G W (.ife ec ea eb)) := by
  refine PT.imp (pe_ifx hc ha hb) fun σ H Q q => ?_
  obtain ⟨w, st, env, R, RE, run⟩ := q
  refine ⟨w, st, env, R, RE, run.bnd.mono fun x w1 st1 H1 t1 R1 run => ?_⟩
  obtain ⟨z, e, run⟩ := run.opt
  refine ⟨z, e, ?_⟩
  cases z with
  | true => rw [if_pos rfl] at run ⊢; exact ⟨w1, st1, env, R1, RE.mono t1, run⟩
  | false => rw [if_neg Bool.false_ne_true] at run ⊢; exact ⟨w1, st1, env, R1, RE.mono t1, run⟩
theorem idxA_ok {E : XK} {w : Wd} {st : Sto} {H : Hp} {v u : V} {x : A} {y : D} {Q : VK} (R : RS K w st H) (rx : RA K w st H v x) (ry : RV K (Zm w st) H u y) (run : Run K xc E (idxA x y) w st H fun a w' st' H' => ∀ v, RA K w' st' H' v a → Q v H') : rIx K v u H Q := by
  cases x with
  | d x =>
    have run : Run K xc E (bnd (opt (idx x y)) fun z => ret (.d z)) w st H fun a w' st' H' => ∀ v, RA K w' st' H' v a → Q v H' := by cases y <;> exact run
    obtain ⟨z, e, run⟩ := run.opt
    exact idx_ok (.inl rx) (.inl ry) e (run.ret0 R)
  | f k => cases y <;> exact run.fail.elim
  | r k =>
    obtain ⟨a, e1, rfl⟩ := rx
    cases y <;> try (exact run.fail.elim)
    cases ry
    obtain ⟨r, st', e, q⟩ := run
    simp only [idxA] at e
    cases hk : st[k]? with
    | none => rw [hk] at e; cases e
    | some o =>
      rw [hk] at e
      cases o with
      | dead => cases e
      | lst as =>
        simp only at e
        cases hx : ix as ‹Int› with
        | none => rw [hx] at e; cases e
        | some z =>
          rw [hx] at e
          cases e
          obtain ⟨_, vs, h1, h2⟩ := R.obj k a _ e1 hk
          obtain ⟨j, e2, e3⟩ := ix_lt hx
          obtain ⟨u, h3, h4⟩ := h2.get e2
          exact .inl ⟨a, vs, _, u, rfl, rfl, .inl (.inl h1), ix_at ((e3 vs h2.length).trans h3), q w H Tr.refl R _ h4⟩
theorem s_idx (ha : PE X a (tE K xc C G W ea)) (hb : PE X b (tE K xc C G W eb)) (O : Okx nm N K xc C G W sc X) (hs : notSlice b = true) : PE X (.Subscript a b pos) (tE K xc C G W (.idx ea eb)) := by
  refine PE.imp (pe_ix ix_seq ha hb (plain_ix hs)) fun σ H Q q => ?_
  obtain ⟨w, st, env, R, RE, run⟩ := q
  rw [O.k]
  refine ⟨w, st, env, R, RE, run.bnd.mono fun x w1 st1 H1 t1 R1 run v rv => ?_⟩
  refine ⟨w1, st1, env, R1, RE.mono t1, run.bnd.mono fun y w2 st2 H2 t2 R2 run u ru => ?_⟩
  obtain ⟨dy, e0, run'⟩ := run.asD
  subst e0
  exact idxA_ok R2 (rv.mono t2) ru run'
theorem s_o_none {es : EL} (h : es = .nil) (σ : St) (H : Hp) {P : Option Int → Wd → Sto → Hp → Prop} {w : Wd} {st : Sto} {env : Env} {E : XK} (R : RS K w st H) (run : Run K xc E (evO C G es env) w st H P) : P none w st H := by
  subst h; exact run.ret0 R
/-- a slice's part -/
def tO (K : KX) (xc : XC) (C : CL) (G : Nat → Option D) (W : WX) (es : EL) : TO := fun σ H Q => ∃ w st env, RS K w st H ∧ REnv K w st H σ env ∧ Run K xc (WE W σ) (evO C G es env) w st H fun o w' st' H' => Q o H'
theorem PO.imp {o : Option Expr} {t t' : TO} (h : PO X o t) (i : ∀ σ H Q, t' σ H Q → t σ H Q) : PO X o t' := ⟨fun pins s σ H Q I q => h.run pins s σ H Q I (i σ H Q q)⟩
theorem s_oN : PO X none (tO K xc C G W .nil) := PO.imp po_none fun σ H Q q => by
  obtain ⟨w, st, env, R, RE, run⟩ := q
  exact run.ret0 R
theorem s_oS {r : EL} (ha : PE X a (tE K xc C G W ea)) : PO X (some a) (tO K xc C G W (.cons ea r)) := PO.imp (po_some ha) fun σ H Q q => by
  obtain ⟨w, st, env, R, RE, run⟩ := q
  refine ⟨w, st, env, R, RE, run.bnd.mono fun x w1 st1 H1 t1 R1 run v rv => ?_⟩
  cases x with
  | r k => exact run.fail.elim
  | f k => exact run.fail.elim
  | d x =>
    cases x <;> try (exact run.fail.elim)
    cases rv
    exact ⟨_, rfl, run.ret0 R1⟩
theorem s_slc {lo hi : Option Expr} {el eh : EL} {p2 : Pos} (ha : PE X a (tE K xc C G W ea)) (hl : PO X lo (tO K xc C G W el)) (hh : PO X hi (tO K xc C G W eh)) (O : Okx nm N K xc C G W sc X) : PE X (.Subscript a (.Slice lo hi none p2) pos) (tE K xc C G W (.slc ea el eh)) := by
  refine PE.imp (pe_slice sl_all ha hl hh) fun σ H Q q => ?_
  obtain ⟨w, st, env, R, RE, run⟩ := q
  rw [O.k]
  refine ⟨w, st, env, R, RE, run.bnd.mono fun x w1 st1 H1 t1 R1 run v rv => ?_⟩
  refine ⟨w1, st1, env, R1, RE.mono t1, run.bnd.mono fun l w2 st2 H2 t2 R2 run => ?_⟩
  refine ⟨w2, st2, env, R2, (RE.mono t1).mono t2, run.bnd.mono fun h w3 st3 H3 t3 R3 run => ?_⟩
  obtain ⟨dx, px, run⟩ := run.pk R3 ((rv.mono t2).mono t3)
  obtain ⟨z, e, run⟩ := run.opt
  exact slc_ok R3 px e (finQ R3 run)
end
end Sw
/-! The checker's word holds: displays, calls, iterators -/
namespace Sw
open PySem PySem.Spec L2
section
variable {nm : Nm} {N : List Str} {K : KX} {xc : XC} {C : CL} {G : Nat → Option D} {W : WX} {sc : Scope} {X : Cx}
variable {a b c : Expr} {ea eb ec : E} {pos : Pos}
/-! ### several -/
theorem s_Lnil : PA X [] (tL K xc C G W .nil) := PA.imp pa_nil fun σ H Q q => by
  obtain ⟨w, st, env, R, RE, run⟩ := q
  exact run.ret0 R [] .nil
theorem s_Lcons {es : List Expr} {el : EL} (ha : PE X a (tE K xc C G W ea)) (hr : PA X es (tL K xc C G W el)) (hs : notStar a = true) : PA X (a :: es) (tL K xc C G W (.cons ea el)) := by
  refine PA.imp (pa_cons ha hr (star_cons hs)) fun σ H Q q => ?_
  obtain ⟨w, st, env, R, RE, run⟩ := q
  refine ⟨w, st, env, R, RE, run.bnd.mono fun x w1 st1 H1 t1 R1 run v rv => ?_⟩
  obtain ⟨dx, e0, run'⟩ := run.asD
  subst e0
  refine ⟨w1, st1, env, R1, RE.mono t1, run'.bnd.mono fun ds w2 st2 H2 t2 R2 run vs rs => ?_⟩
  exact run.ret0 R2 _ (.cons (RV.mono t2.keep rv) rs)
theorem s_Anil : PA X [] (tA K xc C G W .nil) := PA.imp pa_nil fun σ H Q q => by
  obtain ⟨w, st, env, R, RE, run⟩ := q
  exact run.ret0 R [] .nil
theorem s_Acons {es : List Expr} {el : EL} (ha : PE X a (tE K xc C G W ea)) (hr : PA X es (tA K xc C G W el)) (hs : notStar a = true) : PA X (a :: es) (tA K xc C G W (.cons ea el)) := by
  refine PA.imp (pa_cons ha hr (star_cons hs)) fun σ H Q q => ?_
  obtain ⟨w, st, env, R, RE, run⟩ := q
  refine ⟨w, st, env, R, RE, run.bnd.mono fun x w1 st1 H1 t1 R1 run v rv => ?_⟩
  refine ⟨w1, st1, env, R1, RE.mono t1, run.bnd.mono fun ds w2 st2 H2 t2 R2 run vs rs => ?_⟩
  exact run.ret0 R2 _ (.cons (RA.mono t2 rv) rs)
theorem s_tup {es : List Expr} {el : EL} {k : Nat} (h : PA X es (tL K xc C G W el)) (hl : es.length ≤ 1000) (hn : ∀ σ H Q, tL K xc C G W el σ H Q → tL K xc C G W el σ H fun vs H1 => vs.length = es.length ∧ Q vs H1) : PE X (.Tuple es k pos) (tE K xc C G W (.tup el)) := by
  refine PE.imp (pe_tup h) fun σ H Q q => ?_
  obtain ⟨w, st, env, R, RE, run⟩ := q
  obtain ⟨w, st, env, R, RE, run⟩ := hn σ H _ ⟨w, st, env, R, RE, run.bnd.mono (P' := fun ds w1 st1 H1 => ∀ vs, RVs K (Zm w1 st1) H1 vs ds → ∀ p, H1 p = none → Q (.ref p) (upd H1 p (.tup vs))) fun xs w1 st1 H1 t1 R1 run vs rs p hp =>
    run.ret (Tr.laid R1 hp) (R1.laid hp) _ (.tup (.inl upd_same) (Zm.notNew R1 hp) (rs.mono (Tr.laid R1 hp).keep))⟩
  exact ⟨w, st, env, R, RE, run.mono fun ds w1 st1 H1 t1 R1 q vs rs => ⟨by rw [(q vs rs).1, sizeLine_eq]; omega, (q vs rs).2⟩⟩
theorem s_lst {es : List Expr} {el : EL} (h : PA X es (tL K xc C G W el)) (hl : es.length ≤ 1000) (hn : ∀ σ H Q, tL K xc C G W el σ H Q → tL K xc C G W el σ H fun vs H1 => vs.length = es.length ∧ Q vs H1) : PE X (.List es pos) (tE K xc C G W (.lst el)) := by
  refine PE.imp (pe_lst h) fun σ H Q q => ?_
  obtain ⟨w, st, env, R, RE, run⟩ := q
  obtain ⟨w, st, env, R, RE, run⟩ := hn σ H _ ⟨w, st, env, R, RE, run.bnd.mono (P' := fun ds w1 st1 H1 => ∀ vs, RVs K (Zm w1 st1) H1 vs ds → ∀ p, H1 p = none → Q (.ref p) (upd H1 p (.lst vs))) fun xs w1 st1 H1 t1 R1 run vs rs p hp =>
    run.ret (Tr.laid R1 hp) (R1.laid hp) _ (.lst upd_same (Zm.notNew R1 hp) (rs.mono (Tr.laid R1 hp).keep))⟩
  exact ⟨w, st, env, R, RE, run.mono fun ds w1 st1 H1 t1 R1 q vs rs => ⟨by rw [(q vs rs).1, sizeLine_eq]; omega, (q vs rs).2⟩⟩
theorem Run.new {E : XK} {w : Wd} {st : Sto} {H : Hp} {xs : List A} {P : A → Wd → Sto → Hp → Prop} (R : RS K w st H) (run : Run K xc E (new (.lst xs)) w st H P) {p : Addr} {vs : List V} (hp : H p = none) (r : RAs K w st H vs xs) :
    P (.r st.length) ⟨w.io ++ [p], w.hs⟩ (st ++ [.lst xs]) (upd H p (.lst vs)) := by
  obtain ⟨r', st', e, q⟩ := run
  cases e
  obtain ⟨t, R', _⟩ := out_new R hp r
  exact q _ _ t R'
theorem s_newl {es : List Expr} {el : EL} (h : PA X es (tA K xc C G W el)) (hl : es.length ≤ 1000) (hn : ∀ σ H Q, tA K xc C G W el σ H Q → tA K xc C G W el σ H fun vs H1 => vs.length = es.length ∧ Q vs H1) : PE X (.List es pos) (tE K xc C G W (.newl el)) := by
  refine PE.imp (pe_lst h) fun σ H Q q => ?_
  obtain ⟨w, st, env, R, RE, run⟩ := q
  obtain ⟨w, st, env, R, RE, run⟩ := hn σ H _ ⟨w, st, env, R, RE, run.bnd.mono (P' := fun ds w1 st1 H1 => ∀ vs, RAs K w1 st1 H1 vs ds → ∀ p, H1 p = none → Q (.ref p) (upd H1 p (.lst vs))) fun xs w1 st1 H1 t1 R1 run vs rs p hp =>
    run.new R1 hp rs _ ⟨p, (out_new R1 hp rs).2.2, rfl⟩⟩
  exact ⟨w, st, env, R, RE, run.mono fun ds w1 st1 H1 t1 R1 q vs rs => ⟨by rw [(q vs rs).1, sizeLine_eq]; omega, (q vs rs).2⟩⟩
def elen : EL → Nat
  | .nil => 0
  | .cons _ r => elen r + 1
theorem bnd_ok {α β : Type} {m : M α} {f : α → M β} {st s' : Sto} {b : β} (h : bnd m f st = some (.ok b, s')) : ∃ a s1, m st = some (.ok a, s1) ∧ f a s1 = some (.ok b, s') := by
  unfold bnd at h
  cases hm : m st with
  | none => rw [hm] at h; cases h
  | some p =>
    obtain ⟨r, s1⟩ := p
    rw [hm] at h
    cases r with
    | error x => cases h
    | ok a => exact ⟨a, s1, rfl, h⟩
theorem evL_len : ∀ (el : EL) (env : Env) (st s' : Sto) (ds : List D), evL C G el env st = some (.ok ds, s') → ds.length = elen el
  | .nil, env, st, s', ds, h => by simp only [evL, ret] at h; cases h; rfl
  | .cons e r, env, st, s', ds, h => by
    simp only [evL] at h
    obtain ⟨a, s1, _, h⟩ := bnd_ok h
    obtain ⟨d, s2, _, h⟩ := bnd_ok h
    obtain ⟨ds', s3, h3, h⟩ := bnd_ok h
    have ih := evL_len r env _ _ _ h3
    simp only [ret] at h
    cases h
    simp [ih, elen]
theorem chkL_len : ∀ (el : EL) (es : List Expr), chkL nm N sc el es = true → elen el = es.length
  | .nil, [], _ => rfl
  | .nil, _ :: _, h => by simp [chkL] at h
  | .cons e r, [], h => by simp [chkL] at h
  | .cons e r, x :: xs, h => by
    simp only [chkL, Bool.and_eq_true] at h
    simp [elen, chkL_len r xs h.2]
theorem lenL {es : List Expr} {el : EL} (h : chkL nm N sc el es = true) (σ : St) (H : Hp) (Q : List V → Hp → Prop) (q : tL K xc C G W el σ H Q) : tL K xc C G W el σ H fun vs H1 => vs.length = es.length ∧ Q vs H1 := by
  obtain ⟨w, st, env, R, RE, r, st', e, q⟩ := q
  refine ⟨w, st, env, R, RE, r, st', e, ?_⟩
  cases r with
  | error x => exact q
  | ok ds => exact fun w' H' t R' vs rs => ⟨by rw [rs.length, evL_len el env st st' ds e, chkL_len el es h], q w' H' t R' vs rs⟩
theorem evA_len : ∀ (el : EL) (env : Env) (st s' : Sto) (ds : List A), evA C G el env st = some (.ok ds, s') → ds.length = elen el
  | .nil, env, st, s', ds, h => by simp only [evA, ret] at h; cases h; rfl
  | .cons e r, env, st, s', ds, h => by
    simp only [evA] at h
    obtain ⟨a, s1, _, h⟩ := bnd_ok h
    obtain ⟨ds', s3, h3, h⟩ := bnd_ok h
    have ih := evA_len r env _ _ _ h3
    simp only [ret] at h
    cases h
    simp [ih, elen]
theorem chkA_len : ∀ (el : EL) (es : List Expr), chkA nm N sc el es = true → elen el = es.length
  | .nil, [], _ => rfl
  | .nil, _ :: _, h => by simp [chkA] at h
  | .cons e r, [], h => by simp [chkA] at h
  | .cons e r, x :: xs, h => by
    simp only [chkA, Bool.and_eq_true] at h
    simp [elen, chkA_len r xs h.2]
theorem lenA {es : List Expr} {el : EL} (h : chkA nm N sc el es = true) (σ : St) (H : Hp) (Q : List V → Hp → Prop) (q : tA K xc C G W el σ H Q) : tA K xc C G W el σ H fun vs H1 => vs.length = es.length ∧ Q vs H1 := by
  obtain ⟨w, st, env, R, RE, r, st', e, q⟩ := q
  refine ⟨w, st, env, R, RE, r, st', e, ?_⟩
  cases r with
  | error x => exact q
  | ok ds => exact fun w' H' t R' vs rs => ⟨by rw [rs.length, evA_len el env st st' ds e, chkA_len el es h], q w' H' t R' vs rs⟩
/-! ### calls -/
theorem s_call {x : Str} {p : Pos} {f : Nat} {es : List Expr} {el : EL} (O : Okx nm N K xc C G W sc X) (hf : nm.fn f = some x) (hg : glB sc x = true) (ha : PA X (a :: es) (tA K xc C G W el)) (hs : notStar a = true) (hss : es.all notStar = true) :
    PE X (.Call (.Name x p) (a :: es) [] pos) (tE K xc C G W (.call f el)) := by
  obtain ⟨fa, fd, ps, k, hm, hk, hb, F, hr⟩ := O.fns f x hf
  obtain ⟨g1, g2⟩ := O.gl hg
  refine PE.imp (pe_callS F hr g1 hm hk hb O.pass ha g2 (star_cons hs) (star_any hss)) fun σ H Q q => ?_
  obtain ⟨w, st, env, R, RE, run⟩ := q
  exact ⟨w, st, env, R, RE, run.bnd.mono fun as w1 st1 H1 t1 R1 run vs rs => ⟨w1, st1, as, R1, rs, run⟩⟩
theorem pks_ok {E : XK} {w : Wd} {st : Sto} {H : Hp} {β : Type} {P : β → Wd → Sto → Hp → Prop} (R : RS K w st H) : ∀ {as : List A} {vs : List V} {f : List D → M β}, RAs K w st H vs as → Run K xc E (bnd (pks as) f) w st H P → ∃ ds, PVs K (Zm w st) H vs ds ∧ Run K xc E (f ds) w st H P
  | [], _, f, .nil, run => ⟨[], .nil, run⟩
  | a :: as, _, f, .cons r t, run => by
    have run2 : Run K xc E (bnd (pk a) fun x => bnd (pks as) fun xs => f (x :: xs)) w st H P := by
      obtain ⟨rr, st', e, q⟩ := run
      refine ⟨rr, st', ?_, q⟩
      rw [← e]
      simp only [pks, bnd]
      cases pk a st with
      | none => rfl
      | some p1 =>
        obtain ⟨r1, s1⟩ := p1
        cases r1 with
        | error x => rfl
        | ok d =>
          simp only
          cases pks as s1 with
          | none => rfl
          | some p2 =>
            obtain ⟨r2, s2⟩ := p2
            cases r2 <;> rfl
    obtain ⟨d, pd, run3⟩ := run2.pk R r
    obtain ⟨ds, pds, run4⟩ := pks_ok (f := fun xs => f (d :: xs)) R t run3
    exact ⟨d :: ds, .cons pd pds, run4⟩
theorem boot_bi (f : BI) : bootBuiltins (biN f) = some (biF f) := by cases f <;> decide +kernel
theorem bi_mem (f : BI) : biN f ∈ bltNames := by cases f <;> decide +kernel
theorem bi_ne (f : BI) : biN f ≠ "__name__" := by cases f <;> decide +kernel
theorem s_bi {p : Pos} {f : BI} {es : List Expr} {el : EL} (O : Okx nm N K xc C G W sc X) (hg : glB sc (biN f) = true) (ha : PA X (a :: es) (tA K xc C G W el)) (hs : notStar a = true) (hss : es.all notStar = true) :
    PE X (.Call (.Name (biN f) p) (a :: es) [] pos) (tE K xc C G W (.bi f el)) := by
  obtain ⟨g1, g2⟩ := O.gl hg
  have main : PE X (.Call (.Name (biN f) p) (a :: es) [] pos) (tCB (rBI X.K f) (tA K xc C G W el)) := by
    have hc := callBI O.calm f
    have hm := O.bl (bi_mem f)
    have hv := boot_bi f
    have hn := bi_ne f
    cases f <;> first
      | exact pe_callB hc g1 hm hv ha hn g2 (star_cons hs) (star_any hss)
      | exact pe_callTy hc g1 hm hv ha hn g2 (star_cons hs) (star_any hss)
  refine PE.imp main fun σ H Q q => ?_
  obtain ⟨w, st, env, R, RE, run⟩ := q
  rw [O.k]
  refine ⟨w, st, env, R, RE, run.bnd.mono fun as w1 st1 H1 t1 R1 run vs rs => ?_⟩
  obtain ⟨ds, pds, run⟩ := pks_ok (f := fun xs => bnd (opt (biD f xs)) fun z => ret (A.d z)) R1 rs run
  obtain ⟨z, e, run⟩ := run.opt
  exact bi_ok R1 pds e (finQ R1 run)
/-! ### isinstance -/
/-- names of built-in classes, as arguments -/
def tTys (ts : List String) : TA := fun _ H Q => Q (ts.map V.ty) H
theorem tyOk_blt {t : String} (h : tyOk t = true) : Str.ofString t ∈ bltNames ∧ bootBuiltins (Str.ofString t) = some (.type t) ∧ Str.ofString t ≠ "__name__" := by
  have h : t = "bool" ∨ t = "int" ∨ t = "str" ∨ t = "tuple" ∨ t = "list" ∨ t = "dict" := by simpa [tyOk, or_assoc] using h
  rcases h with rfl | rfl | rfl | rfl | rfl | rfl <;> exact ⟨by decide +kernel, by decide +kernel, by decide +kernel⟩
theorem s_tys (O : Okx nm N K xc C G W sc X) : ∀ {es : List Expr} {ts : List String}, tysOk sc es ts = true → PA X es (tTys ts) ∧ es.all notStar = true ∧ ts.all tyOk = true ∧ es.length = ts.length
  | [], [], _ => ⟨pa_nil, rfl, rfl, rfl⟩
  | [], _ :: _, h => by simp [tysOk] at h
  | e :: es, [], h => by cases e <;> simp [tysOk] at h
  | e :: es, t :: ts, h => by
    cases e <;> simp only [tysOk] at h <;> try (cases h; done)
    rename_i x p
    simp only [Bool.and_eq_true, decide_eq_true_eq] at h
    obtain ⟨⟨⟨rfl, hg⟩, ht⟩, hr⟩ := h
    obtain ⟨i1, i2, i3, i4⟩ := s_tys O hr
    obtain ⟨b1, b2, b3⟩ := tyOk_blt ht
    obtain ⟨g1, g2⟩ := O.gl hg
    refine ⟨PA.imp (pa_cons (pe_bltn (v := .ty t) g1 (O.bl b1) b2 rfl b3 g2) i1 (star_cons rfl)) fun σ H Q q => q, by simp [notStar, i2], by simp [ht, i3], by simp [i4]⟩
theorem paired_tys (ts : List String) : Paired ClsV (ts.map V.ty) (ts.map Value.type) := by
  induction ts with
  | nil => exact .nil
  | cons t ts ih => exact .cons (.ty t) ih
theorem isi_mem : ("isinstance" : Str) ∈ bltNames := by decide +kernel
theorem s_isiT {p : Pos} {es : List Expr} {k : Nat} {p2 : Pos} {ts : List String} (O : Okx nm N K xc C G W sc X) (hg : glB sc "isinstance" = true) (ha : PE X a (tE K xc C G W ea)) (hs : notStar a = true) (ht : tysOk sc es ts = true) (hl : es.length ≤ 1000) :
    PE X (.Call (.Name "isinstance" p) [a, .Tuple es k p2] [] pos) (tE K xc C G W (.isi ea ts)) := by
  obtain ⟨g1, g2⟩ := O.gl hg
  obtain ⟨i1, i2, i3, i4⟩ := s_tys O ht
  refine PE.imp (pe_callB call_isiT g1 (O.bl isi_mem) PyProof.Rows.boot_isinstance (pa_cons ha (pa_cons (pe_tup i1) pa_nil (star_cons rfl)) (star_cons hs)) (by decide +kernel) g2 (star_cons hs) (star_any rfl)) fun σ H Q q => ?_
  obtain ⟨w, st, env, R, RE, run⟩ := q
  rw [O.k]
  refine ⟨w, st, env, R, RE, run.bnd.mono fun x w1 st1 H1 t1 R1 run v rv => ?_⟩
  refine ⟨by rw [List.length_map, ← i4, sizeLine_eq]; omega, fun tp hp => ?_⟩
  obtain ⟨d, pd, run⟩ := run.pk R1 rv
  have q := run.ret (Tr.laid (o := .tup (ts.map V.ty)) R1 hp) (R1.laid hp) _ (.bl _)
  refine ⟨v, tp, _, _, _, _, rfl, upd_same, paired_tys ts, tyX_of (Z := Zm w1 st1) (d := d) ?_, kits d ts i3, q⟩
  rcases pd with pd | ⟨a', vs, ds, rfl, rfl, h1, h2⟩
  · exact .inl (pd.mono (Tr.laid R1 hp).keep)
  · exact .inr ⟨a', vs, ds, rfl, rfl, by rw [upd_ne (ne_of_none h1 hp)]; exact h1, h2.mono (Tr.laid R1 hp).keep⟩
theorem s_isi {p : Pos} {b : Expr} {ts : List String} (O : Okx nm N K xc C G W sc X) (hg : glB sc "isinstance" = true) (ha : PE X a (tE K xc C G W ea)) (hs : notStar a = true) (ht : tysOk sc [b] ts = true) :
    PE X (.Call (.Name "isinstance" p) [a, b] [] pos) (tE K xc C G W (.isi ea ts)) := by
  obtain ⟨g1, g2⟩ := O.gl hg
  obtain ⟨i1, i2, i3, i4⟩ := s_tys O ht
  match ts, ht, i3, i4 with
  | [t], ht, i3, i4 =>
    cases b <;> simp only [tysOk] at ht <;> try (cases ht; done)
    rename_i x p3
    simp only [Bool.and_eq_true, decide_eq_true_eq] at ht
    obtain ⟨⟨⟨rfl, hg2⟩, ht⟩, _⟩ := ht
    obtain ⟨b1, b2, b3⟩ := tyOk_blt ht
    obtain ⟨h1, h2⟩ := O.gl hg2
    refine PE.imp (pe_callB call_isi g1 (O.bl isi_mem) PyProof.Rows.boot_isinstance (pa_cons ha (pa_cons (pe_bltn (v := .ty t) h1 (O.bl b1) b2 rfl b3 h2) pa_nil (star_cons rfl)) (star_cons hs)) (by decide +kernel) g2 (star_cons hs) (star_any rfl)) fun σ H Q q => ?_
    obtain ⟨w, st, env, R, RE, run⟩ := q
    rw [O.k]
    refine ⟨w, st, env, R, RE, run.bnd.mono fun x w1 st1 H1 t1 R1 run v rv => ?_⟩
    obtain ⟨d, pd, run⟩ := run.pk R1 rv
    have q := run.ret0 R1 _ (.bl _)
    rw [List.any_cons, List.any_nil, Bool.or_false] at q
    exact ⟨v, _, _, _, _, rfl, .ty t, tyX_of pd, kit1 d t ht, q⟩
/-! ### what the store changes -/
theorem s_frz (ha : PE X a (tE K xc C G W ea)) : PE X a (tE K xc C G W (.frz ea)) := by
  refine PE.imp ha fun σ H Q q => ?_
  obtain ⟨w, st, env, R, RE, run⟩ := q
  refine ⟨w, st, env, R, RE, run.bnd.mono fun x w1 st1 H1 t1 R1 run v rv => ?_⟩
  cases x with
  | d x => exact run.ret0 R1 v rv
  | f k => exact run.fail.elim
  | r k =>
    obtain ⟨ad, e1, rfl⟩ := rv
    obtain ⟨r, st', e, q⟩ := run
    simp only [Sw.frz] at e
    cases hk : st1[k]? with
    | none => rw [hk] at e; cases e
    | some o =>
      rw [hk] at e
      cases o with
      | dead => cases e
      | lst as =>
        simp only at e
        cases hd : allD as with
        | none => rw [hd] at e; cases e
        | some xs =>
          rw [hd] at e
          cases e
          obtain ⟨t, R', rv⟩ := out_frz R1 e1 hk hd
          exact q w1 H1 t R' _ rv
/-- a list that was just made becomes one of the store -/
theorem s_nwL {es : List Expr} {el : EL} (h : PA X es (tL K xc C G W el)) (hl : es.length ≤ 1000) (hn : ∀ σ H Q, tL K xc C G W el σ H Q → tL K xc C G W el σ H fun vs H1 => vs.length = es.length ∧ Q vs H1) : PE X (.List es pos) (tE K xc C G W (.nw (.lst el))) := by
  refine PE.imp (pe_lst h) fun σ H Q q => ?_
  obtain ⟨w, st, env, R, RE, run⟩ := q
  obtain ⟨w, st, env, R, RE, run⟩ := hn σ H _ ⟨w, st, env, R, RE, run.bnd.bnd.mono (P' := fun ds w1 st1 H1 => ∀ vs, RVs K (Zm w1 st1) H1 vs ds → ∀ p, H1 p = none → Q (.ref p) (upd H1 p (.lst vs))) fun xs w1 st1 H1 t1 R1 run vs rs p hp =>
    (run.ret0 R1).new R1 hp (RAs.of rs) _ ⟨p, (out_new R1 hp (RAs.of rs)).2.2, rfl⟩⟩
  exact ⟨w, st, env, R, RE, run.mono fun ds w1 st1 H1 t1 R1 q vs rs => ⟨by rw [(q vs rs).1, sizeLine_eq]; omega, (q vs rs).2⟩⟩
theorem s_nwB (ha : PE X a (tE K xc C G W ea)) (hb : PE X b (tE K xc C G W eb)) (O : Okx nm N K xc C G W sc X) : PE X (.BinOp a .Add b pos) (tE K xc C G W (.nw (.bin .add ea eb))) := by
  refine PE.imp (pe_op (opB .add) ha hb) fun σ H Q q => ?_
  obtain ⟨w, st, env, R, RE, run⟩ := q
  rw [O.k]
  refine ⟨w, st, env, R, RE, run.bnd.bnd.mono fun x w1 st1 H1 t1 R1 run v rv => ?_⟩
  refine ⟨w1, st1, env, R1, RE.mono t1, run.bnd.mono fun y w2 st2 H2 t2 R2 run u ru => ?_⟩
  obtain ⟨dx, px, run⟩ := run.pk R2 (rv.mono t2)
  obtain ⟨dy, py, run⟩ := run.pk R2 ru
  obtain ⟨z, e, run⟩ := run.opt
  have run := run.ret0 R2
  cases dx <;> cases dy <;> simp only [bop] at e <;> try (cases e; done)
  · cases e; exact run.fail.elim
  · split at e
    · cases e; exact run.fail.elim
    · cases e
  · split at e
    · cases e; exact run.fail.elim
    · cases e
  · split at e
    · rename_i hz
      cases e
      obtain ⟨a, vs, rfl, h1, r1⟩ := px.lst
      obtain ⟨b, us, rfl, h2, r2⟩ := py.lst
      have l1 := r1.length
      have l2 := r2.length
      refine .inr (.inl ⟨a, b, vs, us, rfl, rfl, h1, h2, by rw [sizeLine_eq]; omega, fun p hp => ?_⟩)
      have r3 := RAs.of (r1.append r2)
      exact Run.new R2 run hp r3 _ ⟨p, (out_new R2 hp r3).2.2, rfl⟩
    · cases e
end
end Sw
/-! enumerate of a list or of a tuple -/
namespace Sw
open PySem PySem.Spec L2 PyProof.Rows
/-- the class itself makes its cell, whatever its one thing is -/
theorem meets_en1 {v : Value} {o : Obj} {P : Heap → Prop} (B : Begins v o P) :
    Meets (Builtin.«enumerate.__new__» ⟨[.type "enumerate", v], []⟩) (fun _ R s => P s.heap ∧
      R (.ok (.ret (.ref (s.heap.push o).objs.size))) { s with heap := (s.heap.push o).push { cls := .type "enumerate", data := .fields #[.none, .bool false, .ref s.heap.objs.size, rawInt 0, .none, .none] } }) :=
  .of_wp fun prog w A R s q => by
    obtain ⟨hp, gg, dd, tt, oo⟩ := s
    obtain ⟨p, q⟩ := q
    have own := sub_enumerate
    have bi := fun {A : Around} {E : Value → Shared → Prop} {Q : Value → Shared → Prop} => B.iter prog w A E ⟨hp, gg, dd, tt, oo⟩ Q p
    wp_walk
    refine wpAny_stack_any fun ss => wpAny_pure ?_
    split
    · rename_i cl _ _ _ _ _
      cases (cl == Value.type "enumerate") <;>
        (wp_walk using bi
         exact ⟨_, rfl, q⟩)
    · wp_walk using bi
      exact ⟨_, rfl, q⟩
/-- enumerate(v): two new cells -/
theorem call_en1 {prog : Program} {w : World} {A : Around} {E : Value → Shared → Prop} {s : Shared} {v : Value} {o : Obj} {P : Heap → Prop} {Q : Value → Shared → Prop} (B : Begins v o P) (p : P s.heap)
    (q : ∀ h', IsEnum h' (s.heap.objs.size + 1) s.heap.objs.size 0 .none → h'.get? s.heap.objs.size = some o → (∀ b u, s.heap.get? b = some u → h'.get? b = some u) → Q (.ref (s.heap.objs.size + 1)) { s with heap := h' }) :
    wpAny (model prog w) A (call (.type "enumerate") [v]) Q E s := by
  have z : (s.heap.push o).objs.size = s.heap.objs.size + 1 := Heap.size_push ..
  have en : IsEnum ((s.heap.push o).push { cls := .type "enumerate", data := .fields #[.none, .bool false, .ref s.heap.objs.size, rawInt 0, .none, .none] }) (s.heap.objs.size + 1) s.heap.objs.size 0 .none := by
    rw [← z]
    exact Heap.get?_push_size _ rfl
  refine callType_new F.called_enumerate (by decide) (F.typeCall_enumerate_1 _) (F.newCall_enumerate_1 _) (fun ob => F.args_object_init_2 ob _) F.entry_enumerate_new (meets_en1 B) ⟨p, ?_⟩
  show _ ∧ _
  rw [z]
  exact ⟨⟨_, en, rfl⟩, q _ en (Heap.get?_push_of_some _ (Heap.get?_push_size _ B.free)) fun b u x => Heap.get?_push_of_some _ (Heap.get?_push_of_some _ x)⟩
/-- the tuple's items at each turn, each in a new pair -/
def IteT (K : PySem.W.Frag) (a : Addr) : It :=
  ⟨fun i H => ∃ (xs : List V) (x : V), SqT K H a xs ∧ xs[i]? = some x, fun i H v H' => ∃ T x, v = .ref T ∧ H T = none ∧ H' = upd H T (.tup [.int (i : Nat), x]) ∧ ∀ xs, SqT K H a xs → xs[i]? = some x, fun i H => ∃ xs : List V, SqT K H a xs ∧ xs.length ≤ i⟩
theorem turn_enT {P : Program} {w : World} {K : PySem.W.Frag} {elts : List Expr} {kk : Nat} {tpos : Pos} {a e it : Addr} (d1 : e ≠ it) (d2 : a ≠ it) (d3 : a ≠ e) :
    Turn P w K (.Tuple elts kk tpos) (IteT K a) [e, it] e (fun i h => (∃ u, IsEnum h e it ((0 : Int) + (i : Int)) u) ∧ h.IsTupleIter it a i) where
  mem := List.mem_cons_self ..
  obj := fun i h ⟨⟨u, en⟩, o, ho, hc, hd⟩ b hb => by
    simp only [List.mem_cons, List.not_mem_nil, or_false] at hb
    rcases hb with rfl | rfl
    · exact ⟨_, en, fun v z => nomatch z⟩
    · exact ⟨o, ho, fun v z => by rw [hd] at z; cases z⟩
  keep := fun i h h' ⟨⟨u, en⟩, ti⟩ k => ⟨⟨u, k e (by simp) _ en⟩, ti.at fun o z => k it (by simp) o z⟩
  item := by
    intro X eP eW eK calm i pins s σ H E I hf st hg
    subst eP eW eK
    obtain ⟨xs, x, sq, hx⟩ := hg
    obtain ⟨its, vals, tp, hz⟩ := I.tuple sq
    obtain ⟨u, hu, ru⟩ := vals.get hx
    have W := WalksT.enumFrom (prog := X.prog) (w := X.w) (A := X.A) 0 (Draws.tuple (show X.A.in1.handled = none from I.ok.hd calm) it a d2 its.toArray) e d1 (by simp [d1, Ne.symm d3]) (by simp)
    have hi : i < its.toArray.size := by
      have := (List.getElem?_eq_some_iff.mp hu).1
      simpa using this
    refine W.item i s _ _ hi ⟨st.1, st.2, tp⟩ fun T ys h1 tk ⟨t, y, hy, ey⟩ fr hT mid k1 => ⟨.ref T, rfl, ?_⟩
    refine W.go elts kk tpos i T _ _ _ mid fun h2 st2 k2 => ?_
    have hyu : y = u := by
      have : its[i]? = some y := by simpa using hy
      rw [hu] at this
      exact (Option.some.inj this).symm
    subst hyu ey
    obtain ⟨ob, hob, hcl, nn, hdt⟩ := hT
    have hT2 := k2 T ob (W.apart i T h1 mid) hob
    have new : ObjOk X.prog X.w (upd H T (.tup [.int (i : Nat), x])) h2 T (.tup [.int (i : Nat), x]) :=
      ⟨by show 2 ≤ sizeLine; decide, [.int (0 + (i : Int)) t, y], .cons ⟨t, by rw [Int.zero_add]⟩ (.cons ru .nil), ob, hT2, hcl, nn, hdt⟩
    have I1 : Inv X pins σ (upd H T (.tup [.int (i : Nat), x])) { s with heap := h2, toks := tk } := I.turnedNew (ch := [e, it]) (fun b u hb z => k2 b u hb (k1 b u hb z)) hf fr new
    refine ⟨.ref T, _, I1, rfl, ⟨T, x, rfl, I.hok.fresh fr, rfl, fun ys hy => by rw [I.tuple_inj hy sq]; exact hx⟩, ⟨st2.1, st2.2.1⟩, fun b hb => ?_⟩
    have lt : b < s.heap.objs.size := by
      simp only [List.mem_cons, List.not_mem_nil, or_false] at hb
      rcases hb with rfl | rfl
      · obtain ⟨_, en⟩ := st.1
        exact Heap.lt_size en
      · obtain ⟨_, ho, _⟩ := st.2
        exact Heap.lt_size ho
    rw [upd_ne (Nat.ne_of_lt (Nat.lt_of_lt_of_le lt fr))]
    exact (hf b hb).1
  done := by
    intro X eP eW eK calm i pins s σ H E I hf st hg
    subst eP eW eK
    obtain ⟨xs, sq, hx⟩ := hg
    obtain ⟨its, vals, tp, hz⟩ := I.tuple sq
    have hl := vals.length
    have hh : X.A.in1.handled = none := I.ok.hd calm
    have D : Draws X.prog X.w X.A.in1 it [it, a] i (fun _ _ => True) (fun j h => h.IsTupleIter it a j ∧ h.IsTuple a its.toArray ∧ i ≤ j) :=
      { live := fun _ _ q => let ⟨o, ho, _⟩ := q.1; ⟨o, ho⟩
        frame := fun _ _ _ q k => ⟨q.1.at fun o z => k it (by simp) o z, q.2.1.at fun o z => k a (by simp) o z, q.2.2⟩
        item := fun j _ _ _ lt q _ => absurd lt (Nat.not_lt.mpr q.2.2)
        done := fun s Q E q z => wpAny_nextOf_tuple_end hh q.1 q.2.1 (Array.getElem?_eq_none (by simp; omega)) z }
    have W := WalksT.enumFrom 0 D e d1 (by simp [d1, Ne.symm d3]) (by simp)
    exact W.done s _ _ ⟨st.1, st.2, tp, Nat.le_refl _⟩ fun h1 tk k => ⟨rfl, I.turnedL (ch := [e, it]) k hf⟩
  self := fun A i s Q E ⟨⟨u, en⟩, _⟩ q => wpAny_pyIter_enum en q
/-- enumerate(e), e a list or a tuple -/
def iEn (K : PySem.W.Frag) (ta : TA) : TI := fun σ H R => ta σ H fun vs H1 => ∃ a, vs = [.ref a] ∧ ((∃ xs, SqL K H1 a xs) ∧ R (Ite K a) H1 ∨ (∃ xs, SqT K H1 a xs) ∧ R (IteT K a) H1)
theorem pi_en {X : Cx} {v : Expr} {ta : TA} {p pos tpos : Pos} {elts : List Expr} {kk : Nat} (hg : Gl X "enumerate") (hm : X.mg "enumerate" = none) (ha : PA X [v] ta) (hs : starEach [v] X.env = [(false, eval v X.env)]) :
    PI X (.Tuple elts kk tpos) (.Call (.Name "enumerate" p) [v] [] pos) (iEn X.K ta) := by
  refine ⟨fun pins s σ H R I q => Call_ (ld_blt I hg hm boot_enumerate (callWith_type1 (thn (ha.run pos pins s σ H _ I q) fun us s1 ⟨vs, H1, I1, r1, a, ev, q1⟩ => ?_) hs rfl))⟩
  subst ev
  obtain ⟨u, rfl, rfl⟩ : ∃ u, us = [u] ∧ u = Value.ref a := by
    cases r1 with
    | cons r rr =>
      cases rr
      exact ⟨_, rfl, r⟩
  have fre : ∀ b ∈ [s1.heap.objs.size + 1, s1.heap.objs.size], s1.heap.objs.size ≤ b := fun b hb => by
    simp only [List.mem_cons, List.not_mem_nil, or_false] at hb
    omega
  rcases q1 with ⟨⟨xs, sq⟩, q2⟩ | ⟨⟨xs, sq⟩, q2⟩
  · obtain ⟨its, rv, p', hz⟩ := I1.list sq
    refine call_en1 (begins_list a its.toArray) p'.isList fun h1 en hit k => wpAny_pyIter_enum en ?_
    have I2 : Inv X pins σ H1 { s1 with heap := h1 } := I1.kept (t' := s1.toks) k
    exact ⟨_, _, _, _, H1, rfl, I2, turn_enum a (s1.heap.objs.size + 1) s1.heap.objs.size, ⟨⟨.none, en⟩, ⟨_, hit, rfl, rfl⟩, Nat.succ_ne_self _⟩, fun b hb => I1.fpOk (fre b hb) (I1.hok.fresh (fre b hb)), q2⟩
  · obtain ⟨its, rv, tp, hz⟩ := I1.tuple sq
    obtain ⟨oa, ha', _⟩ := id tp
    have lt := Heap.lt_size ha'
    refine call_en1 (begins_tuple a its.toArray) tp fun h1 en hit k => wpAny_pyIter_enum en ?_
    have I2 : Inv X pins σ H1 { s1 with heap := h1 } := I1.kept (t' := s1.toks) k
    exact ⟨_, _, _, _, H1, rfl, I2, turn_enT (a := a) (e := s1.heap.objs.size + 1) (it := s1.heap.objs.size) (Nat.succ_ne_self _) (Nat.ne_of_lt lt) (Nat.ne_of_lt (Nat.lt_succ_of_lt lt)), ⟨⟨.none, en⟩, ⟨_, hit, rfl, rfl⟩⟩, fun b hb => I1.fpOk (fre b hb) (I1.hok.fresh (fre b hb)), q2⟩
end Sw
/-! The checker's word holds: what is walked; comprehensions -/
namespace Sw
open PySem PySem.Spec L2
section
variable {nm : Nm} {N : List Str} {K : KX} {xc : XC} {C : CL} {G : Nat → Option D} {W : WX} {sc : Scope} {X : Cx}
variable {a b c tg : Expr} {ea eb ec : E} {pos : Pos}
theorem Run.tells {α : Type} {xc : XC} {E : XK} {m : M α} {w : Wd} {st : Sto} {H : Hp} {P : α → Wd → Sto → Hp → Prop} (h : Run K xc E m w st H P) : Run K xc E m w st H fun a w' st' H' => m st = some (.ok a, st') ∧ P a w' st' H' := by
  obtain ⟨r, s2, e, q⟩ := h
  refine ⟨r, s2, e, ?_⟩
  cases r with
  | error x => exact q
  | ok a => exact fun w' H' t R => ⟨e, q w' H' t R⟩
/-- a list or a tuple is walked, whichever it comes to -/
theorem pi_lt {l : Expr} {tl : TE} (hl : PE X l tl) : PI X tg l fun σ H R => iList X.K tl σ H R ∨ iTup X.K tl σ H R :=
  ⟨fun pins s σ H R I h => h.elim ((pi_list hl).run pins s σ H R I) ((pi_tup hl).run pins s σ H R I)⟩
theorem wk_L {a : Addr} {w : Wd} {st : Sto} {H : Hp} {ds : List D} (h : ∀ w' st' H', Kp (Zm w st) H (Zm w' st') H' → ∃ vs, SqL K H' a vs ∧ RVs K (Zm w' st') H' vs ds) (inj : ∀ w' st' H', Kp (Zm w st) H (Zm w' st') H' → True) : Wk K (Itl K a) w st H ds := by
  intro i w' st' H' k R
  obtain ⟨vs, hq, r⟩ := h w' st' H' k
  refine ⟨fun x hx => ?_, fun hi => ⟨vs, hq, by rw [r.length]; exact hi⟩⟩
  obtain ⟨v, hv, rv⟩ := r.get hx
  refine ⟨⟨vs, v, hq, hv⟩, fun u H2 y => ?_⟩
  obtain ⟨rfl, y⟩ := y
  have e := y vs hq
  rw [hv] at e
  cases e
  exact ⟨Tr.refl, R, rv⟩
theorem wk_T {a : Addr} {w : Wd} {st : Sto} {H : Hp} {ds : List D} (h : ∀ w' st' H', Kp (Zm w st) H (Zm w' st') H' → ∃ vs, SqT K H' a vs ∧ RVs K (Zm w' st') H' vs ds) : Wk K (Itt K a) w st H ds := by
  intro i w' st' H' k R
  obtain ⟨vs, hq, r⟩ := h w' st' H' k
  refine ⟨fun x hx => ?_, fun hi => ⟨vs, hq, by rw [r.length]; exact hi⟩⟩
  obtain ⟨v, hv, rv⟩ := r.get hx
  refine ⟨⟨vs, v, hq, hv⟩, fun u H2 y => ?_⟩
  obtain ⟨rfl, y⟩ := y
  have e := y vs hq
  rw [hv] at e
  cases e
  exact ⟨Tr.refl, R, rv⟩
theorem wk_tup {v : V} {ds : List D} {w : Wd} {st : Sto} {H : Hp} (r : RV K (Zm w st) H v (.tup ds)) : ∃ a, v = .ref a ∧ (∃ xs, SqT K H a xs) ∧ Wk K (Itt K a) w st H ds := by
  obtain ⟨a, vs, rfl, h1, r1⟩ := r.tup_
  refine ⟨a, rfl, ⟨vs, h1⟩, wk_T fun w' st' H' k => ?_⟩
  obtain ⟨a', vs', e, h2, r2⟩ := (r.mono k).tup_
  cases e
  exact ⟨vs', h2, r2⟩
theorem wk_lst {v : V} {x : D} {w : Wd} {st : Sto} {H : Hp} {ds : List D} (r : RV K (Zm w st) H v x) (e : x.items = some ds) (nt : ∀ ys, x ≠ .tup ys) : ∃ a, v = .ref a ∧ (∃ xs, SqL K H a xs) ∧ Wk K (Itl K a) w st H ds := by
  cases x <;> simp only [D.items] at e <;> try (cases e; done)
  · exact absurd rfl (nt _)
  · cases e
    obtain ⟨a, vs, rfl, h1, r1⟩ := PV.lst (.inl r)
    refine ⟨a, rfl, ⟨vs, .inl (.inl h1)⟩, wk_L (fun w' st' H' k => ?_) fun _ _ _ _ => trivial⟩
    obtain ⟨a', vs', e, h2, r2⟩ := PV.lst (.inl (r.mono k))
    cases e
    exact ⟨vs', .inl (.inl h2), r2⟩
  · cases e
    obtain ⟨a, rfl, h1⟩ := r.scr_
    refine ⟨a, rfl, ⟨_, h1⟩, wk_L (fun w' st' H' k => ?_) fun _ _ _ _ => trivial⟩
    obtain ⟨a', e, h2⟩ := (r.mono k).scr_
    cases e
    exact ⟨_, h2, RVs.ints _⟩
theorem Run.opt' {α : Type} {E : XK} {w : Wd} {st : Sto} {H : Hp} {o : Option α} {P : α → Wd → Sto → Hp → Prop} (R : RS K w st H) (h : Run K xc E (Sw.opt o) w st H P) : ∃ z, o = some z ∧ P z w st H := by
  cases o with
  | none => exact h.fail.elim
  | some z => exact ⟨z, rfl, h.ret0 R⟩
theorem s_val (O : Okx nm N K xc C G W sc X) (ha : PE X a (tE K xc C G W ea)) : PI X tg a (tI K xc C G W (.val ea)) := by
  refine PI.imp (pi_lt ha) fun σ H R q => ?_
  obtain ⟨w, st, env, Rs, RE, run⟩ := q
  rw [O.k]
  by_cases hk : ∃ ys s1, evE C G ea env st = some (.ok (.d (.tup ys)), s1)
  · obtain ⟨ys, s1, hk⟩ := hk
    refine .inr ⟨w, st, env, Rs, RE, run.bnd.tells.mono fun x w1 st1 H1 t1 R1 ⟨hx, run⟩ v rv => ?_⟩
    rw [hk] at hx
    cases hx
    obtain ⟨dx, e0, run'⟩ := run.asD
    cases e0
    obtain ⟨ds, e, q⟩ := run'.opt' R1
    cases e
    obtain ⟨ad, rfl, h, k⟩ := wk_tup rv
    exact ⟨ad, rfl, h, q _ k⟩
  · refine .inl ⟨w, st, env, Rs, RE, run.bnd.tells.mono fun x w1 st1 H1 t1 R1 ⟨hx, run⟩ v rv => ?_⟩
    obtain ⟨dx, e0, run'⟩ := run.asD
    subst e0
    obtain ⟨ds, e, q⟩ := run'.opt' R1
    obtain ⟨ad, rfl, h, k⟩ := wk_lst rv e fun ys hy => hk ⟨ys, _, by rw [hx, hy]⟩
    exact ⟨ad, rfl, h, q _ k⟩
theorem wk_R {lo : Int} {n : Nat} {w : Wd} {st : Sto} {H : Hp} : Wk K (Itr lo n) w st H ((List.range n).map fun (i : Nat) => D.int (lo + (i : Int))) := by
  intro i w' st' H' k R
  refine ⟨fun x hx => ?_, fun hi => (by simpa using hi : n ≤ i)⟩
  rw [List.getElem?_map, Option.map_eq_some_iff] at hx
  obtain ⟨j, hj, rfl⟩ := hx
  obtain ⟨hl, e⟩ := List.getElem?_eq_some_iff.mp hj
  simp only [List.length_range] at hl
  simp only [List.getElem_range] at e
  subst e
  refine ⟨hl, fun v H2 y => ?_⟩
  obtain ⟨rfl, rfl⟩ := y
  exact ⟨Tr.refl, R, .int _⟩
theorem rng_mem : ("range" : Str) ∈ bltNames := by decide +kernel
theorem s_rng1 {p : Pos} (O : Okx nm N K xc C G W sc X) (hg : glB sc "range" = true) (ha : PE X a (tE K xc C G W ea)) (hs : notStar a = true) : PI X tg (.Call (.Name "range" p) [a] [] pos) (tI K xc C G W (.rng1 ea)) := by
  refine PI.imp (pi_range1 (O.gl hg).1 (O.bl rng_mem) (pa_cons ha pa_nil (star_cons hs)) (star_cons hs)) fun σ H R q => ?_
  obtain ⟨w, st, env, Rs, RE, run⟩ := q
  refine ⟨w, st, env, Rs, RE, run.bnd.mono fun x w1 st1 H1 t1 R1 run v rv => ?_⟩
  cases x with
  | r k => exact run.fail.elim
  | f k => exact run.fail.elim
  | d x =>
    cases x <;> try (exact run.fail.elim)
    cases rv
    obtain ⟨ds, e, q⟩ := run.opt' R1
    unfold rngs at e
    split at e
    · rename_i hb
      cases e
      refine ⟨_, rfl, hb.2.2.1, hb.2.2.2, q _ ?_⟩
      have := wk_R (K := K) (lo := 0) (n := ((‹Int› : Int) - 0).toNat) (w := w1) (st := st1) (H := H1)
      simpa using this
    · cases e
theorem s_rng2 {p : Pos} (O : Okx nm N K xc C G W sc X) (hg : glB sc "range" = true) (ha : PE X a (tE K xc C G W ea)) (hs : notStar a = true) (hb : PE X b (tE K xc C G W eb)) (hs2 : notStar b = true) : PI X tg (.Call (.Name "range" p) [a, b] [] pos) (tI K xc C G W (.rng2 ea eb)) := by
  refine PI.imp (pi_range2 (O.gl hg).1 (O.bl rng_mem) (pa_cons ha (pa_cons hb pa_nil (star_cons hs2)) (star_cons hs)) (by rw [star_cons hs, star_cons hs2]; rfl) (star_cons hs2)) fun σ H R q => ?_
  obtain ⟨w, st, env, Rs, RE, run⟩ := q
  refine ⟨w, st, env, Rs, RE, run.bnd.mono fun x w1 st1 H1 t1 R1 run v rv => ?_⟩
  refine ⟨w1, st1, env, R1, RE.mono t1, run.bnd.mono fun y w2 st2 H2 t2 R2 run u ru => ?_⟩
  cases x with
  | r k => exact run.fail.elim
  | f k => exact run.fail.elim
  | d x =>
    cases y with
    | r k => cases x <;> exact run.fail.elim
    | f k => cases x <;> exact run.fail.elim
    | d y =>
      cases x <;> cases y <;> try (exact run.fail.elim)
      cases rv
      cases ru
      obtain ⟨ds, e, q⟩ := run.opt' R2
      unfold rngs at e
      split at e
      · rename_i hb
        cases e
        exact ⟨_, _, rfl, hb, q _ wk_R⟩
      · cases e
theorem enms_get : ∀ (xs : List D) (k : Int) (i : Nat), (enms xs k)[i]? = (xs[i]?).map fun x => .tup [.int (k + i), x]
  | [], _, _ => rfl
  | x :: xs, k, 0 => by simp [enms]
  | x :: xs, k, i + 1 => by
    show (enms xs (k + 1))[i]? = _
    rw [enms_get xs (k + 1) i]
    simp only [List.getElem?_cons_succ]
    have e : k + 1 + (i : Int) = k + ((i + 1 : Nat) : Int) := by omega
    rw [e]
theorem enm_mem : ("enumerate" : Str) ∈ bltNames := by decide +kernel
theorem s_enm {p tp : Pos} {es : List Expr} {kk : Nat} (O : Okx nm N K xc C G W sc X) (hg : glB sc "enumerate" = true) (ha : PE X a (tE K xc C G W ea)) (hs : notStar a = true) : PI X (.Tuple es kk tp) (.Call (.Name "enumerate" p) [a] [] pos) (tI K xc C G W (.enm ea)) := by
  have hl : ∀ (xs : List D) (k : Int), (enms xs k).length = xs.length := by
    intro xs
    induction xs with
    | nil => intro k; rfl
    | cons x xs ih => intro k; simp [enms, ih]
  refine PI.imp (pi_en (O.gl hg).1 (O.bl enm_mem) (pa_cons ha pa_nil (star_cons hs)) (star_cons hs)) fun σ H R q => ?_
  obtain ⟨w, st, env, Rs, RE, run⟩ := q
  rw [O.k]
  refine ⟨w, st, env, Rs, RE, run.bnd.mono fun x w1 st1 H1 t1 R1 run v rv => ?_⟩
  cases x with
  | r k => exact run.fail.elim
  | f k => exact run.fail.elim
  | d x =>
    cases x <;> try (exact run.fail.elim)
    · obtain ⟨a', vs, rfl, h1, r1⟩ := PV.tup (.inl rv)
      refine ⟨a', rfl, .inr ⟨⟨vs, h1⟩, run.ret0 R1 _ ?_⟩⟩
      intro i w' st' H' k R'
      obtain ⟨a2, vs2, e, h2, r2⟩ := PV.tup (.inl (RV.mono k rv))
      cases e
      refine ⟨fun x hx => ?_, fun hi => ⟨vs2, h2, ?_⟩⟩
      · rw [enms_get, Option.map_eq_some_iff] at hx
        obtain ⟨d, hd, rfl⟩ := hx
        obtain ⟨v, hv, rv2⟩ := r2.get hd
        refine ⟨⟨vs2, v, h2, hv⟩, fun u H2 y => ?_⟩
        obtain ⟨T, x, rfl, hT, rfl, y⟩ := y
        have e := y vs2 h2
        rw [hv] at e
        cases e
        refine ⟨Tr.laid R' hT, R'.laid hT, .tup (.inl upd_same) (Zm.notNew R' hT) (.cons ?_ (.cons (rv2.mono (Tr.laid R' hT).keep) .nil))⟩
        have e : (0 : Int) + (i : Int) = ((i : Nat) : Int) := by omega
        rw [e]
        exact .int _
      · rw [r2.length]
        rw [hl] at hi
        exact hi
    · obtain ⟨a', vs, rfl, h1, r1⟩ := PV.lst (.inl rv)
      refine ⟨a', rfl, .inl ⟨⟨vs, .inl (.inl h1)⟩, run.ret0 R1 _ ?_⟩⟩
      intro i w' st' H' k R'
      obtain ⟨a2, vs2, e, h2, r2⟩ := PV.lst (.inl (RV.mono k rv))
      cases e
      refine ⟨fun x hx => ?_, fun hi => ⟨vs2, .inl (.inl h2), ?_⟩⟩
      · rw [enms_get, Option.map_eq_some_iff] at hx
        obtain ⟨d, hd, rfl⟩ := hx
        obtain ⟨v, hv, rv2⟩ := r2.get hd
        refine ⟨⟨vs2, v, .inl (.inl h2), hv⟩, fun u H2 y => ?_⟩
        obtain ⟨T, x, rfl, hT, rfl, y⟩ := y
        have e := y vs2 (.inl (.inl h2))
        rw [hv] at e
        cases e
        refine ⟨Tr.laid R' hT, R'.laid hT, .tup (.inl upd_same) (Zm.notNew R' hT) (.cons ?_ (.cons (rv2.mono (Tr.laid R' hT).keep) .nil))⟩
        have e : (0 : Int) + (i : Int) = ((i : Nat) : Int) := by omega
        rw [e]
        exact .int _
      · rw [r2.length]
        rw [hl] at hi
        exact hi
/-! ### targets -/
def gNs : List Nat → TGs
  | [] => gNil
  | i :: r => gCons (gName i) (gNs r)
def gT (K : PySem.W.Frag) : T → TG
  | .nm i => gName i
  | .tp is => fun v σ H Q => gTup K is.length (gNs is) v σ H Q ∨ gLst K is.length (gNs is) v σ H Q
theorem wipe_in {i : Nat} : ∀ {vs : List Nat} {σ : St}, i ∈ vs → i < σ.length → (L2.wipe σ vs)[i]? = some none
  | [], _, h, _ => by cases h
  | v :: vs, σ, h, hl => by
    unfold L2.wipe
    by_cases e : v = i
    · subst e
      rw [List.getElem?_set_self (by rw [L2.wipe_length]; exact hl)]
    · rw [List.getElem?_set_ne e]
      rcases List.mem_cons.mp h with h | h
      · exact absurd h.symm e
      · exact wipe_in h hl
theorem wipe_ext {σ σ' : St} {vs : List Nat} (hl : σ.length = σ'.length) (h : ∀ i, i ∉ vs → σ[i]? = σ'[i]?) : L2.wipe σ vs = L2.wipe σ' vs := by
  apply List.ext_getElem?
  intro i
  by_cases hi : i ∈ vs
  · by_cases hb : i < σ.length
    · rw [wipe_in hi hb, wipe_in hi (by omega)]
    · rw [List.getElem?_eq_none (by rw [L2.wipe_length]; omega), List.getElem?_eq_none (by rw [L2.wipe_length]; omega)]
  · rw [L2.wipe_out hi, L2.wipe_out hi]; exact h i hi
theorem wipe_set {σ : St} {vs : List Nat} {i : Nat} {x : Option V} (h : i ∈ vs) : L2.wipe (σ.set i x) vs = L2.wipe σ vs :=
  wipe_ext (by simp) fun j hj => List.getElem?_set_ne (fun e : i = j => hj (e ▸ h))
theorem wipe_wipe {σ : St} {vs : List Nat} : L2.wipe (L2.wipe σ vs) vs = L2.wipe σ vs := wipe_ext (L2.wipe_length _ _) fun _ hj => L2.wipe_out hj
theorem wipe_sub {σ : St} {vs us : List Nat} (h : ∀ i, i ∈ us → i ∈ vs) : L2.wipe (L2.wipe σ us) vs = L2.wipe σ vs := wipe_ext (L2.wipe_length _ _) fun _ hj => L2.wipe_out fun m => hj (h _ m)
theorem asg_tgt {w : Wd} {st : Sto} {H : Hp} {σ : St} {env env' : Env} {t : T} {x : A} {v : V} {Q : St → Hp → Prop} (RE : REnv K w st H σ env) (rv : RA K w st H v x) (e : asgT t x env = some env')
    (q : ∀ σ', REnv K w st H σ' env' → (∀ vs : List Nat, (∀ i, i ∈ tsl t → i ∈ vs) → L2.wipe σ' vs = L2.wipe σ vs) → Q σ' H) : gT K t v σ H Q := by
  cases t with
  | nm i =>
    cases e
    exact q _ (RE.put rv i) fun vs h => wipe_set (h i (by simp [tsl]))
  | tp is =>
    cases x with
    | r k => cases e
    | f k => cases e
    | d x =>
      have key : ∀ (is : List Nat) (ds : List D) (vs : List V) (σ1 : St) (env : Env), REnv K w st H σ1 env → RVs K (Zm w st) H vs ds → asgs is ds env = some env' →
          (∀ σ', REnv K w st H σ' env' → (∀ vs : List Nat, (∀ i, i ∈ is → i ∈ vs) → L2.wipe σ' vs = L2.wipe σ1 vs) → Q σ' H) → gNs is vs σ1 H Q ∧ vs.length = is.length := by
        intro is
        induction is with
        | nil =>
          intro ds vs σ env RE r e q
          cases r with
          | nil => simp only [asgs] at e; cases e; exact ⟨⟨rfl, q _ RE fun _ _ => rfl⟩, rfl⟩
          | cons _ _ => simp [asgs] at e
        | cons i is ih =>
          intro ds vs σ env RE r e q
          cases r with
          | nil => simp [asgs] at e
          | cons r1 r2 =>
            simp only [asgs] at e
            obtain ⟨g, l⟩ := ih _ _ _ _ (RE.put (a := .d _) r1 i) r2 e fun σ' RE' hw => q σ' RE' fun vs h => (hw vs fun j hj => h j (List.mem_cons_of_mem _ hj)).trans (wipe_set (h i List.mem_cons_self))
            exact ⟨⟨_, _, rfl, g⟩, by simp [l]⟩
      cases x <;> simp only [asgT] at e <;> try (cases e; done)
      · obtain ⟨a, vs, rfl, h1, r1⟩ := RV.tup_ rv
        obtain ⟨g, l⟩ := key is _ vs σ env RE r1 e q
        exact .inl ⟨a, vs, rfl, h1, l, g⟩
      · obtain ⟨a, vs, rfl, h1, r1⟩ := PV.lst (.inl rv)
        obtain ⟨g, l⟩ := key is _ vs σ env RE r1 e q
        exact .inr ⟨a, vs, rfl, .inl (.inl h1), l, g⟩
/-- what a target asks of the context: its names are the block's own cells, or locals -/
def TgOk (X : Cx) (tl : Str → Bool) : Prop := ∀ x, tl x = true → L2.Loc X.env.scope x ∧ (X.fn x = true ∨ X.env.scope.names.lookup x = some .local)
theorem s_tgt_go {tl : Str → Bool} (n : X.N = N) (nd : X.N.Nodup) (F : TgOk X tl) : ∀ {is : List Nat} {es : List Expr}, chkT.go N tl is es = true → PGs X es (gNs is) ∧ (assignEach es X.env).length = is.length ∧ (assignEach es X.env).findIdx? (·.1) = none
  | [], [], _ => ⟨pgs_nil, rfl, rfl⟩
  | [], _ :: _, h => by simp [chkT.go] at h
  | _ :: _, [], h => by simp [chkT.go] at h
  | i :: is, e :: es, h => by
    cases e <;> simp only [chkT.go] at h <;> try (cases h; done)
    rename_i x p
    simp only [Bool.and_eq_true, decide_eq_true_eq] at h
    obtain ⟨⟨⟨h1, h2⟩, h3⟩, h4⟩ := h
    obtain ⟨i1, i2, i3⟩ := s_tgt_go n nd F h4
    obtain ⟨hl, hf⟩ := F x h2
    refine ⟨pgs_cons (pg_name nd (by rw [n]; exact h1) hl hf) i1 rfl, ?_, ?_⟩
    · show (assignEach es X.env).length + 1 = is.length + 1
      rw [i2]
    · show List.findIdx? _ ((false, assign (.Name x p) X.env) :: assignEach es X.env) = none
      rw [List.findIdx?_cons, i3]
      rfl
theorem s_tgt {tl : Str → Bool} {t : T} {e : Expr} (k : X.K = K) (n : X.N = N) (nd : X.N.Nodup) (calm : X.calm = true) (F : TgOk X tl) (h : chkT N tl t e = true) : PG X e (gT K t) := by
  cases t with
  | nm i =>
    cases e <;> simp only [chkT] at h <;> try (cases h; done)
    rename_i x p
    simp only [Bool.and_eq_true, decide_eq_true_eq] at h
    obtain ⟨hl, hf⟩ := F x h.1.2
    exact pg_name nd (by rw [n]; exact h.1.1) hl hf
  | tp is =>
    cases e <;> simp only [chkT] at h <;> try (cases h; done)
    obtain ⟨i1, i2, i3⟩ := s_tgt_go n nd F h
    have t1 := pg_tup (k := ‹Nat›) (pos := ‹Pos›) calm i1 i2 i3
    have t2 := pg_lst (k := ‹Nat›) (pos := ‹Pos›) calm i1 i2 i3
    rw [k] at t1 t2
    exact ⟨fun pins s σ H v u Q I r z => z.elim (t1.run pins s σ H v u Q I r) (t2.run pins s σ H v u Q I r)⟩
end
end Sw
/-! The checker's word holds: comprehensions -/
namespace Sw
open PySem PySem.Spec L2
/-- a list at D is being made, outside of the store -/
structure CI (K : KX) (w1 : Wd) (st1 : Sto) (H1 : Hp) (D : Addr) (w : Wd) (st : Sto) (H : Hp) (done : List Sw.D) : Prop where
  hs : w.hs = D :: w1.hs
  pre : w1.io <+: w.io
  rs : RS K w st H
  keep : Kp (Zm w1 st1) H1 (Zm w st) H
  hid : ∀ a, a ∈ w1.hs → H a = H1 a
  at_ : ∃ vs, H D = some (.lst vs) ∧ RVs K (Zm w st) H vs done
section
variable {K : KX} {w1 w w3 : Wd} {st1 st st3 : Sto} {H1 H H3 : Hp} {D : Addr} {done : List Sw.D}
theorem CI.start (R : RS K w1 st1 H1) (hD : H1 D = none) : CI K w1 st1 H1 D ⟨w1.io, D :: w1.hs⟩ st1 (upd H1 D (.lst [])) [] := by
  have ni : D ∉ w1.io := fun e => R.trk D e hD
  have nh : D ∉ w1.hs := fun e => R.trkh D e hD
  have kp : Kp (Zm w1 st1) H1 (Zm ⟨w1.io, D :: w1.hs⟩ st1) (upd H1 D (.lst [])) := fun a o h _ z => by
    have ne : a ≠ D := ne_of_none h hD
    refine ⟨by rw [upd_ne ne]; exact h, fun q => ?_⟩
    rcases q with q | q
    · rcases List.mem_cons.mp q with q | q
      · exact ne q
      · exact z (.inl q)
    · exact z (.inr q)
  refine ⟨rfl, List.prefix_refl _, ⟨R.len, R.nd, fun a ha => ?_, fun a ha => ?_, fun a ha => ?_, fun k a o h1 h2 => ?_, tabs_new R.tabs hD⟩, kp, fun a ha => upd_ne fun e => nh (e ▸ ha), [], upd_same, .nil⟩
  · rcases List.mem_cons.mp ha with rfl | ha
    · exact ni
    · exact R.dis a ha
  · rw [upd_ne (fun e : a = D => ni (e ▸ ha))]; exact R.trk a ha
  · rcases List.mem_cons.mp ha with rfl | ha
    · exact ⟨[], upd_same⟩
    · rw [upd_ne (fun e : a = D => nh (e ▸ ha))]; exact R.hl a ha
  · exact (R.obj k a o h1 h2).monoK (w3 := ⟨w1.io, D :: w1.hs⟩) (List.prefix_refl w1.io) kp (upd_ne fun e : a = D => ni (e ▸ List.mem_of_getElem? h1))
theorem CI.step (c : CI K w1 st1 H1 D w st H done) (t : Tr w st H w3 st3 H3) (R : RS K w3 st3 H3) : CI K w1 st1 H1 D w3 st3 H3 done := by
  obtain ⟨vs, h, r⟩ := c.at_
  refine ⟨t.hs.trans c.hs, c.pre.trans t.pre, R, c.keep.trans t.keep, fun a ha => (t.hid a (by rw [c.hs]; exact List.mem_cons_of_mem _ ha)).trans (c.hid a ha), vs, ?_, r.mono t.keep⟩
  rw [t.hid D (by rw [c.hs]; exact List.mem_cons_self)]; exact h
theorem CI.push (c : CI K w1 st1 H1 D w st H done) (hD : H1 D = none) {vs : List V} {v : V} {d : Sw.D} (h : H D = some (.lst vs)) (r : RVs K (Zm w st) H vs done) (rv : RV K (Zm w st) H v d) : CI K w1 st1 H1 D w st (upd H D (.lst (vs ++ [v]))) (done ++ [d]) := by
  have hd : D ∈ w.hs := by rw [c.hs]; exact List.mem_cons_self
  have kp : Kp (Zm w st) H (Zm w st) (upd H D (.lst (vs ++ [v]))) := fun a o e _ z => ⟨by rw [upd_ne (fun q : a = D => z (.inl (q ▸ hd)))]; exact e, z⟩
  refine ⟨c.hs, c.pre, ⟨c.rs.len, c.rs.nd, c.rs.dis, fun a ha => ?_, fun a ha => ?_, fun k a o h1 h2 => ?_, tabs_upd c.rs.tabs h⟩, c.keep.trans kp, fun a ha => ?_, vs ++ [v], upd_same, (r.append (.cons rv .nil)).mono kp⟩
  · rw [upd_ne (fun e : a = D => c.rs.dis D hd (e ▸ ha))]; exact c.rs.trk a ha
  · by_cases e : a = D
    · subst e; exact ⟨_, upd_same⟩
    · rw [upd_ne e]; exact c.rs.hl a ha
  · exact (c.rs.obj k a o h1 h2).monoK (List.prefix_refl _) kp (upd_ne fun e => c.rs.dis D hd (e ▸ List.mem_of_getElem? h1))
  · rw [upd_ne (fun e : a = D => ?_)]
    · exact c.hid a ha
    · subst e
      have h1 := c.keep
      have : ∀ o, H1 a = some o → False := fun o q => by rw [hD] at q; cases q
      have h2 := c.hid a ha
      rw [h, hD] at h2
      cases h2
theorem CI.fin (c : CI K w1 st1 H1 D w st H done) (R : RS K w1 st1 H1) (hD : H1 D = none) : Tr w1 st1 H1 w1 (st.take st1.length) H ∧ RS K w1 (st.take st1.length) H ∧ RV K (Zm w1 (st.take st1.length)) H (.ref D) (.lst done) := by
  obtain ⟨t, R', k2⟩ := out_trim R (fun a ha => by rw [c.hs]; exact List.mem_cons_of_mem _ ha) c.pre c.rs c.keep c.hid
  obtain ⟨vs, h, r⟩ := c.at_
  refine ⟨t, R', .lst h (fun z => ?_) (r.mono k2)⟩
  rcases z with z | ⟨k, o, h1, _⟩
  · exact R.trkh D z hD
  · exact R.trk D (List.mem_of_getElem? h1) hD
/-- the finished list as one of the store -/
theorem CI.finN (c : CI K w1 st1 H1 D w st H done) (R : RS K w1 st1 H1) (hD : H1 D = none) :
    Tr w1 st1 H1 ⟨w1.io ++ [D], w1.hs⟩ (st.take st1.length ++ [.lst (done.map .d)]) H ∧ RS K ⟨w1.io ++ [D], w1.hs⟩ (st.take st1.length ++ [.lst (done.map .d)]) H ∧ (w1.io ++ [D])[(st.take st1.length).length]? = some D := by
  obtain ⟨t, R', _⟩ := out_trim R (fun a ha => by rw [c.hs]; exact List.mem_cons_of_mem _ ha) c.pre c.rs c.keep c.hid
  obtain ⟨vs, h, r⟩ := c.at_
  have np : D ∉ w1.io := fun e => R.trk D e hD
  have nh : D ∉ w1.hs := fun e => R.trkh D e hD
  have hd : D ∈ w.hs := by rw [c.hs]; exact List.mem_cons_self
  have cut : ∀ (k : Nat) (a : Addr) (o : SO), (w1.io ++ [D])[k]? = some a → (st.take st1.length ++ [SO.lst (done.map .d)])[k]? = some o → (w1.io[k]? = some a ∧ (st.take st1.length)[k]? = some o) ∨ (k = w1.io.length ∧ a = D ∧ o = .lst (done.map .d)) := fun k a o h1 h2 => by
    by_cases hk : k < w1.io.length
    · rw [List.getElem?_append_left hk] at h1
      rw [List.getElem?_append_left (by rw [← R'.len]; exact hk)] at h2
      exact .inl ⟨h1, h2⟩
    · have hk2 := (List.getElem?_eq_some_iff.mp h1).1
      simp only [List.length_append, List.length_cons, List.length_nil] at hk2
      have : k = w1.io.length := by omega
      subst this
      rw [R'.len] at h2
      simp at h1
      rw [List.getElem?_append_right (Nat.le_refl _)] at h2
      simp at h2
      exact .inr ⟨rfl, h1.symm, h2.symm⟩
  have sub : ∀ a, Zm ⟨w1.io ++ [D], w1.hs⟩ (st.take st1.length ++ [.lst (done.map .d)]) a → a = D ∨ (a ∈ w1.hs ∨ Zm w1 (st.take st1.length) a) := fun a z => by
    rcases z with z | ⟨k, o, h1, h2, h3⟩
    · exact .inr (.inl z)
    · rcases cut k a o h1 h2 with ⟨g1, g2⟩ | ⟨_, g, _⟩
      · exact .inr (.inr (.inr ⟨k, o, g1, g2, h3⟩))
      · exact .inl g
  have subW : ∀ a, Zm w1 (st.take st1.length) a → Zm w st a := fun a z => z.sub (fun a ha => by rw [c.hs]; exact List.mem_cons_of_mem _ ha) fun k a o h1 h2 h3 => .inr ⟨k, o, pre_get c.pre h1, (get_take h2).1, h3⟩
  have k2 : Kp (Zm w st) H (Zm ⟨w1.io ++ [D], w1.hs⟩ (st.take st1.length ++ [.lst (done.map .d)])) H := Kp.shrink fun a z => by
    rcases sub a z with rfl | z | z
    · exact .inl hd
    · exact .inl (by rw [c.hs]; exact List.mem_cons_of_mem _ z)
    · exact subW a z
  refine ⟨⟨rfl, List.prefix_append _ _, c.keep.trans k2, c.hid⟩, ⟨by simp [R'.len], ?_, fun a ha hb => ?_, fun a ha => ?_, fun a ha => c.rs.hl a (by rw [c.hs]; exact List.mem_cons_of_mem _ ha), fun k a o h1 h2 => ?_, c.rs.tabs⟩, by rw [← R'.len]; simp⟩
  · rw [List.nodup_append]
    exact ⟨R.nd, by simp, fun a ha b hb => by simp at hb; subst hb; rintro rfl; exact np ha⟩
  · rcases List.mem_append.mp hb with hb | hb
    · exact R.dis a ha hb
    · simp at hb; subst hb; exact nh ha
  · rcases List.mem_append.mp ha with ha | ha
    · exact c.rs.trk a (c.pre.subset ha)
    · simp at ha; subst ha; rw [h]; simp
  · rcases cut k a o h1 h2 with ⟨g1, g2⟩ | ⟨g1, g2, g3⟩
    · have ro := c.rs.obj k a o (pre_get c.pre g1) (get_take g2).1
      cases o with
      | dead => trivial
      | lst as =>
        obtain ⟨ol, vs', h', r'⟩ := ro
        have hk := (List.getElem?_eq_some_iff.mp g1).1
        refine ⟨ol, vs', h', ?_⟩
        have r2 : RAs K w1 (st.take st1.length) H vs' as := r'.less c.pre (by omega) (Kp.shrink subW) ol
        refine RAs.rec (motive := fun vs as _ => Sw.old k as → RAs K w st H vs as → RAs K ⟨w1.io ++ [D], w1.hs⟩ (st.take st1.length ++ [.lst (done.map .d)]) H vs as) (fun _ _ => .nil) (fun {v vs d ds} r t ih ol q => ?_) r2 ol r'
        cases q with
        | cons q1 q2 =>
          refine .cons ?_ (ih (fun j hj => ol j (List.mem_cons_of_mem _ hj)) q2)
          cases d with
          | d x => exact RV.mono k2 q1
          | f j => exact RF.mono k2 q1
          | r j =>
            obtain ⟨ad, e, rfl⟩ := r
            exact ⟨ad, pre_get (List.prefix_append _ _) e, rfl⟩
    · subst g1 g2 g3
      exact ⟨old_map _ _, vs, h, RAs.of (r.mono k2)⟩
theorem REnv.monoK (pre : w.io <+: w3.io) (k : Kp (Zm w st) H (Zm w3 st3) H3) {σ : St} {env : Env} (r : REnv K w st H σ env) : REnv K w3 st3 H3 σ env :=
  ⟨r.1, fun i a e => let ⟨v, h1, h2⟩ := r.2 i a e; ⟨v, h1, h2.monoK pre k⟩⟩
end
/-- nothing is raised -/
abbrev W0 : WX := fun _ _ _ _ => False
section
variable {nm : Nm} {N : List Str} {K : KX} {xc : XC} {C : CL} {G : Nat → Option D} {W : WX} {sc : Scope} {X : Cx}
/-- the tests' reading -/
def tTs (K : KX) (xc : XC) (C : CL) (G : Nat → Option D) (cs : EL) : TT := fun σ H Q => ∃ w st env, RS K w st H ∧ REnv K w st H σ env ∧ Run K xc (WE W0 σ) (evT C G cs env) w st H fun b w' st' H' => Q b H'
theorem PTs.imp {X : Cx} {ifs : List Expr} {t t' : TT} (h : PTs X ifs t) (i : ∀ σ H Q, t' σ H Q → t σ H Q) : PTs X ifs t' := ⟨fun pins s σ H Q I q => h.run pins s σ H Q I (i σ H Q q)⟩
theorem s_tsN : PTs X [] (tTs K xc C G .nil) := PTs.imp pts_nil fun σ H Q q => by
  obtain ⟨w, st, env, R, RE, run⟩ := q
  exact run.ret0 R
theorem s_tsC {a : Expr} {ea : E} {r : EL} (ha : PT X a (tT K xc C G W0 ea)) : PTs X [a] (tTs K xc C G (.cons ea r)) := PTs.imp (pts_one ha) fun σ H Q q => by
  obtain ⟨w, st, env, R, RE, run⟩ := q
  refine ⟨w, st, env, R, RE, run.bnd.mono fun x w1 st1 H1 t1 R1 run => ?_⟩
  exact run.opt' R1
/-- the block of a comprehension gives what the def's context gives -/
theorem Okx.blk (O : Okx nm N K xc C G W sc X) (s : Shared) (H : Hp) (scope : Scope) (hlo : nm.lon (relS scope sc) = false) (cl : List (Str × Addr)) (c : Addr) (fp : List Addr) :
    Okx nm N K xc C G W0 (relS scope sc) (X.blk s H scope (compEnvC scope cl c X.env) fp) where
  k := O.k
  n := O.n
  sc := by
    show relS scope X.env.scope = _
    rw [O.sc]
  calm := O.calm
  nd := O.nd
  room := O.room
  fns := O.fns
  gls := O.gls
  gds := O.gds
  blt := O.blt
  code := O.code
  lo := fun h => by
    have h : nm.lon (relS scope X.env.scope) = true := h
    rw [O.sc, hlo] at h
    cases h
  pass := fun σ pins H' s' e s2 I h => by
    obtain ⟨_, _, _, _, _, _, _, _, _, _, _, _, z⟩ := h
    exact z.elim
theorem TgOk.blk (O : Okx nm N K xc C G W sc X) (s : Shared) (H : Hp) (scope : Scope) (cl : List (Str × Addr)) (c : Addr) (fp : List Addr) : TgOk (X.blk s H scope (compEnvC scope cl c X.env) fp) (ownB scope) := fun x h => by
  unfold ownB at h
  show L2.Loc (relS scope X.env.scope) x ∧ ((scope.names.lookup x == some .cell) = true ∨ (relS scope X.env.scope).names.lookup x = some .local)
  have key : ∀ k, k ≠ NameKind.free → scope.names.lookup x = some k → (relS scope X.env.scope).names.lookup x = some k := fun k hk e => lookup_relS_keep hk e
  cases e : scope.names.lookup x with
  | none => rw [e] at h; cases h
  | some k =>
    cases k <;> simp only [e] at h <;> try (cases h; done)
    · exact ⟨.inl (key _ (by simp) e), .inr (key _ (by simp) e)⟩
    · exact ⟨.inr (key _ (by simp) e), .inl (by simp)⟩
/-- an element is made and put behind the list -/
theorem elem_step {w1 w : Wd} {st1 st s1 : Sto} {H1 H : Hp} {Da : Addr} {done : List D} {env' : Env} {σ : St} {elt : E} {r : Option D} (c : CI K w1 st1 H1 Da w st H done) (hD : H1 Da = none) (RE : REnv K w st H σ env')
    (h : bnd (evE C G elt env') (fun y => bnd (asD y) fun y => ret (some y)) st = some (.ok r, s1)) (hl : done.length < 16777216) {Nx : Hp → Prop}
    (q : ∀ w' H' d, r = some d → CI K w1 st1 H1 Da w' s1 H' (done ++ [d]) → w.io <+: w'.io → Kp (Zm w st) H (Zm w' s1) H' → Nx H') :
    tE K xc C G W0 elt σ H fun y H4 => ∃ acc, H4 Da = some (.lst acc) ∧ acc.length < sizeLine ∧ Nx (upd H4 Da (.lst (acc ++ [y]))) := by
  obtain ⟨a, s2, h1, h2⟩ := bnd_ok h
  obtain ⟨d, s3, h3, h4⟩ := bnd_ok h2
  cases a with
  | r k => cases h3
  | f k => cases h3
  | d x =>
    cases h3
    cases h4
    refine ⟨w, st, env', c.rs, RE, (Run.of h1).mono fun a' w3 st3 H3 _ _ q1 v rv => ?_⟩
    obtain ⟨rfl, rfl, t, R⟩ := q1
    have c3 := c.step t R
    obtain ⟨vs, hv, rvs⟩ := c3.at_
    have c4 := c3.push hD hv rvs rv
    refine ⟨vs, hv, by rw [rvs.length, sizeLine_eq]; exact hl, q w3 _ _ rfl c4 t.pre (t.keep.trans ?_)⟩
    have hd : Da ∈ w3.hs := by rw [c3.hs]; exact List.mem_cons_self
    exact fun a o e _ z => ⟨by rw [upd_ne (fun q : a = Da => z (.inl (q ▸ hd)))]; exact e, z⟩
theorem mapM_len {f : D → M (Option D)} : ∀ (xs : List D) (st s' : Sto) (rs : List D), mapM f xs st = some (.ok rs, s') → rs.length ≤ xs.length
  | [], st, s', rs, h => by simp only [mapM, ret] at h; cases h; simp
  | x :: xs, st, s', rs, h => by
    simp only [mapM] at h
    obtain ⟨r, s1, _, h⟩ := bnd_ok h
    obtain ⟨rs2, s2, h2, h⟩ := bnd_ok h
    have ih := mapM_len xs _ _ _ h2
    simp only [ret] at h
    cases h
    cases r <;> simp <;> omega
/-- what a comprehension's run is -/
theorem comp_inv {m : M (List D)} {w1 : Wd} {st1 : Sto} {H1 : Hp} {E : XK} {Q : VK} (run : Run K xc E (bnd (trim m) fin) w1 st1 H1 fun a w' st' H' => ∀ v, RA K w' st' H' v a → Q v H') :
    ∃ rs stE, m st1 = some (.ok rs, stE) ∧ rs.length ≤ 16777216 ∧ ∀ H', Tr w1 st1 H1 w1 (stE.take st1.length) H' → RS K w1 (stE.take st1.length) H' → ∀ v, RV K (Zm w1 (stE.take st1.length)) H' v (.lst rs) → Q v H' := by
  obtain ⟨r, st', e, q⟩ := run
  simp only [bnd, trim] at e
  cases hm : m st1 with
  | none => rw [hm] at e; cases e
  | some p =>
    obtain ⟨r1, stE⟩ := p
    rw [hm] at e
    cases r1 with
    | error x => cases e
    | ok rs =>
      simp only at e
      unfold fin at e
      split at e
      · rename_i hl
        cases e
        exact ⟨rs, stE, rfl, hl, fun H' t R v rv => q w1 H' t R v rv⟩
      · cases e
theorem asg_opt {t : T} {x : A} {env : Env} {β : Type} {f : Env → M β} {st s' : Sto} {r : β} (h : bnd (opt (asgT t x env)) f st = some (.ok r, s')) : ∃ env', asgT t x env = some env' ∧ f env' st = some (.ok r, s') := by
  cases e : asgT t x env with
  | none => rw [e] at h; cases h
  | some env' => rw [e] at h; exact ⟨env', rfl, h⟩
theorem own_map {own : List Nat} (h : own.all (fun i => decide (i < N.length)) = true) : (ownP N own).map (·.2) = own := by
  induction own with
  | nil => rfl
  | cons i r ih =>
    rw [List.all_cons, Bool.and_eq_true, decide_eq_true_eq] at h
    unfold ownP at ih ⊢
    rw [List.filterMap_cons, List.getElem?_eq_getElem h.1]
    simp only [Option.map_some, List.map_cons, ih h.2]
/-- one clause's body -/
def compF (C : CL) (G : Nat → Option D) (elt : E) (t : T) (cs : EL) (own : List Nat) (env : Env) : D → M (Option D) := fun x => bnd (opt (asgT t (A.d x) (wip env own))) fun env' => bnd (evT C G cs env') fun b => if b = true then bnd (evE C G elt env') fun y => bnd (asD y) fun y => ret (some y) else ret none
theorem comp_core {t : T} {cs : EL} {elt : E} {own : List Nat} (ht : (tsl t).all (fun i => own.contains i) = true) {σ : St} {Q : VK} {env : Env} {xs : List D} {w1 : Wd} {st1 stE : Sto} {H1 : Hp} {J : It} {D : Addr} {rs : List Sw.D}
    (R1 : RS K w1 st1 H1) (RE1 : REnv K w1 st1 H1 σ env) (hJ : Wk K J w1 st1 H1 xs) (hD : H1 D = none) (hl : rs.length ≤ 16777216) (hm : mapM (compF C G elt t cs own env) xs st1 = some (.ok rs, stE)) (hQ : ∀ w' H', CI K w1 st1 H1 D w' stE H' rs → Q (.ref D) H') :
    ∃ W : Nat → Nat → Hp → Prop, (∃ m, W 0 m (upd H1 D (.lst []))) ∧ ∀ i m H, W i m H →
  (J.stop i H ∧ Q (.ref D) H) ∨ (J.go i H ∧ ∃ Nx : Hp → Prop, (∀ H', Nx H' → ∃ m', m' < m ∧ W (i + 1) m' H') ∧ ∀ x H', J.yld i H x H' → gT K t x (L2.wipe σ own) H' fun σ2 H2 => L2.wipe σ2 own = L2.wipe σ own ∧ tTs K xc C G cs σ2 H2 fun b H3 =>
    if b = true then tE K xc C G W0 elt σ2 H3 fun y H4 => ∃ acc, H4 D = some (.lst acc) ∧ acc.length < sizeLine ∧ Nx (upd H4 D (.lst (acc ++ [y]))) else Nx H3) := by
  generalize hf : compF C G elt t cs own env = f at hm
  have tsub : ∀ i, i ∈ tsl t → i ∈ own := fun i hi => by simpa using (List.all_eq_true.mp ht) i hi
  refine ⟨fun i m H => m = xs.length - i ∧ i ≤ xs.length ∧ ∃ w2 st2 done rest, CI K w1 st1 H1 D w2 st2 H done ∧ mapM f (xs.drop i) st2 = some (.ok rest, stE) ∧ done ++ rest = rs, ⟨xs.length, rfl, Nat.zero_le _, _, st1, [], rs, CI.start R1 hD, by rw [List.drop_zero]; exact hm, rfl⟩, ?_⟩
  rintro i m H ⟨rfl, hi, w2, st2, done, rest, c, hm2, hrs⟩
  obtain ⟨j1, j2⟩ := hJ i w2 st2 H c.keep c.rs
  by_cases hlt : i < xs.length
  · right
    have hx : xs[i]? = some xs[i] := List.getElem?_eq_getElem hlt
    obtain ⟨j3, j4⟩ := j1 _ hx
    rw [List.drop_eq_getElem_cons hlt] at hm2
    simp only [mapM] at hm2
    obtain ⟨r1, s1, h1, hm2⟩ := bnd_ok hm2
    obtain ⟨rs2, s2, h2, hm2⟩ := bnd_ok hm2
    simp only [ret] at hm2
    cases hm2
    refine ⟨j3, fun H' => ∃ w3 done', CI K w1 st1 H1 D w3 s1 H' done' ∧ done' ++ rs2 = rs, fun H' ⟨w3, done', c3, e3⟩ => ⟨xs.length - (i + 1), by omega, rfl, hlt, w3, s1, done', rs2, c3, h2, e3⟩, fun v H2 y => ?_⟩
    obtain ⟨t2, R2, rv⟩ := j4 v H2 y
    have c2 := c.step t2 R2
    rw [← hf] at h1
    unfold compF at h1
    obtain ⟨env', ea, h1⟩ := asg_opt h1
    refine asg_tgt ((RE1.monoK c2.pre c2.keep).wipe own) (x := .d xs[i]) rv ea fun σ' RE2 hw => ⟨(hw own tsub).trans wipe_wipe, ?_⟩
    obtain ⟨b, s3, h3, h1⟩ := bnd_ok h1
    refine ⟨w2, st2, env', R2, RE2, (Run.of h3).mono fun b' w3 st3 H3 _ _ q3 => ?_⟩
    obtain ⟨rfl, rfl, t3, R3⟩ := q3
    have c3 := c2.step t3 R3
    cases b' with
    | false =>
      rw [if_neg Bool.false_ne_true] at h1 ⊢
      simp only [ret] at h1
      cases h1
      exact ⟨w3, done, c3, hrs⟩
    | true =>
      rw [if_pos rfl] at h1 ⊢
      refine elem_step (Nx := fun H' => ∃ w3 done', CI K w1 st1 H1 D w3 s1 H' done' ∧ done' ++ rs2 = rs) c3 hD (RE2.mono t3) h1 ?_ fun w' H' d e c4 _ _ => ⟨w', done ++ [d], c4, ?_⟩
      · obtain ⟨a, s4, _, h5⟩ := bnd_ok h1
        obtain ⟨d, s5, _, h6⟩ := bnd_ok h5
        simp only [ret] at h6
        cases h6
        have hlen := congrArg List.length hrs
        simp only [List.length_append, List.length_cons] at hlen
        omega
      · subst e
        rw [← hrs]
        simp
  · left
    have he : i = xs.length := by omega
    subst he
    rw [List.drop_length] at hm2
    simp only [mapM, ret] at hm2
    cases hm2
    refine ⟨j2 (Nat.le_refl _), ?_⟩
    rw [List.append_nil] at hrs
    subst hrs
    exact hQ w2 H c
theorem comp_read {it : I} {t : T} {cs : EL} {elt : E} {own : List Nat} (ht : (tsl t).all (fun i => own.contains i) = true) (σ : St) (H : Hp) (Q : VK) (h : tE K xc C G W (.comp elt t it cs own) σ H Q) :
    tLc (tI K xc C G W it) (gT K t) (tTs K xc C G cs) (tE K xc C G W0 elt) own σ H Q := by
  obtain ⟨w, st, env, R, RE, run⟩ := h
  refine ⟨w, st, env, R, RE, run.bnd.mono fun xs w1 st1 H1 t1 R1 run J hJ D hD => ?_⟩
  obtain ⟨rs, stE, hm, hl, hq⟩ := comp_inv run
  exact comp_core ht R1 (RE.mono t1) hJ hD hl hm fun w' H' c => (c.fin R1 hD |> fun q => hq H' q.1 q.2.1 _ q.2.2)
theorem comp_inv2 {m : M (List D)} {w1 : Wd} {st1 : Sto} {H1 : Hp} {E : XK} {Q : VK} (run : Run K xc E (bnd (bnd (trim m) fin) thaw) w1 st1 H1 fun a w' st' H' => ∀ v, RA K w' st' H' v a → Q v H') :
    ∃ rs stE, m st1 = some (.ok rs, stE) ∧ rs.length ≤ 16777216 ∧ ∀ w' H', Tr w1 st1 H1 w' (stE.take st1.length ++ [.lst (rs.map .d)]) H' → RS K w' (stE.take st1.length ++ [.lst (rs.map .d)]) H' → ∀ v, RA K w' (stE.take st1.length ++ [.lst (rs.map .d)]) H' v (.r (stE.take st1.length).length) → Q v H' := by
  obtain ⟨r, st', e, q⟩ := run
  simp only [bnd, trim] at e
  cases hm : m st1 with
  | none => rw [hm] at e; cases e
  | some p =>
    obtain ⟨r1, stE⟩ := p
    rw [hm] at e
    cases r1 with
    | error x => cases e
    | ok rs =>
      simp only at e
      unfold fin at e
      split at e
      · rename_i hl
        by_cases hl2 : rs.length ≤ 16777216
        · rw [if_pos hl2] at hl
          simp only [ret] at hl
          cases hl
        · rw [if_neg hl2] at hl
          simp only [fail] at hl
          cases e
      · rename_i hl
        by_cases hl2 : rs.length ≤ 16777216
        · rw [if_pos hl2] at hl
          simp only [ret] at hl
          cases hl
        · rw [if_neg hl2] at hl
          simp only [fail] at hl
          cases hl
      · rename_i hl
        by_cases hl2 : rs.length ≤ 16777216
        · rw [if_pos hl2] at hl
          simp only [ret] at hl
          cases hl
          cases e
          exact ⟨rs, stE, rfl, hl2, fun w' H' t R v rv => q w' H' t R v rv⟩
        · rw [if_neg hl2] at hl
          simp only [fail] at hl
          cases hl
theorem bnd_assoc {α β γ : Type} (m : M α) (f : α → M β) (g : β → M γ) : bnd (bnd m f) g = bnd m fun x => bnd (f x) g := by
  funext s
  simp only [bnd]
  cases m s with
  | none => rfl
  | some p =>
    obtain ⟨r, s1⟩ := p
    cases r <;> rfl
theorem compN_read {it : I} {t : T} {cs : EL} {elt : E} {own : List Nat} (ht : (tsl t).all (fun i => own.contains i) = true) (σ : St) (H : Hp) (Q : VK) (h : tE K xc C G W (.nw (.comp elt t it cs own)) σ H Q) :
    tLc (tI K xc C G W it) (gT K t) (tTs K xc C G cs) (tE K xc C G W0 elt) own σ H Q := by
  obtain ⟨w, st, env, R, RE, run⟩ := h
  have run : Run K xc (WE W σ) (bnd (evI C G it env) fun xs => bnd (bnd (trim (mapM (compF C G elt t cs own env) xs)) fin) thaw) w st H fun a w' st' H' => ∀ v, RA K w' st' H' v a → Q v H' := by
    rw [← bnd_assoc]
    exact run
  refine ⟨w, st, env, R, RE, run.bnd.mono fun xs w1 st1 H1 t1 R1 run J hJ D hD => ?_⟩
  obtain ⟨rs, stE, hm, hl, hq⟩ := comp_inv2 run
  exact comp_core ht R1 (RE.mono t1) hJ hD hl hm fun w' H' c => (c.finN R1 hD |> fun q => hq _ H' q.1 q.2.1 _ ⟨D, q.2.2, rfl⟩)
theorem comp2_read {it it1 : I} {t t1 : T} {elt : E} {own own1 : List Nat} (ht : (tsl t).all (fun i => own.contains i) = true) (ht1 : (tsl t1).all (fun i => own1.contains i) = true) (ho : own1.all (fun i => own.contains i) = true) (σ : St) (H : Hp) (Q : VK) (h : tE K xc C G W (.comp2 elt t it t1 it1 own own1) σ H Q) :
    tLc2 (tI K xc C G W it) (gT K t) (tTs K xc C G .nil) (tI K xc C G W0 it1) (gT K t1) (tTs K xc C G .nil) (tE K xc C G W0 elt) own own1 σ H Q := by
  obtain ⟨w, st, env, R, RE, run⟩ := h
  refine ⟨w, st, env, R, RE, run.bnd.mono fun xs w1 st1 H1 t1' R1 run J hJ D hD => ?_⟩
  obtain ⟨rs, stE, hm, hl, hq⟩ := comp_inv run
  have RE1 := RE.mono t1'
  have tsub : ∀ i, i ∈ tsl t → i ∈ own := fun i hi => by simpa using (List.all_eq_true.mp ht) i hi
  have tsub1 : ∀ i, i ∈ tsl t1 → i ∈ own1 := fun i hi => by simpa using (List.all_eq_true.mp ht1) i hi
  generalize hf : (fun x => bnd (opt (asgT t (A.d x) (wip env own))) fun env' => bnd (evI C G it1 env') fun ys => mapM (fun y => bnd (opt (asgT t1 (A.d y) (wip env' own1))) fun env2 => bnd (evE C G elt env2) fun y => bnd (asD y) fun y => ret (some y)) ys) = f at hm
  refine ⟨fun i m H => m = xs.length - i ∧ i ≤ xs.length ∧ ∃ w2 st2 done rest, CI K w1 st1 H1 D w2 st2 H done ∧ mapM2 f (xs.drop i) st2 = some (.ok rest, stE) ∧ done ++ rest = rs, ⟨xs.length, rfl, Nat.zero_le _, _, st1, [], rs, CI.start R1 hD, by rw [List.drop_zero]; exact hm, rfl⟩, ?_⟩
  rintro i m H ⟨rfl, hi, w2, st2, done, rest, c, hm2, hrs⟩
  obtain ⟨j1, j2⟩ := hJ i w2 st2 H c.keep c.rs
  by_cases hlt : i < xs.length
  · right
    have hx : xs[i]? = some xs[i] := List.getElem?_eq_getElem hlt
    obtain ⟨j3, j4⟩ := j1 _ hx
    rw [List.drop_eq_getElem_cons hlt] at hm2
    simp only [mapM2] at hm2
    obtain ⟨rs1, s1, h1, hm2⟩ := bnd_ok hm2
    obtain ⟨rs2, s2, h2, hm2⟩ := bnd_ok hm2
    simp only [ret] at hm2
    cases hm2
    refine ⟨j3, fun H' => ∃ w3 done', CI K w1 st1 H1 D w3 s1 H' done' ∧ done' ++ rs2 = rs, fun H' ⟨w3, done', c3, e3⟩ => ⟨xs.length - (i + 1), by omega, rfl, hlt, w3, s1, done', rs2, c3, h2, e3⟩, fun v H2 y => ?_⟩
    obtain ⟨t2, R2, rv⟩ := j4 v H2 y
    have c2 := c.step t2 R2
    rw [← hf] at h1
    obtain ⟨env', ea, h1⟩ := asg_opt h1
    refine asg_tgt ((RE1.monoK c2.pre c2.keep).wipe own) (x := .d xs[i]) rv ea fun σ' RE2 hw => ⟨(hw own tsub).trans wipe_wipe, ?_⟩
    refine ⟨w2, st2, env', R2, RE2, .ok true, st2, rfl, fun w3 H3 t3 R3 => ?_⟩
    dsimp only
    rw [if_pos rfl]
    have c3 := c2.step t3 R3
    obtain ⟨ys, s3, h3, h1⟩ := bnd_ok h1
    refine ⟨w3, st2, env', R3, RE2.mono t3, (Run.of h3).mono fun ys' w4 st4 H4 _ _ q4 J1 hJ1 => ?_⟩
    obtain ⟨rfl, rfl, t4, R4⟩ := q4
    have c4 := c3.step t4 R4
    have RE4 := (RE2.mono t3).mono t4
    generalize hf1 : (fun y => bnd (opt (asgT t1 (A.d y) (wip env' own1))) fun env2 => bnd (evE C G elt env2) fun y => bnd (asD y) fun y => ret (some y)) = f1 at h1
    refine ⟨fun j k H => k = ys'.length - j ∧ j ≤ ys'.length ∧ ∃ w5 st5 done' rest', CI K w1 st1 H1 D w5 st5 H done' ∧ w4.io <+: w5.io ∧ Kp (Zm w4 st4) H4 (Zm w5 st5) H ∧ mapM f1 (ys'.drop j) st5 = some (.ok rest', s1) ∧ done' ++ rest' ++ rs2 = rs, ⟨ys'.length, rfl, Nat.zero_le _, w4, st4, done, rs1, c4, List.prefix_refl _, fun a o e _ z => ⟨e, z⟩, by rw [List.drop_zero]; exact h1, by rw [List.append_assoc]; exact hrs⟩, ?_⟩
    rintro j k H5 ⟨rfl, hj, w5, st5, done', rest', c5, pre5, kp5, hm5, hrs5⟩
    obtain ⟨l1, l2⟩ := hJ1 j w5 st5 H5 kp5 c5.rs
    by_cases hlt1 : j < ys'.length
    · right
      have hy : ys'[j]? = some ys'[j] := List.getElem?_eq_getElem hlt1
      obtain ⟨l3, l4⟩ := l1 _ hy
      rw [List.drop_eq_getElem_cons hlt1] at hm5
      simp only [mapM] at hm5
      obtain ⟨r6, s6, h6, hm5⟩ := bnd_ok hm5
      obtain ⟨rs6, s7, h7, hm5⟩ := bnd_ok hm5
      simp only [ret] at hm5
      cases hm5
      let Nx1 : Hp → Prop := fun H => ∃ w6 done6, CI K w1 st1 H1 D w6 s6 H done6 ∧ w4.io <+: w6.io ∧ Kp (Zm w4 st4) H4 (Zm w6 s6) H ∧ done6 ++ rs6 ++ rs2 = rs
      refine ⟨l3, Nx1, fun H' ⟨w6, done6, c6, pre6, kp6, e6⟩ => ⟨ys'.length - (j + 1), by omega, rfl, hlt1, w6, s6, done6, rs6, c6, pre6, kp6, h7, e6⟩, fun v6 H6 y6 => ?_⟩
      obtain ⟨t6, R6, rv6⟩ := l4 v6 H6 y6
      have c6 := c5.step t6 R6
      rw [← hf1] at h6
      obtain ⟨env2, ea2, h6⟩ := asg_opt h6
      have kp6 := kp5.trans t6.keep
      refine asg_tgt ((RE4.monoK (pre5.trans t6.pre) kp6).wipe own1) (x := .d ys'[j]) rv6 ea2 fun σ6 RE6 hw6 => ⟨(hw6 own1 tsub1).trans wipe_wipe, ?_⟩
      refine ⟨w5, st5, env2, R6, RE6, .ok true, st5, rfl, fun w7 H7 t7 R7 => ?_⟩
      dsimp only
      rw [if_pos rfl]
      have c7 := c6.step t7 R7
      refine elem_step (Nx := Nx1) c7 hD (RE6.mono t7) h6 ?_ fun w' H' d e c8 pre8 kp8 => ⟨w', done' ++ [d], c8, (pre5.trans t6.pre |>.trans t7.pre).trans pre8, (kp6.trans t7.keep).trans kp8, ?_⟩
      · obtain ⟨a, s4, _, h5⟩ := bnd_ok h6
        obtain ⟨d, s5, _, h6'⟩ := bnd_ok h5
        simp only [ret] at h6'
        cases h6'
        have hlen := congrArg List.length hrs5
        simp only [List.length_append, List.length_cons] at hlen
        omega
      · subst e
        rw [← hrs5]
        simp
    · left
      have he : j = ys'.length := by omega
      subst he
      rw [List.drop_length] at hm5
      simp only [mapM, ret] at hm5
      cases hm5
      refine ⟨l2 (Nat.le_refl _), w5, done', c5, ?_⟩
      rw [List.append_nil] at hrs5
      exact hrs5
  · left
    have he : i = xs.length := by omega
    subst he
    rw [List.drop_length] at hm2
    simp only [mapM2, ret] at hm2
    cases hm2
    refine ⟨j2 (Nat.le_refl _), ?_⟩
    rw [List.append_nil] at hrs
    subst hrs
    obtain ⟨t, R', rv⟩ := c.fin R1 hD
    exact hq H t R' _ rv
end
end Sw
/-! _law_kind(..) as a value -/
namespace Sw
open PySem PySem.Spec L2 PyProof.Rows PySem.W LamX
section
variable {nm : Nm} {N : List Str} {K : KX} {xc : XC} {C : CL} {G : Nat → Option D} {W : WX} {sc : Scope} {X : Cx}
theorem KindFn.cls' (kf : KindFn nm xc X) : ∀ c C ns, xc c = some (C, ns) → ∃ j x, kNames[j]? = some x ∧ nm.ks[c]? = some x ∧ kFields j ns := fun c C ns h => by
  obtain ⟨j, x, h1, h2, _, h4⟩ := kf.cls c C ns h
  exact ⟨j, x, h1, h2, h4⟩
theorem kind_run (LO : Lo nm K xc C X) {pins : List (Addr × Obj)} {σ : L2.St} {H : Hp} {s : Shared} (I : Inv X pins σ H s) {w : Wd} {st : Sto} {env : Env} {j : Nat} {v : V} {u : Value} {E : XK} {Q : VK} {P : D → Wd → Sto → Hp → Prop}
    (R : RS K w st H) (RE : REnv K w st H σ env) (rf : RA K w st H v (.f j)) (ru : L2.RelV v u) (hP : ∀ d w' st' H', Tr w st H w' st' H' → RS K w' st' H' → P d w' st' H' → ∀ v, RV K (Zm w' st') H' v d → Q v H') (run : Run K xc E (kindM nm.ks (C.lam j env)) w st H P) :
    ∃ g : Addr, X.mg "_law_kind" = some (.ref g) ∧ PySem.W.keepIn X.K (.ref g) = true ∧ codeAny (model X.prog X.w) X.A (.call (.ref g) ⟨[u], []⟩) (CR C8.CX0 X.stack X.prog X.w H s Q C8.E0) s := by
  obtain ⟨m, hr, hl⟩ := LO.run.resolve_left fun z => by
    obtain ⟨r, s1, e, _⟩ := run
    rw [z j env] at e
    cases e
  obtain ⟨f, c', ps, b, scp, dv, rfl, good, hf, _, hc, _, hd⟩ := rf
  obtain rfl : u = Value.ref f := ru
  have L := LO.sd j ps b scp good
  have hb := hl j ps b scp good
  have kf := LO.kf
  obtain ⟨g, oc, od, pg, n, q, sg, dV, kV, doc, pm, an, cdv, ct, osl, f1, f2, f3, f4, f5, f6, f7, f8, f9, f10⟩ := kf.fd
  obtain ⟨FE, e1, e2⟩ := kf.fe
  have IL : IsLam X H f c' ps b scp dv := by
    have k1 := LO.mak.cells
    have k2 := LO.mak.qual
    refine ⟨by rw [← k1, ← k2]; exact hf, by rw [← k2]; exact hc, ?_⟩
    rcases hd with hd | ⟨x, T, a1, a2, a3, _⟩
    · exact .inl hd
    · exact .inr ⟨x, T, a1, a2, a3⟩
  refine ⟨g, f1, f2, ?_⟩
  refine run_ofS (N := Ngk n) (ps := ["_law_work"]) (us := [.ref f]) (vs := [.ref f]) f3 f4 f6 hr I.env0 (f5 s [.ref f] I.kIn rfl) (.cons rfl .nil) rfl fun hr' => ?_
  have hv : Vis sg ("_law_work" : Str) := .inl (f8 _ (by simp))
  have key := kind_gives (f := f) (g := g) (cdv := cdv) (s := s) (H := H) (Q := Q) (IL := fun HZ => IsLam X HZ f c' ps b scp dv) (tl := fun E HZ Q => tM K xc (C.lam j) (fun cls d _ H => E cls d H) σ HZ Q) f6 f7 f8 f9 f10 kf.bi kf.bv e1 kf.cls e2
    (fun W pn xe E p1 p2 tk hW => lam_act (i := 0) I L tk hW hr' (fun A outer s H hr2 => hb A outer s H E f c' hr2) rfl hv (by decide +kernel) (by decide +kernel)) IL ⟨w, st, env, R, RE, kind_read kf.cls' R hP run⟩
  obtain ⟨t, ht, hq⟩ := key
  exact ⟨t, ht.nox, hq⟩
theorem s_kind {ea : E} {a : Expr} {p pos : Pos} (O : Okx nm N K xc C G W sc X) (LO : Lo nm K xc C X) (hg : glB sc "_law_kind" = true) (he : PE X a (tE K xc C G W ea)) (hs : notStar a = true) : PE X (.Call (.Name "_law_kind" p) [a] [] pos) (tE K xc C G W (.kind nm.ks ea)) := by
  refine ⟨fun pins s σ H Q I h => ?_⟩
  obtain ⟨w, st, env, R, RE, run⟩ := h
  obtain ⟨hgl, hdb⟩ := O.gl hg
  obtain ⟨g, oc, od, pg, n, q, sg, dV, kV, doc, pm, an, cdv, ct, osl, f1, f2, _⟩ := LO.kf.fd
  refine wpAny_Call_Name_kw (ld_glob I hgl f1 ?_ hdb)
  refine PySem.W.callWith_K (h₀ := X.base) I.ok.mod.kin f2 ?_ (by rw [star_cons hs]) (by rfl)
  rw [star_cons hs]
  show wpAny _ _ (spliced ((false, eval a X.env) :: backTo pos (starEach [] X.env))) _ _ s
  refine Calls.spliced_cons (thn (he.run pins s σ H (fun v H1 => ∃ w1 st1 a, RS K w1 st1 H1 ∧ REnv K w1 st1 H1 σ env ∧ RA K w1 st1 H1 v a ∧ Run K xc (WE W σ) (match a with
    | .f j => bnd (kindM nm.ks (C.lam j env)) fun z => ret (.d z)
    | _ => fail) w1 st1 H1 fun a w' st' H' => ∀ v, RA K w' st' H' v a → Q v H') I ⟨w, st, env, R, RE, run.bnd.mono fun a w1 st1 H1 t1 R1 run v rv => ⟨w1, st1, a, R1, RE.mono t1, rv, by cases a <;> exact run⟩⟩) fun u s1 ⟨v, H1, I1, ru, w1, st1, a, R1, RE1, rv, run⟩ => ?_)
  refine Calls.spliced_nil ⟨I1.kIn, ?_⟩
  cases a with
  | d x => exact run.fail.elim
  | r k => exact run.fail.elim
  | f j =>
    have run : Run K xc (WE W σ) (bnd (kindM nm.ks (C.lam j env)) fun z => ret (.d z)) w1 st1 H1 fun a w' st' H' => ∀ v, RA K w' st' H' v a → Q v H' := run
    obtain ⟨g', g1, g2, rc⟩ := kind_run LO I1 (Q := Q) R1 RE1 rv ru (fun d w' st' H' t R' run v rv => run.ret0 R' v rv) run.bnd
    rw [f1] at g1
    cases g1
    refine wpAny_call (codeAny_mono rc fun r s2 hq => ?_)
    cases r with
    | error e => exact (show False from hq).elim
    | ok fl =>
      cases fl with
      | ret u => exact I1.after hq
      | next => exact False.elim hq
      | brk => exact False.elim hq
      | cont => exact False.elim hq
end
end Sw
/-! [_law_kind(x) for x in ..]: a comprehension whose element looks at the def around it -/
namespace Sw
open PySem PySem.Spec L2 PyProof.Rows PySem.W
section
variable {X : Cx}
/-- as pe_lc, without tests; where the element is read, the def's own state is at hand -/
theorem lc_seen {el tg it : Expr} {scp : Scope} {own : List (Str × Nat)} {pos : Pos} {wi : TI} {g : TG} {te : L2.St → TE} (cm : X.calm = true) (nd : X.N.Nodup) (hi : PI X tg it wi) (ok : BlkOk X.N X.env.scope scp own)
    (hg : ∀ (s : Shared) (H : Hp) (c : Addr) (cl : List (Str × Addr)) (fp : List Addr), PG (X.blk s H scp (compEnvC scp cl c X.env) fp) tg g) (hs : ∀ x, foldedSetIterable it X.env x = pure x)
    (he : ∀ (pins : List (Addr × Obj)) (σ : L2.St) (s : Shared) (H : Hp) (c : Addr) (cl : List (Str × Addr)) (fp : List Addr), Inv X pins σ H s → (∀ b ∈ fp, FpOk X pins H b) → PE (X.blk s H scp (compEnvC scp cl c X.env) fp) el (te σ)) :
    PE X (.ListComp el [⟨tg, it, [], 0⟩] scp pos) (fun σ H Q => tLc wi g tYes (te σ) (own.map (·.2)) σ H Q) := by
  refine ⟨fun pins s σ H Q I h => ?_⟩
  rw [eval_ListComp]
  have caught : ∀ y ∈ scp.names, y.2 = .free → ∃ c, X.env.cells.lookup y.1 = some c := fun y hy e => (ok.free y hy e).elim (fun k => I.ok.has _ (.inl k)) fun k => I.ok.has _ (.inr k)
  refine wpAny_comprehension_free (use := none) rfl hs (closure_ok caught) ok.kind (fun y hy e => by rw [ok.uniq y hy, e]) (thn (hi.run pins s σ H _ I h) fun xv sa ha => thn ha fun iv sb hb => ?_)
  obtain ⟨itr, fp, tn, J, Hb, rfl, Ib, T, stb, fb, q⟩ := hb
  refine wpAny_newObj_type (newEnv_comp ?_) (by show 0 ≤ sizeLine; decide)
  obtain ⟨D, hD⟩ : ∃ D, D = sb.heap.objs.size := ⟨_, rfl⟩
  have freshD : Hb D = none := Ib.hok.fresh (Nat.le_of_eq hD.symm)
  obtain ⟨Wm, ⟨m0, w0⟩, turn⟩ := q D freshD
  obtain ⟨sc, hsc⟩ : ∃ sc : Shared, sc = { sb with heap := sb.heap.push { cls := .type "list", data := .seq ([] : List Value).toArray } } := ⟨_, rfl⟩
  have heapC : sc.heap = sb.heap.push { cls := .type "list", data := .seq ([] : List Value).toArray } := by rw [hsc]
  have Ic : Inv X pins σ (upd Hb D (.lst [])) sc := by
    rw [hsc]
    exact Ib.laid (t' := sb.toks) (fun b o e => Heap.get?_push_of_some _ e) (Nat.le_of_eq hD.symm) ⟨Nat.zero_le _, [], 0, .nil, by rw [hD]; exact Heap.get?_push_size _ rfl⟩
  have fpLt : ∀ b ∈ fp, b < sb.heap.objs.size := fun b hm => (T.obj _ _ stb b hm).elim fun o e => Heap.lt_size e.1
  have fpC : ∀ b ∈ fp, FpOk X pins (upd Hb D (.lst [])) b ∧ b < sc.heap.objs.size := fun b hm => by
    have lt := fpLt b hm
    exact ⟨⟨by rw [upd_ne (by rw [hD]; exact Nat.ne_of_lt lt)]; exact (fb b hm).1, (fb b hm).2⟩, by rw [heapC, Heap.size_push]; exact Nat.lt_succ_of_lt lt⟩
  have stc : tn 0 sc.heap := T.keep _ _ _ stb fun b _ o e => by rw [heapC]; exact Heap.get?_push_of_some _ e
  obtain ⟨Hc, hHc⟩ : ∃ Hc, Hc = upd Hb D (.lst []) := ⟨_, rfl⟩
  rw [← hHc] at Ic fpC w0
  obtain ⟨cls, hcl⟩ : ∃ cls, cls = cellsFrom (sc.heap.objs.size + 1) scp.names (cloFrom X.env.cells scp.names []) := ⟨_, rfl⟩
  have Id := block_start Ic ok nd fpC
  have PGt := hg sc Hc sc.heap.objs.size cls fp
  have PEl := he pins σ sc Hc sc.heap.objs.size cls fp Ic fun b hm => (fpC b hm).1
  rw [← hcl] at Id
  rw [← hsc, ← hcl]
  obtain ⟨ce, hce⟩ : ∃ ce, ce = compEnvC scp cls sc.heap.objs.size X.env := ⟨_, rfl⟩
  rw [← hce] at Id PGt PEl
  have ceL : ce.locals = sc.heap.objs.size := by rw [hce]; rfl
  obtain ⟨sd, hsd⟩ : ∃ sd : Shared, sd = { sc with heap := pushCells (sc.heap.push { cls := .type "dict", data := .dict #[] }) scp.names } := ⟨_, rfl⟩
  rw [← hsd] at Id
  have std : tn 0 sd.heap := T.keep _ _ _ stc fun b _ o e => by rw [hsd]; exact pushCells_keeps _ _ _ _ (Heap.get?_push_of_some _ e)
  have fpNone : ∀ b ∈ fp, Hc b = none := fun b hm => (fpC b hm).1.1
  have still : ∀ {σ' : L2.St} {H' : Hp} {s' : Shared}, Inv (X.blk sc Hc scp ce fp) [] σ' H' s' → (∀ b ∈ fp, H' b = none) → ∀ b ∈ fp, FpOk (X.blk sc Hc scp ce fp) [] H' b := fun {σ' H' s'} Ix hn b hm =>
    ⟨hn b hm, (Ix.ok.exf b hm).1, Ix.ok.exfs b hm, .inl hm, fun x c e => (Ix.ok.exf b hm).2 x c e, fun p hp => absurd (show p ∈ ([] : List (Addr × Obj)) ++ [] from hp) (by simp)⟩
  have round : codeAny (model X.prog X.w) X.A (.compLoop (.ListComp el [⟨tg, it, [], 0⟩] scp pos) 0 (.ref itr) (.ref D) ce) (compPost (model X.prog X.w) X.A X.xe none (EP X pins σ Q) (.ref D) sc.heap.objs.size) sd := by
    refine compLoop_any (fun m t => ∃ i Ht, Inv (X.blk sc Hc scp ce fp) [] (wipe σ (own.map (·.2))) Ht t ∧ tn i t.heap ∧ (∀ b ∈ fp, Ht b = none) ∧ Wm i m Ht) ?_ m0 ⟨0, Hc, Id, std, fpNone, w0⟩
    rintro m t1 ⟨i, H1, I1, st1, n1, w1⟩
    rcases turn i m H1 w1 with ⟨fin, res⟩ | ⟨more, Nx, hNx, step⟩
    · -- no item is left
      refine thnF (T.done (X.blk sc Hc scp ce fp) rfl rfl rfl cm i [] t1 _ H1 (fun _ _ => False) I1 (still I1 n1) st1 fin) fun r t2 ⟨hr, I2⟩ => ?_
      subst hr
      have I3 : Inv X pins σ H1 t2 := Ic.call' (ch := fp) I2.os I2.base I2.hok I2.bare fun b hm => ⟨(fpC b hm).1.2.2.2.1, (fpC b hm).1.2.1, (fpC b hm).1.2.2.2.2.1, (fpC b hm).1.2.2.2.2.2⟩
      have freeC : H1 sc.heap.objs.size = none := by
        have z : H1 ce.locals = none := I2.free
        rw [ceL] at z
        exact z
      obtain ⟨mm, hn, _⟩ := I2.loc
      have hn : t2.heap.Ns ce.locals mm := hn
      rw [ceL] at hn
      refine ⟨mm, hn, fun hh sb' => ?_⟩
      obtain ⟨f0, f1, f2, f3, f4, f5⟩ := Ic.fpOk (Nat.le_refl _) freeC
      exact ⟨.ref D, H1, I3.turned (t' := t2.toks) (fun b o hb e => (sb'.2 b hb).trans e) f0 f1 f3 f4 f5, rfl, res⟩
    · -- the next item
      refine thnF (T.item (X.blk sc Hc scp ce fp) rfl rfl rfl cm i [] t1 _ H1 (fun _ _ => False) I1 (still I1 n1) st1 more) fun r t2 ⟨u, hr, h6⟩ => ?_
      subst hr
      refine thnF h6 fun _ t3 ⟨x, H3, I3, r3, y3, st3, n3⟩ => ?_
      have I3p := I3.pinned (still I3 n3) (T.obj _ _ st3)
      refine thnF (PGt.run _ t3 _ H3 x u _ I3p r3 (step x H3 y3)) fun _ t4 ⟨σ4, H4, I4, hw4, q4⟩ => ?_
      refine thnF ((pts_nil (X := X.blk sc Hc scp ce fp)).run _ t4 σ4 H4 _ I4 q4) fun b t5 ⟨H5, I5, q5⟩ => ?_
      have close : ∀ {t' : Shared} {H' : Hp}, Inv (X.blk sc Hc scp ce fp) ([] ++ pinsAt fp t3.heap) σ4 H' t' → Nx H' → ∃ m', m' < m ∧ ∃ i H', Inv (X.blk sc Hc scp ce fp) [] (wipe σ (own.map (·.2))) H' t' ∧ tn i t'.heap ∧ (∀ b ∈ fp, H' b = none) ∧ Wm i m' H' := fun {t' H'} I' nx => by
        obtain ⟨m', lt, w'⟩ := hNx H' nx
        have pin : ∀ b ∈ fp, ∀ o, t3.heap.get? b = some o → t'.heap.get? b = some o ∧ H' b = none := fun b hm o e => by
          have z := I'.pin (b, o) (List.mem_append_right _ (List.mem_append_right _ (mem_pinsAt hm e)))
          exact ⟨z.1, z.2.1⟩
        have len : (wipe σ (own.map (·.2))).length = σ4.length := by rw [← hw4, wipe_length]
        refine ⟨m', lt, i + 1, H', (I'.unpinned (pins := [])).weak len (fun j v e => ?_), T.keep _ _ _ st3 fun b hm o e => (pin b hm o e).1, fun b hm => ?_, w'⟩
        · rw [← hw4] at e
          exact (wipe_some e).1
        · obtain ⟨o, e, _⟩ := T.obj _ _ st3 b hm
          exact (pin b hm o e).2
      cases b with
      | false =>
        simp only [Bool.false_eq_true, if_false] at q5 ⊢
        exact close I5 q5
      | true =>
        simp only [if_true] at q5 ⊢
        refine thnF (PEl.run _ t5 σ4 H5 _ I5 q5) fun z t6 ⟨yv, H6, I6, r6, acc, hD6, hz6, nx⟩ => ?_
        exact app_ok (X := X.blk sc Hc scp ce fp) I6 hD6 hz6 r6 fun t7 I7 => close I7 nx
  have go := codeAny_compStart_list round (T.self X.A 0 _ _ _ std round)
  rw [hsd, hce, hD] at go
  exact go
end
end Sw
/-! .. of the functions in a list of the store -/
namespace Sw
open PySem PySem.Spec L2 PyProof.Rows PySem.W LamX
section
variable {nm : Nm} {N : List Str} {K : KX} {xc : XC} {C : CL} {G : Nat → Option D} {W : WX} {sc : Scope} {X : Cx}
/-- the element: the def's slots σ0 stay as they are -/
def tKd (nm : Nm) (K : KX) (xc : XC) (C : CL) (iy : Nat) (σ0 : L2.St) : TE := fun σ H Q => ∃ w st env j v, RS K w st H ∧ REnv K w st H σ0 env ∧ RA K w st H v (.f j) ∧ σ[iy]? = some (some v) ∧
  Run K xc (fun _ _ _ => False) (kindM nm.ks (C.lam j env)) w st H fun d w' st' H' => ∀ v, RV K (Zm w' st') H' v d → Q v H'
theorem pe_kd (LO : Lo nm K xc C X) {scp : Scope} {y : Str} {iy : Nat} {p1 p2 p3 : Pos} (hy : X.N[iy]? = some y) (hl : (relS scp X.env.scope).names.lookup y = some .local) (hg : glB (relS scp X.env.scope) "_law_kind" = true) (hd : (y == ("__debug__" : Str)) = false) (hcd : (y == ("__classdict__" : Str)) = false)
    {pins : List (Addr × Obj)} {σ0 : L2.St} {s0 : Shared} {H0 : Hp} {c : Addr} {cl : List (Str × Addr)} {fp : List Addr} (I0 : Inv X pins σ0 H0 s0) (hfp : ∀ b ∈ fp, FpOk X pins H0 b) :
    PE (X.blk s0 H0 scp (compEnvC scp cl c X.env) fp) (.Call (.Name "_law_kind" p1) [.Name y p2] [] p3) (tKd nm K xc C iy σ0) := by
  refine ⟨fun pb s σ H Q Ib h => ?_⟩
  obtain ⟨w, st, env, j, v, R, RE, rf, hv, run⟩ := h
  obtain ⟨g, oc, od, pg, n, q, sg, dV, kV, doc, pm, an, cdv, ct, osl, f1, f2, _⟩ := LO.kf.fd
  unfold glB at hg
  rw [Bool.and_eq_true, decide_eq_true_eq, decide_eq_true_eq] at hg
  have hgl : Gl (X.blk s0 H0 scp (compEnvC scp cl c X.env) fp) ("_law_kind" : Str) := hg.1
  refine wpAny_Call_Name_kw (ld_glob Ib hgl f1 ?_ (by simpa using hg.2))
  refine PySem.W.callWith_K (h₀ := X.base) I0.ok.mod.kin f2 ?_ (by rfl) (by rfl)
  show wpAny _ _ (spliced ((false, eval (.Name y p2) _) :: backTo p3 (starEach [] _))) _ _ s
  have pv : PE (X.blk s0 H0 scp (compEnvC scp cl c X.env) fp) (.Name y p2) (tVar iy) := pe_var hy (.inl hl) hd hcd
  refine Calls.spliced_cons (thn (pv.run pb s σ H (fun u H1 => u = v ∧ H1 = H) Ib ⟨v, hv, rfl, rfl⟩) fun u s1 ⟨v1, H1, I1, ru, e1, e2⟩ => ?_)
  subst e1 e2
  refine Calls.spliced_nil ⟨I1.kIn, ?_⟩
  have IX : Inv X pins σ0 H1 s1 := I0.call' (ch := fp) I1.os I1.base I1.hok I1.bare fun b hm => ⟨(hfp b hm).2.2.2.1, (hfp b hm).2.1, (hfp b hm).2.2.2.2.1, (hfp b hm).2.2.2.2.2⟩
  obtain ⟨g', g1, g2, rc⟩ := kind_run LO IX (Q := Q) R RE rf ru (fun d w' st' H' t R' q => q) run
  rw [f1] at g1
  cases g1
  refine wpAny_call (codeAny_mono rc fun r s2 hq => ?_)
  cases r with
  | error e => exact (show False from hq).elim
  | ok fl =>
    cases fl with
    | ret u => exact I1.after hq
    | next => exact False.elim hq
    | brk => exact False.elim hq
    | cont => exact False.elim hq
theorem chkF_ok {β : Type} {x : A} {js : List Nat} {f : Unit → M β} {st s' : Sto} {r : β} (h : bnd (chkF x js) f st = some (.ok r, s')) : (∃ k as, x = .r k ∧ st[k]? = some (.lst as) ∧ allF as = some js) ∧ f () st = some (.ok r, s') := by
  unfold chkF at h
  cases x with
  | d x => cases h
  | f k => cases h
  | r k =>
    simp only [bnd, fns] at h
    cases hk : st[k]? with
    | none => rw [hk] at h; cases h
    | some o =>
      rw [hk] at h
      cases o with
      | dead => cases h
      | lst as =>
        simp only at h
        cases ha : allF as with
        | none => rw [ha] at h; cases h
        | some is =>
          rw [ha] at h
          by_cases e : is = js
          · subst e
            simp only [if_true, ret] at h
            exact ⟨⟨k, as, rfl, hk, ha⟩, h⟩
          · simp only [if_neg e, fail] at h
            cases h
theorem allF_get : ∀ {as : List A} {js : List Nat} {i : Nat}, allF as = some js → as.length = js.length ∧ ∀ j, js[i]? = some j → as[i]? = some (.f j)
  | [], js, i, h => by
    simp only [allF] at h
    cases h
    exact ⟨rfl, fun j e => by simp at e⟩
  | a :: as, js, i, h => by
    cases a with
    | d x => simp [allF] at h
    | r k => simp [allF] at h
    | f k =>
      simp only [allF, Option.map_eq_some_iff] at h
      obtain ⟨js', h, rfl⟩ := h
      refine ⟨by simp [(allF_get (i := 0) h).1], fun j e => ?_⟩
      cases i with
      | zero => simpa using e
      | succ i => simpa using (allF_get (i := i) h).2 j (by simpa using e)
theorem kinds_core {iy : Nat} {σ : L2.St} {Q : VK} {env : Env} {x : A} {js : List Nat} {w1 : Wd} {st1 stE : Sto} {H1 : Hp} {D ad : Addr} {rs : List Sw.D} (R1 : RS K w1 st1 H1) (RE1 : REnv K w1 st1 H1 σ env) (hD : H1 D = none) (hl : rs.length ≤ 16777216) (rx : RA K w1 st1 H1 (.ref ad) x)
    (hm : kindsM x js (fun j => kindM nm.ks (C.lam j env)) js st1 = some (.ok rs, stE)) (hQ : ∀ w' H', CI K w1 st1 H1 D w' stE H' rs → Q (.ref D) H') (hiy : iy < σ.length) :
    ∃ W : Nat → Nat → Hp → Prop, (∃ m, W 0 m (upd H1 D (.lst []))) ∧ ∀ i m H, W i m H →
      ((Itl K ad).stop i H ∧ Q (.ref D) H) ∨ ((Itl K ad).go i H ∧ ∃ Nx : Hp → Prop, (∀ H', Nx H' → ∃ m', m' < m ∧ W (i + 1) m' H') ∧ ∀ x H', (Itl K ad).yld i H x H' → gName iy x (L2.wipe σ [iy]) H' fun σ2 H2 => L2.wipe σ2 [iy] = L2.wipe σ [iy] ∧ tYes σ2 H2 fun b H3 =>
        if b = true then tKd nm K xc C iy σ σ2 H3 fun y H4 => ∃ acc, H4 D = some (.lst acc) ∧ acc.length < sizeLine ∧ Nx (upd H4 D (.lst (acc ++ [y]))) else Nx H3) := by
  obtain ⟨F, hF⟩ : ∃ F, F = fun j => kindM nm.ks (C.lam j env) := ⟨_, rfl⟩
  rw [← hF] at hm
  refine ⟨fun i m H => m = js.length - i ∧ i ≤ js.length ∧ ∃ w2 st2 done rest, CI K w1 st1 H1 D w2 st2 H done ∧ kindsM x js F (js.drop i) st2 = some (.ok rest, stE) ∧ done ++ rest = rs, ⟨js.length, rfl, Nat.zero_le _, _, st1, [], rs, CI.start R1 hD, by rw [List.drop_zero]; exact hm, rfl⟩, ?_⟩
  rintro i m H ⟨rfl, hi, w2, st2, done, rest, c, hm2, hrs⟩
  -- the list is there
  have at_ : ∀ k as, x = .r k → st2[k]? = some (.lst as) → allF as = some js → ∃ vs, H ad = some (.lst vs) ∧ RAs K w2 st2 H vs as := fun k as e hk ha => by
    subst e
    obtain ⟨a, e1, e2⟩ := rx
    cases e2
    obtain ⟨_, vs, h1, h2⟩ := c.rs.obj k ad _ (pre_get c.pre e1) hk
    exact ⟨vs, h1, h2⟩
  by_cases hlt : i < js.length
  · right
    rw [List.drop_eq_getElem_cons hlt] at hm2
    simp only [kindsM] at hm2
    obtain ⟨⟨k, as, ex, hk, ha⟩, hm2⟩ := chkF_ok hm2
    obtain ⟨d, s1, h1, hm2⟩ := bnd_ok hm2
    obtain ⟨ds, s2, h2, hm2⟩ := bnd_ok hm2
    simp only [ret] at hm2
    cases hm2
    obtain ⟨vs, hvs, ras⟩ := at_ k as ex hk ha
    obtain ⟨al, ag⟩ := allF_get (i := i) ha
    obtain ⟨v, hv, rf⟩ := ras.get (ag _ (List.getElem?_eq_getElem hlt))
    refine ⟨⟨vs, v, SqL.of hvs, hv⟩, fun H' => ∃ w3 done', CI K w1 st1 H1 D w3 s1 H' done' ∧ done' ++ ds = rs, fun H' ⟨w3, done', c3, e3⟩ => ⟨js.length - (i + 1), by omega, rfl, hlt, w3, s1, done', ds, c3, h2, e3⟩, fun u H2 y => ?_⟩
    obtain ⟨rfl, y⟩ := y
    have eu := y vs (SqL.of hvs)
    rw [hv] at eu
    cases eu
    have hw : (L2.wipe σ [iy]) = σ.set iy none := rfl
    refine ⟨by rw [hw, List.set_set]; show List.set (σ.set iy (some v)) iy none = _; rw [List.set_set], ?_⟩
    simp only [tYes, if_true]
    refine ⟨w2, st2, env, js[i], v, c.rs, RE1.monoK c.pre c.keep, rf, by rw [hw, List.set_set]; exact List.getElem?_set_self hiy, ?_⟩
    have h1' : kindM nm.ks (C.lam js[i] env) st2 = some (.ok d, s1) := by rw [hF] at h1; exact h1
    refine (Run.of h1').mono fun d' w3 st3 H3 _ _ q3 z rz => ?_
    obtain ⟨rfl, rfl, t3, R3⟩ := q3
    have c3 := c.step t3 R3
    obtain ⟨acc, hacc, racc⟩ := c3.at_
    have hlen := congrArg List.length hrs
    simp only [List.length_append, List.length_cons] at hlen
    refine ⟨acc, hacc, by rw [racc.length, sizeLine_eq]; omega, w3, done ++ [d'], c3.push hD hacc racc rz, ?_⟩
    rw [← hrs]
    simp
  · left
    have he : i = js.length := by omega
    subst he
    rw [List.drop_length] at hm2
    simp only [kindsM] at hm2
    obtain ⟨⟨k, as, ex, hk, ha⟩, hm2⟩ := chkF_ok hm2
    simp only [ret] at hm2
    cases hm2
    obtain ⟨vs, hvs, ras⟩ := at_ k as ex hk ha
    obtain ⟨al, _⟩ := allF_get (i := 0) ha
    refine ⟨⟨vs, SqL.of hvs, by rw [ras.length, al]; exact Nat.le_refl _⟩, hQ w2 H ?_⟩
    rw [List.append_nil] at hrs
    subst hrs
    exact c
theorem s_kinds {ea : E} {it : Expr} {scp : Scope} {y : Str} {iy : Nat} {p1 p2 p3 p4 pos : Pos} (O : Okx nm N K xc C G W sc X) (LO : Lo nm K xc C X) (he : PE X it (tE K xc C G W ea)) (hset : notSet it = true) (hiy : N[iy]? = some y) (hb : blkC N sc scp [(y, iy)] = true) (hown : scp.names.lookup y = some .local)
    (hg : glB (relS scp sc) "_law_kind" = true) (hd : (y == ("__debug__" : Str)) = false) (hcd : (y == ("__classdict__" : Str)) = false) :
    PE X (.ListComp (.Call (.Name "_law_kind" p1) [.Name y p2] [] p3) [⟨.Name y p4, it, [], 0⟩] scp pos) (tE K xc C G W (.kinds nm.ks ea)) := by
  have hN : X.N[iy]? = some y := by rw [O.n]; exact hiy
  have hloc : (relS scp X.env.scope).names.lookup y = some .local := lookup_relS_keep (by simp) hown
  have hg' : glB (relS scp X.env.scope) "_law_kind" = true := by rw [O.sc]; exact hg
  refine ⟨fun pins0 s0 σ H Q I0 q => (lc_seen (own := [(y, iy)]) (te := tKd nm K xc C iy) O.calm O.nd (pi_list he) (by rw [O.n, O.sc]; exact blkOk_by hb) (fun s H c cl fp => pg_name (X := X.blk s H scp (compEnvC scp cl c X.env) fp) O.nd hN (.inl hloc) (.inr hloc)) (folded_not hset) fun pins σ s H c cl fp I hfp => pe_kd LO hN hloc hg' hd hcd I hfp).run pins0 s0 σ H Q I0 ?_⟩
  obtain ⟨w, st, env, R, RE, run⟩ := q
  rw [O.k]
  refine ⟨w, st, env, R, RE, run.bnd.mono fun x w1 st1 H1 t1 R1 run v rv => ?_⟩
  obtain ⟨js, e0, run⟩ : ∃ js, fns x st1 = some (.ok js, st1) ∧ Run K xc (WE W σ) (bnd (trim (kindsM x js (fun j => kindM nm.ks (C.lam j env)) js)) fin) w1 st1 H1 fun a w' st' H' => ∀ v, RA K w' st' H' v a → Q v H' := by
    obtain ⟨r, s2, e, q⟩ := run
    cases x with
    | d x => cases e
    | f k => cases e
    | r k =>
      cases hk : st1[k]? with
      | none => simp only [bnd, fns, hk] at e; cases e
      | some o =>
        cases o with
        | dead => simp only [bnd, fns, hk] at e; cases e
        | lst as =>
          cases ha : allF as with
          | none => simp only [bnd, fns, hk, ha] at e; cases e
          | some js =>
            have e1 : fns (.r k) st1 = some (.ok js, st1) := by simp only [fns, hk, ha]
            refine ⟨js, e1, r, s2, ?_, q⟩
            rw [← e]
            simp only [bnd, e1]
  have hx : ∃ k as, x = .r k ∧ st1[k]? = some (.lst as) := by
    cases x with
    | d x => cases e0
    | f k => cases e0
    | r k =>
      cases hk : st1[k]? with
      | none => simp only [fns, hk] at e0; cases e0
      | some o =>
        cases o with
        | dead => simp only [fns, hk] at e0; cases e0
        | lst as => exact ⟨k, as, rfl, hk⟩
  obtain ⟨k, as, rfl, hk⟩ := hx
  obtain ⟨ad, e1, rfl⟩ := id rv
  obtain ⟨_, vs, h1, _⟩ := R1.obj k ad _ e1 hk
  obtain ⟨rs, stE, hm, hl, hq⟩ := comp_inv run
  refine ⟨ad, rfl, ⟨vs, SqL.of h1⟩, fun D hD => ?_⟩
  have hlen : iy < σ.length := by
    rw [I0.len]
    exact (List.getElem?_eq_some_iff.mp hN).1
  exact kinds_core R1 (RE.mono t1) hD hl rv hm (fun w' H' c => by
    obtain ⟨t, R', r⟩ := c.fin R1 hD
    exact hq H' t R' _ r) hlen
end
end Sw
/-! The checker's word holds: dicts that never change -/
namespace Sw
open PySem PySem.Spec L2
theorem Run.ext {α : Type} {K : KX} {xc : XC} {E : XK} {m : M α} {w w0 : Wd} {st : Sto} {H H0 : Hp} {P : α → Wd → Sto → Hp → Prop} (h : Run K xc E m w st H P) (t : Tr w st H w0 st H0) : Run K xc E m w0 st H0 P := by
  obtain ⟨r, st', e, q⟩ := h
  refine ⟨r, st', e, ?_⟩
  cases r with
  | ok a => exact fun w1 H1 t1 R1 => q w1 H1 (t.trans t1) R1
  | error x => exact fun w1 H1 cls dx t1 R1 => q w1 H1 cls dx (t.trans t1) R1
/-- what was just made stands still from here on -/
theorem pe_still {X : Cx} {e : Expr} {t : TE} (h : PE X e t) : PE X e (fun σ H Q => t σ H fun v H' => ∃ p u, v = .ref p ∧ H' p = some u ∧ L2.Mut (some u) ∧ ∀ od, Q v (upd H' p (.frz od u))) := by
  refine ⟨fun pins s σ H Q I hw => ?_⟩
  refine thn (h.run pins s σ H _ I hw) fun v s1 ⟨x, H1, I1, r, p, u, ex, hp, mu, q⟩ => ?_
  obtain ⟨od, I2⟩ := I1.lock hp mu
  exact ⟨x, _, I2, r, q od⟩
section
variable {K : PySem.W.Frag} {Z : Addr → Prop} {H : Hp} {p : Addr} {o : HO} {kv0 : List (Key × V)}
theorem rd_dk {a : Addr} {u : HO} (hp : H p = some (.dK kv0)) (r : Rd H a u) (h : u ≠ .dK kv0) : Rd (upd H p o) a u := by
  have ne : a ≠ p := fun e => by
    subst e
    rcases r with r | ⟨ob, r⟩
    · rw [hp] at r
      cases r
      exact h rfl
    · rw [hp] at r
      cases r
  rcases r with r | ⟨ob, r⟩
  · exact .inl (by rw [upd_ne ne]; exact r)
  · exact .inr ⟨ob, by rw [upd_ne ne]; exact r⟩
theorem eq_dk {a : Addr} {u : HO} (hp : H p = some (.dK kv0)) (r : H a = some u) (h : u ≠ .dK kv0) : upd H p o a = some u := by
  have ne : a ≠ p := fun e => by
    subst e
    rw [hp] at r
    cases r
    exact h rfl
  rw [upd_ne ne]; exact r
mutual
theorem RV.at_dk (hp : H p = some (.dK kv0)) : ∀ {v : V} {d : D}, RV K Z H v d → RV K Z (upd H p o) v d
  | _, _, .non => .non
  | _, _, .bl b => .bl b
  | _, _, .int i => .int i
  | _, _, .str h => .str h
  | _, _, .tup r z t => .tup (rd_dk hp r (by simp)) z (RVs.at_dk hp t)
  | _, _, .tupK r t => .tupK r (RVs.at_dk hp t)
  | _, _, .lst r z t => .lst (eq_dk hp r (by simp)) z (RVs.at_dk hp t)
  | _, _, .scr r z => .scr (rd_dk hp r (by simp)) z
  | _, _, .scrK r => .scrK r
  | _, _, .dct r z e q t => .dct (eq_dk hp r (by simp)) z e q (RVs.at_dk hp t)
theorem RVs.at_dk (hp : H p = some (.dK kv0)) : ∀ {vs : List V} {ds : List D}, RVs K Z H vs ds → RVs K Z (upd H p o) vs ds
  | _, _, .nil => .nil
  | _, _, .cons r t => .cons (RV.at_dk hp r) (RVs.at_dk hp t)
end
theorem RAs.at_dk {K : KX} {w : Wd} {st : Sto} (hp : H p = some (.dK kv0)) : ∀ {vs : List V} {as : List A}, RAs K w st H vs as → RAs K w st (upd H p o) vs as
  | _, _, .nil => .nil
  | _, _, .cons (d := d) r t => .cons (by
      cases d with
      | d x => exact RV.at_dk hp r
      | f k =>
        obtain ⟨f, c', ps, b, sc, dv, rfl, h1, h2, h3, h4, h5, h6⟩ := r
        refine ⟨f, c', ps, b, sc, dv, rfl, h1, eq_dk hp h2 (fun z => by cases z), h3, eq_dk hp h4 (fun z => by cases z), h5, ?_⟩
        rcases h6 with h6 | ⟨x, T, g1, g2, g3, g4⟩
        · exact .inl h6
        · exact .inr ⟨x, T, g1, g2, eq_dk hp g3 (fun z => by cases z), g4⟩
      | r k => exact r) (RAs.at_dk hp t)
theorem RS.at_dk {K : KX} {w : Wd} {st : Sto} (R : RS K w st H) (hp : H p = some (.dK kv0)) (hz : ¬ Zm w st p) : RS K w st (upd H p o) := by
  refine ⟨R.len, R.nd, R.dis, fun a ha => ?_, fun a ha => ?_, fun k a x h1 h2 => ?_, fun q hq => ?_⟩
  rotate_left 3
  · obtain ⟨ps, h1, h2, h3⟩ := R.tabs q hq
    refine ⟨ps, eq_dk hp h1 (fun z => by cases z), h2, fun pos cv hc => ?_⟩
    obtain ⟨c, e1, e2⟩ := h3 pos cv hc
    exact ⟨c, e1, eq_dk hp e2 (fun z => by cases z)⟩
  · by_cases e : a = p
    · subst e; rw [upd_same]; simp
    · rw [upd_ne e]; exact R.trk a ha
  · obtain ⟨vs, e⟩ := R.hl a ha
    exact ⟨vs, eq_dk hp e (fun z => by cases z)⟩
  · have ro := R.obj k a x h1 h2
    cases x with
    | dead => trivial
    | lst as =>
      obtain ⟨ol, vs, h, r⟩ := ro
      exact ⟨ol, vs, eq_dk hp h (by simp), r.at_dk hp⟩
/-- a dict that no one knows is written -/
theorem Tr.at_dk {K : KX} {w w2 : Wd} {st st2 : Sto} {H2 : Hp} {u : HO} (R : RS K w st H) (hp : H p = none) (t : Tr w st (upd H p u) w2 st2 H2) : Tr w st H w2 st2 (upd H2 p o) := by
  refine ⟨t.hs, t.pre, fun a x h n z => ?_, fun a ha => ?_⟩
  · have ne : a ≠ p := ne_of_none h hp
    obtain ⟨h1, h2⟩ := t.keep a x (by rw [upd_ne ne]; exact h) n z
    exact ⟨by rw [upd_ne ne]; exact h1, h2⟩
  · have ne : a ≠ p := fun e => R.trkh a ha (by rw [e]; exact hp)
    rw [upd_ne ne, t.hid a ha, upd_ne ne]
end
section
variable {nm : Nm} {N : List Str} {K : KX} {xc : XC} {C : CL} {G : Nat → Option D} {W : WX} {sc : Scope} {X : Cx}
variable {a b c : Expr} {ea eb ec : E} {pos : Pos}
theorem s_nev {ast : Expr} : PE X ast (tE K xc C G W .nev) := ⟨fun pins s σ H Q I q => by
  obtain ⟨w, st, env, R, RE, run⟩ := q
  exact run.fail.elim⟩
theorem s_nevT {ast : Expr} : PT X ast (tT K xc C G W .nev) := ⟨fun pins s σ H Q I q => by
  obtain ⟨w, st, env, R, RE, run⟩ := q
  exact run.fail.elim⟩
theorem tT_tE {e : E} {σ : St} {H : Hp} {Q : Bool → Hp → Prop} (q : tT K xc C G W e σ H Q) : tE K xc C G W e σ H fun v H' => ∃ d, v = .bl d ∧ Q d H' := by
  obtain ⟨w, st, env, R, RE, run⟩ := q
  refine ⟨w, st, env, R, RE, run.mono fun a w1 st1 H1 t1 R1 q v rv => ?_⟩
  obtain ⟨t, e, q⟩ := q
  cases tru_bl e
  cases rv
  exact ⟨_, rfl, q⟩
def trs (K : KX) (xc : XC) (C : CL) (G : Nat → Option D) (W : WX) : List Key → EL → List (TE × TE)
  | k :: ks, .cons e r => (tC (kV k), tE K xc C G W e) :: trs K xc C G W ks r
  | _, _ => []
theorem prs_read {σ : St} {env : Env} : ∀ (ks : List Key) (es : EL) {w : Wd} {st : Sto} {H : Hp} {P : List D → Wd → Sto → Hp → Prop} {Q : List (V × V) → Hp → Prop}, RS K w st H → REnv K w st H σ env → Run K xc (WE W σ) (evL C G es env) w st H P → ks.length = elen es →
    (∀ ds vs w2 st2 H2, evL C G es env st = some (.ok ds, st2) → RVs K (Zm w2 st2) H2 vs ds → Tr w st H w2 st2 H2 → RS K w2 st2 H2 → vs.length = ks.length → Q (List.zipWith (fun k v => (kV k, v)) ks vs) H2) → tPairs (trs K xc C G W ks es) σ H Q
  | [], .nil, w, st, H, P, Q, R, RE, run, hl, hq => hq [] [] w st H rfl .nil Tr.refl R rfl
  | [], .cons e r, w, st, H, P, Q, R, RE, run, hl, hq => by simp [elen] at hl
  | k :: ks, .nil, w, st, H, P, Q, R, RE, run, hl, hq => by simp [elen] at hl
  | k :: ks, .cons e r, w, st, H, P, Q, R, RE, run, hl, hq => by
    refine ⟨w, st, env, R, RE, run.bnd.tells.mono fun x w1 st1 H1 t1 R1 ⟨hx, run⟩ v rv => ?_⟩
    obtain ⟨dx, e0, run'⟩ := run.asD
    subst e0
    refine prs_read ks r R1 (RE.mono t1) run'.bnd (by simpa [elen] using hl) fun ds vs w2 st2 H2 h1 h2 h3 h4 h5 => ?_
    refine hq (dx :: ds) (v :: vs) w2 st2 H2 ?_ (.cons (RV.mono h3.keep rv) h2) (t1.trans h3) h4 (by simp [h5])
    simp only [evL, bnd, hx, asD, ret, h1]
theorem merge_nodup : ∀ (ks : List Key) (vs : List V) (acc : List (Key × V)), (acc.map (·.1) ++ ks).Nodup → vs.length = ks.length → mergeK acc (ks.zip vs) = acc ++ ks.zip vs
  | [], _, acc, _, _ => by simp [mergeK]
  | k :: ks, [], acc, _, h => by simp at h
  | k :: ks, v :: vs, acc, hn, h => by
    have hk : valV acc k = none := by
      cases e : valV acc k with
      | none => rfl
      | some y =>
        exfalso
        have h1 : (acc.any fun kv => decide (kv.1 = k)) = true := by rw [valV_any, e]; rfl
        rw [List.any_eq_true] at h1
        obtain ⟨q, hq, hd⟩ := h1
        rw [List.nodup_append] at hn
        exact hn.2.2 q.1 (List.mem_map_of_mem hq) k (by simp) (of_decide_eq_true hd)
    show mergeK (putK acc k v) (ks.zip vs) = _
    rw [putK_new v hk, merge_nodup ks vs (acc ++ [(k, v)]) (by simpa using hn) (by simpa using h)]
    simp
theorem zip_parts : ∀ (ks : List Key) (vs : List V), vs.length = ks.length → List.zipWith (fun k v => (kV k, v)) ks vs = (ks.zip vs).map (fun kv => (kV kv.1, kv.2)) ∧ (ks.zip vs).map (·.1) = ks ∧ (ks.zip vs).map (·.2) = vs
  | [], [], _ => ⟨rfl, rfl, rfl⟩
  | [], _ :: _, h => by simp at h
  | _ :: _, [], h => by simp at h
  | k :: ks, v :: vs, h => by
    obtain ⟨h1, h2, h3⟩ := zip_parts ks vs (by simpa using h)
    exact ⟨by simp [h1], by simp [h2], by simp [h3]⟩
theorem dspK_ok {nm : Nm} : ∀ {ks : List Key} {keys : List (Option Expr)}, dspK ks keys = true → keys.all (·.isSome) = true ∧ keys.length = ks.length ∧ ks.all keyOk = true
  | [], [], _ => ⟨rfl, rfl, rfl⟩
  | [], _ :: _, h => by simp [dspK] at h
  | k :: ks, [], h => by cases k <;> simp [dspK] at h
  | k :: ks, x :: xs, h => by
    cases x with
    | none => cases k <;> simp [dspK] at h
    | some x =>
      have : dspK ks xs = true ∧ keyOk k = true := by
        cases k <;> cases x <;> (try simp [dspK] at h) <;> (rename_i c _ _; cases c <;> simp [dspK] at h)
        · exact ⟨h.2, rfl⟩
        · exact ⟨h.2, h.1.2⟩
      obtain ⟨h1, h2, h3⟩ := dspK_ok (nm := nm) this.1
      exact ⟨by simp [h1], by simp [h2], by rw [List.all_cons, this.2, h3]; rfl⟩
theorem s_dsp {ks : List Key} {es : EL} {keys : List (Option Expr)} {vals : List Expr} (hp : PPs X pos keys vals (trs K xc C G W ks es)) (h1 : keys.all (·.isSome) = true) (h2 : keys.length = ks.length) (h3 : keys.length = vals.length) (h4 : ks ≠ []) (h5 : ks.length ≤ 15) (h6 : ks.Nodup) (h7 : elen es = vals.length) (h8 : ks.all keyOk = true) :
    PE X (.Dict keys vals pos) (tE K xc C G W (.dsp ks es)) := by
  have hk0 : keys ≠ [] := fun e => by
    rw [e] at h2
    exact h4 (List.length_eq_zero_iff.mp h2.symm)
  refine PE.imp (pe_still (pe_disp hp h1 h3 hk0 (by omega))) fun σ H Q q => ?_
  obtain ⟨w, st, env, R, RE, run⟩ := q
  intro p hp
  have t0 := Tr.laid (o := .dK []) R hp
  refine prs_read (P := fun _ _ _ _ => True) ks es (R.laid hp) (RE.mono t0) (Run.mono (Run.ext run.bnd t0) fun _ _ _ _ _ _ _ => trivial) (by omega) fun ds vs w2 st2 H2 e1 e2 e3 e4 e5 => ?_
  obtain ⟨k1, k2⟩ := e3.keep p (.dK []) upd_same (fun _ z => by cases z) (Zm.notNew R hp)
  obtain ⟨z1, z2, z3⟩ := zip_parts ks vs e5
  refine ⟨k1, ks.zip vs, z1, by rw [List.length_zip]; omega, ?_⟩
  rw [merge_nodup ks vs [] (by simpa using h6) e5, List.nil_append]
  refine ⟨p, _, rfl, upd_same, trivial, fun od => ?_⟩
  rw [upd_upd]
  obtain ⟨r, st', e, q⟩ := run
  simp only [evE, bnd, e1, ret] at e
  cases e
  refine q w2 _ (Tr.at_dk R hp e3) (e4.at_dk k1 k2) _ (.dct upd_same k2 z2 h8 ?_)
  rw [z3]
  exact e2.at_dk k1
/-! ### what is read -/
theorem look_ok {Z : Addr → Prop} {H : Hp} : ∀ {kvs : List (Key × V)} {ks : List Key} {ds : List D} (j : Key), kvs.map (·.1) = ks → RVs K Z H (kvs.map (·.2)) ds → (∃ v x, valV kvs j = some v ∧ dlook ks ds j = some x ∧ RV K Z H v x) ∨ (valV kvs j = none ∧ dlook ks ds j = none)
  | [], _, ds, j, e, r => by
    subst e
    exact .inr ⟨rfl, by cases ds <;> rfl⟩
  | (k, v) :: kvs, _, ds, j, e, r => by
    subst e
    rw [List.map_cons] at r
    cases r with
    | cons r1 r2 =>
      by_cases h : k = j
      · exact .inl ⟨v, _, valV_pos h, by simp [dlook, h], r1⟩
      · rcases look_ok (kvs := kvs) j rfl r2 with ⟨v', x, g1, g2, g3⟩ | ⟨g1, g2⟩
        · exact .inl ⟨v', x, by rw [valV_neg h]; exact g1, by simp [dlook, h, g2], g3⟩
        · exact .inr ⟨by rw [valV_neg h]; exact g1, by simp [dlook, h, g2]⟩
theorem key_ok {Z : Addr → Prop} {H : Hp} {v : V} {d : D} {k : Key} (r : RV K Z H v d) (e : keyD d = some k) : v = kV k := by
  cases d <;> simp only [keyD] at e <;> try (cases e; done)
  · cases e; cases r; rfl
  · cases e; cases r; rfl
theorem base_ok {a : Expr} {m : Str} {env : PySem.Env} (h : notSuper a = true) : attributeBase a m env (eval a env) = eval a env := by
  cases a <;> first | rfl | cases h
theorem mk_M2 {m : Str} {ap cp : Pos} (h : notSuper a = true) (hb : notStar b = true) (hc : notStar c = true) (hl : ap.endLine = cp.line) : L2.M2 X a m ap b c cp := by
  have e1 : starEach [b, c] X.env = [(false, eval b X.env), (false, eval c X.env)] := by rw [star_cons hb, star_cons hc]; rfl
  refine ⟨base_ok h, ?_, by simp [hl], ?_⟩
  · rw [e1]; rfl
  · rw [e1]; rfl
theorem s_get {ap cp : Pos} (O : Okx nm N K xc C G W sc X) (h : notSuper a = true) (hb : notStar b = true) (hc : notStar c = true) (hl : ap.endLine = cp.line) (pa : PE X a (tE K xc C G W ea)) (pb : PE X b (tE K xc C G W eb)) (pc : PE X c (tE K xc C G W ec)) :
    PE X (.Call (.Attribute a "get" ap) [b, c] [] cp) (tE K xc C G W (.op3 .get ea eb ec)) := by
  refine PE.imp (pe_dget2 (by have := O.room.un; omega) pa pb pc (mk_M2 h hb hc hl)) fun σ H Q q => ?_
  obtain ⟨w, st, env, R, RE, run⟩ := q
  refine ⟨w, st, env, R, RE, run.bnd.mono fun x w1 st1 H1 t1 R1 run v rv => ?_⟩
  obtain ⟨dx, e0, run'⟩ := run.asD
  subst e0
  obtain ⟨_, e0, run⟩ := run'.opt
  obtain ⟨ks, ds, rfl⟩ : ∃ ks ds, dx = .dct ks ds := by cases dx <;> simp [pre3] at e0; exact ⟨_, _, rfl⟩
  obtain ⟨ad, o, kvs, rfl, hd, hz, hk, _, hr⟩ := PV.dct (.inl rv)
  refine ⟨ad, rfl, .inl ⟨kvs, .inr ⟨o, hd⟩⟩, w1, st1, env, R1, RE.mono t1, run.bnd.mono fun y w2 st2 H2 t2 R2 run u ru => ?_⟩
  obtain ⟨dy, e0, run'⟩ := run.asD
  subst e0
  refine ⟨w2, st2, env, R2, (RE.mono t1).mono t2, run'.bnd.mono fun z w3 st3 H3 t3 R3 run u' ru' => ?_⟩
  obtain ⟨dz, e0, run'⟩ := run.asD
  subst e0
  obtain ⟨r, e, run⟩ := run'.opt
  simp only [op3D, Option.map_eq_some_iff] at e
  obtain ⟨k, ek, rfl⟩ := e
  obtain ⟨hd3, hz3⟩ := (t2.trans t3).keep _ _ hd .frz hz
  have hr3 := RVs.mono (t2.trans t3).keep hr
  refine ⟨valV kvs k, .inl ⟨kvs, k, .inr ⟨o, hd3⟩, ?_, rfl⟩, run.ret0 R3 _ ?_⟩
  · exact key_ok ru ek
  · rcases look_ok k hk hr3 with ⟨v', x, g1, g2, g3⟩ | ⟨g1, g2⟩
    · rw [g1, g2]; exact g3
    · rw [g1, g2]; exact ru'
theorem s_dix (O : Okx nm N K xc C G W sc X) (hs : notSlice b = true) (pa : PE X a (tE K xc C G W ea)) (pb : PE X b (tE K xc C G W eb)) : PE X (.Subscript a b pos) (tE K xc C G W (.op2 .dix ea eb)) := by
  refine PE.imp (pe_dget (by have := O.room.un; omega) pa pb (plain_ix hs)) fun σ H Q q => ?_
  obtain ⟨w, st, env, R, RE, run⟩ := q
  refine ⟨w, st, env, R, RE, run.bnd.mono fun x w1 st1 H1 t1 R1 run v rv => ?_⟩
  obtain ⟨dx, e0, run'⟩ := run.asD
  subst e0
  obtain ⟨_, _, run⟩ := run'.opt
  refine ⟨w1, st1, env, R1, RE.mono t1, run.bnd.mono fun y w2 st2 H2 t2 R2 run u ru => ?_⟩
  obtain ⟨dy, e0, run'⟩ := run.asD
  subst e0
  obtain ⟨r, e, run2⟩ := run'.opt
  obtain ⟨ks, ds, rfl⟩ : ∃ ks ds, dx = .dct ks ds := by cases dx <;> simp [op2D] at e; exact ⟨_, _, rfl⟩
  simp only [op2D] at e
  obtain ⟨ad, o, kvs, rfl, hd, hz, hk, _, hr⟩ := PV.dct (.inl (RV.mono t2.keep rv))
  rw [Option.bind_eq_some_iff] at e
  obtain ⟨k, ek, e⟩ := e
  rcases look_ok k hk hr with ⟨v', x, g1, g2, g3⟩ | ⟨g1, g2⟩
  · rw [g2] at e
    cases e
    exact ⟨ad, v', rfl, .inl ⟨kvs, k, .inr ⟨o, hd⟩, key_ok ru ek, g1.symm⟩, run2.ret0 R2 _ g3⟩
  · rw [g2] at e
    cases e
theorem din_read (σ : St) (H : Hp) (Q : VK) (q : tE K xc C G W (.op2 .din ea eb) σ H Q) : tDIn (tE K xc C G W ea) (tE K xc C G W eb) σ H Q := by
  obtain ⟨w, st, env, R, RE, run⟩ := q
  refine ⟨w, st, env, R, RE, run.bnd.mono fun x w1 st1 H1 t1 R1 run v rv => ?_⟩
  obtain ⟨dx, e0, run'⟩ := run.asD
  subst e0
  obtain ⟨_, _, run⟩ := run'.opt
  refine ⟨w1, st1, env, R1, RE.mono t1, run.bnd.mono fun y w2 st2 H2 t2 R2 run u ru => ?_⟩
  obtain ⟨dy, e0, run'⟩ := run.asD
  subst e0
  obtain ⟨r, e, run⟩ := run'.opt
  have e : op2D .din dx dy = some r := e
  obtain ⟨ks, ds, rfl⟩ : ∃ ks ds, dy = .dct ks ds := by cases dy <;> simp [op2D] at e; exact ⟨_, _, rfl⟩
  simp only [op2D] at e
  obtain ⟨ad, o, kvs, rfl, hd, hz, hk, _, hr⟩ := PV.dct (.inl ru)
  rw [Option.map_eq_some_iff] at e
  obtain ⟨k, ek, rfl⟩ := e
  have rv2 : RV K (Zm w2 st2) H2 v dx := RV.mono t2.keep rv
  refine ⟨ad, valV kvs k, rfl, .inl ⟨kvs, k, .inr ⟨o, hd⟩, key_ok rv2 ek, rfl⟩, ?_⟩
  have ei : (valV kvs k).isSome = (dlook ks ds k).isSome := by
    rcases look_ok k hk hr with ⟨v', x, g1, g2, g3⟩ | ⟨g1, g2⟩ <;> rw [g1, g2] <;> rfl
  rw [ei]
  exact run.ret0 R2 _ (.bl _)
theorem s_din (O : Okx nm N K xc C G W sc X) (hs : notSet b = true) (pa : PE X a (tE K xc C G W ea)) (pb : PE X b (tE K xc C G W eb)) : PE X (.Compare a [.In] [b] pos) (tE K xc C G W (.op2 .din ea eb)) :=
  PE.imp (pe_cmp (pc_din (by have := O.room.un; omega) pa pb) (marks_not hs)) din_read
theorem s_dinT (O : Okx nm N K xc C G W sc X) (hs : notSet b = true) (pa : PE X a (tE K xc C G W ea)) (pb : PE X b (tE K xc C G W eb)) : PT X (.Compare a [.In] [b] pos) (tT K xc C G W (.op2 .din ea eb)) :=
  PT.imp (pt_cmp (pc_din (by have := O.room.un; omega) pa pb) (marks_not hs)) fun σ H Q q => din_read _ _ _ (tT_tE q)
theorem dnin_read (σ : St) (H : Hp) (Q : VK) (q : tE K xc C G W (.op2 .dnin ea eb) σ H Q) : tDNotIn (tE K xc C G W ea) (tE K xc C G W eb) σ H Q := by
  obtain ⟨w, st, env, R, RE, run⟩ := q
  refine ⟨w, st, env, R, RE, run.bnd.mono fun x w1 st1 H1 t1 R1 run v rv => ?_⟩
  obtain ⟨dx, e0, run'⟩ := run.asD
  subst e0
  obtain ⟨_, _, run⟩ := run'.opt
  refine ⟨w1, st1, env, R1, RE.mono t1, run.bnd.mono fun y w2 st2 H2 t2 R2 run u ru => ?_⟩
  obtain ⟨dy, e0, run'⟩ := run.asD
  subst e0
  obtain ⟨r, e, run⟩ := run'.opt
  have e : op2D .dnin dx dy = some r := e
  obtain ⟨ks, ds, rfl⟩ : ∃ ks ds, dy = .dct ks ds := by cases dy <;> simp [op2D] at e; exact ⟨_, _, rfl⟩
  simp only [op2D] at e
  obtain ⟨ad, o, kvs, rfl, hd, hz, hk, _, hr⟩ := PV.dct (.inl ru)
  rw [Option.map_eq_some_iff] at e
  obtain ⟨k, ek, rfl⟩ := e
  have rv2 : RV K (Zm w2 st2) H2 v dx := RV.mono t2.keep rv
  refine ⟨ad, valV kvs k, rfl, .inl ⟨kvs, k, .inr ⟨o, hd⟩, key_ok rv2 ek, rfl⟩, ?_⟩
  have ei : (valV kvs k).isSome = (dlook ks ds k).isSome := by
    rcases look_ok k hk hr with ⟨v', x, g1, g2, g3⟩ | ⟨g1, g2⟩ <;> rw [g1, g2] <;> rfl
  rw [ei]
  exact run.ret0 R2 _ (.bl _)
theorem s_dnin (O : Okx nm N K xc C G W sc X) (hs : notSet b = true) (pa : PE X a (tE K xc C G W ea)) (pb : PE X b (tE K xc C G W eb)) : PE X (.Compare a [.NotIn] [b] pos) (tE K xc C G W (.op2 .dnin ea eb)) :=
  PE.imp (pe_cmp (pc_dnotin (by have := O.room.un; omega) pa pb) (marks_not hs)) dnin_read
theorem s_dninT (O : Okx nm N K xc C G W sc X) (hs : notSet b = true) (pa : PE X a (tE K xc C G W ea)) (pb : PE X b (tE K xc C G W eb)) : PT X (.Compare a [.NotIn] [b] pos) (tT K xc C G W (.op2 .dnin ea eb)) :=
  PT.imp (pt_cmp (pc_dnotin (by have := O.room.un; omega) pa pb) (marks_not hs)) fun σ H Q q => dnin_read _ _ _ (tT_tE q)
/-! ### dict(pairs) -/
theorem prs_ok {Z : Addr → Prop} {H : Hp} : ∀ {vs : List V} {ps : List D} {ks : List Key} {xs : List D}, RVs K Z H vs ps → prsD ps = some (ks, xs) → ∃ as us, vs = as.map V.ref ∧ us.length = ks.length ∧ ks.all keyOk = true ∧ Paired (fun p kv => SqT K H p [kV kv.1, kv.2]) as (ks.zip us) ∧ RVs K Z H us xs
  | _, [], _, _, .nil, e => by
    simp only [prsD] at e
    cases e
    exact ⟨[], [], rfl, rfl, rfl, .nil, .nil⟩
  | v :: vs, p :: ps, ks, xs, .cons r t, e => by
    cases p with
    | tup ys =>
      rcases ys with _ | ⟨k, _ | ⟨x, _ | ⟨z, ys⟩⟩⟩ <;> (try (simp [prsD] at e; done))
      simp only [prsD] at e
      cases hk : keyD k with
      | none => simp [hk] at e
      | some k' =>
        cases hp : prsD ps with
        | none => simp [hk, hp] at e
        | some q =>
          obtain ⟨ks', xs'⟩ := q
          simp only [hk, hp] at e
          cases e
          obtain ⟨as, us, rfl, h1, h0, h2, h3⟩ := prs_ok t hp
          obtain ⟨a, ws, rfl, h4, h5⟩ := r.tup_
          cases h5 with
          | cons r1 t1 =>
            cases t1 with
            | cons r2 t2 =>
              cases t2
              rename_i v1 v2
              have hko : keyOk k' = true := by
                cases k <;> simp only [keyD] at hk <;> try (cases hk; done)
                · cases hk; rfl
                · cases hk; cases r1 with | str ok => exact ok
              have := key_ok r1 hk
              subst this
              exact ⟨a :: as, v2 :: us, rfl, by simp [h1], by rw [List.all_cons, hko, h0]; rfl, .cons h4 h2, .cons r2 h3⟩
    | _ => simp [prsD] at e
theorem dict_mem : ("dict" : Str) ∈ bltNames := by decide +kernel
theorem s_dictP {p : Pos} (O : Okx nm N K xc C G W sc X) (hg : glB sc "dict" = true) (hs : notStar a = true) (pa : PE X a (tE K xc C G W ea)) : PE X (.Call (.Name "dict" p) [a] [] pos) (tE K xc C G W (.op1 .dictP ea)) := by
  obtain ⟨g1, g2⟩ := O.gl hg
  refine PE.imp (pe_still (pe_callTy (call_dictP O.calm) g1 (O.bl dict_mem) (by decide +kernel) (pa_cons pa pa_nil (star_cons hs)) (by decide +kernel) g2 (star_cons hs) (star_any rfl))) fun σ H Q q => ?_
  obtain ⟨w, st, env, R, RE, run⟩ := q
  refine ⟨w, st, env, R, RE, run.bnd.mono fun x w1 st1 H1 t1 R1 run v rv => ?_⟩
  obtain ⟨dx, e0, run'⟩ := run.asD
  subst e0
  obtain ⟨r, e, run⟩ := run'.opt
  obtain ⟨ps, rfl⟩ : ∃ ps, dx = .lst ps := by cases dx <;> simp [op1D] at e; exact ⟨_, rfl⟩
  simp only [op1D] at e
  cases hp : prsD ps with
  | none => simp [hp] at e
  | some q =>
    obtain ⟨ks, xs⟩ := q
    simp only [hp] at e
    split at e
    · rename_i hn
      cases e
      obtain ⟨ad, vs, rfl, h1, h2⟩ := PV.lst (.inl rv)
      obtain ⟨as, us, rfl, k1, k0, k2, k3⟩ := prs_ok h2 hp
      obtain ⟨z1, z2, z3⟩ := zip_parts ks us k1
      refine ⟨ad, as, ks.zip us, rfl, by rw [O.k]; exact .inl (.inl h1), by rw [O.k]; exact k2, fun p hp => ?_⟩
      rw [merge_nodup ks us [] (by simpa using hn.1) k1, List.nil_append]
      refine ⟨p, _, rfl, upd_same, trivial, fun od => ?_⟩
      rw [upd_upd]
      have t0 := Tr.laid (o := .frz od (.dK (ks.zip us))) R1 hp
      refine run.ret t0 (R1.laid hp) _ (.dct upd_same (Zm.notNew R1 hp) z2 k0 ?_)
      rw [z3]
      exact k3.mono t0.keep
    · cases e
/-- list(..) as a list of the store -/
theorem s_nwI {p : Pos} {es : List Expr} {el : EL} (O : Okx nm N K xc C G W sc X) (hg : glB sc (biN .list) = true) (ha : PA X (a :: es) (tA K xc C G W el)) (hs : notStar a = true) (hss : es.all notStar = true) :
    PE X (.Call (.Name (biN .list) p) (a :: es) [] pos) (tE K xc C G W (.nw (.bi .list el))) := by
  obtain ⟨g1, g2⟩ := O.gl hg
  have main : PE X (.Call (.Name (biN .list) p) (a :: es) [] pos) (tCB (rBI X.K .list) (tA K xc C G W el)) := pe_callTy (callBI O.calm .list) g1 (O.bl (bi_mem .list)) (boot_bi .list) ha (bi_ne .list) g2 (star_cons hs) (star_any hss)
  have ee : ∀ env, evE C G (.nw (.bi .list el)) env = bnd (evA C G el env) fun as => bnd (pks as) fun xs => bnd (opt (biD .list xs)) fun z => thaw (.d z) := fun env => by
    show bnd (bnd (evA C G el env) _) thaw = _
    rw [bnd_assoc]
    congr 1
    funext as
    rw [bnd_assoc]
    congr 1
    funext xs
    rw [bnd_assoc]
    rfl
  refine PE.imp main fun σ H Q q => ?_
  obtain ⟨w, st, env, R, RE, run⟩ := q
  rw [ee] at run
  rw [O.k]
  refine ⟨w, st, env, R, RE, run.bnd.mono fun as w1 st1 H1 t1 R1 run vs rs => ?_⟩
  obtain ⟨ds, pds, run⟩ := pks_ok (f := fun xs => bnd (opt (biD .list xs)) fun z => thaw (.d z)) R1 rs run
  obtain ⟨z, e, run⟩ := run.opt
  cases pds with
  | nil => cases e
  | cons r t => cases t with
    | cons _ _ => simp [biD] at e
    | nil =>
      simp only [biD, Option.map_eq_some_iff] at e
      obtain ⟨xs, e, rfl⟩ := e
      obtain ⟨p, ys, rfl, h1, r2, _⟩ := items_ok r e
      refine ⟨p, ys, rfl, h1, fun l hl => ?_⟩
      have r3 := RAs.of r2
      exact Run.new R1 run hl r3 _ ⟨l, (out_new R1 hl r3).2.2, rfl⟩
/-! ### for k in d -/
theorem wk_K {d : Addr} {o : Obj} {kvs : List (Key × V)} {ks : List Key} {w : Wd} {st : Sto} {H : Hp} (hd : H d = some (.frz o (.dK kvs))) (hz : ¬ Zm w st d) (hk : kvs.map (·.1) = ks) (hs : ks.all keyOk = true) : Wk K (Itk d o kvs) w st H (ks.map dKey) := by
  intro i w' st' H' k R
  obtain ⟨h1, _⟩ := k d _ hd .frz hz
  have hl : (ks.map dKey).length = kvs.length := by rw [List.length_map, ← hk, List.length_map]
  refine ⟨fun x hx => ?_, fun hi => ⟨h1, by omega⟩⟩
  have hi := (List.getElem?_eq_some_iff.mp hx).1
  refine ⟨⟨h1, by omega⟩, fun v H2 y => ?_⟩
  obtain ⟨rfl, kk, vv, e, rfl⟩ := y
  refine ⟨Tr.refl, R, ?_⟩
  rw [List.getElem?_map, ← hk, List.getElem?_map, e] at hx
  simp only [Option.map_some, Option.some.injEq] at hx
  subst hx
  have hm : kk ∈ ks := by rw [← hk]; exact List.mem_map.mpr ⟨_, List.mem_of_getElem? e, rfl⟩
  cases kk with
  | inl i => exact .int i
  | inr z => exact .str (List.all_eq_true.mp hs _ hm)
theorem s_keys {tg : Expr} (O : Okx nm N K xc C G W sc X) (pa : PE X a (tE K xc C G W ea)) : PI X tg a (tI K xc C G W (.keys ea)) := by
  have both : PI X tg a (fun σ H R => iKeys (tE K xc C G W ea) σ H R ∨ iList X.K (tE K xc C G W ea) σ H R) := ⟨fun pins s σ H R I h => h.elim ((pi_keys pa).run pins s σ H R I) ((pi_list pa).run pins s σ H R I)⟩
  refine PI.imp both fun σ H Rr q => ?_
  obtain ⟨w, st, env, R, RE, run⟩ := q
  by_cases hk : ∃ ys s1, evE C G ea env st = some (.ok (.d (.lst ys)), s1)
  · obtain ⟨ys, s1, hk⟩ := hk
    refine .inr ⟨w, st, env, R, RE, run.bnd.tells.mono fun x w1 st1 H1 t1 R1 ⟨hx, run⟩ v rv => ?_⟩
    rw [hk] at hx
    cases hx
    obtain ⟨dx, e0, run'⟩ := run.asD
    cases e0
    obtain ⟨xs, e, q⟩ := run'.opt' R1
    cases ys with
    | cons _ _ => simp [keysD] at e
    | nil =>
      simp only [keysD, Option.some.injEq] at e
      subst e
      obtain ⟨ad, rfl, h, k⟩ := wk_lst rv (ds := []) rfl (fun ys hy => by cases hy)
      rw [O.k]
      exact ⟨ad, rfl, h, q _ k⟩
  · refine .inl ⟨w, st, env, R, RE, run.bnd.tells.mono fun x w1 st1 H1 t1 R1 ⟨hx, run⟩ v rv => ?_⟩
    obtain ⟨dx, e0, run'⟩ := run.asD
    subst e0
    obtain ⟨xs, e, q⟩ := run'.opt' R1
    obtain ⟨ks, ds, rfl⟩ : ∃ ks ds, dx = .dct ks ds := by
      cases dx with
      | dct ks ds => exact ⟨_, _, rfl⟩
      | lst ys => exact absurd ⟨ys, _, hx⟩ hk
      | _ => simp [keysD] at e
    simp only [keysD] at e
    cases e
    obtain ⟨ad, o, kvs, rfl, hd, hz, hk, ho, hr⟩ := PV.dct (.inl rv)
    exact ⟨ad, o, rfl, .inl ⟨kvs, hd, q _ (wk_K hd hz hk ho)⟩⟩
/-! ### len(set(xs)), list(d.values()), d != e -/
theorem len_mem : ("len" : Str) ∈ bltNames := by decide +kernel
theorem set_mem : ("set" : Str) ∈ bltNames := by decide +kernel
theorem list_mem : ("list" : Str) ∈ bltNames := by decide +kernel
theorem s_lset {p p2 q : Pos} (O : Okx nm N K xc C G W sc X) (hg : glB sc "len" = true) (hg2 : glB sc "set" = true) (hs : notStar a = true) (pa : PE X a (tE K xc C G W ea)) :
    PE X (.Call (.Name "len" p) [.Call (.Name "set" p2) [a] [] q] [] pos) (tE K xc C G W (.op1 .lset ea)) := by
  obtain ⟨g1, g2⟩ := O.gl hg
  obtain ⟨k1, k2⟩ := O.gl hg2
  refine PE.imp (pe_lset O.calm (by have := O.room.un; omega) g1 (O.bl len_mem) k1 (O.bl set_mem) pa (star_cons hs)) fun σ H Q q => ?_
  obtain ⟨w, st, env, R, RE, run⟩ := q
  refine ⟨w, st, env, R, RE, run.bnd.mono fun x w1 st1 H1 t1 R1 run v rv => ?_⟩
  obtain ⟨dx, e0, run'⟩ := run.asD
  subst e0
  obtain ⟨r, e, run⟩ := run'.opt
  obtain ⟨xs, rfl⟩ : ∃ xs, dx = .lst xs := by cases dx <;> simp [op1D] at e; exact ⟨_, rfl⟩
  simp only [op1D, Option.bind_eq_some_iff] at e
  obtain ⟨ks, hk, e⟩ := e
  unfold lsetD at e
  split at e
  · rename_i hc
    cases e
    obtain ⟨ad, vs, rfl, h1, h2⟩ := PV.lst (.inl rv)
    exact ⟨ad, vs, ks, rfl, by rw [O.k]; exact .inl (.inl h1), by rw [O.k]; exact h2.nv hk, hc.1, hc.2.1, hc.2.2, run.ret0 R1 _ (.int _)⟩
  · cases e
theorem s_vals {p ap cp : Pos} (O : Okx nm N K xc C G W sc X) (hg : glB sc "list" = true) (hs : notSuper a = true) (hl : ap.endLine = cp.line) (pa : PE X a (tE K xc C G W ea)) :
    PE X (.Call (.Name "list" p) [.Call (.Attribute a "values" ap) [] [] cp] [] pos) (tE K xc C G W (.op1 .vals ea)) := by
  obtain ⟨g1, g2⟩ := O.gl hg
  refine PE.imp (pe_vals O.calm g1 (O.bl list_mem) pa (base_ok hs) (by simp [hl])) fun σ H Q q => ?_
  obtain ⟨w, st, env, R, RE, run⟩ := q
  refine ⟨w, st, env, R, RE, run.bnd.mono fun x w1 st1 H1 t1 R1 run v rv => ?_⟩
  obtain ⟨dx, e0, run'⟩ := run.asD
  subst e0
  obtain ⟨r, e, run⟩ := run'.opt
  obtain ⟨ks, xs, rfl⟩ : ∃ ks xs, dx = .dct ks xs := by cases dx <;> simp [op1D] at e; exact ⟨_, _, rfl⟩
  simp only [op1D, Option.some.injEq] at e
  subst e
  obtain ⟨ad, o, kvs, rfl, hd, hz, hk, _, hr⟩ := PV.dct (.inl rv)
  refine ⟨ad, o, kvs, rfl, hd, fun p hp => ?_⟩
  have t0 := Tr.laid (o := .lst (kvs.map (·.2))) R1 hp
  exact run.ret t0 (R1.laid hp) _ (.lst upd_same (Zm.notNew R1 hp) (hr.mono t0.keep))
theorem sorted_mem : ("sorted" : Str) ∈ bltNames := by decide +kernel
theorem ints_map : ∀ {xs : List D} {ns : List Int}, D.ints xs = some ns → xs = ns.map D.int
  | [], ns, e => by cases e; rfl
  | x :: xs, ns, e => by
    cases x <;> simp only [D.ints, Option.map_eq_some_iff] at e <;> try (cases e; done)
    obtain ⟨ms, h, rfl⟩ := e
    rw [ints_map h]; rfl
/-- sorted(xs), where the ints rise already -/
theorem s_srt {p : Pos} (O : Okx nm N K xc C G W sc X) (hg : glB sc "sorted" = true) (hs : notStar a = true) (pa : PE X a (tE K xc C G W ea)) : PE X (.Call (.Name "sorted" p) [a] [] pos) (tE K xc C G W (.op1 .srt ea)) := by
  obtain ⟨g1, g2⟩ := O.gl hg
  refine PE.imp (pe_callB cr_sorted g1 (O.bl sorted_mem) PyProof.Rows.boot_sorted (pa_cons pa pa_nil (star_cons hs)) (by decide +kernel) g2 (star_cons hs) (star_any rfl)) fun σ H Q q => ?_
  obtain ⟨w, st, env, R, RE, run⟩ := q
  refine ⟨w, st, env, R, RE, run.bnd.mono fun x w1 st1 H1 t1 R1 run v rv => ?_⟩
  obtain ⟨dx, e0, run'⟩ := run.asD
  subst e0
  obtain ⟨r, e, run⟩ := run'.opt
  obtain ⟨xs, rfl⟩ : ∃ xs, dx = .lst xs := by cases dx <;> simp [op1D] at e; exact ⟨_, rfl⟩
  simp only [op1D, Option.bind_eq_some_iff] at e
  obtain ⟨ns, hn, e⟩ := e
  split at e
  · rename_i hc
    cases e
    obtain ⟨ad, vs, rfl, h1, h2⟩ := PV.lst (.inl rv)
    have hv := h2.map_int hn
    subst hv
    refine ⟨ad, ns, rfl, by rw [O.k]; exact .inl (.inl h1), hc.1, fun ns' p pm sd hp => ?_⟩
    have same : ns' = ns := List.Perm.eq_of_pairwise (fun a b _ _ h h' => Int.le_antisymm h h') sd hc.2 pm
    subst same
    have t0 := Tr.laid (o := .lst (ns'.map V.int)) R1 hp
    refine run.ret t0 (R1.laid hp) _ (.lst upd_same (Zm.notNew R1 hp) ?_)
    rw [ints_map hn]
    exact RVs.ints ns'
  · cases e
theorem s_lrg {p p2 q : Pos} (O : Okx nm N K xc C G W sc X) (hg : glB sc "list" = true) (hg2 : glB sc "range" = true) (hs : notStar a = true) (pa : PE X a (tE K xc C G W ea)) :
    PE X (.Call (.Name "list" p) [.Call (.Name "range" p2) [a] [] q] [] pos) (tE K xc C G W (.op1 .lrg ea)) := by
  obtain ⟨g1, g2⟩ := O.gl hg
  obtain ⟨k1, k2⟩ := O.gl hg2
  refine PE.imp (pe_listRg O.calm g1 (O.bl list_mem) (prg_1 k1 (O.bl rng_mem) pa (star_cons hs)) rfl) fun σ H Q q => ?_
  obtain ⟨w, st, env, R, RE, run⟩ := q
  refine ⟨w, st, env, R, RE, run.bnd.mono fun x w1 st1 H1 t1 R1 run v rv => ?_⟩
  obtain ⟨dx, e0, run'⟩ := run.asD
  subst e0
  obtain ⟨r, e, run⟩ := run'.opt
  obtain ⟨n, rfl⟩ : ∃ n, dx = .int n := by cases dx <;> simp [op1D] at e; exact ⟨_, rfl⟩
  simp only [op1D] at e
  split at e
  · rename_i hc
    cases e
    have hv := PV.int (.inl rv)
    subst hv
    refine ⟨n, rfl, .of_le (Int.le_refl _) (by omega) (by decide) hc.1, fun q hq => ?_⟩
    have t0 := Tr.laid (o := .lst (rgV 0 n)) R1 hq
    refine run.ret t0 (R1.laid hq) _ (.lst upd_same (Zm.notNew R1 hq) ?_)
    have e1 : rgV 0 n = ((List.range n.toNat).map fun (i : Nat) => (i : Int)).map V.int := by
      unfold rgV
      rw [Int.sub_zero, List.map_map]
      exact List.map_congr_left fun i _ => by simp
    have e2 : ((List.range n.toNat).map fun (i : Nat) => D.int (i : Int)) = ((List.range n.toNat).map fun (i : Nat) => (i : Int)).map D.int := by
      rw [List.map_map]; rfl
    rw [e1, e2]
    exact RVs.ints _
  · cases e
theorem dne_read (hK : X.K = K) (σ : St) (H : Hp) (Q : VK) (q : tE K xc C G W (.op2 .dne ea eb) σ H Q) : tOp (rDne X.K) (tE K xc C G W ea) (tE K xc C G W eb) σ H Q := by
  obtain ⟨w, st, env, R, RE, run⟩ := q
  refine ⟨w, st, env, R, RE, run.bnd.mono fun x w1 st1 H1 t1 R1 run v rv => ?_⟩
  obtain ⟨dx, e0, run'⟩ := run.asD
  subst e0
  obtain ⟨_, _, run⟩ := run'.opt
  refine ⟨w1, st1, env, R1, RE.mono t1, run.bnd.mono fun y w2 st2 H2 t2 R2 run u ru => ?_⟩
  obtain ⟨dy, e0, run'⟩ := run.asD
  subst e0
  obtain ⟨r, e, runZ⟩ := run'.opt
  have e : op2D .dne dx dy = some r := e
  obtain ⟨ks, ds, ls, es, rfl, rfl⟩ : ∃ ks ds ls es, dx = .dct ks ds ∧ dy = .dct ls es := by cases dx <;> cases dy <;> simp [op2D] at e; exact ⟨_, _, _, _, rfl, rfl⟩
  simp only [op2D] at e
  cases h1 : nksD ds with
  | none => simp [h1] at e
  | some n1 =>
    cases h2 : nksD es with
    | none => simp [h1, h2] at e
    | some n2 =>
      simp only [h1, h2] at e
      split at e
      · rename_i hc
        cases e
        obtain ⟨rfl, nd, rfl, dn⟩ := hc
        obtain ⟨a1, o1, k1, rfl, d1, z1, e1, _, r1⟩ := PV.dct (.inl (RV.mono t2.keep rv))
        obtain ⟨a2, o2, k2, rfl, d2, z2, e2, _, r2⟩ := PV.dct (.inl ru)
        exact ⟨a1, a2, o1, o2, k1, k2, n1, rfl, rfl, d1, d2, by rw [e1, e2], by rw [e1]; exact nd, by rw [hK]; exact r1.nv h1, by rw [hK]; exact r2.nv h2, dn, runZ.ret0 R2 _ (.bl _)⟩
      · cases e
/-! ### what the text must be -/
/-! ### a chain of four; a written table of the top -/
section
open PyProof.Rows
variable {X : Cx} {a b c d : Expr} {ta tb tc td : TE} {pos : Pos}
def tChain3 (r r' r'' : R2) (ta tb tc td : TE) : TE := fun σ H Q => ta σ H fun x H1 => tb σ H1 fun y H2 => r x y H2 fun z H3 => ∃ k, z = .bl k ∧
  (if k = true then tc σ H3 fun w H4 => r' y w H4 fun z2 H5 => ∃ k2, z2 = .bl k2 ∧ (if k2 = true then td σ H5 fun v H6 => r'' w v H6 Q else Q (.bl false) H5) else Q (.bl false) H3)
theorem pe_chain3 {op op' op'' : CmpOp} {r r' r'' : R2} (ho : OpR X (compareOp op) r) (ho' : OpR X (compareOp op') r') (ho'' : OpR X (compareOp op'') r'') (ha : PE X a ta) (hb : PE X b tb) (hc : PE X c tc) (hd : PE X d td)
    (hm : lastMarks [op, op', op''] [b, c, d] = false) : PE X (.Compare a [op, op', op''] [b, c, d] pos) (tChain3 r r' r'' ta tb tc td) := by
  refine ⟨fun pins s σ H Q I h => ?_⟩
  refine Compare_chain (thn (ha.run pins s σ H _ I h) fun v ta ⟨x, Ja, Ka, ma, na⟩ => chain_link (thn (hb.run pins ta σ Ja _ Ka na) fun u tb ⟨y, Jb, Kb, mb, nb⟩ =>
    thn (ho pins tb σ Jb x y v u _ Kb ma mb nb) fun d tc ⟨z, Jc, Kc, mc, k, e, nc⟩ => ?_)) hm
  subst e
  cases mc
  refine wpAny_truthy_bool ?_
  cases k with
  | false => exact ite_ff ⟨.bl false, Jc, Kc, rfl, nc⟩
  | true =>
    refine ite_tt (chain_link (thn (hc.run pins tc σ Jc _ Kc nc) fun w' td ⟨z', Jd, Kd, md, nd⟩ => thn (ho' pins td σ Jd y z' u w' _ Kd mb md nd) fun d te ⟨z2, Je, Ke, me, k2, e2, ne⟩ => ?_))
    subst e2
    cases me
    refine wpAny_truthy_bool ?_
    cases k2 with
    | false => exact ite_ff ⟨.bl false, Je, Ke, rfl, ne⟩
    | true => exact ite_tt (chain_last (thn (hd.run pins te σ Je _ Ke ne) fun w2 tf ⟨z3, Jf, Kf, mf, nf⟩ => ho'' pins tf σ Jf z' z3 w' w2 Q Kf md mf nf))
theorem pt_chain3 {op op' op'' : CmpOp} {r r' r'' : R2} (ho : OpR X (compareOp op) r) (ho' : OpR X (compareOp op') r') (ho'' : OpR X (compareOp op'') r'') (ha : PE X a ta) (hb : PE X b tb) (hc : PE X c tc) (hd : PE X d td)
    (hm : lastMarks [op, op', op''] [b, c, d] = false) : PT X (.Compare a [op, op', op''] [b, c, d] pos) (tTest (tChain3 r r' r'' ta tb tc td)) := by
  refine ⟨fun pins s σ H Q I h => ?_⟩
  refine isTrue_chain (thn (ha.run pins s σ H _ I h) fun v ta ⟨x, Ja, Ka, ma, na⟩ => test_link (thn (hb.run pins ta σ Ja _ Ka na) fun u tb ⟨y, Jb, Kb, mb, nb⟩ =>
    thn (ho pins tb σ Jb x y v u _ Kb ma mb nb) fun d tc ⟨z, Jc, Kc, mc, k, e, nc⟩ => ?_)) hm
  subst e
  cases mc
  refine wpAny_truthy_bool ?_
  cases k with
  | false =>
    obtain ⟨k', e', q'⟩ := nc
    cases e'
    exact ite_ff ⟨Jc, Kc, q'⟩
  | true =>
    refine ite_tt (test_link (thn (hc.run pins tc σ Jc _ Kc nc) fun w' td ⟨z', Jd, Kd, md, nd⟩ => thn (ho' pins td σ Jd y z' u w' _ Kd mb md nd) fun d te ⟨z2, Je, Ke, me, k2, e2, ne⟩ => ?_))
    subst e2
    cases me
    refine wpAny_truthy_bool ?_
    cases k2 with
    | false =>
      obtain ⟨k', e', q'⟩ := ne
      cases e'
      exact ite_ff ⟨Je, Ke, q'⟩
    | true =>
      refine ite_tt (test_last (thn (hd.run pins te σ Je _ Ke ne) fun w2 tf ⟨z3, Jf, Kf, mf, nf⟩ => thn (ho'' pins tf σ Jf z' z3 w' w2 _ Kf md mf nf) fun d' tg ⟨z4, Jg, Kg, mg, k3, e3, ng⟩ => ?_))
      subst e3
      cases mg
      exact wpAny_truthy_bool ⟨Jg, Kg, ng⟩
end
theorem chain3_read {ed : E} {o o' o'' : COp} (hK : X.K = K) (σ : St) (H : Hp) (Q : VK) (q : tE K xc C G W (.chain3 o o' o'' ea eb ec ed) σ H Q) : tChain3 (rC X.K o) (rC X.K o') (rC X.K o'') (tE K xc C G W ea) (tE K xc C G W eb) (tE K xc C G W ec) (tE K xc C G W ed) σ H Q := by
  obtain ⟨w, st, env, R, RE, run⟩ := q
  rw [hK]
  refine ⟨w, st, env, R, RE, run.bnd.mono fun x w1 st1 H1 t1 R1 run v rv => ?_⟩
  refine ⟨w1, st1, env, R1, RE.mono t1, run.bnd.mono fun y w2 st2 H2 t2 R2 run u ru => ?_⟩
  obtain ⟨dx, px, run⟩ := run.pk R2 (rv.mono t2)
  obtain ⟨dy, py, run⟩ := run.pk R2 ru
  obtain ⟨z, e, run⟩ := run.opt
  refine cop_ok px py e ⟨_, rfl, ?_⟩
  cases z with
  | false =>
    rw [if_neg Bool.false_ne_true] at run ⊢
    exact run.ret0 R2 _ (.bl _)
  | true =>
    rw [if_pos rfl] at run ⊢
    refine ⟨w2, st2, env, R2, (RE.mono t1).mono t2, run.bnd.mono fun z w3 st3 H3 t3 R3 run u' ru' => ?_⟩
    obtain ⟨dy, py, run⟩ := run.pk R3 (ru.mono t3)
    obtain ⟨dz, pz, run⟩ := run.pk R3 ru'
    obtain ⟨t, e, run⟩ := run.opt
    refine cop_ok py pz e ⟨_, rfl, ?_⟩
    cases t with
    | false =>
      rw [if_neg Bool.false_ne_true] at run ⊢
      exact run.ret0 R3 _ (.bl _)
    | true =>
      rw [if_pos rfl] at run ⊢
      refine ⟨w3, st3, env, R3, ((RE.mono t1).mono t2).mono t3, run.bnd.mono fun z w4 st4 H4 t4 R4 run u2 ru2 => ?_⟩
      obtain ⟨dz, pz, run⟩ := run.pk R4 (ru'.mono t4)
      obtain ⟨dw, pw, run⟩ := run.pk R4 ru2
      obtain ⟨t, e, run⟩ := run.opt
      exact cop_ok pz pw e (run.ret0 R4 _ (.bl t))
theorem tkD_ok {Z : Addr → Prop} {H : Hp} {v : V} {x : D} {k : NestedKey} (r : RV K Z H v x) (e : tkD x = some k) : ∃ a, v = .ref a ∧ NV K H (.ref a) k ∧ k.depth ≤ 8 := by
  unfold tkD at e
  cases hn : nkD x with
  | none => rw [hn] at e; cases e
  | some k' =>
    rw [hn] at e
    simp only [Option.bind_some] at e
    split at e
    · rename_i hc
      cases e
      have nv := RV.nv r hn
      obtain ⟨ht, hd⟩ := hc
      cases nv <;> simp [isTp] at ht
      rename_i a vs ks q m
      exact ⟨a, rfl, .tup q m, hd⟩
    · cases e
theorem seq_read {ed : E} (hK : X.K = K) (σ : St) (H : Hp) (Q : VK) (q : tE K xc C G W (.seq ea eb ec ed) σ H Q) : tSeq X.K (tE K xc C G W ea) (tE K xc C G W eb) (tE K xc C G W ec) (tE K xc C G W ed) σ H Q := by
  obtain ⟨w, st, env, R, RE, run⟩ := q
  rw [hK]
  refine ⟨w, st, env, R, RE, run.bnd.mono fun x w1 st1 H1 t1 R1 run v rv => ?_⟩
  obtain ⟨dx, e0, run'⟩ := run.asD
  subst e0
  clear run
  refine ⟨w1, st1, env, R1, RE.mono t1, run'.bnd.mono fun y w2 st2 H2 t2 R2 run u ru => ?_⟩
  obtain ⟨dy, e0, run2⟩ := run.asD
  subst e0
  clear run
  obtain ⟨ka, ea', run⟩ := run2.opt
  obtain ⟨kb, eb', run⟩ := run.opt
  have rv2 : RV K (Zm w2 st2) H2 v dx := RV.mono t2.keep rv
  obtain ⟨xa, rfl, n1, d1⟩ := tkD_ok rv2 ea'
  obtain ⟨ya, rfl, n2, d2⟩ := tkD_ok ru eb'
  refine ⟨xa, ka, ya, kb, rfl, rfl, n1, n2, d1, d2, ?_⟩
  refine ⟨w2, st2, env, R2, (RE.mono t1).mono t2, run.bnd.mono fun z w3 st3 H3 t3 R3 run u' ru' => ?_⟩
  obtain ⟨dz, e0, run3⟩ := run.asD
  subst e0
  clear run
  refine ⟨w3, st3, env, R3, ((RE.mono t1).mono t2).mono t3, run3.bnd.mono fun z w4 st4 H4 t4 R4 run u2 ru2 => ?_⟩
  obtain ⟨dw, e0, run4⟩ := run.asD
  subst e0
  clear run
  obtain ⟨t, e, run⟩ := run4.opt
  unfold seqD at e
  rw [ea', eb'] at e
  simp only [Option.bind_some] at e
  cases hc : tkD dz with
  | none => rw [hc] at e; cases e
  | some kc =>
    cases hd : tkD dw with
    | none => rw [hc, hd] at e; cases e
    | some kd =>
      rw [hc, hd] at e
      simp only [Option.bind_some, Option.some.injEq] at e
      subst e
      have k34 := t3.trans t4
      obtain ⟨za, rfl, n3, d3⟩ := tkD_ok (RV.mono t4.keep ru') hc
      obtain ⟨ua, rfl, n4, d4⟩ := tkD_ok ru2 hd
      obtain ⟨xa', e1, n5, _⟩ := tkD_ok (RV.mono k34.keep rv2) ea'
      obtain ⟨ya', e2, n6, _⟩ := tkD_ok (RV.mono k34.keep ru) eb'
      cases e1
      cases e2
      exact ⟨za, kc, ua, kd, rfl, rfl, n3, n4, d3, d4, n5, n6, run.ret0 R4 _ (.bl _)⟩
theorem s_seq {ed : E} {d : Expr} {p1 p2 : Pos} (O : Okx nm N K xc C G W sc X) (ha : PE X a (tE K xc C G W ea)) (hb : PE X b (tE K xc C G W eb)) (hc : PE X c (tE K xc C G W ec)) (hd : PE X d (tE K xc C G W ed)) (na : notStar a = true) (nb : notStar b = true) (nc : notStar c = true) (nd : notStar d = true) (nq : nm.sq = true) :
    PE X (.Compare (.Set [a, b] 0 p1) [.Eq] [.Set [c, d] 0 p2] pos) (tE K xc C G W (.seq ea eb ec ed)) :=
  PE.imp (pe_seq ha hb hc hd (by rw [star_cons na, star_cons nb]; rfl) (by rw [star_cons nc, star_cons nd]; rfl) (O.code nq) (by have := O.room.un; omega)) (seq_read O.k)
theorem s_seqT {ed : E} {d : Expr} {p1 p2 : Pos} (O : Okx nm N K xc C G W sc X) (ha : PE X a (tE K xc C G W ea)) (hb : PE X b (tE K xc C G W eb)) (hc : PE X c (tE K xc C G W ec)) (hd : PE X d (tE K xc C G W ed)) (na : notStar a = true) (nb : notStar b = true) (nc : notStar c = true) (nd : notStar d = true) (nq : nm.sq = true) :
    PT X (.Compare (.Set [a, b] 0 p1) [.Eq] [.Set [c, d] 0 p2] pos) (tT K xc C G W (.seq ea eb ec ed)) :=
  PT.imp (pt_seq ha hb hc hd (by rw [star_cons na, star_cons nb]; rfl) (by rw [star_cons nc, star_cons nd]; rfl) (O.code nq) (by have := O.room.un; omega)) fun σ H Q q => seq_read O.k _ _ _ (tT_tE q)
theorem s_chain3 {ed : E} {d : Expr} (ha : PE X a (tE K xc C G W ea)) (hb : PE X b (tE K xc C G W eb)) (hc : PE X c (tE K xc C G W ec)) (hd : PE X d (tE K xc C G W ed)) (o o' o'' : COp) (O : Okx nm N K xc C G W sc X) (hs : notSet d = true) : PE X (.Compare a [co o, co o', co o''] [b, c, d] pos) (tE K xc C G W (.chain3 o o' o'' ea eb ec ed)) :=
  PE.imp (pe_chain3 (opC O.room o) (opC O.room o') (opC O.room o'') ha hb hc hd (by show behindInMarks _ _ = false; exact marks_not hs)) (chain3_read O.k)
theorem s_chain3T {ed : E} {d : Expr} (ha : PE X a (tE K xc C G W ea)) (hb : PE X b (tE K xc C G W eb)) (hc : PE X c (tE K xc C G W ec)) (hd : PE X d (tE K xc C G W ed)) (o o' o'' : COp) (O : Okx nm N K xc C G W sc X) (hs : notSet d = true) : PT X (.Compare a [co o, co o', co o''] [b, c, d] pos) (tT K xc C G W (.chain3 o o' o'' ea eb ec ed)) :=
  PT.imp (pt_chain3 (opC O.room o) (opC O.room o') (opC O.room o'') ha hb hc hd (by show behindInMarks _ _ = false; exact marks_not hs)) fun σ H Q q => chain3_read O.k _ _ _ (tT_tE q)
section
open PyProof.Rows
def tGg (ks : List Str) (vs : List Int) (tb tc : TE) : TE := fun σ H Q => tb σ H fun y H2 => tc σ H2 fun z H3 => ∃ x, y = .str x ∧ Q (match gLook ks vs x with
  | some i => .int i
  | none => z) H3
theorem pe_gget {X : Cx} {px ap cp : Pos} {b c : Expr} {tb tc : TE} {p : Str × List Str × List Int} (g : GdOk X.w X.K X.mg p) (g1 : Gl X p.1) (g2 : (p.1 == ("__debug__" : Str)) = false) (m : L2.M2 X (.Name p.1 px) "get" ap b c cp) (hb : PE X b tb) (hc : PE X c tc) :
    PE X (.Call (.Attribute (.Name p.1 px) "get" ap) [b, c] [] cp) (tGg p.2.1 p.2.2 tb tc) := by
  obtain ⟨ad, es, n, hm, D, hk⟩ := g.ex
  refine ⟨fun pins s σ H Q I h => ?_⟩
  refine wpAny_Call_method m.base m.few m.line PySem.F.plainAttrs_dict PySem.F.slot_dict_get PySem.F.type_dict_get (thn ((pe_glob (pos := px) g1 hm (v := .ref ad) rfl g2).run pins s σ H (fun x H1 => x = .ref ad ∧ H1 = H) I ⟨rfl, rfl⟩) fun u s1 ⟨x1, H1, I1, rx, ex, eH⟩ => ?_)
  subst ex eH
  obtain rfl : u = Value.ref ad := rx
  refine ⟨kd_type D I1, fun b q => ?_, ?_⟩
  · cases q
    exact ⟨_, I1.kIn _ _ D.at_, rfl⟩
  rw [m.trees]
  refine Calls.callWith_builtin rfl (Calls.evalArgs_plain (Calls.spliced_cons (thn (hb.run pins s1 σ H1 _ I1 h) fun iv s2 ⟨y, H2, I2, ry, q2⟩ =>
    Calls.spliced_cons (thn (hc.run pins s2 σ H2 _ I2 q2) fun fv s3 ⟨z, H3, I3, rz, x, ey, q3⟩ => Calls.spliced_nil ?_))))
  subst ey
  obtain ⟨t, rfl⟩ := ry
  have mo : s3.heap.MapOf (strKind X.prog X.w) ad (fun k => findBy Value.isStrOf es k) := PySem.W.mapOf_K I3.kIn D.at_ D.lit
  refine call_meetsIn PySem.F.slot_dict_get (kd_type D I3) PySem.F.entry_dict_get (PySem.F.args_dict_get_3 _ _ _) (meets_dict_get_default (strKind X.prog X.w) ad (PySem.strKind_is X.prog X.w x t) D.low fv) ⟨_, mo, ?_⟩
  have hx := hk x
  cases hl : gLook p.2.1 p.2.2 x with
  | none =>
    rw [hl] at hx q3
    rw [PySem.W.find_K D.at_ hx]
    exact ⟨z, H3, I3.tok _, rz, q3⟩
  | some i =>
    rw [hl] at hx q3
    obtain ⟨tk, hx⟩ := hx
    rw [PySem.W.find_K D.at_ hx]
    exact ⟨.int i, H3, I3.tok _, ⟨tk, rfl⟩, q3⟩
end
theorem s_gget {x : Str} {px ap cp : Pos} {ks : List Str} {vs : List Int} (O : Okx nm N K xc C G W sc X) (hp : (x, ks, vs) ∈ nm.gd) (hg : glB sc x = true) (hb : notStar b = true) (hc : notStar c = true) (hl : ap.endLine = cp.line) (pb : PE X b (tE K xc C G W eb)) (pc : PE X c (tE K xc C G W ec)) :
    PE X (.Call (.Attribute (.Name x px) "get" ap) [b, c] [] cp) (tE K xc C G W (.gget ks vs eb ec)) := by
  obtain ⟨g1, g2⟩ := O.gl hg
  refine PE.imp (pe_gget (p := (x, ks, vs)) (O.gds _ hp) g1 g2 (mk_M2 rfl hb hc hl) pb pc) fun σ H Q q => ?_
  obtain ⟨w, st, env, R, RE, run⟩ := q
  refine ⟨w, st, env, R, RE, run.bnd.mono fun y w1 st1 H1 t1 R1 run v rv => ?_⟩
  obtain ⟨dy, e0, run'⟩ := run.asD
  subst e0
  refine ⟨w1, st1, env, R1, RE.mono t1, run'.bnd.mono fun z w2 st2 H2 t2 R2 run u ru => ?_⟩
  obtain ⟨dz, e0, run'⟩ := run.asD
  subst e0
  obtain ⟨r, e, runZ⟩ := run'.opt
  obtain ⟨xx, rfl⟩ : ∃ xx, dy = .str xx := by cases dy <;> simp [ggD] at e; exact ⟨_, rfl⟩
  simp only [ggD, Option.some.injEq] at e
  subst e
  have hv : v = .str xx := by
    have rv : RV K _ _ v (.str xx) := rv
    cases rv
    rfl
  refine ⟨xx, hv, run.ret0 R2 _ ?_⟩
  cases gLook ks vs xx with
  | none => exact ru
  | some i => exact .int i
theorem s_dne (O : Okx nm N K xc C G W sc X) (hs : notSet b = true) (pa : PE X a (tE K xc C G W ea)) (pb : PE X b (tE K xc C G W eb)) : PE X (.Compare a [.NotEq] [b] pos) (tE K xc C G W (.op2 .dne ea eb)) :=
  PE.imp (pe_cmpR (op_dne (by have := O.room.un; omega)) pa pb (marks_not hs)) (dne_read O.k)
theorem s_dneT (O : Okx nm N K xc C G W sc X) (hs : notSet b = true) (pa : PE X a (tE K xc C G W ea)) (pb : PE X b (tE K xc C G W eb)) : PT X (.Compare a [.NotEq] [b] pos) (tT K xc C G W (.op2 .dne ea eb)) :=
  PT.imp (pt_cmpR (op_dne (by have := O.room.un; omega)) pa pb (marks_not hs)) fun σ H Q q => dne_read O.k _ _ _ (tT_tE q)
theorem args1_ok {o : OP1} {ast y : Expr} (h : args1 o sc ast = some y) : (o = .dictP ∧ ∃ p pos, ast = .Call (.Name "dict" p) [y] [] pos ∧ glB sc "dict" = true ∧ notStar y = true) ∨
    (o = .lset ∧ ∃ p p2 q pos, ast = .Call (.Name "len" p) [.Call (.Name "set" p2) [y] [] q] [] pos ∧ glB sc "len" = true ∧ glB sc "set" = true ∧ notStar y = true) ∨
    (o = .vals ∧ ∃ p ap cp pos, ast = .Call (.Name "list" p) [.Call (.Attribute y "values" ap) [] [] cp] [] pos ∧ glB sc "list" = true ∧ notSuper y = true ∧ ap.endLine = cp.line) ∨
    (o = .srt ∧ ∃ p pos, ast = .Call (.Name "sorted" p) [y] [] pos ∧ glB sc "sorted" = true ∧ notStar y = true) ∨
    (o = .lrg ∧ ∃ p p2 q pos, ast = .Call (.Name "list" p) [.Call (.Name "range" p2) [y] [] q] [] pos ∧ glB sc "list" = true ∧ glB sc "range" = true ∧ notStar y = true) := by
  unfold args1 at h
  split at h
  · split at h
    · rename_i hc
      cases h
      simp only [Bool.and_eq_true, decide_eq_true_eq] at hc
      obtain ⟨⟨rfl, h1⟩, h2⟩ := hc
      exact .inl ⟨rfl, _, _, rfl, h1, h2⟩
    · cases h
  · split at h
    · rename_i hc
      cases h
      simp only [Bool.and_eq_true, decide_eq_true_eq] at hc
      obtain ⟨⟨⟨⟨rfl, h1⟩, rfl⟩, h2⟩, h3⟩ := hc
      exact .inr (.inl ⟨rfl, _, _, _, _, rfl, h1, h2, h3⟩)
    · cases h
  · split at h
    · rename_i hc
      cases h
      simp only [Bool.and_eq_true, decide_eq_true_eq] at hc
      obtain ⟨⟨⟨⟨rfl, h1⟩, rfl⟩, h2⟩, h3⟩ := hc
      exact .inr (.inr (.inl ⟨rfl, _, _, _, _, rfl, h1, h3, h2⟩))
    · cases h
  · split at h
    · rename_i hc
      cases h
      simp only [Bool.and_eq_true, decide_eq_true_eq] at hc
      obtain ⟨⟨rfl, h1⟩, h2⟩ := hc
      exact .inr (.inr (.inr (.inl ⟨rfl, _, _, rfl, h1, h2⟩)))
    · cases h
  · split at h
    · rename_i hc
      cases h
      simp only [Bool.and_eq_true, decide_eq_true_eq] at hc
      obtain ⟨⟨⟨⟨rfl, h1⟩, rfl⟩, h2⟩, h3⟩ := hc
      exact .inr (.inr (.inr (.inr ⟨rfl, _, _, _, _, rfl, h1, h2, h3⟩)))
    · cases h
  · cases h
theorem args1_call {o : OP1} {ast y : Expr} (h : args1 o sc ast = some y) : ∃ f es ks pos, ast = .Call f es ks pos := by
  rcases args1_ok h with ⟨_, _, _, rfl, _⟩ | ⟨_, _, _, _, _, rfl, _⟩ | ⟨_, _, _, _, _, rfl, _⟩ | ⟨_, _, _, rfl, _⟩ | ⟨_, _, _, _, _, rfl, _⟩ <;> exact ⟨_, _, _, _, rfl⟩
theorem args2_ok {o : OP2} {ast y z : Expr} (h : args2 o sc ast = some (y, z)) : (o = .dix ∧ ∃ pos, ast = .Subscript y z pos ∧ notSlice z = true) ∨ (o = .din ∧ ∃ pos, ast = .Compare y [.In] [z] pos ∧ notSet z = true) ∨ (o = .dnin ∧ ∃ pos, ast = .Compare y [.NotIn] [z] pos ∧ notSet z = true) ∨ (o = .dne ∧ ∃ pos, ast = .Compare y [.NotEq] [z] pos ∧ notSet z = true) := by
  unfold args2 at h
  split at h
  · split at h
    · cases h; exact .inl ⟨rfl, _, rfl, by assumption⟩
    · cases h
  · split at h
    · cases h; exact .inr (.inl ⟨rfl, _, rfl, by assumption⟩)
    · cases h
  · split at h
    · cases h; exact .inr (.inr (.inl ⟨rfl, _, rfl, by assumption⟩))
    · cases h
  · split at h
    · cases h; exact .inr (.inr (.inr ⟨rfl, _, rfl, by assumption⟩))
    · cases h
  · cases h
theorem args3_ok {o : OP3} {ast y z u : Expr} (h : args3 o sc ast = some (y, z, u)) : (o = .get ∧ ∃ ap cp, ast = .Call (.Attribute y "get" ap) [z, u] [] cp ∧ notSuper y = true ∧ notStar z = true ∧ notStar u = true ∧ ap.endLine = cp.line) := by
  cases o
  unfold args3 at h
  split at h
  · split at h
    · rename_i hc
      cases h
      simp only [Bool.and_eq_true, decide_eq_true_eq] at hc
      obtain ⟨⟨⟨⟨rfl, h1⟩, h2⟩, h3⟩, h4⟩ := hc
      exact ⟨rfl, _, _, rfl, h4, h1, h2, h3⟩
    · cases h
  · cases h
theorem s_op1 {o : OP1} {ast y : Expr} (O : Okx nm N K xc C G W sc X) (h : args1 o sc ast = some y) (pa : PE X y (tE K xc C G W ea)) : PE X ast (tE K xc C G W (.op1 o ea)) := by
  rcases args1_ok h with ⟨rfl, p, pos, rfl, h1, h2⟩ | ⟨rfl, p, p2, q, pos, rfl, h1, h2, h3⟩ | ⟨rfl, p, ap, cp, pos, rfl, h1, h2, h3⟩ | ⟨rfl, p, pos, rfl, h1, h2⟩ | ⟨rfl, p, p2, q, pos, rfl, h1, h2, h3⟩
  · exact s_dictP O h1 h2 pa
  · exact s_lset O h1 h2 h3 pa
  · exact s_vals O h1 h2 h3 pa
  · exact s_srt O h1 h2 pa
  · exact s_lrg O h1 h2 h3 pa
theorem s_op2 {o : OP2} {ast y z : Expr} (O : Okx nm N K xc C G W sc X) (h : args2 o sc ast = some (y, z)) (pa : PE X y (tE K xc C G W ea)) (pb : PE X z (tE K xc C G W eb)) : PE X ast (tE K xc C G W (.op2 o ea eb)) := by
  rcases args2_ok h with ⟨rfl, pos, rfl, h1⟩ | ⟨rfl, pos, rfl, h1⟩ | ⟨rfl, pos, rfl, h1⟩ | ⟨rfl, pos, rfl, h1⟩
  · exact s_dix O h1 pa pb
  · exact s_din O h1 pa pb
  · exact s_dnin O h1 pa pb
  · exact s_dne O h1 pa pb
theorem s_op3 {o : OP3} {ast y z u : Expr} (O : Okx nm N K xc C G W sc X) (h : args3 o sc ast = some (y, z, u)) (pa : PE X y (tE K xc C G W ea)) (pb : PE X z (tE K xc C G W eb)) (pc : PE X u (tE K xc C G W ec)) : PE X ast (tE K xc C G W (.op3 o ea eb ec)) := by
  obtain ⟨rfl, ap, cp, rfl, h1, h2, h3, h4⟩ := args3_ok h
  exact s_get O h1 h2 h3 h4 pa pb pc
end
end Sw
/-! Lambdas as values; lists of them put together -/
namespace Sw
open PySem PySem.Spec L2 PyProof.Rows PySem.W LamX
section
variable {K : KX} {w : Wd} {st : Sto} {H H' : Hp}
theorem Zm.lst (R : RS K w st H) {a : Addr} (z : Zm w st a) : ∃ vs, H a = some (.lst vs) := by
  rcases z with z | ⟨k, o, h1, h2, h3⟩
  · exact R.hl a z
  · have ro := R.obj k a o h1 h2
    cases o with
    | dead => exact absurd rfl h3
    | lst as =>
      obtain ⟨_, vs, e, _⟩ := ro
      exact ⟨vs, e⟩
theorem Grow.trans {H H1 H2 : Hp} (a : Grow H H1) (b : Grow H1 H2) : Grow H H2 := ⟨a.1.trans b.1, fun c h => b.2 c (a.2 c h)⟩
theorem Tr.grow (R : RS K w st H) (g : Grow H H') : Tr w st H w st H' := ⟨rfl, List.prefix_refl _, fun a o e n z => ⟨g.1 a o e n, z⟩, fun a ha => by
  obtain ⟨vs, e⟩ := R.hl a ha
  rw [e, g.1 _ _ e nT.lst]⟩
theorem RS.grow (R : RS K w st H) (g : Grow H H') (T : LamX.Tabs K.fx.tb H') : RS K w st H' := by
  refine ⟨R.len, R.nd, R.dis, fun a ha => g.2 a (R.trk a ha), fun a ha => ?_, fun k a o h1 h2 => ?_, T⟩
  · obtain ⟨vs, e⟩ := R.hl a ha
    exact ⟨vs, g.1 _ _ e nT.lst⟩
  · have ro := R.obj k a o h1 h2
    cases o with
    | dead => trivial
    | lst as =>
      obtain ⟨ol, vs, e, r⟩ := ro
      exact ⟨ol, vs, g.1 _ _ e nT.lst, r.mono (Tr.grow R g)⟩
end
section
variable {nm : Nm} {N : List Str} {K : KX} {xc : XC} {C : CL} {G : Nat → Option D} {W : WX} {sc : Scope} {X : Cx}
theorem s_lam {j : Nat} {ps : Arguments} {b : Expr} {scp : Scope} {pos : Pos} (LO : Lo nm K xc C X) (hj : nm.lam j ps b scp = true) : PE X (.Lambda ps b scp pos) (tE K xc C G W (.lam j)) := by
  have good := LO.good j ps b scp hj
  have L := LO.sd j ps b scp good
  refine ⟨fun pins s0 σ H Q I h => ?_⟩
  obtain ⟨w, st, env, R, RE, run⟩ := h
  refine lam_made (E := X.xe) I LO.mak L R.tabs (fun dv H1 g1 d1 f c' H2 s' I2 g2 T2 hf nf hc nc => ?_) fun _ _ h => h
  have g := g1.trans g2
  have t := Tr.grow R g
  have R2 := R.grow g T2
  have zf : ¬ Zm w st f := fun z => by
    obtain ⟨vs, e⟩ := Zm.lst R z
    exact g1.2 f (by rw [e]; simp) nf
  have zc : ¬ Zm w st c' := fun z => by
    obtain ⟨vs, e⟩ := Zm.lst R z
    have e1 := g1.1 _ _ e nT.lst
    rcases nc with nc | nc
    · rw [nc] at e1; cases e1
    · rw [nc] at e1
      unfold LamX.CodeO at e1
      cases e1
  refine ⟨.ref f, H2, I2, rfl, run.ret t R2 _ ⟨f, c', ps, b, scp, dv, rfl, good, hf, zf, hc, zc, ?_⟩⟩
  rcases d1 with ⟨d1, d2, _⟩ | ⟨x, T, d1, d2, d3, d4⟩
  · exact .inl ⟨d1, d2⟩
  · refine .inr ⟨x, T, d1, d2, g2.1 _ _ d4 nT.tup, fun z => ?_⟩
    obtain ⟨vs, e⟩ := Zm.lst R z
    rw [d3] at e
    cases e
theorem s_catl {ea : E} {el : EL} {a : Expr} {xs : List Expr} {p1 pos : Pos} (O : Okx nm N K xc C G W sc X) (ha : PE X a (tE K xc C G W ea)) (hb : PA X xs (tA K xc C G W el)) : PE X (.BinOp a .Add (.List xs p1) pos) (tE K xc C G W (.catl ea el)) := by
  refine PE.imp (pe_op op_cat ha (pe_lst hb)) fun σ H Q q => ?_
  obtain ⟨w, st, env, R, RE, run⟩ := q
  refine ⟨w, st, env, R, RE, run.bnd.mono fun x w1 st1 H1 t1 R1 run v rv => ?_⟩
  refine ⟨w1, st1, env, R1, RE.mono t1, run.bnd.mono fun ys w2 st2 H2 t2 R2 run vs rvs => ?_⟩
  have rv2 := rv.mono t2
  cases x with
  | d x => exact run.fail.elim
  | f k => exact run.fail.elim
  | r k =>
    obtain ⟨ad, e1, rfl⟩ := rv2
    obtain ⟨as, hk, hsz, run⟩ : ∃ as, st2[k]? = some (.lst as) ∧ as.length + ys.length ≤ 1000 ∧ Run K xc (WE W σ) (new (.lst (as ++ ys))) w2 st2 H2 fun a w' st' H' => ∀ v, RA K w' st' H' v a → Q v H' := by
      obtain ⟨r, s2, e, q⟩ := run
      cases hk : st2[k]? with
      | none => simp only [bnd, its, hk] at e; cases e
      | some o =>
        cases o with
        | dead => simp only [bnd, its, hk] at e; cases e
        | lst as =>
          simp only [bnd, its, hk] at e
          split at e
          · rename_i hz
            exact ⟨as, rfl, hz, r, s2, e, q⟩
          · cases e
    obtain ⟨_, vs0, h0, r0⟩ := R2.obj k ad _ e1 hk
    have l1 := rvs.length
    have l2 := r0.length
    refine ⟨by rw [sizeLine_eq]; omega, fun p hp => ?_⟩
    have np : ad ≠ p := ne_of_none h0 hp
    refine ⟨ad, p, vs0, vs, rfl, rfl, by rw [upd_ne np]; exact h0, upd_same, by rw [sizeLine_eq]; omega, fun p2 hp2 => ?_⟩
    have t3 : Tr w2 st2 H2 w2 st2 (upd H2 p (.lst vs)) := Tr.laid R2 hp
    have R3 : RS K w2 st2 (upd H2 p (.lst vs)) := R2.laid hp
    have rr := (r0.append rvs).mono t3
    obtain ⟨r, s2, e, q⟩ := run
    simp only [new] at e
    cases e
    obtain ⟨t4, R4, e4⟩ := out_new R3 hp2 rr
    exact q _ _ (t3.trans t4) R4 _ ⟨p2, e4, rfl⟩
end
end Sw
/-! The checker's word holds: all expressions -/
namespace Sw
open PySem PySem.Spec L2
section
variable {nm : Nm} {N : List Str} {K : KX} {xc : XC} {C : CL} {G : Nat → Option D}
open PyProof.Rows in
theorem pe_revG {X : Cx} {e m : Expr} {te tm : TE} {p3 pos : Pos} (he : PE X e te) (hm : PE X m tm) (one : ∀ σ H Q, Q (.int (-1)) H → tm σ H Q) : PE X (.Subscript e (.Slice none none (some m) p3) pos) (tRevL X.K te) := by
  constructor
  intro pins sA τ HA Q IA h
  have po := po_some hm
  refine Subscript_ (thn (he.run pins sA τ HA _ IA h) ?_)
  rintro w sB ⟨_, HB, IB, rw1, c, ys, rfl, hc, q⟩
  cases rw1
  refine wpAny_Slice (thn (po_none.run pins sB τ HB (fun o G => o = none ∧ G = HB) IB ⟨rfl, rfl⟩) ?_)
  rintro v1 sC ⟨_, HC, IC, k1, rfl, rfl⟩
  refine thn (po_none.run pins sC τ HC (fun o G => o = none ∧ G = HC) IC ⟨rfl, rfl⟩) ?_
  rintro v2 sD ⟨_, HD, ID, k2, rfl, rfl⟩
  refine thn (po.run pins sD τ HD (fun o G => o = some (-1) ∧ G = HD) ID (one _ _ _ ⟨-1, rfl, rfl, rfl⟩)) ?_
  rintro v3 sE ⟨_, HE, IE, k3, rfl, rfl⟩
  have IF : L2.Inv X pins τ HE { sE with heap := sE.heap.push { cls := .type "slice", data := .fields #[v1, v2, v3] } } := IE.kept (t' := sE.toks) fun _ _ z => Heap.get?_push_of_some _ z
  obtain ⟨zs, rz, lz, bz⟩ := IF.list hc
  have len := rz.length
  show wpAny (model X.prog X.w) X.A (subscriptTail e (.Slice none none (some m) p3) (.ref c) (.ref sE.heap.objs.size)) (EP X pins τ Q) X.xe { sE with heap := sE.heap.push { cls := .type "slice", data := .fields #[v1, v2, v3] } }
  refine tail_any (ops := [.ref c, .ref sE.heap.objs.size]) lz.isList.typeIs PySem.slot_list_getitem.lookup ?_ (by with_unfolding_all rfl)
  refine wpAny_getItem_list_slice lz.isList (Heap.IsSliceOf.new _ v1 v2 v3) k1 k2 k3 (by decide) ?_ (by rw [List.size_toArray]; omega)
  rw [PySem.W.krv_pick]
  have IG := IF.laid (t' := sE.toks) (o := .lst ys.reverse) (fun _ _ z => Heap.get?_push_of_some _ z) (Nat.le_refl _) ⟨by rw [List.length_reverse]; exact bz, _, 0, rz.reverse, Heap.get?_push_size _ rfl⟩
  exact ⟨.ref _, _, IG, rfl, q _ (IF.hok.fresh (Nat.le_refl _))⟩
theorem m1_pe {X : Cx} {st : Expr} (h : isM1 st = true) : ∃ ts, PE X st ts ∧ ∀ σ H Q, Q (.int (-1)) H → ts σ H Q := by
  unfold isM1 at h
  split at h
  · have e : _ = (1 : Int) := of_decide_eq_true h
    subst e
    exact ⟨_, pe_un un_neg pe_int, fun σ H Q q => ⟨1, rfl, q⟩⟩
  · rw [Bool.and_eq_true, decide_eq_true_eq, decide_eq_true_eq] at h
    obtain ⟨rfl, rfl⟩ := h
    exact ⟨_, pe_op op_sub pe_int pe_int, fun σ H Q q => ⟨0, 1, rfl, rfl, q⟩⟩
  · cases h
theorem s_rev {W : WX} {sc : Scope} {X : Cx} {a st : Expr} {ea : E} {p pos : Pos} (O : Okx nm N K xc C G W sc X) (ha : PE X a (tE K xc C G W ea)) (h : isM1 st = true) : PE X (.Subscript a (.Slice none none (some st) p) pos) (tE K xc C G W (.rev ea)) := by
  obtain ⟨ts, h1, h2⟩ := m1_pe (X := X) h
  refine PE.imp (pe_revG ha h1 h2) fun σ H Q q => ?_
  obtain ⟨w, st, env, R, RE, run⟩ := q
  rw [O.k]
  refine ⟨w, st, env, R, RE, run.bnd.mono fun x w1 st1 H1 t1 R1 run v rv => ?_⟩
  obtain ⟨dx, px, run⟩ := run.pk R1 rv
  obtain ⟨z, e, run⟩ := run.opt
  cases dx <;> simp only [revD] at e <;> try (cases e; done)
  cases e
  obtain ⟨a, vs, rfl, h1, r⟩ := px.lst
  exact ⟨a, vs, rfl, .inl (.inl h1), fun p hp => run.ret (Tr.laid R1 hp) (R1.laid hp) _ (.lst upd_same (Zm.notNew R1 hp) (r.reverse.mono (Tr.laid R1 hp).keep))⟩
theorem s_var {W : WX} {sc : Scope} {X : Cx} {i : Nat} {x : Str} {pos : Pos} (O : Okx nm N K xc C G W sc X) (h1 : N[i]? = some x) (h2 : visB sc x = true) : PE X (.Name x pos) (tE K xc C G W (.var i)) := by
  obtain ⟨v1, v2, v3⟩ := O.vis h2
  refine PE.imp (pe_var (by rw [O.n]; exact h1) v1 v2 v3) fun σ H Q q => ?_
  obtain ⟨w, st, env, R, RE, run⟩ := q
  obtain ⟨a, e, q⟩ := run.opt' R
  obtain ⟨v, hv, rv⟩ := RE.2 i a e
  exact ⟨v, hv, q v rv⟩
theorem s_glob {W : WX} {sc : Scope} {X : Cx} {j : Nat} {x : Str} {pos : Pos} (O : Okx nm N K xc C G W sc X) (h1 : nm.gl j = some x) (h2 : glB sc x = true) : PE X (.Name x pos) (tE K xc C G W (.glob j)) := by
  obtain ⟨g1, g2⟩ := O.gl h2
  cases hG : G j with
  | none =>
    refine ⟨fun pins s σ H Q I q => ?_⟩
    obtain ⟨w, st, env, R, RE, run⟩ := q
    obtain ⟨r, st', e, _⟩ := run
    simp [evE, hG, opt, bnd, fail] at e
  | some d =>
    obtain ⟨u, v, hm, hr, hv⟩ := O.gls j x d h1 hG
    refine PE.imp (pe_glob g1 hm hr g2) fun σ H Q q => ?_
    obtain ⟨w, st, env, R, RE, run⟩ := q
    obtain ⟨z, e, run⟩ := run.opt
    rw [hG] at e
    cases e
    exact run.ret0 R v (hv _ _)
theorem chkA_star {nm : Nm} {N : List Str} {sc : Scope} : ∀ (el : EL) (es : List Expr), chkA nm N sc el es = true → es.all notStar = true ∧ True
  | .nil, [], _ => ⟨rfl, trivial⟩
  | .nil, _ :: _, h => by simp [chkA] at h
  | .cons e r, [], h => by simp [chkA] at h
  | .cons e r, x :: xs, h => by
    simp only [chkA, Bool.and_eq_true] at h
    exact ⟨by rw [List.all_cons, h.1.2, (chkA_star r xs h.2).1]; rfl, trivial⟩
theorem comp_parts {nm : Nm} {N : List Str} {sc scope : Scope} {elt : E} {t : T} {it : I} {cs : EL} {own : List Nat} {e tg iter : Expr} {ifs : List Expr} {asy : Int} {p : Pos} (h : chkE nm N sc (.comp elt t it cs own) (.ListComp e [⟨tg, iter, ifs, asy⟩] scope p) = true) :
    (asy = 0 ∧ nm.lon (relS scope sc) = false) ∧ chkI nm N sc it iter = true ∧ notSet iter = true ∧ own.all (fun i => decide (i < N.length)) = true ∧ blkC N sc scope (ownP N own) = true ∧ chkT N (ownB scope) t tg = true ∧ (tsl t).all (fun i => own.contains i) = true ∧ chkC nm N (relS scope sc) cs ifs = true ∧ chkE nm N (relS scope sc) elt e = true ∧ (isTup tg || !isEnm it) = true := by
  by_cases h0 : asy = 0
  · subst h0
    simp only [chkE, Bool.and_eq_true] at h
    obtain ⟨⟨⟨⟨⟨⟨⟨⟨h1, h2⟩, h3⟩, h4⟩, h5⟩, h6⟩, h7⟩, h8⟩, h9, h0⟩ := h
    exact ⟨⟨rfl, by simpa using h0⟩, h1, h2, h3, h4, h5, h6, h7, h8, h9⟩
  · exfalso
    unfold chkE at h
    split at h <;> simp_all
theorem kinds_parts {nm : Nm} {N : List Str} {sc : Scope} {ks : List Str} {a : E} {ast : Expr} (h : chkE nm N sc (.kinds ks a) ast = true) :
    ∃ p1 y p2 p3 p4 it scp p, ast = .ListComp (.Call (.Name "_law_kind" p1) [.Name y p2] [] p3) [⟨.Name y p4, it, [], 0⟩] scp p ∧ nm.lon sc = true ∧ ks = nm.ks ∧ chkE nm N sc a it = true ∧ notSet it = true ∧ glB (relS scp sc) "_law_kind" = true ∧ scp.names.lookup y = some .local ∧ y ≠ "__debug__" ∧ y ≠ "__classdict__" ∧
      N.idxOf y < N.length ∧ blkC N sc scp [(y, N.idxOf y)] = true := by
  unfold chkE at h
  split at h
  all_goals first
    | (cases h; done)
    | (rename_i e1 _; cases e1; done)
    | (rename_i e1; cases e1; done)
    | (rename_i e1 _ _; cases e1; done)
    | skip
  have e2 := E.kinds.inj (by assumption)
  obtain ⟨rfl, rfl⟩ := e2
  simp only [Bool.and_eq_true, decide_eq_true_eq] at h
  obtain ⟨h1, rfl, rfl, rfl, h5, h6, h7, h8, h9, h10, h11, h12⟩ := h
  exact ⟨_, _, _, _, _, _, _, _, rfl, h1, rfl, h5, h6, h7, h8, h9, h10, h11, h12⟩
theorem comp2_parts {nm : Nm} {N : List Str} {sc scope : Scope} {elt : E} {t t1 : T} {it it1 : I} {own own1 : List Nat} {e tg iter tg1 iter1 : Expr} {ifs ifs1 : List Expr} {asy asy1 : Int} {p : Pos} (h : chkE nm N sc (.comp2 elt t it t1 it1 own own1) (.ListComp e [⟨tg, iter, ifs, asy⟩, ⟨tg1, iter1, ifs1, asy1⟩] scope p) = true) :
    (asy = 0 ∧ asy1 = 0 ∧ ifs = [] ∧ ifs1 = [] ∧ nm.lon (relS scope sc) = false) ∧ chkI nm N sc it iter = true ∧ notSet iter = true ∧ own.all (fun i => decide (i < N.length)) = true ∧ blkC N sc scope (ownP N own) = true ∧ chkT N (ownB scope) t tg = true ∧ (tsl t).all (fun i => own.contains i) = true ∧
      chkI nm N (relS scope sc) it1 iter1 = true ∧ notSet iter1 = true ∧ chkT N (ownB scope) t1 tg1 = true ∧ (tsl t1).all (fun i => own1.contains i) = true ∧ chkE nm N (relS scope sc) elt e = true ∧ own1.all (fun i => own.contains i) = true ∧ (isTup tg || !isEnm it) = true ∧ (isTup tg1 || !isEnm it1) = true := by
  by_cases h0 : asy = 0 ∧ asy1 = 0 ∧ ifs = [] ∧ ifs1 = []
  · obtain ⟨rfl, rfl, rfl, rfl⟩ := h0
    simp only [chkE, Bool.and_eq_true] at h
    obtain ⟨⟨⟨⟨⟨⟨⟨⟨⟨⟨⟨⟨⟨h1, h2⟩, h3⟩, h4⟩, h5⟩, h6⟩, h7⟩, h8⟩, h9⟩, h10⟩, h11⟩, h12⟩, h13, h0⟩, h14⟩ := h
    exact ⟨⟨rfl, rfl, rfl, rfl, by simpa using h0⟩, h1, h2, h3, h4, h5, h6, h7, h8, h9, h10, h11, h12, h13, h14⟩
  · exfalso
    unfold chkE at h
    split at h <;> simp_all
theorem lit_run {W : WX} {sc : Scope} {X : Cx} {ast : Expr} {e : E} {v : V} {d : D} (h : PE X ast (tC v)) (he : ∀ env, evE C G e env = ret (.d d)) (hv : ∀ Z H, RV K Z H v d) : PE X ast (tE K xc C G W e) := by
  refine PE.imp h fun σ H Q q => ?_
  obtain ⟨w, st, env, R, RE, run⟩ := q
  rw [he] at run
  exact run.ret0 R v (hv _ _)
mutual
theorem sndE : ∀ (e : E) {W : WX} {sc : Scope} {X : Cx} {ast : Expr}, Okx nm N K xc C G W sc X → chkE nm N sc e ast = true → PE X ast (tE K xc C G W e) ∧ PT X ast (tT K xc C G W e)
  | .var i, W, sc, X, ast, O, h => by
    cases ast <;> (try simp only [chkE] at h) <;> (try (cases h; done))
    rw [Bool.and_eq_true, decide_eq_true_eq] at h
    have := s_var (pos := ‹Pos›) O h.1 h.2
    exact ⟨this, pt_of this⟩
  | .int i, W, sc, X, ast, O, h => by
    cases ast <;> (try simp only [chkE] at h) <;> (try (cases h; done))
    rename_i c k p
    cases c <;> (try simp only [chkE] at h) <;> (try (cases h; done))
    rw [decide_eq_true_eq] at h
    subst h
    have : PE X (.Constant (.int i) k p) (tE K xc C G W (.int i)) := lit_run (sc := sc) pe_int (fun _ => rfl) fun _ _ => .int i
    exact ⟨this, pt_of this⟩
  | .bl i, W, sc, X, ast, O, h => by
    cases ast <;> (try simp only [chkE] at h) <;> (try (cases h; done))
    rename_i c k p
    cases c <;> (try simp only [chkE] at h) <;> (try (cases h; done))
    rw [decide_eq_true_eq] at h
    subst h
    have : PE X (.Constant (.bool i) k p) (tE K xc C G W (.bl i)) := lit_run (sc := sc) pe_bl (fun _ => rfl) fun _ _ => .bl i
    exact ⟨this, pt_of this⟩
  | .str i, W, sc, X, ast, O, h => by
    cases ast <;> (try simp only [chkE] at h) <;> (try (cases h; done))
    rename_i c k p
    cases c <;> (try simp only [chkE] at h) <;> (try (cases h; done))
    rw [Bool.and_eq_true, decide_eq_true_eq] at h
    obtain ⟨rfl, h2⟩ := h
    have : PE X (.Constant (.str i) k p) (tE K xc C G W (.str i)) := lit_run (sc := sc) pe_str (fun _ => rfl) fun _ _ => .str h2
    exact ⟨this, pt_of this⟩
  | .non, W, sc, X, ast, O, h => by
    cases ast <;> (try simp only [chkE] at h) <;> (try (cases h; done))
    rename_i c k p
    cases c <;> (try simp only [chkE] at h) <;> (try (cases h; done))
    have : PE X (.Constant .none k p) (tE K xc C G W .non) := lit_run (sc := sc) pe_non (fun _ => rfl) fun _ _ => .non
    exact ⟨this, pt_of this⟩
  | .glob j, W, sc, X, ast, O, h => by
    cases ast <;> (try simp only [chkE] at h) <;> (try (cases h; done))
    rw [Bool.and_eq_true, decide_eq_true_eq] at h
    have := s_glob (pos := ‹Pos›) O h.1 h.2
    exact ⟨this, pt_of this⟩
  | .tup es, W, sc, X, ast, O, h => by
    cases ast <;> (try simp only [chkE] at h) <;> (try (cases h; done))
    rw [Bool.and_eq_true, decide_eq_true_eq] at h
    have := s_tup (k := ‹Nat›) (pos := ‹Pos›) (sndL es O h.1) h.2 (lenL h.1)
    exact ⟨this, pt_of this⟩
  | .lst es, W, sc, X, ast, O, h => by
    cases ast <;> (try simp only [chkE] at h) <;> (try (cases h; done))
    rw [Bool.and_eq_true, decide_eq_true_eq] at h
    have := s_lst (pos := ‹Pos›) (sndL es O h.1) h.2 (lenL h.1)
    exact ⟨this, pt_of this⟩
  | .newl es, W, sc, X, ast, O, h => by
    cases ast <;> (try simp only [chkE] at h) <;> (try (cases h; done))
    rw [Bool.and_eq_true, decide_eq_true_eq] at h
    have := s_newl (pos := ‹Pos›) (sndA es O h.1) h.2 (lenA h.1)
    exact ⟨this, pt_of this⟩
  | .bin o a b, W, sc, X, ast, O, h => by
    cases ast <;> (try simp only [chkE] at h) <;> (try (cases h; done))
    rw [Bool.and_eq_true, Bool.and_eq_true, decide_eq_true_eq] at h
    obtain ⟨⟨rfl, h1⟩, h2⟩ := h
    have := s_bin (pos := ‹Pos›) (sndE a O h1).1 (sndE b O h2).1 o O
    exact ⟨this, pt_of this⟩
  | .neg a, W, sc, X, ast, O, h => by
    cases ast <;> (try simp only [chkE] at h) <;> (try (cases h; done))
    rename_i op _ _
    cases op <;> (try simp only [chkE] at h) <;> (try (cases h; done))
    have := s_neg (pos := ‹Pos›) (sndE a O h).1
    exact ⟨this, pt_of this⟩
  | .cmp o a b, W, sc, X, ast, O, h => by
    cases ast <;> (try simp only [chkE] at h) <;> (try (cases h; done))
    rename_i l ops cs p
    rcases ops with _ | ⟨op, _ | ⟨op2, ops⟩⟩ <;> rcases cs with _ | ⟨r, _ | ⟨r2, cs⟩⟩ <;> (try simp only [chkE] at h) <;> (try (cases h; done))
    rw [Bool.and_eq_true, Bool.and_eq_true, Bool.and_eq_true, decide_eq_true_eq] at h
    obtain ⟨⟨⟨rfl, h1⟩, h2⟩, h3⟩ := h
    exact ⟨s_cmp (sndE a O h1).1 (sndE b O h2).1 o O h3, s_cmpT (sndE a O h1).1 (sndE b O h2).1 o O h3⟩
  | .chain o1 o2 a b c, W, sc, X, ast, O, h => by
    cases ast <;> (try simp only [chkE] at h) <;> (try (cases h; done))
    rename_i l ops cs p
    rcases ops with _ | ⟨op, _ | ⟨op2, _ | ⟨op3, ops⟩⟩⟩ <;> rcases cs with _ | ⟨r, _ | ⟨r2, _ | ⟨r3, cs⟩⟩⟩ <;> (try simp only [chkE] at h) <;> (try (cases h; done))
    simp only [Bool.and_eq_true, decide_eq_true_eq] at h
    obtain ⟨⟨⟨⟨⟨rfl, rfl⟩, h1⟩, h2⟩, h3⟩, h4⟩ := h
    exact ⟨s_chain (sndE a O h1).1 (sndE b O h2).1 (sndE c O h3).1 o1 o2 O h4, s_chainT (sndE a O h1).1 (sndE b O h2).1 (sndE c O h3).1 o1 o2 O h4⟩
  | .chain3 o1 o2 o3 a b c d, W, sc, X, ast, O, h => by
    cases ast <;> (try simp only [chkE] at h) <;> (try (cases h; done))
    rename_i l ops cs p
    rcases ops with _ | ⟨op, _ | ⟨op2, _ | ⟨op3, _ | ⟨op4, ops⟩⟩⟩⟩ <;> rcases cs with _ | ⟨r, _ | ⟨r2, _ | ⟨r3, _ | ⟨r4, cs⟩⟩⟩⟩ <;> (try simp only [chkE] at h) <;> (try (cases h; done))
    simp only [Bool.and_eq_true, decide_eq_true_eq] at h
    obtain ⟨rfl, rfl, rfl, h1, h2, h3, h4, h5⟩ := h
    exact ⟨s_chain3 (sndE a O h1).1 (sndE b O h2).1 (sndE c O h3).1 (sndE d O h4).1 o1 o2 o3 O h5, s_chain3T (sndE a O h1).1 (sndE b O h2).1 (sndE c O h3).1 (sndE d O h4).1 o1 o2 o3 O h5⟩
  | .seq a b c d, W, sc, X, ast, O, h => by
    cases ast <;> (try simp only [chkE] at h) <;> (try (cases h; done))
    rename_i l ops cs p
    cases l <;> (try simp only [chkE] at h) <;> (try (cases h; done))
    rename_i xs k1 p1
    rcases ops with _ | ⟨op, _ | ⟨op2, ops⟩⟩ <;> rcases cs with _ | ⟨r, _ | ⟨r2, cs⟩⟩ <;> (try simp only [chkE] at h) <;> (try (cases h; done))
    cases op <;> (try simp only [chkE] at h) <;> (try (cases h; done))
    cases r <;> (try simp only [chkE] at h) <;> (try (cases h; done))
    rename_i zs k2 p2
    rcases xs with _ | ⟨x, _ | ⟨y, _ | ⟨x3, xs⟩⟩⟩ <;> rcases zs with _ | ⟨z, _ | ⟨u, _ | ⟨z3, zs⟩⟩⟩ <;> (try simp only [chkE] at h) <;> (try (cases h; done))
    cases k1 <;> cases k2 <;> (try simp only [chkE] at h) <;> (try (cases h; done))
    simp only [Bool.and_eq_true] at h
    obtain ⟨h1, h2, h3, h4, n1, n2, n3, n4, nq⟩ := h
    exact ⟨s_seq O (sndE a O h1).1 (sndE b O h2).1 (sndE c O h3).1 (sndE d O h4).1 n1 n2 n3 n4 nq, s_seqT O (sndE a O h1).1 (sndE b O h2).1 (sndE c O h3).1 (sndE d O h4).1 n1 n2 n3 n4 nq⟩
  | .gget ks vs b c, W, sc, X, ast, O, h => by
    cases ast <;> (try simp only [chkE] at h) <;> (try (cases h; done))
    rename_i f as kw cp
    cases f <;> (try simp only [chkE] at h) <;> (try (cases h; done))
    rename_i ob m ap
    cases ob <;> (try simp only [chkE] at h) <;> (try (cases h; done))
    rename_i x px
    rcases as with _ | ⟨y, _ | ⟨z, _ | ⟨u, as⟩⟩⟩ <;> rcases kw with _ | ⟨k1, kw⟩ <;> (try simp only [chkE] at h) <;> (try (cases h; done))
    simp only [Bool.and_eq_true, decide_eq_true_eq, List.any_eq_true] at h
    obtain ⟨rfl, ⟨p, hp, rfl⟩, h1, h2, h3, h4, h5, h6⟩ := h
    have := s_gget (px := px) O hp h1 h2 h3 h4 (sndE b O h5).1 (sndE c O h6).1
    exact ⟨this, pt_of this⟩
  | .and a b, W, sc, X, ast, O, h => by
    cases ast <;> (try simp only [chkE] at h) <;> (try (cases h; done))
    rename_i op vs p
    cases op <;> rcases vs with _ | ⟨v, _ | ⟨w, _ | ⟨u, r⟩⟩⟩ <;> (try simp only [chkE] at h) <;> (try (cases h; done))
    · rw [Bool.and_eq_true] at h
      obtain ⟨a1, a2⟩ := sndE a O h.1
      obtain ⟨b1, b2⟩ := sndE b O h.2
      exact ⟨s_and a1 (pe_one b1), s_andT a2 (PW.pt (pw_and1 b2))⟩
    · rw [Bool.and_eq_true] at h
      obtain ⟨a1, a2⟩ := sndE a O h.1
      obtain ⟨b1, b2⟩ := sndE b O h.2
      exact ⟨s_and a1 b1, s_andT a2 b2⟩
  | .or a b, W, sc, X, ast, O, h => by
    cases ast <;> (try simp only [chkE] at h) <;> (try (cases h; done))
    rename_i op vs p
    cases op <;> rcases vs with _ | ⟨v, _ | ⟨w, _ | ⟨u, r⟩⟩⟩ <;> (try simp only [chkE] at h) <;> (try (cases h; done))
    · rw [Bool.and_eq_true] at h
      obtain ⟨a1, a2⟩ := sndE a O h.1
      obtain ⟨b1, b2⟩ := sndE b O h.2
      exact ⟨s_or a1 (pe_one b1), s_orT a2 (PW.pt (pw_or1 b2))⟩
    · rw [Bool.and_eq_true] at h
      obtain ⟨a1, a2⟩ := sndE a O h.1
      obtain ⟨b1, b2⟩ := sndE b O h.2
      exact ⟨s_or a1 b1, s_orT a2 b2⟩
  | .not a, W, sc, X, ast, O, h => by
    cases ast <;> (try simp only [chkE] at h) <;> (try (cases h; done))
    rename_i op _ _
    cases op <;> (try simp only [chkE] at h) <;> (try (cases h; done))
    obtain ⟨a1, a2⟩ := sndE a O h
    exact ⟨s_not a1, s_notT a2⟩
  | .ife c a b, W, sc, X, ast, O, h => by
    cases ast <;> (try simp only [chkE] at h) <;> (try (cases h; done))
    rw [Bool.and_eq_true, Bool.and_eq_true] at h
    obtain ⟨c1, c2⟩ := sndE c O h.1.1
    obtain ⟨a1, a2⟩ := sndE a O h.1.2
    obtain ⟨b1, b2⟩ := sndE b O h.2
    exact ⟨s_ife c2 a1 b1, s_ifeT c2 a2 b2⟩
  | .idx a b, W, sc, X, ast, O, h => by
    cases ast <;> (try simp only [chkE] at h) <;> (try (cases h; done))
    rw [Bool.and_eq_true, Bool.and_eq_true] at h
    have := s_idx (pos := ‹Pos›) (sndE a O h.1.1).1 (sndE b O h.1.2).1 O h.2
    exact ⟨this, pt_of this⟩
  | .slc a lo hi, W, sc, X, ast, O, h => by
    cases ast <;> (try simp only [chkE] at h) <;> (try (cases h; done))
    rename_i x i p
    cases i <;> (try simp only [chkE] at h) <;> (try (cases h; done))
    rename_i l hh st p2
    cases st <;> (try simp only [chkE] at h) <;> (try (cases h; done))
    rw [Bool.and_eq_true, Bool.and_eq_true] at h
    have := s_slc (pos := p) (p2 := p2) (sndE a O h.1.1).1 (sndO lo O h.1.2) (sndO hi O h.2) O
    exact ⟨this, pt_of this⟩
  | .rev a, W, sc, X, ast, O, h => by
    cases ast <;> (try simp only [chkE] at h) <;> (try (cases h; done))
    rename_i x i p
    cases i <;> (try simp only [chkE] at h) <;> (try (cases h; done))
    rename_i l hh st p2
    cases l <;> cases hh <;> cases st <;> (try simp only [chkE] at h) <;> (try (cases h; done))
    rw [Bool.and_eq_true] at h
    have := s_rev (pos := p) (p := p2) O (sndE a O h.1).1 h.2
    exact ⟨this, pt_of this⟩
  | .call f es, W, sc, X, ast, O, h => by
    cases ast <;> (try simp only [chkE] at h) <;> (try (cases h; done))
    rename_i fx as ks p
    cases fx <;> (try simp only [chkE] at h) <;> (try (cases h; done))
    rcases as with _ | ⟨a, as⟩ <;> rcases ks with _ | ⟨k, ks⟩ <;> (try simp only [chkE] at h) <;> (try (cases h; done))
    rw [Bool.and_eq_true, Bool.and_eq_true, decide_eq_true_eq] at h
    obtain ⟨n1, n2⟩ := chkA_star es (a :: as) h.2
    rw [List.all_cons, Bool.and_eq_true] at n1
    have := s_call (pos := p) (p := ‹Pos›) O h.1.1 h.1.2 (sndA es O h.2) n1.1 n1.2
    exact ⟨this, pt_of this⟩
  | .bi f es, W, sc, X, ast, O, h => by
    cases ast <;> (try simp only [chkE] at h) <;> (try (cases h; done))
    rename_i fx as ks p
    cases fx <;> (try simp only [chkE] at h) <;> (try (cases h; done))
    rcases as with _ | ⟨a, as⟩ <;> rcases ks with _ | ⟨k, ks⟩ <;> (try simp only [chkE] at h) <;> (try (cases h; done))
    rw [Bool.and_eq_true, Bool.and_eq_true, decide_eq_true_eq] at h
    obtain ⟨⟨rfl, h1⟩, h2⟩ := h
    obtain ⟨n1, n2⟩ := chkA_star es (a :: as) h2
    rw [List.all_cons, Bool.and_eq_true] at n1
    have := s_bi (pos := p) (p := ‹Pos›) O h1 (sndA es O h2) n1.1 n1.2
    exact ⟨this, pt_of this⟩
  | .isi a ts, W, sc, X, ast, O, h => by
    cases ast <;> (try (cases h; done))
    rename_i fx as ks p
    cases fx <;> (try (cases h; done))
    rename_i x px
    rcases as with _ | ⟨v, _ | ⟨t, _ | ⟨u, as⟩⟩⟩ <;> rcases ks with _ | ⟨k, ks⟩ <;> (try (cases h; done)) <;> (try (simp [chkE] at h; done))
    have key : ∀ (t : Expr), (∀ es k p, t ≠ .Tuple es k p) → chkE nm N sc (.isi a ts) (.Call (.Name x px) [v, t] [] p) = (decide (x = "isinstance") && glB sc x && chkE nm N sc a v && notStar v && tysOk sc [t] ts) := by
      intro t ht
      cases t <;> first | rfl | (exact absurd rfl (ht _ _ _))
    by_cases ht : ∃ es k p, t = .Tuple es k p
    · obtain ⟨es, k, p2, rfl⟩ := ht
      simp only [chkE, Bool.and_eq_true, decide_eq_true_eq] at h
      obtain ⟨⟨⟨⟨⟨rfl, h1⟩, h2⟩, h3⟩, h4⟩, h5⟩ := h
      have := s_isiT (pos := p) (p := px) (k := k) (p2 := p2) O h1 (sndE a O h2).1 h3 h4 h5
      exact ⟨this, pt_of this⟩
    · rw [key t fun es k p e => ht ⟨es, k, p, e⟩] at h
      simp only [Bool.and_eq_true, decide_eq_true_eq] at h
      obtain ⟨⟨⟨⟨rfl, h1⟩, h2⟩, h3⟩, h4⟩ := h
      have := s_isi (pos := p) (p := px) O h1 (sndE a O h2).1 h3 h4
      exact ⟨this, pt_of this⟩
  | .lrng it, W, sc, X, ast, O, h => by
    cases ast <;> (try simp only [chkE] at h) <;> (try (cases h; done))
  | .comp elt t it cs own, W, sc, X, ast, O, h => by
    cases ast <;> (try (cases h; done))
    rename_i e gs scope p
    rcases gs with _ | ⟨⟨tg, iter, ifs, asy⟩, _ | ⟨g2, gs⟩⟩ <;> (try (cases h; done)) <;> (try (simp [chkE] at h; done))
    obtain ⟨h0, hp⟩ := comp_parts h
    clear h
    obtain ⟨h0, hlo⟩ := h0
    subst h0
    obtain ⟨h1, h2, h3, h4, h5, h6, h7, h8, h9⟩ := hp
    have := pe_lc (elt := e) (tg := tg) (iter := iter) (ifs := ifs) (scope := scope) (own := ownP N own) (pos := p) O.calm O.nd (sndI it O h1 (tg := tg) h9) (by rw [O.n, O.sc]; exact blkOk_by h4)
      (fun s H c cl fp => s_tgt (O.blk s H scope hlo cl c fp).k (O.blk s H scope hlo cl c fp).n (O.blk s H scope hlo cl c fp).nd (O.blk s H scope hlo cl c fp).calm (TgOk.blk O s H scope cl c fp) h5)
      (fun s H c cl fp => sndC cs (O.blk s H scope hlo cl c fp) h7) (fun s H c cl fp => (sndE elt (O.blk s H scope hlo cl c fp) h8).1) (folded_not h2)
    rw [own_map h3] at this
    have := PE.imp this fun σ H Q q => comp_read (W := W) h6 σ H Q q
    exact ⟨this, pt_of this⟩
  | .comp2 elt t it t1 it1 own own1, W, sc, X, ast, O, h => by
    cases ast <;> (try (cases h; done))
    rename_i e gs scope p
    rcases gs with _ | ⟨⟨tg, iter, ifs, asy⟩, _ | ⟨⟨tg1, iter1, ifs1, asy1⟩, _ | ⟨g3, gs⟩⟩⟩ <;> (try (cases h; done)) <;> (try (simp [chkE] at h; done))
    obtain ⟨h0, hp⟩ := comp2_parts h
    clear h
    obtain ⟨rfl, rfl, rfl, rfl, hlo⟩ := h0
    obtain ⟨h1, h2, h3, h4, h5, h6, h7, h8, h9, h10, h11, h12, h13, h14⟩ := hp
    have := pe_lc2 (elt := e) (tg := tg) (iter := iter) (tg1 := tg1) (iter1 := iter1) (ifs := []) (ifs1 := []) (scope := scope) (own := ownP N own) (vs1 := own1) (pos := p) O.calm O.nd (sndI it O h1 (tg := tg) h13) (by rw [O.n, O.sc]; exact blkOk_by h4)
      (by rw [own_map h3]; exact fun i hi => by simpa using (List.all_eq_true.mp h12) i hi)
      (fun s H c cl fp => s_tgt (O.blk s H scope hlo cl c fp).k (O.blk s H scope hlo cl c fp).n (O.blk s H scope hlo cl c fp).nd (O.blk s H scope hlo cl c fp).calm (TgOk.blk O s H scope cl c fp) h5)
      (fun s H c cl fp => s_tsN (K := K) (xc := xc) (C := C) (G := G)) (fun s H c cl fp => sndI it1 (O.blk s H scope hlo cl c fp) h7 (tg := tg1) h14)
      (fun s H c cl fp => s_tgt (O.blk s H scope hlo cl c fp).k (O.blk s H scope hlo cl c fp).n (O.blk s H scope hlo cl c fp).nd (O.blk s H scope hlo cl c fp).calm (TgOk.blk O s H scope cl c fp) h9)
      (fun s H c cl fp => s_tsN (K := K) (xc := xc) (C := C) (G := G)) (fun s H c cl fp => (sndE elt (O.blk s H scope hlo cl c fp) h11).1) (folded_not h2) (fun env => folded_not h8)
    rw [own_map h3] at this
    have := PE.imp this fun σ H Q q => comp2_read (W := W) h6 h10 h12 σ H Q q
    exact ⟨this, pt_of this⟩
  | .frz a, W, sc, X, ast, O, h => by
    have h : chkE nm N sc a ast = true := by
      unfold chkE at h
      exact h
    have := s_frz (sndE a O h).1
    refine ⟨this, ?_⟩
    refine PT.imp (sndE a O h).2 fun σ H Q q => ?_
    obtain ⟨w, st, env, R, RE, run⟩ := q
    refine ⟨w, st, env, R, RE, run.bnd.mono fun x w1 st1 H1 t1 R1 run => ?_⟩
    cases x with
    | d x => exact run.ret0 R1
    | f k => exact run.fail.elim
    | r k =>
      obtain ⟨r, st', e, q⟩ := run
      simp only [Sw.frz] at e
      cases hk : st1[k]? with
      | none => rw [hk] at e; cases e
      | some o =>
        rw [hk] at e
        cases o with
        | dead => cases e
        | lst as =>
          simp only at e
          cases hd : allD as with
          | none => rw [hd] at e; cases e
          | some xs =>
            rw [hd] at e
            cases e
            have hk2 : w1.io[k]? = some (w1.io[k]'(by rw [R1.len]; exact (List.getElem?_eq_some_iff.mp hk).1)) := List.getElem?_eq_getElem _
            obtain ⟨t, R', rv⟩ := out_frz R1 hk2 hk hd
            obtain ⟨b, e2, _⟩ := q w1 H1 t R'
            cases e2
  | .nw a, W, sc, X, ast, O, h => by
    have h : (isNw a && chkE nm N sc a ast) = true := by
      unfold chkE at h
      exact h
    rw [Bool.and_eq_true] at h
    obtain ⟨hn, h⟩ := h
    cases a with
    | lst es =>
      cases ast <;> (try simp only [chkE] at h) <;> (try (cases h; done))
      rw [Bool.and_eq_true, decide_eq_true_eq] at h
      have := s_nwL (pos := ‹Pos›) (sndL es O h.1) h.2 (lenL h.1)
      exact ⟨this, pt_of this⟩
    | bin o a b =>
      cases o <;> try (cases hn; done)
      cases ast <;> (try simp only [chkE] at h) <;> (try (cases h; done))
      rw [Bool.and_eq_true, Bool.and_eq_true, decide_eq_true_eq] at h
      obtain ⟨⟨rfl, h1⟩, h2⟩ := h
      have := s_nwB (pos := ‹Pos›) (sndE a O h1).1 (sndE b O h2).1 O
      exact ⟨this, pt_of this⟩
    | bi f es =>
      cases f <;> try (cases hn; done)
      cases ast <;> (try simp only [chkE] at h) <;> (try (cases h; done))
      rename_i fx as ks p hx
      cases fx <;> (try simp only [chkE] at h) <;> (try (cases h; done))
      rcases as with _ | ⟨a, as⟩ <;> rcases ks with _ | ⟨k, ks⟩ <;> (try simp only [chkE] at h) <;> (try (cases h; done))
      rw [Bool.and_eq_true, Bool.and_eq_true, decide_eq_true_eq] at h
      obtain ⟨⟨rfl, h1⟩, h2⟩ := h
      obtain ⟨n1, n2⟩ := chkA_star es (a :: as) h2
      rw [List.all_cons, Bool.and_eq_true] at n1
      have := s_nwI (pos := p) (p := ‹Pos›) O h1 (sndA es O h2) n1.1 n1.2
      exact ⟨this, pt_of this⟩
    | comp elt t it cs own =>
      cases ast <;> (try (cases h; done))
      rename_i e gs scope p hx
      rcases gs with _ | ⟨⟨tg, iter, ifs, asy⟩, _ | ⟨g2, gs⟩⟩ <;> (try (cases h; done)) <;> (try (simp [chkE] at h; done))
      obtain ⟨h0, hp⟩ := comp_parts h
      clear h
      obtain ⟨h0, hlo⟩ := h0
      subst h0
      obtain ⟨h1, h2, h3, h4, h5, h6, h7, h8, h9⟩ := hp
      have := pe_lc (elt := e) (tg := tg) (iter := iter) (ifs := ifs) (scope := scope) (own := ownP N own) (pos := p) O.calm O.nd (sndI it O h1 (tg := tg) h9) (by rw [O.n, O.sc]; exact blkOk_by h4)
        (fun s H c cl fp => s_tgt (O.blk s H scope hlo cl c fp).k (O.blk s H scope hlo cl c fp).n (O.blk s H scope hlo cl c fp).nd (O.blk s H scope hlo cl c fp).calm (TgOk.blk O s H scope cl c fp) h5)
        (fun s H c cl fp => sndC cs (O.blk s H scope hlo cl c fp) h7) (fun s H c cl fp => (sndE elt (O.blk s H scope hlo cl c fp) h8).1) (folded_not h2)
      rw [own_map h3] at this
      have := PE.imp this fun σ H Q q => compN_read (W := W) h6 σ H Q q
      exact ⟨this, pt_of this⟩
    | _ => cases hn
  | .nev, W, sc, X, ast, O, h => ⟨s_nev, s_nevT⟩
  | .lam j, W, sc, X, ast, O, h => by
    cases ast <;> (try simp only [chkE] at h) <;> (try (cases h; done))
    rw [Bool.and_eq_true] at h
    have := s_lam (C := C) (G := G) (W := W) (pos := ‹Pos›) (O.lo (by rw [O.sc]; exact h.1)) h.2
    exact ⟨this, pt_of this⟩
  | .catl a es, W, sc, X, ast, O, h => by
    cases ast <;> (try simp only [chkE] at h) <;> (try (cases h; done))
    rename_i l op r p
    cases op <;> (try simp only [chkE] at h) <;> (try (cases h; done))
    cases r <;> (try simp only [chkE] at h) <;> (try (cases h; done))
    rename_i xs p1
    rw [Bool.and_eq_true, Bool.and_eq_true] at h
    have := s_catl (p1 := p1) (pos := p) O (sndE a O h.1.2).1 (sndA es O h.2)
    exact ⟨this, pt_of this⟩
  | .kind ks a, W, sc, X, ast, O, h => by
    cases ast <;> (try simp only [chkE] at h) <;> (try (cases h; done))
    rename_i f as kw p
    cases f <;> (try simp only [chkE] at h) <;> (try (cases h; done))
    rename_i x px
    rcases as with _ | ⟨v, _ | ⟨v2, as⟩⟩ <;> rcases kw with _ | ⟨k, kw⟩ <;> (try simp only [chkE] at h) <;> (try (cases h; done))
    simp only [Bool.and_eq_true, decide_eq_true_eq] at h
    obtain ⟨⟨⟨⟨⟨h1, rfl⟩, h3⟩, rfl⟩, h5⟩, h6⟩ := h
    have := s_kind (p := px) (pos := p) O (O.lo (by rw [O.sc]; exact h1)) h3 (sndE a O h5).1 h6
    exact ⟨this, pt_of this⟩
  | .kinds ks a, W, sc, X, ast, O, h => by
    obtain ⟨p1, y, p2, p3, p4, it, scp, p, rfl, h1, rfl, h5, h6, h7, h8, h9, h10, h11, h12⟩ := kinds_parts h
    have hi : N[N.idxOf y]? = some y := by rw [List.getElem?_eq_getElem h11, List.getElem_idxOf h11]
    have := s_kinds (p1 := p1) (p2 := p2) (p3 := p3) (p4 := p4) (pos := p) O (O.lo (by rw [O.sc]; exact h1)) (sndE a O h5).1 h6 hi h12 h8 h7 (by simpa using h9) (by simpa using h10)
    exact ⟨this, pt_of this⟩
  | .dsp ks es, W, sc, X, ast, O, h => by
    cases ast <;> (try simp only [chkE] at h) <;> (try (cases h; done))
    simp only [Bool.and_eq_true, decide_eq_true_eq] at h
    obtain ⟨⟨⟨⟨⟨h1, h2⟩, h3⟩, h4⟩, h5⟩, h6⟩ := h
    obtain ⟨k1, k2, k3⟩ := dspK_ok (nm := nm) h1
    have := s_dsp (pos := ‹Pos›) (sndP es O h2 h1 h6) k1 k2 h6 h3 h4 h5 (chkL_len es _ h2) k3
    exact ⟨this, pt_of this⟩
  | .op1 o a, W, sc, X, ast, O, h => by
    unfold chkE at h
    split at h
    · rename_i y ha
      have := s_op1 O ha (sndE a O h).1
      obtain ⟨_, _, _, _, rfl⟩ := args1_call ha
      exact ⟨this, pt_of this⟩
    · cases h
  | .op2 o a b, W, sc, X, ast, O, h => by
    unfold chkE at h
    split at h
    · rename_i y z ha
      rw [Bool.and_eq_true] at h
      have := s_op2 O ha (sndE a O h.1).1 (sndE b O h.2).1
      rcases args2_ok ha with ⟨_, pos, rfl, _⟩ | ⟨rfl, pos, rfl, hs⟩ | ⟨rfl, pos, rfl, hs⟩ | ⟨rfl, pos, rfl, hs⟩
      · exact ⟨this, pt_of this⟩
      · exact ⟨this, s_dinT O hs (sndE a O h.1).1 (sndE b O h.2).1⟩
      · exact ⟨this, s_dninT O hs (sndE a O h.1).1 (sndE b O h.2).1⟩
      · exact ⟨this, s_dneT O hs (sndE a O h.1).1 (sndE b O h.2).1⟩
    · cases h
  | .op3 o a b c, W, sc, X, ast, O, h => by
    unfold chkE at h
    split at h
    · rename_i y z u ha
      rw [Bool.and_eq_true, Bool.and_eq_true] at h
      have := s_op3 O ha (sndE a O h.1.1).1 (sndE b O h.1.2).1 (sndE c O h.2).1
      obtain ⟨_, ap, cp, rfl, _⟩ := args3_ok ha
      exact ⟨this, pt_of this⟩
    · cases h
theorem sndP : ∀ (es : EL) {W : WX} {sc : Scope} {X : Cx} {ast : List Expr} {ks : List Key} {keys : List (Option Expr)} {pos : Pos}, Okx nm N K xc C G W sc X → chkL nm N sc es ast = true → dspK ks keys = true → keys.length = ast.length → PPs X pos keys ast (trs K xc C G W ks es)
  | .nil, W, sc, X, ast, ks, keys, pos, O, h, hk, hl => by
    cases ast <;> (try simp only [chkL] at h) <;> (try (cases h; done))
    have : keys = [] := List.length_eq_zero_iff.mp hl
    subst this
    rcases ks with _ | ⟨k, ks⟩
    · exact pps_nil
    · cases k <;> simp [dspK] at hk
  | .cons e r, W, sc, X, ast, ks, keys, pos, O, h, hk, hl => by
    cases ast <;> (try simp only [chkL] at h) <;> (try (cases h; done))
    rw [Bool.and_eq_true, Bool.and_eq_true] at h
    have he := (sndE e O h.1.1).1
    rcases keys with _ | ⟨x, xs⟩
    · simp at hl
    · have hr := fun ks hk => sndP r (pos := pos) (ks := ks) (keys := xs) O h.2 hk (by simpa using hl)
      rcases ks with _ | ⟨k, ks⟩
      · simp [dspK] at hk
      · cases k <;> cases x <;> (try (simp [dspK] at hk; done)) <;> (rename_i c; cases c <;> (try (simp [dspK] at hk; done))) <;> (rename_i c _ _; cases c <;> (try (simp [dspK] at hk; done)))
        · simp only [dspK, Bool.and_eq_true, decide_eq_true_eq] at hk
          obtain ⟨rfl, hk⟩ := hk
          exact pps_cons pe_int he (hr ks hk)
        · simp only [dspK, Bool.and_eq_true, decide_eq_true_eq] at hk
          obtain ⟨⟨rfl, _⟩, hk⟩ := hk
          exact pps_cons pe_str he (hr ks hk)
theorem sndL : ∀ (es : EL) {W : WX} {sc : Scope} {X : Cx} {ast : List Expr}, Okx nm N K xc C G W sc X → chkL nm N sc es ast = true → PA X ast (tL K xc C G W es)
  | .nil, W, sc, X, ast, O, h => by
    cases ast <;> (try simp only [chkL] at h) <;> (try (cases h; done))
    exact s_Lnil
  | .cons e r, W, sc, X, ast, O, h => by
    cases ast <;> (try simp only [chkL] at h) <;> (try (cases h; done))
    rw [Bool.and_eq_true, Bool.and_eq_true] at h
    exact s_Lcons (sndE e O h.1.1).1 (sndL r O h.2) h.1.2
theorem sndA : ∀ (es : EL) {W : WX} {sc : Scope} {X : Cx} {ast : List Expr}, Okx nm N K xc C G W sc X → chkA nm N sc es ast = true → PA X ast (tA K xc C G W es)
  | .nil, W, sc, X, ast, O, h => by
    cases ast <;> (try simp only [chkA] at h) <;> (try (cases h; done))
    exact s_Anil
  | .cons e r, W, sc, X, ast, O, h => by
    cases ast <;> (try simp only [chkA] at h) <;> (try (cases h; done))
    rw [Bool.and_eq_true, Bool.and_eq_true] at h
    exact s_Acons (sndE e O h.1.1).1 (sndA r O h.2) h.1.2
theorem sndO : ∀ (es : EL) {W : WX} {sc : Scope} {X : Cx} {ast : Option Expr}, Okx nm N K xc C G W sc X → chkO nm N sc es ast = true → PO X ast (tO K xc C G W es)
  | .nil, W, sc, X, ast, O, h => by
    cases ast <;> (try simp only [chkO] at h) <;> (try (cases h; done))
    exact s_oN
  | .cons e r, W, sc, X, ast, O, h => by
    cases ast <;> cases r <;> (try simp only [chkO] at h) <;> (try (cases h; done))
    exact s_oS (sndE e O h).1
theorem sndC : ∀ (es : EL) {sc : Scope} {X : Cx} {ast : List Expr}, Okx nm N K xc C G W0 sc X → chkC nm N sc es ast = true → PTs X ast (tTs K xc C G es)
  | .nil, sc, X, ast, O, h => by
    cases ast <;> (try simp only [chkC] at h) <;> (try (cases h; done))
    exact s_tsN
  | .cons e r, sc, X, ast, O, h => by
    rcases ast with _ | ⟨a, _ | ⟨b, ast⟩⟩ <;> cases r <;> (try simp only [chkC] at h) <;> (try (cases h; done))
    exact s_tsC (sndE e O h).2
theorem sndI : ∀ (it : I) {W : WX} {sc : Scope} {X : Cx} {ast tg : Expr}, Okx nm N K xc C G W sc X → chkI nm N sc it ast = true → (isTup tg || !isEnm it) = true → PI X tg ast (tI K xc C G W it)
  | .val a, W, sc, X, ast, tg, O, h, ht => by
    have h : chkE nm N sc a ast = true := by
      unfold chkI at h
      exact h
    exact s_val O (sndE a O h).1
  | .rng1 a, W, sc, X, ast, tg, O, h, ht => by
    cases ast <;> (try (cases h; done))
    rename_i fx as ks p
    cases fx <;> (try (cases h; done))
    rcases as with _ | ⟨v, _ | ⟨t, as⟩⟩ <;> rcases ks with _ | ⟨k, ks⟩ <;> (try (cases h; done)) <;> (try (simp [chkI] at h; done))
    simp only [chkI] at h
    simp only [Bool.and_eq_true, decide_eq_true_eq] at h
    obtain ⟨⟨⟨rfl, h1⟩, h2⟩, h3⟩ := h
    exact s_rng1 O h1 (sndE a O h2).1 h3
  | .rng2 a b, W, sc, X, ast, tg, O, h, ht => by
    cases ast <;> (try (cases h; done))
    rename_i fx as ks p
    cases fx <;> (try (cases h; done))
    rcases as with _ | ⟨v, _ | ⟨t, _ | ⟨u, as⟩⟩⟩ <;> rcases ks with _ | ⟨k, ks⟩ <;> (try (cases h; done)) <;> (try (simp [chkI] at h; done))
    simp only [chkI] at h
    simp only [Bool.and_eq_true, decide_eq_true_eq] at h
    obtain ⟨⟨⟨⟨⟨rfl, h1⟩, h2⟩, h3⟩, h4⟩, h5⟩ := h
    exact s_rng2 O h1 (sndE a O h2).1 h3 (sndE b O h4).1 h5
  | .enm a, W, sc, X, ast, tg, O, h, ht => by
    cases ast <;> (try (cases h; done))
    rename_i fx as ks p
    cases fx <;> (try (cases h; done))
    rcases as with _ | ⟨v, _ | ⟨t, as⟩⟩ <;> rcases ks with _ | ⟨k, ks⟩ <;> (try (cases h; done)) <;> (try (simp [chkI] at h; done))
    simp only [chkI] at h
    simp only [Bool.and_eq_true, decide_eq_true_eq] at h
    obtain ⟨⟨⟨rfl, h1⟩, h2⟩, h3⟩ := h
    have ht : isTup tg = true := by simpa [isEnm] using ht
    cases tg <;> (try (cases ht; done))
    exact s_enm O h1 (sndE a O h2).1 h3
  | .keys a, W, sc, X, ast, tg, O, h, ht => by
    have h : chkE nm N sc a ast = true := by
      unfold chkI at h
      exact h
    exact s_keys O (sndE a O h).1
end
end
end Sw
/-! Statements -/
namespace Sw
open PySem PySem.Spec L2
def isRse : Expr → Option Str
  | .Call (.Name x _) [.Constant (.str _) _ _] [] _ => some x
  | _ => none
theorem isRse_ok {e : Expr} {x : Str} (h : isRse e = some x) : ∃ p m j p2 p3, e = .Call (.Name x p) [.Constant (.str m) j p2] [] p3 := by
  unfold isRse at h
  split at h
  · cases h; exact ⟨_, _, _, _, _, rfl⟩
  · cases h
def isRs1 : Expr → Option (Str × Str)
  | .Call (.Name x _) [.Name y _] [] _ => some (x, y)
  | _ => none
theorem isRs1_ok {e : Expr} {x y : Str} (h : isRs1 e = some (x, y)) : ∃ p p2 p3, e = .Call (.Name x p) [.Name y p2] [] p3 := by
  unfold isRs1 at h
  split at h
  · cases h; exact ⟨_, _, _, rfl⟩
  · cases h
def isCompr : Expr → Bool
  | .ListComp _ _ _ _ => true
  | .SetComp _ _ _ _ => true
  | .DictComp _ _ _ _ _ => true
  | _ => false
def isLc : Expr → Bool
  | .ListComp _ _ _ _ => true
  | _ => false
def isCm : E → Bool
  | .comp _ _ _ _ _ => true
  | .comp2 _ _ _ _ _ _ _ => true
  | .nw (.comp _ _ _ _ _) => true
  | _ => false
/-- a written tuple is stored name by name, the tuple made -/
def noSwap (sc : Scope) : Expr → Expr → Bool
  | .Tuple ts _ _, .Tuple vs _ _ => vs.all (foldedForSure 8) || (ts.any fun t => match t with
      | .Name x _ => decide (sc.names.lookup x ≠ some .local)
      | _ => true) || !(ts.length == 2 || ts.length == 3) || vs.length != ts.length
  | .List _ _, _ => false
  | _, _ => true
section
variable (nm : Nm) (N : List Str)
mutual
def chkS : Scope → S → Stmt → Bool
  | sc, .asg t e, .Assign [tg] v _ => chkT N (locB sc) t tg && chkE nm N sc e v && noSwap sc tg v && (!isCompr v || (isLc v && isCm e))
  | sc, .par i j a b, .Assign [.Tuple [.Name x p, .Name y q] _ _] (.Tuple [u, v] _ _) _ => decide (N[i]? = some x) && decide (N[j]? = some y) && decide (i ≠ j) && decide (x ≠ y) && decide (sc.names.lookup x = some .local) && decide (sc.names.lookup y = some .local) &&
      decide (p.line = q.line) && chkE nm N sc a u && chkE nm N sc b v && notStar u && notStar v && !(foldedForSure 8 u && foldedForSure 8 v) && !(constantsAlone 8 u && constantsAlone 8 v)
  | sc, .seti o ix e, .Assign [.Subscript x j _] v _ => chkE nm N sc o x && chkE nm N sc ix j && chkE nm N sc e v && notSlice j && !isCompr v
  | sc, .aug o i e, .AugAssign (.Name x _) op v _ => decide (N[i]? = some x) && locB sc x && decide (x ≠ "__debug__") && decide (op = bo o) && chkE nm N sc e v
  | sc, .app i e, .Expr (.Call (.Attribute (.Name x _) m ap) [v] [] cp) _ => decide (N[i]? = some x) && visB sc x && decide (m = "append") && chkE nm N sc e v && notStar v && decide (ap.endLine = cp.line)
  | sc, .appf i e, .Expr (.Call (.Attribute (.Name x _) m ap) [v] [] cp) _ => decide (N[i]? = some x) && visB sc x && decide (m = "append") && chkE nm N sc e v && notStar v && decide (ap.endLine = cp.line)
  | sc, .ext i e, .Expr (.Call (.Attribute (.Name x _) m ap) [v] [] cp) _ => decide (N[i]? = some x) && visB sc x && decide (m = "extend") && chkE nm N sc e v && notStar v && decide (ap.endLine = cp.line)
  | sc, .ife c a b, .If t x y _ => chkE nm N sc c t && chkSL sc a x && chkSL sc b y
  | sc, .forr t it b, .For tg iter x [] _ => chkT N (locB sc) t tg && chkI nm N sc it iter && notSet iter && chkSL sc b x && (isTup tg || !isEnm it)
  | sc, .whil c b, .While t x [] _ => chkE nm N sc c t && chkSL sc b x
  | sc, .ret e, .Return (some v) _ => chkE nm N sc e v
  | _, .retN, .Return none _ => true
  | sc, .exp e, .Expr v _ => chkE nm N sc e v && !isCompr v
  | _, .pass, .Pass _ => true
  | _, .brk, .Break _ => true
  | _, .cont, .Continue _ => true
  | _, .nev, _ => true
  | sc, .rse c .nil, .Raise (some e) none _ => (match isRse e with
    | some x => decide (nm.ex c = some x) && glB sc x
    | none => false)
  | sc, .rse c (.cons (.var i) .nil), .Raise (some e) none _ => (match isRs1 e with
    | some (x, y) => decide (nm.exf c = some x) && glB sc x && (decide (N[i]? = some y) && visB sc y)
    | none => false)
  | _, _, _ => false
def chkSL : Scope → SL → List Stmt → Bool
  | _, .nil, [] => true
  | sc, .cons s r, x :: xs => chkS sc s x && chkSL sc r xs
  | _, _, _ => false
end
end
def veB : List Value := [.type "ValueError", .type "Exception", .type "BaseException", .type "object"]
/-- what the context of a def's body gives -/
structure OkS (nm : Nm) (N : List Str) (K : KX) (xc : XC) (C : CL) (G : Nat → Option D) (W : WX) (sco : Scope) (X : Cx) : Prop extends Okx nm N K xc C G W sco X where
  own : PassesOwn (model X.prog X.w) X.A X.env X.xe
  tgt : TgOk X (locB sco)
  kind : sco.kind = .function
  tk : Takes X W
  exs : ∀ c x, nm.ex c = some x → ∃ Ca, X.mg x = some (.ref Ca) ∧ PySem.W.keepIn X.K (.ref Ca) = true ∧ PySem.W.excIn X.K Ca veB "ValueError.__new__" = true ∧ Raises X (.ref Ca) ∧ xc c = some (Ca, [])
  exfs : ∀ c x, nm.exf c = some x → ∃ Ca fI fd fl y k, X.mg x = some (.ref Ca) ∧ OexC X.K Ca ∧ PySem.W.findIn X.K (.ref Ca) "__init__" = some (some (.ref fI)) ∧ PySem.W.typeIn X.K (.ref fI) = some (.type "function") ∧
    FnOk X.prog X.w X.K X.mg X.base (L2.CX X.prog X.w) k fI fd ["self", y] (spI X.K fl) ∧ Binds X.K fd ["self", y] [] ∧ PySem.W.findIn X.K (.ref Ca) fl = some none ∧ Room (k + 1) X.A ∧ xc c = some (Ca, [fl])
/-- exceptions, whatever the slots -/
abbrev WA (W : WX) : XK := fun c d H => ∀ σ, W c d σ H
def outP (K : KX) (D : Ends) (o : Out) (w : Wd) (st : Sto) (H : Hp) : Prop := match o with
  | .nx e => ∀ σ, REnv K w st H σ e → D.nx σ H
  | .bk e => ∀ σ, REnv K w st H σ e → D.bk σ H
  | .ct e => ∀ σ, REnv K w st H σ e → D.ct σ H
  | .rt a => ∀ v, RA K w st H v a → D.rt v H
section
variable (K : KX) (xc : XC) (C : CL) (G : Nat → Option D) (W : WX)
def tS (s : S) : TS := fun D σ H => ∃ w st env, RS K w st H ∧ REnv K w st H σ env ∧ Run K xc (WA W) (evS C G s env) w st H fun o w' st' H' => outP K D o w' st' H'
def tSL (s : SL) : TS := fun D σ H => ∃ w st env, RS K w st H ∧ REnv K w st H σ env ∧ Run K xc (WA W) (evSL C G s env) w st H fun o w' st' H' => outP K D o w' st' H'
end
theorem swaps_not {v : Expr} {t : Option Expr} {l : Nat} {env : PySem.Env} (h : isCompr v = false) : swapsWith v t l env = pure false := by
  cases v <;> first | rfl | cases h
theorem no_swap {sc : Scope} {tg v : Expr} {env : PySem.Env} (hs : env.scope = sc) (h : noSwap sc tg v = true) : swappedStores [tg] v env = pure none := by
  by_cases hh : ∃ ts k p vs k2 p2, tg = .Tuple ts k p ∧ v = .Tuple vs k2 p2
  · obtain ⟨ts, k, p, vs, k2, p2, rfl, rfl⟩ := hh
    simp only [noSwap, Bool.or_eq_true] at h
    unfold swappedStores
    simp only [pure_bind]
    split
    · rfl
    · rename_i hc
      split
      · rfl
      · split
        · rfl
        · rename_i hn
          split
          · rfl
          · rename_i hf
            exfalso
            simp only [Bool.or_eq_true, not_or, Bool.not_eq_true, Bool.not_eq_false', bne_iff_ne, ne_eq, Decidable.not_not] at hc hn hf
            rcases h with ((h | h) | h) | h
            · exact absurd h (by simpa using hf)
            · rw [List.any_eq_true] at h
              obtain ⟨t, ht, hb⟩ := h
              have hl := hn.1
              have hlt : (ts.filterMap fun
                | .Name id pos => if env.kindOf id == some .local && pos.line == (ts.head?.map (·.pos.line)).getD 0 then some id else none
                | _ => none).length < ts.length := by
                clear hl hn hf hc
                generalize ((ts.head?.map (·.pos.line)).getD 0) = line
                induction ts with
                | nil => cases ht
                | cons a r ih =>
                  rw [List.filterMap_cons]
                  rcases List.mem_cons.mp ht with rfl | ht
                  · have hle := List.length_filterMap_le (fun
                      | Expr.Name id pos => if env.kindOf id == some .local && pos.line == line then some id else none
                      | _ => none) r
                    cases t <;> simp only [List.length_cons] <;> try omega
                    rename_i x px
                    have hb : sc.names.lookup x ≠ some .local := by simpa using hb
                    have : (env.kindOf x == some .local) = false := by
                      have e : env.kindOf x = sc.names.lookup x := by rw [← hs]; rfl
                      rw [e]
                      simpa using hb
                    rw [this]
                    simp only [Bool.false_and, Bool.false_eq_true, if_false]
                    omega
                  · have := ih ht
                    split <;> simp only [List.length_cons] <;> omega
              exact absurd (Nat.lt_of_le_of_lt (Nat.le_of_eq hl.symm) hlt) (Nat.lt_irrefl _)
            · simp only [Bool.not_eq_true', Bool.or_eq_false_iff] at h
              simp_all
            · simp_all
  · unfold swappedStores
    cases tg <;> cases v <;> first | rfl | (exact absurd ⟨_, _, _, _, _, _, rfl, rfl⟩ hh) | (simp [noSwap] at h)
theorem par_swap {sc : Scope} {x y : Str} {p q pt pt2 : Pos} {kt k2 : Nat} {u v : Expr} {env : PySem.Env} (hs : env.scope = sc) (hk : sc.kind = .function) (hx : sc.names.lookup x = some .local) (hy : sc.names.lookup y = some .local) (hxy : x ≠ y) (hl : p.line = q.line)
    (su : notStar u = true) (sv : notStar v = true) (hf : (foldedForSure 8 u && foldedForSure 8 v) = false) (hc : (constantsAlone 8 u && constantsAlone 8 v) = false) :
    swappedStores [.Tuple [.Name x p, .Name y q] kt pt] (.Tuple [u, v] k2 pt2) env = pure (some [x, y]) := by
  have kx : env.kindOf x = some .local := by show env.scope.names.lookup x = _; rw [hs]; exact hx
  have ky : env.kindOf y = some .local := by show env.scope.names.lookup y = _; rw [hs]; exact hy
  have hb : env.blockKind = .function := by unfold Env.blockKind; rw [hs, hk]; rfl
  unfold swappedStores
  simp only [pure_bind, List.length_cons, List.length_nil, List.any_cons, List.any_nil, hb, List.filterMap_cons, List.filterMap_nil, kx, ky, List.head?_cons, Option.map_some, Option.getD_some, Expr.pos, hl, List.all_cons, List.all_nil, Bool.and_true, hf, hc]
  simp [List.eraseDups_cons, hxy, Ne.symm hxy]
  intro h
  exfalso
  rcases h with h | h
  · cases u <;> first | (cases h; done) | (cases su; done)
  · cases v <;> first | (cases h; done) | (cases sv; done)
section
variable {nm : Nm} {N : List Str} {K : KX} {xc : XC} {C : CL} {G : Nat → Option D} {W : WX} {sc : Scope} {X : Cx}
theorem wa_we (W : WX) (σ : St) : ∀ c d H, WA W c d H → WE W σ c d H := fun c d H h => h σ
/-! ### stores -/
theorem asg_read {t : T} {e : E} {D : Ends} {σ : St} {H : Hp} (h : tS K xc C G W (.asg t e) D σ H) : tAsg (tE K xc C G W e) (gT K t) D σ H := by
  obtain ⟨w, st, env, R, RE, run⟩ := h
  refine ⟨w, st, env, R, RE, (run.bnd.monoE (wa_we W σ)).mono fun a w1 st1 H1 t1 R1 run v rv => ?_⟩
  obtain ⟨env', ea, run⟩ := run.opt
  exact asg_tgt (RE.mono t1) rv ea fun σ' RE' _ => run.ret0 R1 σ' RE'
theorem s_asg0 {t : T} {e : E} {tg v : Expr} {pos : Pos} (O : OkS nm N K xc C G W sc X) (h1 : chkT N (locB sc) t tg = true) (h2 : PE X v (tE K xc C G W e)) (h3 : noSwap sc tg v = true) (hs : swapsWithSole [tg] v pos.line X.env = pure false) : PS X (.Assign [tg] v pos) (tS K xc C G W (.asg t e)) := by
  have hg := s_tgt O.k O.n O.nd O.calm O.tgt h1
  refine PS.imp (ps_asg h2 hg hs (no_swap O.sc h3) ?_) fun D σ H q => asg_read q
  cases tg <;> first | rfl | (cases t <;> simp [chkT] at h1)
theorem sole_eq {tg v : Expr} {l : Nat} {env : PySem.Env} : swapsWithSole [tg] v l env = swapsWith v (some tg) l env := rfl
/-- name = [..] -/
theorem s_cset {i : Nat} {e : E} {v : Expr} {x : Str} {px pos : Pos} (O : OkS nm N K xc C G W sc X) (hi : X.N[i]? = some x) (hxl : X.env.scope.names.lookup x = some .local) (hsw : swapsWith v (some (.Name x px)) pos.line X.env = pure true)
    (h : chkE nm N sc e v = true) (hl : isLc v = true) (hc : isCm e = true) : PS X (.Assign [.Name x px] v pos) (tAsg (tE K xc C G W e) (gName i)) := by
  have O' := O.toOkx
  cases v <;> try (cases hl; done)
  rename_i el gs scope p
  cases e with
  | comp elt t it cs own =>
    rcases gs with _ | ⟨⟨tg, iter, ifs, asy⟩, _ | ⟨g2, gs⟩⟩ <;> (try (cases h; done)) <;> (try (simp [chkE] at h; done))
    obtain ⟨h0, hp⟩ := comp_parts h
    clear h
    obtain ⟨h0, hlo⟩ := h0
    subst h0
    obtain ⟨h1, h2, h3, h4, h5, h6, h7, h8, h9⟩ := hp
    have := ps_setLc (i := i) (y := x) (py := px) (spos := pos) (elt := el) (tg := tg) (iter := iter) (ifs := ifs) (scope := scope) (own := ownP N own) (pos := p) O.calm O.nd hi hxl hsw (sndI it O' h1 (tg := tg) h9) (by rw [O.n, O.sc]; exact blkOk_by h4)
      (fun s H c cl fp => s_tgt (O'.blk s H scope hlo cl c fp).k (O'.blk s H scope hlo cl c fp).n (O'.blk s H scope hlo cl c fp).nd (O'.blk s H scope hlo cl c fp).calm (TgOk.blk O' s H scope cl c fp) h5)
      (fun s H c cl fp => sndC cs (O'.blk s H scope hlo cl c fp) h7) (fun s H c cl fp => (sndE elt (O'.blk s H scope hlo cl c fp) h8).1) (folded_not h2)
    rw [own_map h3] at this
    exact PS.imp this fun D σ H q => comp_read (W := W) h6 σ H _ q
  | comp2 elt t it t1 it1 own own1 =>
    rcases gs with _ | ⟨⟨tg, iter, ifs, asy⟩, _ | ⟨⟨tg1, iter1, ifs1, asy1⟩, _ | ⟨g3, gs⟩⟩⟩ <;> (try (cases h; done)) <;> (try (simp [chkE] at h; done))
    obtain ⟨h0, hp⟩ := comp2_parts h
    clear h
    obtain ⟨rfl, rfl, rfl, rfl, hlo⟩ := h0
    obtain ⟨h1, h2, h3, h4, h5, h6, h7, h8, h9, h10, h11, h12, h13, h14⟩ := hp
    have := ps_setLc2 (i := i) (y := x) (py := px) (spos := pos) (elt := el) (tg := tg) (iter := iter) (tg1 := tg1) (iter1 := iter1) (ifs := []) (ifs1 := []) (scope := scope) (own := ownP N own) (vs1 := own1) (pos := p) O.calm O.nd hi hxl hsw (sndI it O' h1 (tg := tg) h13) (by rw [O.n, O.sc]; exact blkOk_by h4)
      (by rw [own_map h3]; exact fun i hi => by simpa using (List.all_eq_true.mp h12) i hi)
      (fun s H c cl fp => s_tgt (O'.blk s H scope hlo cl c fp).k (O'.blk s H scope hlo cl c fp).n (O'.blk s H scope hlo cl c fp).nd (O'.blk s H scope hlo cl c fp).calm (TgOk.blk O' s H scope cl c fp) h5)
      (fun s H c cl fp => s_tsN (K := K) (xc := xc) (C := C) (G := G)) (fun s H c cl fp => sndI it1 (O'.blk s H scope hlo cl c fp) h7 (tg := tg1) h14)
      (fun s H c cl fp => s_tgt (O'.blk s H scope hlo cl c fp).k (O'.blk s H scope hlo cl c fp).n (O'.blk s H scope hlo cl c fp).nd (O'.blk s H scope hlo cl c fp).calm (TgOk.blk O' s H scope cl c fp) h9)
      (fun s H c cl fp => s_tsN (K := K) (xc := xc) (C := C) (G := G)) (fun s H c cl fp => (sndE elt (O'.blk s H scope hlo cl c fp) h11).1) (folded_not h2) (fun env => folded_not h8)
    rw [own_map h3] at this
    exact PS.imp this fun D σ H q => comp2_read (W := W) h6 h10 h12 σ H _ q
  | nw a =>
    have h : (isNw a && chkE nm N sc a (.ListComp el gs scope p)) = true := by
      unfold chkE at h
      exact h
    rw [Bool.and_eq_true] at h
    obtain ⟨_, h⟩ := h
    cases a with
    | comp elt t it cs own =>
      rcases gs with _ | ⟨⟨tg, iter, ifs, asy⟩, _ | ⟨g2, gs⟩⟩ <;> (try (cases h; done)) <;> (try (simp [chkE] at h; done))
      obtain ⟨h0, hp⟩ := comp_parts h
      clear h
      obtain ⟨h0, hlo⟩ := h0
      subst h0
      obtain ⟨h1, h2, h3, h4, h5, h6, h7, h8, h9⟩ := hp
      have := ps_setLc (i := i) (y := x) (py := px) (spos := pos) (elt := el) (tg := tg) (iter := iter) (ifs := ifs) (scope := scope) (own := ownP N own) (pos := p) O.calm O.nd hi hxl hsw (sndI it O' h1 (tg := tg) h9) (by rw [O.n, O.sc]; exact blkOk_by h4)
        (fun s H c cl fp => s_tgt (O'.blk s H scope hlo cl c fp).k (O'.blk s H scope hlo cl c fp).n (O'.blk s H scope hlo cl c fp).nd (O'.blk s H scope hlo cl c fp).calm (TgOk.blk O' s H scope cl c fp) h5)
        (fun s H c cl fp => sndC cs (O'.blk s H scope hlo cl c fp) h7) (fun s H c cl fp => (sndE elt (O'.blk s H scope hlo cl c fp) h8).1) (folded_not h2)
      rw [own_map h3] at this
      exact PS.imp this fun D σ H q => compN_read (W := W) h6 σ H _ q
    | _ => cases hc
  | _ => cases hc
theorem s_asg {t : T} {e : E} {tg v : Expr} {pos : Pos} (O : OkS nm N K xc C G W sc X) (h1 : chkT N (locB sc) t tg = true) (h2 : chkE nm N sc e v = true) (h3 : noSwap sc tg v = true) (h4 : (!isCompr v || (isLc v && isCm e)) = true) : PS X (.Assign [tg] v pos) (tS K xc C G W (.asg t e)) := by
  have he := (sndE e O.toOkx h2).1
  by_cases hc : isCompr v = true
  · rw [hc, Bool.not_true, Bool.false_or, Bool.and_eq_true] at h4
    have key : ∀ (b : Bool), swapsWith v (some tg) pos.line X.env = pure b → (b = true → ∃ x px, tg = .Name x px ∧ X.env.scope.names.lookup x = some .local) → PS X (.Assign [tg] v pos) (tS K xc C G W (.asg t e)) := fun b hb hx => by
      cases b with
      | false => exact s_asg0 O h1 he h3 hb
      | true =>
        obtain ⟨x, px, rfl, hxl⟩ := hx rfl
        cases t with
        | tp is => simp [chkT] at h1
        | nm i =>
          simp only [chkT, Bool.and_eq_true, decide_eq_true_eq] at h1
          exact PS.imp (s_cset O (by rw [O.n]; exact h1.1.1) hxl hb h2 h4.1 h4.2) fun D σ H q => asg_read q
    cases v <;> try (cases h4.1; done)
    rename_i el gs scope p
    cases tg <;> try (exact key false rfl (fun z => by cases z))
    rename_i x px
    refine key (X.env.blockKind == .function && X.env.kindOf x == some .local && px.line == p.line && !(scope.names.any fun (n, k) => n == x && (k == .local || k == .cell))) rfl fun hb => ⟨x, px, rfl, ?_⟩
    simp only [Bool.and_eq_true] at hb
    simpa [Env.kindOf] using hb.1.1.2
  · refine s_asg0 O h1 he h3 ?_
    rw [sole_eq]
    exact swaps_not (by simpa using hc)
theorem s_par {i j : Nat} {a b : E} {x y : Str} {p q pt pt2 pos : Pos} {kt k2 : Nat} {u v : Expr} (O : OkS nm N K xc C G W sc X) (hi : N[i]? = some x) (hj : N[j]? = some y) (hij : i ≠ j) (hxy : x ≠ y) (hx : sc.names.lookup x = some .local) (hy : sc.names.lookup y = some .local) (hl : p.line = q.line)
    (ha : PE X u (tE K xc C G W a)) (hb : PE X v (tE K xc C G W b)) (su : notStar u = true) (sv : notStar v = true) (hf : (foldedForSure 8 u && foldedForSure 8 v) = false) (hc : (constantsAlone 8 u && constantsAlone 8 v) = false) :
    PS X (.Assign [.Tuple [.Name x p, .Name y q] kt pt] (.Tuple [u, v] k2 pt2) pos) (tS K xc C G W (.par i j a b)) := by
  refine PS.imp (ps_par O.calm O.nd (by rw [O.n]; exact hi) (by rw [O.n]; exact hj) hij (by rw [O.sc]; exact hx) (by rw [O.sc]; exact hy) (pa_cons ha (pa_cons hb pa_nil (star_cons sv)) (star_cons su)) (par_swap O.sc O.kind hx hy hxy hl su sv hf hc)) fun D σ H q => ?_
  obtain ⟨w, st, env, R, RE, run⟩ := q
  refine ⟨w, st, env, R, RE, (run.bnd.monoE (wa_we W σ)).mono fun x w1 st1 H1 t1 R1 run v rv => ?_⟩
  refine ⟨w1, st1, env, R1, RE.mono t1, (run.bnd.monoE (wa_we W σ)).mono fun y w2 st2 H2 t2 R2 run u ru => ?_⟩
  exact ⟨v, u, rfl, run.ret0 R2 _ (((RE.mono t1).mono t2).put (rv.mono t2) i |>.put ru j)⟩
/-- a change of a list of the store -/
theorem Run.chg {E : XK} {β : Type} {w : Wd} {st : Sto} {H : Hp} {k : Nat} {a : Addr} {f : List A → Option (List A)} {g : Unit → M β} {P : β → Wd → Sto → Hp → Prop} (R : RS K w st H) (ha : w.io[k]? = some a) (run : Run K xc E (Sw.bnd (Sw.chg k f) g) w st H P) :
    ∃ as vs bs, H a = some (.lst vs) ∧ RAs K w st H vs as ∧ old k as ∧ f as = some bs ∧ ∀ us, RAs K w st H us bs → old k bs → Tr w st H w (st.set k (.lst bs)) (upd H a (.lst us)) ∧ RS K w (st.set k (.lst bs)) (upd H a (.lst us)) ∧ Run K xc E (g ()) w (st.set k (.lst bs)) (upd H a (.lst us)) P := by
  have run' := run
  obtain ⟨r, st', e, q⟩ := run'
  simp only [Sw.bnd, Sw.chg] at e
  cases hk : st[k]? with
  | none => rw [hk] at e; cases e
  | some o =>
    rw [hk] at e
    cases o with
    | dead => cases e
    | lst as =>
      simp only at e
      cases hf : f as with
      | none => rw [hf] at e; cases e
      | some bs =>
        rw [hf] at e
        simp only at e
        obtain ⟨ol, vs, h1, h2⟩ := R.obj k a _ ha hk
        refine ⟨as, vs, bs, h1, h2, ol, hf, fun us r2 ol2 => ?_⟩
        obtain ⟨t, R'⟩ := out_chg R ha hk r2 ol2
        refine ⟨t, R', r, st', e, ?_⟩
        cases r with
        | ok b => exact fun w2 H2 t2 R2 => q w2 H2 (t.trans t2) R2
        | error x => exact fun w2 H2 cls dx t2 R2 => q w2 H2 cls dx (t.trans t2) R2
theorem Run.asR {E : XK} {β : Type} {w : Wd} {st : Sto} {H : Hp} {a : A} {f : Nat → M β} {P : β → Wd → Sto → Hp → Prop} (h : Run K xc E (Sw.bnd (Sw.asR a) f) w st H P) : ∃ k, a = .r k ∧ Run K xc E (f k) w st H P := by
  cases a with
  | r k => exact ⟨k, rfl, h⟩
  | _ => exact (Run.fail (α := β) (P := P) h).elim
theorem old_set {k : Nat} {as : List A} {j : Nat} {x : D} (h : old k as) : old k (as.set j (.d x)) := fun i hi => by
  rcases List.mem_or_eq_of_mem_set hi with hi | hi
  · exact h i hi
  · cases hi
theorem old_app {k : Nat} {as bs : List A} (h : old k as) (h' : old k bs) : old k (as ++ bs) := fun i hi => by
  rcases List.mem_append.mp hi with hi | hi
  · exact h i hi
  · exact h' i hi
theorem sub_assign {o i : Expr} {pos : Pos} {env : PySem.Env} (h : notSlice i = true) : ∀ v, assign (.Subscript o i pos) env v =
    (do let a ← holding [v] (eval o env); let k ← holding [v, a] (eval i env); standAt pos; holding [v, a, k] (setItem a k v); release [v, a, k] []) := by
  intro v
  cases i <;> first | rfl | cases h
theorem ixN_eq (n : Nat) (i : Int) : Sw.ixN n i = L2.ixN n i := rfl
theorem s_seti {o ix e : E} {x j v : Expr} {p pos : Pos} (O : OkS nm N K xc C G W sc X) (ho : PE X x (tE K xc C G W o)) (hx : PE X j (tE K xc C G W ix)) (he : PE X v (tE K xc C G W e)) (hs : notSlice j = true) (hc : isCompr v = false) :
    PS X (.Assign [.Subscript x j p] v pos) (tS K xc C G W (.seti o ix e)) := by
  refine PS.imp (ps_asg he (pg_sub ho hx set_list (sub_assign hs)) (by rw [sole_eq]; exact swaps_not hc) (by cases v <;> rfl) rfl) fun D σ H q => ?_
  obtain ⟨w, st, env, R, RE, run⟩ := q
  refine ⟨w, st, env, R, RE, (run.bnd.monoE (wa_we W σ)).mono fun a w1 st1 H1 t1 R1 run v rv => ?_⟩
  obtain ⟨dx, e0, run'⟩ := run.asD
  subst e0
  refine ⟨w1, st1, env, R1, RE.mono t1, (run'.bnd.monoE (wa_we W σ)).mono fun a w2 st2 H2 t2 R2 run ov ro => ?_⟩
  refine ⟨w2, st2, env, R2, (RE.mono t1).mono t2, (run.bnd.monoE (wa_we W σ)).mono fun b w3 st3 H3 t3 R3 run iv ri => ?_⟩
  obtain ⟨k, e0, run'⟩ := run.asR
  subst e0
  clear run
  cases b with
  | r k => exact run'.fail.elim
  | f k => exact run'.fail.elim
  | d b =>
    cases b <;> try (exact run'.fail.elim)
    rename_i jj
    obtain ⟨ad, e1, rfl⟩ := ro.mono t3
    cases ri
    obtain ⟨as, vs, bs, h1, h2, ol, hf, fin⟩ := Run.chg R3 e1 run'
    simp only [Option.map_eq_some_iff] at hf
    obtain ⟨jn, hj, rfl⟩ := hf
    have rv3 := (RA.mono t2 rv).mono t3
    obtain ⟨t, R', run⟩ := fin _ (RAs.set rv3 jn h2) (old_set ol)
    refine ⟨ad, vs, jj, jn, rfl, rfl, h1, by rw [← ixN_eq, h2.length]; exact hj, ?_⟩
    exact run.ret0 R' _ ((((RE.mono t1).mono t2).mono t3).mono t)
/-! ### in place -/
def rA : BOp → R2
  | .add => fun x y H Q => rI0 (fun i j => .int (i + j)) x y H Q ∨ rStr x y H Q
  | .sub => rI0 fun i j => .int (i - j)
  | .mul => rI IntMulOk fun i j => .int (i * j)
  | .fdiv => rI CDivW fun i j => .int (i / j)
  | _ => fun _ _ _ _ => False
theorem opA (o : BOp) : OpR X (inplaceOp (bo o)) (rA o) := by
  cases o with
  | add => exact iop_add.or iop_add_str
  | sub => exact iop_sub
  | mul => exact iop_mulX
  | fdiv => exact iop_fdivX
  | mod => intro pins s σ H x y v u Q I rx ry h; exact h.elim
  | pow => intro pins s σ H x y v u Q I rx ry h; exact h.elim
theorem aop_ok {Z : Addr → Prop} {H : Hp} {o : BOp} {v u : V} {x y z : D} {Q : VK} (rx : RV K Z H v x) (ry : RV K Z H u y) (e : aop o x y = some z) (h : ∀ v, RV K Z H v z → Q v H) : rA o v u H Q := by
  have rx : PV K Z H v x := .inl rx
  have ry : PV K Z H u y := .inl ry
  cases o <;> cases x <;> cases y <;> simp only [aop] at e <;> try (cases e; done)
  · cases e; exact .inl ⟨_, _, rx.int, ry.int, h _ (.int _)⟩
  · split at e
    · cases e
      exact .inr ⟨_, _, rx.str.1, ry.str.1, by rw [sizeLine_eq]; assumption, h _ (.str (strOk_app rx.str.2 ry.str.2))⟩
    · cases e
  · cases e; exact ⟨_, _, rx.int, ry.int, h _ (.int _)⟩
  · split at e
    · rename_i hm
      have hm2 := okMul_ok hm
      cases e; exact ⟨_, _, rx.int, ry.int, hm2, h _ (.int _)⟩
    · cases e
  · split at e
    · rename_i hm
      unfold okDiv at hm
      have hm2 := of_decide_eq_true hm
      cases e; exact ⟨_, _, rx.int, ry.int, hm2, h _ (.int _)⟩
    · cases e
theorem s_aug {o : BOp} {i : Nat} {e : E} {x : Str} {v : Expr} {px pos : Pos} (O : OkS nm N K xc C G W sc X) (hi : N[i]? = some x) (hl : locB sc x = true) (he : PE X v (tE K xc C G W e)) : PS X (.AugAssign (.Name x px) (bo o) v pos) (tS K xc C G W (.aug o i e)) := by
  obtain ⟨l1, l2⟩ := O.tgt x hl
  refine PS.imp (ps_aug O.nd (by rw [O.n]; exact hi) l1 he (ti := rA o) (opA o) l2) fun D σ H q => ?_
  obtain ⟨w, st, env, R, RE, run⟩ := q
  obtain ⟨a, ea, run⟩ := run.opt
  obtain ⟨va, hv, rv⟩ := RE.2 i a ea
  obtain ⟨dx, e0, run'⟩ := run.asD
  subst e0
  refine ⟨va, hv, w, st, env, R, RE, (run'.bnd.monoE (wa_we W σ)).mono fun b w1 st1 H1 t1 R1 run u ru => ?_⟩
  obtain ⟨dy, e0, run'⟩ := run.asD
  subst e0
  obtain ⟨z, e, run⟩ := run'.opt
  exact aop_ok (Z := Zm w1 st1) (RV.mono t1.keep rv) ru e fun v r => run.ret0 R1 _ ((RE.mono t1).put (a := .d z) r i)
theorem few1 {v : Expr} {cp : Pos} {env : PySem.Env} (h : notStar v = true) : ((backTo cp (starEach [v] env)).all (fun x => !x.1) && (backToKw cp (keywordEach [] env)).all (fun x => x.1.isSome) && decide ([v].length + ([] : List Keyword).length + (if ([] : List Keyword).isEmpty then 0 else 1) < 30)) = true := by
  rw [star_cons h]; rfl
theorem base_name {x : Str} {px : Pos} {m : Str} {env : PySem.Env} : attributeBase (.Name x px) m env (eval (.Name x px) env) = eval (.Name x px) env := rfl
theorem Run.lst {E : XK} {β : Type} {w : Wd} {st : Sto} {H : Hp} {k : Nat} {g : Unit → M β} {P : β → Wd → Sto → Hp → Prop} (h : Run K xc E (Sw.bnd (lstAt k) g) w st H P) : (∃ as, st[k]? = some (.lst as)) ∧ Run K xc E (g ()) w st H P := by
  have h' := h
  obtain ⟨r, st', e, q⟩ := h'
  simp only [Sw.bnd, lstAt] at e
  cases hk : st[k]? with
  | none => rw [hk] at e; cases e
  | some o =>
    rw [hk] at e
    cases o with
    | dead => cases e
    | lst as => exact ⟨⟨as, rfl⟩, r, st', e, q⟩
theorem Run.asFn {E : XK} {β : Type} {w : Wd} {st : Sto} {H : Hp} {a : A} {f : Nat → M β} {P : β → Wd → Sto → Hp → Prop} (h : Run K xc E (Sw.bnd (Sw.asFn a) f) w st H P) : ∃ z, a = .f z ∧ Run K xc E (f z) w st H P := by
  cases a with
  | f z => exact ⟨z, rfl, h⟩
  | _ => exact (Run.fail (α := β) (P := P) h).elim
theorem s_app {i : Nat} {e : E} {x : Str} {v : Expr} {px ap cp pos : Pos} (O : OkS nm N K xc C G W sc X) (hi : N[i]? = some x) (hl : visB sc x = true) (he : PE X v (tE K xc C G W e)) (hs : notStar v = true) (hp : ap.endLine = cp.line) :
    PS X (.Expr (.Call (.Attribute (.Name x px) "append" ap) [v] [] cp) pos) (tS K xc C G W (.app i e)) := by
  have hx := s_var (pos := px) O.toOkx hi hl
  refine PS.imp (ps_expr (pe_bm PySem.F.plainAttrs_list PySem.F.slot_list_append PySem.F.type_list_append (fun pins s σ H x xs v us Q I r1 r2 h => mt_append pins s σ H x xs v us Q I r1 r2 h) hx (pa_cons he pa_nil (star_cons hs)) base_name (few1 hs) (by simp [hp]) (star_cons hs) rfl) rfl) fun D σ H q => ?_
  obtain ⟨w, st, env, R, RE, run⟩ := q
  obtain ⟨a, ea, run⟩ := run.opt
  obtain ⟨k, e0, run'⟩ := run.asR
  subst e0
  clear run
  refine ⟨w, st, env, R, RE, .ok (.r k), st, by simp [evE, ea, opt, ret], fun w0 H0 t0 R0 va rva => ?_⟩
  obtain ⟨⟨as0, hk⟩, run⟩ := (Run.ext run' t0).lst
  obtain ⟨ad, e1, rfl⟩ := rva
  obtain ⟨_, vs0, h0, _⟩ := R0.obj k ad _ e1 hk
  refine ⟨.inl ⟨rfl, _, SqL.of h0⟩, ?_⟩
  refine ⟨w0, st, env, R0, RE.mono t0, (run.bnd.monoE (wa_we W σ)).mono fun b w1 st1 H1 t1 R1 run u ru => ?_⟩
  obtain ⟨dy, e0, run'⟩ := run.asD
  subst e0
  clear run
  have e2 := pre_get t1.pre e1
  obtain ⟨as, vs, bs, h1, h2, ol, hf, fin⟩ := Run.chg R1 e2 run'
  split at hf
  · rename_i hlen
    cases hf
    obtain ⟨t, R', run⟩ := fin (vs ++ [u]) (h2.append (.cons ru .nil)) (old_app ol (old_map k [dy]))
    exact ⟨ad, vs, u, rfl, rfl, h1, by rw [h2.length, sizeLine_eq]; exact hlen, run.ret0 R' _ (((RE.mono t0).mono t1).mono t)⟩
  · cases hf
theorem s_appf {i : Nat} {e : E} {x : Str} {v : Expr} {px ap cp pos : Pos} (O : OkS nm N K xc C G W sc X) (hi : N[i]? = some x) (hl : visB sc x = true) (he : PE X v (tE K xc C G W e)) (hs : notStar v = true) (hp : ap.endLine = cp.line) :
    PS X (.Expr (.Call (.Attribute (.Name x px) "append" ap) [v] [] cp) pos) (tS K xc C G W (.appf i e)) := by
  have hx := s_var (pos := px) O.toOkx hi hl
  refine PS.imp (ps_expr (pe_bm PySem.F.plainAttrs_list PySem.F.slot_list_append PySem.F.type_list_append (fun pins s σ H x xs v us Q I r1 r2 h => mt_append pins s σ H x xs v us Q I r1 r2 h) hx (pa_cons he pa_nil (star_cons hs)) base_name (few1 hs) (by simp [hp]) (star_cons hs) rfl) rfl) fun D σ H q => ?_
  obtain ⟨w, st, env, R, RE, run⟩ := q
  obtain ⟨a, ea, run⟩ := run.opt
  obtain ⟨k, e0, run'⟩ := run.asR
  subst e0
  clear run
  refine ⟨w, st, env, R, RE, .ok (.r k), st, by simp [evE, ea, opt, ret], fun w0 H0 t0 R0 va rva => ?_⟩
  obtain ⟨⟨as0, hk⟩, run⟩ := (Run.ext run' t0).lst
  obtain ⟨ad, e1, rfl⟩ := rva
  obtain ⟨_, vs0, h0, _⟩ := R0.obj k ad _ e1 hk
  refine ⟨.inl ⟨rfl, _, SqL.of h0⟩, ?_⟩
  refine ⟨w0, st, env, R0, RE.mono t0, (run.bnd.monoE (wa_we W σ)).mono fun b w1 st1 H1 t1 R1 run u ru => ?_⟩
  obtain ⟨dy, e0, run'⟩ := run.asFn
  subst e0
  clear run
  have e2 := pre_get t1.pre e1
  obtain ⟨as, vs, bs, h1, h2, ol, hf, fin⟩ := Run.chg R1 e2 run'
  split at hf
  · rename_i hlen
    cases hf
    obtain ⟨t, R', run⟩ := fin (vs ++ [u]) (h2.append (.cons ru .nil)) (old_app ol (fun j hj => by simp at hj))
    exact ⟨ad, vs, u, rfl, rfl, h1, by rw [h2.length, sizeLine_eq]; exact hlen, run.ret0 R' _ (((RE.mono t0).mono t1).mono t)⟩
  · cases hf
theorem s_ext {i : Nat} {e : E} {x : Str} {v : Expr} {px ap cp pos : Pos} (O : OkS nm N K xc C G W sc X) (hi : N[i]? = some x) (hl : visB sc x = true) (he : PE X v (tE K xc C G W e)) (hs : notStar v = true) (hp : ap.endLine = cp.line) :
    PS X (.Expr (.Call (.Attribute (.Name x px) "extend" ap) [v] [] cp) pos) (tS K xc C G W (.ext i e)) := by
  have hx := s_var (pos := px) O.toOkx hi hl
  refine PS.imp (ps_expr (pe_bm PySem.F.plainAttrs_list PySem.F.slot_list_extend PySem.F.type_list_extend (fun pins s σ H x xs v us Q I r1 r2 h => mt_extend pins s σ H x xs v us Q I r1 r2 h) hx (pa_cons he pa_nil (star_cons hs)) base_name (few1 hs) (by simp [hp]) (star_cons hs) rfl) rfl) fun D σ H q => ?_
  obtain ⟨w, st, env, R, RE, run⟩ := q
  obtain ⟨a, ea, run⟩ := run.opt
  obtain ⟨k, e0, run'⟩ := run.asR
  subst e0
  clear run
  refine ⟨w, st, env, R, RE, .ok (.r k), st, by simp [evE, ea, opt, ret], fun w0 H0 t0 R0 va rva => ?_⟩
  obtain ⟨⟨as0, hk⟩, run⟩ := (Run.ext run' t0).lst
  obtain ⟨ad, e1, rfl⟩ := rva
  obtain ⟨_, vs0, h0, _⟩ := R0.obj k ad _ e1 hk
  refine ⟨.inl ⟨rfl, _, SqL.of h0⟩, ?_⟩
  refine ⟨w0, st, env, R0, RE.mono t0, (run.bnd.monoE (wa_we W σ)).mono fun b w1 st1 H1 t1 R1 run u ru => ?_⟩
  obtain ⟨dy, e0, run'⟩ := run.asD
  subst e0
  clear run
  cases dy <;> try (exact run'.fail.elim)
  rename_i ys
  obtain ⟨b0, us, rfl, hb, rus⟩ := PV.lst (.inl ru)
  have e2 := pre_get t1.pre e1
  obtain ⟨as, vs, bs, h1, h2, ol, hf, fin⟩ := Run.chg R1 e2 run'
  split at hf
  · rename_i hlen
    cases hf
    obtain ⟨t, R', run⟩ := fin (vs ++ us) (h2.append (RAs.of rus)) (old_app ol (old_map k ys))
    exact ⟨ad, b0, vs, us, rfl, rfl, h1, hb, by rw [h2.length, rus.length, sizeLine_eq]; exact hlen, run.ret0 R' _ (((RE.mono t0).mono t1).mono t)⟩
  · cases hf
/-! ### the rest -/
theorem s_ret {e : E} {v : Expr} {pos : Pos} (he : PE X v (tE K xc C G W e)) : PS X (.Return (some v) pos) (tS K xc C G W (.ret e)) := by
  refine PS.imp (ps_ret he) fun D σ H q => ?_
  obtain ⟨w, st, env, R, RE, run⟩ := q
  exact ⟨w, st, env, R, RE, (run.bnd.monoE (wa_we W σ)).mono fun a w1 st1 H1 t1 R1 run v rv => run.ret0 R1 v rv⟩
theorem s_retN {pos : Pos} : PS X (.Return none pos) (tS K xc C G W .retN) := by
  refine PS.imp ps_retN fun D σ H q => ?_
  obtain ⟨w, st, env, R, RE, run⟩ := q
  exact run.ret0 R _ .non
theorem s_exp {e : E} {v : Expr} {pos : Pos} (he : PE X v (tE K xc C G W e)) (hc : isCompr v = false) : PS X (.Expr v pos) (tS K xc C G W (.exp e)) := by
  refine PS.imp (ps_expr he (swaps_not hc)) fun D σ H q => ?_
  obtain ⟨w, st, env, R, RE, run⟩ := q
  exact ⟨w, st, env, R, RE, (run.bnd.monoE (wa_we W σ)).mono fun a w1 st1 H1 t1 R1 run v rv => run.ret0 R1 σ (RE.mono t1)⟩
/-- raise X('..') -/
theorem s_rse {c j : Nat} {x m : Str} {p p2 p3 pos : Pos} (O : OkS nm N K xc C G W sc X) (hc : nm.ex c = some x) (hg : glB sc x = true) : PS X (.Raise (some (.Call (.Name x p) [.Constant (.str m) j p2] [] p3)) none pos) (tS K xc C G W (.rse c .nil)) := by
  obtain ⟨Ca, gC, kC, q, r, ex⟩ := O.exs c x hc
  obtain ⟨g1, g2⟩ := O.toOkx.gl hg
  refine PS.imp (ps_raise O.calm O.tk (pmk_own F.excBase_ValueError q gC kC r g1 g2)) fun D σ H h => ?_
  obtain ⟨w, st, env, R, RE, r', st', e, z⟩ := h
  have e' : r' = .error (.mk c []) ∧ st' = st := by
    have e2 : evS C G (.rse c .nil) env st = some (.error (.mk c []), st) := rfl
    rw [e2] at e
    cases e
    exact ⟨rfl, rfl⟩
  obtain ⟨rfl, rfl⟩ := e'
  exact z w H (.ref Ca) none Tr.refl R ⟨Ca, [], ex, rfl, .inl ⟨rfl, rfl, rfl⟩⟩ σ
theorem rse1_ev {c i : Nat} {env : Env} {st st' : Sto} {r : Except Ex Out} (e : evS C G (.rse c (.cons (.var i) .nil)) env st = some (r, st')) : ∃ x, get env i = some (.d x) ∧ r = .error (.mk c [x]) ∧ st' = st := by
  have e : bnd (bnd (opt (get env i)) fun a => bnd (asD a) fun x => bnd (ret []) fun xs => ret (x :: xs)) (fun xs => (throw (.mk c xs) : M Out)) st = some (r, st') := e
  cases hg : get env i with
  | none => rw [hg] at e; cases e
  | some a =>
    rw [hg] at e
    cases a with
    | d x =>
      refine ⟨x, rfl, ?_⟩
      have e2 : some ((.error (.mk c [x]) : Except Ex Out), st) = some (r, st') := e
      cases e2
      exact ⟨rfl, rfl⟩
    | r k => cases e
    | f k => cases e
theorem s_rse1 {c i : Nat} {x y : Str} {p p2 p3 pos : Pos} (O : OkS nm N K xc C G W sc X) (hc : nm.exf c = some x) (hg : glB sc x = true) (hi : N[i]? = some y) (hv : visB sc y = true) : PS X (.Raise (some (.Call (.Name x p) [.Name y p2] [] p3)) none pos) (tS K xc C G W (.rse c (.cons (.var i) .nil))) := by
  obtain ⟨Ca, fI, fd, fl, y2, k, gC, T, iC, tI, F1, hb, hno, hr, ex⟩ := O.exfs c x hc
  obtain ⟨g1, g2⟩ := O.toOkx.gl hg
  obtain ⟨v1, v2, v3⟩ := O.toOkx.vis hv
  have va : PE X (.Name y p2) (tVar i) := pe_var (by rw [O.n]; exact hi) v1 v2 v3
  have ps : Passes (L2.CX X.prog X.w) X (fun _ _ _ => False) := fun pins σ H s e s' I c => O.tk e s' (XE.of_call I (fun _ _ _ h => h.elim) c)
  refine PS.imp (ps_raise O.calm O.tk (pmk_oex (dvs := []) T iC tI F1 hr hb .nil ps g1 gC (pa_cons va pa_nil) g2)) fun D σ H h => ?_
  obtain ⟨w, st, env, R, RE, r', st', e, z⟩ := h
  obtain ⟨d, hd, rfl, rfl⟩ := rse1_ev e
  obtain ⟨v, hv, rv⟩ := RE.2 i _ hd
  refine ⟨v, hv, by simp, fun a na => ⟨a, Ca, v, rfl, T, hno, upd_same, fun dx h1 h2 => ⟨rfl, dx, [(fl, v)], upd_same, by rw [upd_ne h2]; exact upd_same, by rw [upd_ne h2] at h1; exact h1, ?_⟩⟩⟩
  rw [upd_ne h2] at h1
  have eH : upd (del (upd (upd (upd H a (exo a Ca none)) dx (exd dx [(fl, v)])) a (exo a Ca (some dx))) a) dx (.xd [(fl, v)]) = upd H dx (.xd [(fl, v)]) := by
    funext b
    by_cases hb : b = dx
    · rw [hb, upd_same, upd_same]
    · rw [upd_ne hb, upd_ne hb]
      by_cases hba : b = a
      · rw [hba, del_same, na]
      · rw [del_ne hba, upd_ne hba, upd_ne hb, upd_ne hba]
  rw [eH]
  refine z w _ (.ref Ca) (some dx) (Tr.laid R h1) (RS.laid R h1) ⟨Ca, [fl], ex, rfl, .inr ⟨dx, [(fl, v)], by simp, rfl, upd_same, ?_, rfl, .cons (RV.mono (Tr.laid R h1).keep rv) .nil⟩⟩ σ
  rintro (q | ⟨k2, o, q1, q2, q3⟩)
  · exact R.trkh dx q h1
  · exact R.trk dx (List.mem_of_getElem? q1) h1
theorem s_if {c : E} {a b : SL} {t : Expr} {x y : List Stmt} {pos : Pos} (hc : PT X t (tT K xc C G W c)) (ha : PSs X x (tSL K xc C G W a)) (hb : PSs X y (tSL K xc C G W b)) : PS X (.If t x y pos) (tS K xc C G W (.ife c a b)) := by
  refine PS.imp (ps_if hc ha hb) fun D σ H q => ?_
  obtain ⟨w, st, env, R, RE, run⟩ := q
  refine ⟨w, st, env, R, RE, (run.bnd.monoE (wa_we W σ)).mono fun x w1 st1 H1 t1 R1 run => ?_⟩
  obtain ⟨z, e, run⟩ := run.opt
  refine ⟨z, e, ?_⟩
  cases z with
  | true => rw [if_pos rfl] at run ⊢; exact ⟨w1, st1, env, R1, RE.mono t1, run⟩
  | false => rw [if_neg Bool.false_ne_true] at run ⊢; exact ⟨w1, st1, env, R1, RE.mono t1, run⟩
theorem s_while {c : E} {b : SL} {t : Expr} {x : List Stmt} {pos : Pos} (O : OkS nm N K xc C G W sc X) (hc : PT X t (tT K xc C G W c)) (hb : PSs X x (tSL K xc C G W b)) : PS X (.While t x [] pos) (tS K xc C G W (.whil c b)) := by
  refine PS.imp (ps_while O.own hc hb) fun D σ H q => ?_
  obtain ⟨w, st, env, R, RE, run⟩ := q
  refine ⟨fun m σ H => ∃ w st env, RS K w st H ∧ REnv K w st H σ env ∧ Run K xc (WA W) (whlM (fun e => bnd (evE C G c e) fun x => opt (tru x)) (fun e => evSL C G b e) m env) w st H fun o w' st' H' => outP K D o w' st' H', ⟨wMost, w, st, env, R, RE, run⟩, ?_⟩
  rintro m σ H ⟨w, st, env, R, RE, run⟩
  cases m with
  | zero => exact run.fail.elim
  | succ m =>
    refine ⟨w, st, env, R, RE, (run.bnd.bnd.monoE (wa_we W σ)).mono fun a w1 st1 H1 t1 R1 run => ?_⟩
    obtain ⟨z, e, run⟩ := run.opt' R1
    refine ⟨z, e, ?_⟩
    cases z with
    | false =>
      rw [if_neg Bool.false_ne_true] at run ⊢
      exact run.ret0 R1 σ (RE.mono t1)
    | true =>
      rw [if_pos rfl] at run ⊢
      refine ⟨fun σ H => ∃ w st env, RS K w st H ∧ REnv K w st H σ env ∧ Run K xc (WA W) (whlM (fun e => bnd (evE C G c e) fun x => opt (tru x)) (fun e => evSL C G b e) m env) w st H fun o w' st' H' => outP K D o w' st' H', fun σ' H' h => ⟨m, Nat.lt_succ_self _, h⟩, w1, st1, env, R1, RE.mono t1, run.bnd.mono fun o w2 st2 H2 t2 R2 run => ?_⟩
      cases o with
      | nx e => exact fun σ' RE' => ⟨w2, st2, e, R2, RE', run⟩
      | ct e => exact fun σ' RE' => ⟨w2, st2, e, R2, RE', run⟩
      | bk e => exact run.ret0 R2
      | rt a => exact run.ret0 R2
theorem s_for {t : T} {it : I} {b : SL} {tg iter : Expr} {x : List Stmt} {pos : Pos} (O : OkS nm N K xc C G W sc X) (hi : PI X tg iter (tI K xc C G W it)) (hg : PG X tg (gT K t)) (hb : PSs X x (tSL K xc C G W b)) (hs : notSet iter = true) : PS X (.For tg iter x [] pos) (tS K xc C G W (.forr t it b)) := by
  refine PS.imp (ps_for O.own O.calm hi hg hb (folded_not hs)) fun D σ H q => ?_
  obtain ⟨w, st, env, R, RE, run⟩ := q
  refine ⟨w, st, env, R, RE, (run.bnd.monoE (wa_we W σ)).mono fun xs w1 st1 H1 t1 R1 run J hJ => ?_⟩
  generalize hf : (fun x e => bnd (opt (asgT t (A.d x) e)) fun e' => evSL C G b e') = f at run
  refine ⟨fun i m σ H => m = xs.length - i ∧ i ≤ xs.length ∧ ∃ w2 st2 env2, Tr w1 st1 H1 w2 st2 H ∧ RS K w2 st2 H ∧ REnv K w2 st2 H σ env2 ∧ Run K xc (WA W) (forM f (xs.drop i) env2) w2 st2 H fun o w' st' H' => outP K D o w' st' H', ⟨xs.length, rfl, Nat.zero_le _, w1, st1, env, Tr.refl, R1, RE.mono t1, run⟩, ?_⟩
  rintro i m σ H ⟨rfl, hi, w2, st2, env2, t2, R2, RE2, run2⟩
  obtain ⟨j1, j2⟩ := hJ i w2 st2 H t2.keep R2
  by_cases hlt : i < xs.length
  · right
    have hx : xs[i]? = some xs[i] := List.getElem?_eq_getElem hlt
    obtain ⟨j3, j4⟩ := j1 _ hx
    rw [List.drop_eq_getElem_cons hlt] at run2
    refine ⟨j3, fun σ' H' => ∃ w2 st2 env2, Tr w1 st1 H1 w2 st2 H' ∧ RS K w2 st2 H' ∧ REnv K w2 st2 H' σ' env2 ∧ Run K xc (WA W) (forM f (xs.drop (i + 1)) env2) w2 st2 H' fun o w' st' H' => outP K D o w' st' H', fun σ' H' h => ⟨xs.length - (i + 1), by omega, rfl, hlt, h⟩, fun v H2 y => ?_⟩
    obtain ⟨t3, R3, rv⟩ := j4 v H2 y
    have run3 : Run K xc (WA W) (bnd (opt (asgT t (A.d xs[i]) env2)) fun e' => bnd (evSL C G b e') fun o => match o with
      | .nx e => forM f (xs.drop (i + 1)) e
      | .ct e => forM f (xs.drop (i + 1)) e
      | .bk e => ret (.nx e)
      | .rt a => ret (.rt a)) w2 st2 H2 fun o w' st' H' => outP K D o w' st' H' := by
      rw [← bnd_assoc]
      subst hf
      exact Run.ext run2 t3
    obtain ⟨env', ea, run4⟩ := run3.opt
    refine asg_tgt (RE2.mono t3) (x := .d xs[i]) rv ea fun σ' RE' _ => ⟨w2, st2, env', R3, RE', run4.bnd.mono fun o w4 st4 H4 t4 R4 run5 => ?_⟩
    cases o with
    | nx e => exact fun σ' RE'' => ⟨w4, st4, e, (t2.trans t3).trans t4, R4, RE'', run5⟩
    | ct e => exact fun σ' RE'' => ⟨w4, st4, e, (t2.trans t3).trans t4, R4, RE'', run5⟩
    | bk e => exact run5.ret0 R4
    | rt a => exact run5.ret0 R4
  · left
    have he : i = xs.length := by omega
    subst he
    rw [List.drop_length] at run2
    exact ⟨j2 (Nat.le_refl _), run2.ret0 R2 σ RE2⟩
mutual
theorem sndS : ∀ (s : S) {ast : Stmt}, OkS nm N K xc C G W sc X → chkS nm N sc s ast = true → PS X ast (tS K xc C G W s)
  | .asg t e, ast, O, h => by
    cases ast <;> (try (cases h; done))
    rename_i tgs v p
    rcases tgs with _ | ⟨tg, _ | ⟨tg2, tgs⟩⟩ <;> (try (cases h; done)) <;> (try (simp [chkS] at h; done))
    simp only [chkS] at h
    rw [Bool.and_eq_true, Bool.and_eq_true, Bool.and_eq_true] at h
    exact s_asg O h.1.1.1 h.1.1.2 h.1.2 h.2
  | .par i j a b, ast, O, h => by
    cases ast <;> (try (cases h; done))
    rename_i tgs v p
    rcases tgs with _ | ⟨tg, tgs⟩ <;> (try (cases h; done))
    cases tg <;> (try (cases h; done))
    rename_i ts k1 p1
    rcases ts with _ | ⟨t1, ts⟩ <;> (try (cases h; done))
    cases t1 <;> (try (cases h; done))
    rcases ts with _ | ⟨t2, ts⟩ <;> (try (cases h; done))
    cases t2 <;> (try (cases h; done))
    rcases ts with _ | ⟨t3, ts⟩ <;> (try (cases h; done))
    rcases tgs with _ | ⟨tg2, tgs⟩ <;> (try (cases h; done))
    cases v <;> (try (cases h; done))
    rename_i vs k2 p2
    rcases vs with _ | ⟨v1, _ | ⟨v2, _ | ⟨v3, vs⟩⟩⟩ <;> (try (cases h; done))
    simp only [chkS, Bool.and_eq_true, decide_eq_true_eq, Bool.not_eq_true'] at h
    obtain ⟨⟨⟨⟨⟨⟨⟨⟨⟨⟨⟨⟨h1, h2⟩, h3⟩, h4⟩, h5⟩, h6⟩, h7⟩, h8⟩, h9⟩, h10⟩, h11⟩, h12⟩, h13⟩ := h
    exact s_par O h1 h2 h3 h4 h5 h6 h7 (sndE a O.toOkx h8).1 (sndE b O.toOkx h9).1 h10 h11 h12 h13
  | .seti o ix e, ast, O, h => by
    cases ast <;> (try (cases h; done))
    rename_i tgs v p
    rcases tgs with _ | ⟨tg, tgs⟩ <;> (try (cases h; done))
    cases tg <;> (try (cases h; done))
    rcases tgs with _ | ⟨tg2, tgs⟩ <;> (try (cases h; done))
    simp only [chkS, Bool.and_eq_true, Bool.not_eq_true'] at h
    exact s_seti O (sndE o O.toOkx h.1.1.1.1).1 (sndE ix O.toOkx h.1.1.1.2).1 (sndE e O.toOkx h.1.1.2).1 h.1.2 h.2
  | .aug o i e, ast, O, h => by
    cases ast <;> (try (cases h; done))
    rename_i tg op v p
    cases tg <;> (try (cases h; done))
    simp only [chkS, Bool.and_eq_true, decide_eq_true_eq] at h
    obtain ⟨⟨⟨⟨h1, h2⟩, h3⟩, rfl⟩, h5⟩ := h
    exact s_aug O h1 h2 (sndE e O.toOkx h5).1
  | .app i e, ast, O, h => by
    cases ast <;> (try (cases h; done))
    rename_i v p
    cases v <;> (try (cases h; done))
    rename_i f as ks cp
    cases f <;> (try (cases h; done))
    rename_i x m ap
    cases x <;> (try (cases h; done))
    rcases as with _ | ⟨v, _ | ⟨v2, as⟩⟩ <;> rcases ks with _ | ⟨k, ks⟩ <;> (try (cases h; done))
    simp only [chkS, Bool.and_eq_true, decide_eq_true_eq] at h
    obtain ⟨⟨⟨⟨⟨h1, h2⟩, rfl⟩, h4⟩, h5⟩, h6⟩ := h
    exact s_app O h1 h2 (sndE e O.toOkx h4).1 h5 h6
  | .appf i e, ast, O, h => by
    cases ast <;> (try (cases h; done))
    rename_i v p
    cases v <;> (try (cases h; done))
    rename_i f as ks cp
    cases f <;> (try (cases h; done))
    rename_i x m ap
    cases x <;> (try (cases h; done))
    rcases as with _ | ⟨v, _ | ⟨v2, as⟩⟩ <;> rcases ks with _ | ⟨k, ks⟩ <;> (try (cases h; done))
    simp only [chkS, Bool.and_eq_true, decide_eq_true_eq] at h
    obtain ⟨⟨⟨⟨⟨h1, h2⟩, rfl⟩, h4⟩, h5⟩, h6⟩ := h
    exact s_appf O h1 h2 (sndE e O.toOkx h4).1 h5 h6
  | .ext i e, ast, O, h => by
    cases ast <;> (try (cases h; done))
    rename_i v p
    cases v <;> (try (cases h; done))
    rename_i f as ks cp
    cases f <;> (try (cases h; done))
    rename_i x m ap
    cases x <;> (try (cases h; done))
    rcases as with _ | ⟨v, _ | ⟨v2, as⟩⟩ <;> rcases ks with _ | ⟨k, ks⟩ <;> (try (cases h; done))
    simp only [chkS, Bool.and_eq_true, decide_eq_true_eq] at h
    obtain ⟨⟨⟨⟨⟨h1, h2⟩, rfl⟩, h4⟩, h5⟩, h6⟩ := h
    exact s_ext O h1 h2 (sndE e O.toOkx h4).1 h5 h6
  | .ife c a b, ast, O, h => by
    cases ast <;> (try (cases h; done))
    simp only [chkS, Bool.and_eq_true] at h
    exact s_if (sndE c O.toOkx h.1.1).2 (sndSL a O h.1.2) (sndSL b O h.2)
  | .forr t it b, ast, O, h => by
    cases ast <;> (try (cases h; done))
    rename_i tg iter x oe p
    cases oe <;> (try (cases h; done))
    simp only [chkS] at h
    rw [Bool.and_eq_true, Bool.and_eq_true, Bool.and_eq_true, Bool.and_eq_true] at h
    obtain ⟨⟨⟨⟨h1, h2⟩, h3⟩, h4⟩, h5⟩ := h
    exact s_for O (sndI it O.toOkx h2 h5) (s_tgt O.k O.n O.nd O.calm O.tgt h1) (sndSL b O h4) h3
  | .whil c b, ast, O, h => by
    cases ast <;> (try (cases h; done))
    rename_i t x oe p
    cases oe <;> (try (cases h; done))
    simp only [chkS, Bool.and_eq_true] at h
    exact s_while O (sndE c O.toOkx h.1).2 (sndSL b O h.2)
  | .ret e, ast, O, h => by
    cases ast <;> (try (cases h; done))
    rename_i v p
    cases v <;> (try (cases h; done))
    exact s_ret (sndE e O.toOkx h).1
  | .retN, ast, O, h => by
    cases ast <;> (try (cases h; done))
    rename_i v p
    cases v <;> (try (cases h; done))
    exact s_retN
  | .exp e, ast, O, h => by
    cases ast <;> (try (cases h; done))
    simp only [chkS, Bool.and_eq_true, Bool.not_eq_true'] at h
    exact s_exp (sndE e O.toOkx h.1).1 h.2
  | .pass, ast, O, h => by
    cases ast <;> (try (cases h; done))
    refine PS.imp ps_pass fun D σ H q => ?_
    obtain ⟨w, st, env, R, RE, run⟩ := q
    exact run.ret0 R σ RE
  | .brk, ast, O, h => by
    cases ast <;> (try (cases h; done))
    refine PS.imp ps_break fun D σ H q => ?_
    obtain ⟨w, st, env, R, RE, run⟩ := q
    exact run.ret0 R σ RE
  | .cont, ast, O, h => by
    cases ast <;> (try (cases h; done))
    refine PS.imp ps_continue fun D σ H q => ?_
    obtain ⟨w, st, env, R, RE, run⟩ := q
    exact run.ret0 R σ RE
  | .nev, ast, O, h => by
    refine PS.imp ps_never fun D σ H q => ?_
    obtain ⟨w, st, env, R, RE, run⟩ := q
    exact run.fail.elim
  | .rse c es, ast, O, h => by
    cases es with
    | cons e0 r0 =>
      cases e0 <;> (try (cases ast <;> (cases h; done)))
      cases r0 <;> (try (cases ast <;> (cases h; done)))
      cases ast <;> (try (cases h; done))
      rename_i i ex cz p
      cases ex with
      | none => cases h
      | some ex =>
      cases cz with
      | some _ => cases h
      | none =>
      have h2 : (match isRs1 ex with
        | some (x, y) => decide (nm.exf c = some x) && glB sc x && (decide (N[i]? = some y) && visB sc y)
        | none => false) = true := h
      clear h
      cases hx : isRs1 ex with
      | none => rw [hx] at h2; cases h2
      | some xy =>
        obtain ⟨x, y⟩ := xy
        rw [hx] at h2
        simp only [Bool.and_eq_true, decide_eq_true_eq] at h2
        obtain ⟨p1, p2, p3, rfl⟩ := isRs1_ok hx
        exact s_rse1 O h2.1.1 h2.1.2 h2.2.1 h2.2.2
    | nil =>
    cases ast <;> (try (cases h; done))
    rename_i ex cz p
    cases ex with
    | none => cases h
    | some ex =>
    cases cz with
    | some _ => cases h
    | none =>
    have h2 : (match isRse ex with
      | some x => decide (nm.ex c = some x) && glB sc x
      | none => false) = true := h
    clear h
    cases hx : isRse ex with
    | none => rw [hx] at h2; cases h2
    | some x =>
      rw [hx] at h2
      simp only [Bool.and_eq_true, decide_eq_true_eq] at h2
      obtain ⟨p1, m, j, p2, p3, rfl⟩ := isRse_ok hx
      exact s_rse O h2.1 h2.2
theorem sndSL : ∀ (s : SL) {ast : List Stmt}, OkS nm N K xc C G W sc X → chkSL nm N sc s ast = true → PSs X ast (tSL K xc C G W s)
  | .nil, ast, O, h => by
    cases ast <;> (try (cases h; done))
    exact ⟨fun pins s σ H D I q => pss_nil.run pins s σ H D I (by
      obtain ⟨w, st, env, R, RE, run⟩ := q
      exact run.ret0 R σ RE)⟩
  | .cons a r, ast, O, h => by
    cases ast <;> (try (cases h; done))
    simp only [chkSL, Bool.and_eq_true] at h
    have hs := pss_cons (sndS a O h.1) (sndSL r O h.2)
    refine ⟨fun pins s σ H D I q => hs.run pins s σ H D I ?_⟩
    obtain ⟨w, st, env, R, RE, run⟩ := q
    refine ⟨w, st, env, R, RE, run.bnd.mono fun o w1 st1 H1 t1 R1 run => ?_⟩
    cases o with
    | nx e => exact fun σ' RE' => ⟨w1, st1, e, R1, RE', run⟩
    | ct e => exact run.ret0 R1
    | bk e => exact run.ret0 R1
    | rt a => exact run.ret0 R1
end
end
end Sw
/-! Defs: each keeps the promise that its interpretation makes -/
namespace Sw
open PySem PySem.Spec L2
/-- the lambda's names -/
def lamSDB (N : List Str) (sc scope : Scope) (ps : Arguments) : Bool :=
  decide (scope.kind = .function) && (!scope.isCoroutine && (!scope.isGenerator && ((scope.names.all fun y => !decide (y.2 = .cell) && (!decide (y.2 = .local) || (ps.args.map (·.arg)).contains y.1)) && (((ps.args.map (·.arg)).all fun x => decide (scope.names.lookup x = some .local) && !N.contains x) &&
    ((scope.names.all fun y => !decide (y.2 = .free) || (decide (sc.names.lookup y.1 = some .cell) || decide (sc.names.lookup y.1 = some .free))) && (match ps with
      | ⟨[], [], none, [], [], none, []⟩ => true
      | ⟨[], [_], none, [], [], none, [.Constant (.int 0) 0 _]⟩ => true
      | _ => false))))))
theorem lamSDB_ok {N : List Str} {sc scope : Scope} {ps : Arguments} (h : lamSDB N sc scope ps = true) : LamSD N sc scope ps := by
  unfold lamSDB at h
  simp only [Bool.and_eq_true, Bool.not_eq_true', decide_eq_true_eq] at h
  obtain ⟨h1, h2, h3, h4, h5, h6, h7⟩ := h
  rw [List.all_eq_true] at h4 h5 h6
  refine ⟨h1, h2, h3, fun y hy => ?_, fun x hx => ?_, fun x hx => ?_, fun y hy e => ?_, ?_⟩
  · have := h4 y hy
    simp only [Bool.and_eq_true, Bool.not_eq_true', decide_eq_false_iff_not, Bool.or_eq_true] at this
    refine ⟨this.1, fun e => ?_⟩
    rcases this.2 with z | z
    · exact absurd e z
    · simpa using z
  · have := h5 x hx
    simp only [Bool.and_eq_true, decide_eq_true_eq] at this
    exact this.1
  · have := h5 x hx
    simp only [Bool.and_eq_true, decide_eq_true_eq, Bool.not_eq_true'] at this
    simpa using this.2
  · have := h6 y hy
    simp only [Bool.or_eq_true, Bool.not_eq_true', decide_eq_false_iff_not, decide_eq_true_eq] at this
    rcases this with z | z
    · exact absurd e z
    · exact z
  · split at h7
    · exact ⟨⟨rfl, rfl, rfl, rfl, rfl⟩, .inl ⟨rfl, rfl⟩⟩
    · exact ⟨⟨rfl, rfl, rfl, rfl, rfl⟩, .inr ⟨_, _, rfl, rfl⟩⟩
    · cases h7
def Nm.flat (nm : Nm) : Nm := { nm with sq := false, lon := fun _ => false, lam := fun _ _ _ _ => false }
def lamChk (nm : Nm) (N : List Str) (sc : Scope) (lt : List E) (j : Nat) (ps : Arguments) (b : Expr) (s : Scope) : Bool := match lt[j]? with
  | some e => lamSDB N sc s ps && chkE nm.flat N s e b
  | none => false
/-- in a def of its own lambdas -/
def Nm.at (nm : Nm) (N : List Str) (sc : Scope) (lt : List E) : Nm :=
  { nm with sq := true, lon := fun s => !lt.isEmpty && decide (s.names.map (·.1) = sc.names.map (·.1)), lam := lamChk nm N sc lt }
section
variable {P : Program} {w : World} {K : KX} {mg : Str → Option Value} {base : Heap} {nm : Nm} {xc : XC} {G : Nat → Option D} {T : Nat → Option DI}
/-- what the text says of the def number i -/
structure FT (nm : Nm) (K : PySem.W.Frag) (mg : Str → Option Value) (d : DI) (x : Str) (f : Addr) (fd : FuncData) (ps : List Str) : Prop where
  ex : ∃ params body scope kws N, FunD K x x params body scope [] kws f fd ∧ FnScope N ps scope ∧ d.nn = N.length ∧ chkSL (nm.at N scope d.lt) N scope d.body body = true
  np : d.np = ps.length
  gm : mg x = some (.ref f)
  bi : Binds K fd ps []
/-- the text as a whole -/
structure ExF (w : World) (K : PySem.W.Frag) (xc : XC) (mg : Str → Option Value) (c : Nat) (x : Str) (Ca fI : Addr) (fd : FuncData) (fl y : Str) : Prop where
  gm : mg x = some (.ref Ca)
  oex : OexC K Ca
  ini : PySem.W.findIn K (.ref Ca) "__init__" = some (some (.ref fI))
  ty : PySem.W.typeIn K (.ref fI) = some (.type "function")
  fn : ∀ (P : Program) (base : Heap) (k : Nat), FnOk P w K mg base (L2.CX P w) (k + 1) fI fd ["self", y] (spI K fl)
  bi : Binds K fd ["self", y] []
  no : PySem.W.findIn K (.ref Ca) fl = some none
  xc : xc c = some (Ca, [fl])
structure TX (w : World) (nm : Nm) (K : PySem.W.Frag) (xc : XC) (mg : Str → Option Value) (G : Nat → Option D) (T : Nat → Option DI) : Prop where
  fns : ∀ i x, nm.fn i = some x → ∃ d f fd ps, T i = some d ∧ FT nm K mg d x f fd ps
  gls : ∀ j x d, nm.gl j = some x → G j = some d → ∃ u v, mg x = some u ∧ RelV v u ∧ ∀ Z H, RV K Z H v d
  gds : ∀ p, p ∈ nm.gd → GdOk w K mg p
  blt : ∀ x, x ∈ bltNames → mg x = none
  exs : ∀ c x, nm.ex c = some x → ∃ Ca, mg x = some (.ref Ca) ∧ PySem.W.keepIn K (.ref Ca) = true ∧ PySem.W.excIn K Ca veB "ValueError.__new__" = true ∧ PySem.W.subIn K (.ref Ca) (.type "BaseException") = some true ∧ PySem.W.typeIn K (.ref Ca) = some (.type "type") ∧ xc c = some (Ca, [])
  exfs : ∀ c x, nm.exf c = some x → ∃ Ca fI fd fl y, ExF w K xc mg c x Ca fI fd fl y
theorem FT.kp {d : DI} {x : Str} {f : Addr} {fd : FuncData} {ps : List Str} (F : FT nm K mg d x f fd ps) : PySem.W.keepIn K (.ref f) = true := by
  obtain ⟨_, _, _, _, _, F, _⟩ := F.ex
  exact F.kp
theorem get_app : ∀ (as : List A) (n i : Nat) (a : A), get (as.map some ++ reps n) i = some a → as[i]? = some a
  | [], 0, _, _, h => by simp [reps, get] at h
  | [], n + 1, 0, _, h => by simp [reps, get] at h
  | [], n + 1, i + 1, a, h => by
    have h : get (reps n) i = some a := h
    have := get_app [] n i a h
    simp at this
  | a :: as, n, 0, b, h => by
    have h : some a = some b := h
    simpa using h
  | a :: as, n, i + 1, b, h => by
    have h : get (as.map some ++ reps n) i = some b := h
    simpa using get_app as n i b h
theorem reps_len : ∀ n, (reps n).length = n
  | 0 => rfl
  | n + 1 => by simp [reps, reps_len n]
theorem env_start {w : Wd} {st : Sto} {H : Hp} {N : List Str} {vs : List V} {as : List A} (r : RAs K w st H vs as) (nn np : Nat) (h1 : nn = N.length) (h2 : as.length = np) : REnv K w st H (L2.start N vs) (as.map some ++ reps (nn - np)) := by
  have hl := r.length
  refine ⟨?_, fun i a e => ?_⟩
  · unfold L2.start
    rw [List.length_append, List.length_append, List.length_map, List.length_map, reps_len, List.length_replicate]
    omega
  · have e := get_app _ _ _ _ e
    obtain ⟨v, hv, rv⟩ := r.get e
    refine ⟨v, ?_, rv⟩
    unfold L2.start
    have hi := (List.getElem?_eq_some_iff.mp hv).1
    rw [List.getElem?_append_left (by simpa using hi), List.getElem?_map, hv]
    rfl
theorem RX.mono {w w' : Wd} {st st' : Sto} {H : Hp} {cls : Value} {dx : Option Addr} {x : Ex} (k : Kp (Zm w st) H (Zm w' st') H) (r : RX K xc w st H cls dx x) : RX K xc w' st' H cls dx x := by
  cases x with
  | mk c ds =>
    obtain ⟨C, ns, h1, h2, h3⟩ := r
    refine ⟨C, ns, h1, h2, ?_⟩
    rcases h3 with h3 | ⟨d, fs, h0, h4, h5, h6, h7, h8⟩
    · exact .inl h3
    · exact .inr ⟨d, fs, h0, h4, h5, (k d _ h5 .xd h6).2, h7, h8.mono k⟩
/-- the interpretation of a body, from that of the call -/
theorem run_body {C : CL} {d : DI} {as : List A} {W : WX} {E : XK} {Q : VK} {w : Wd} {st : Sto} {H : Hp} (hW : ∀ c d σ H, E c d H → W c d σ H) (R : RS K w st H) (hlt : d.lt.isEmpty = true)
    (run : Run K xc E (runF C G d as) w st H fun a w' st' H' => ∀ v, RA K w' st' H' v a → Q v H') :
    as.length = d.np ∧ Run K xc (WA W) (evSL C G d.body (as.map some ++ reps (d.nn - d.np))) w st H fun o w' st' H' => outP K { nx := fun _ H' => Q .non H', rt := Q } o w' st' H' := by
  obtain ⟨r, st', e, q⟩ := run
  unfold runF at e
  split at e
  · rename_i hl
    refine ⟨hl.1, ?_⟩
    generalize evSL C G d.body (as.map some ++ reps (d.nn - d.np)) = m at e
    unfold bnd at e
    cases hm : m st with
    | none => rw [hm] at e; cases e
    | some p =>
      obtain ⟨ro, s1⟩ := p
      rw [hm] at e
      refine ⟨ro, s1, hm, ?_⟩
      cases ro with
      | error x =>
        simp only [outF, onlyD] at e
        cases e
        intro w' H' cls dx t R' rx σ
        obtain ⟨t2, R2, k2⟩ := out_trim R (fun a ha => by rw [t.hs]; exact ha) t.pre R' t.keep t.hid
        exact hW _ _ _ _ (q w H' cls dx t2 R2 (rx.mono k2))
      | ok o =>
        intro w' H' t R'
        obtain ⟨t2, R2, k2⟩ := out_trim R (fun a ha => by rw [t.hs]; exact ha) t.pre R' t.keep t.hid
        cases o with
        | nx env =>
          simp only [ret, outF, onlyD] at e
          cases e
          exact fun σ _ => q w H' t2 R2 _ .non
        | bk env => simp only [fail, outF, onlyD] at e; cases e
        | ct env => simp only [fail, outF, onlyD] at e; cases e
        | rt a =>
          cases a with
          | d x =>
            simp only [ret, outF, onlyD] at e
            cases e
            exact fun v rv => q w H' t2 R2 v (RV.mono k2 rv)
          | f k => simp only [ret, outF, onlyD] at e; cases e
          | r k =>
            simp only [ret, outF, onlyD, hlt, if_true] at e
            cases e
            exact fun v rv => q w' H' t R' v rv
  · cases e
/-- with other lambdas in sight: no list of the store is there -/
def KX.fxd (K : KX) (fx : FX) : KX := ⟨K.k, fx⟩
theorem RS.to {fx : FX} {w : Wd} {H : Hp} (ht : fx.tb = K.fx.tb) (R : RS K w [] H) : RS (K.fxd fx) w [] H :=
  ⟨R.len, R.nd, R.dis, R.trk, R.hl, fun k a o h1 h2 => by simp at h2, by show LamX.Tabs fx.tb H; rw [ht]; exact R.tabs⟩
theorem RS.from {fx : FX} {w : Wd} {H : Hp} (ht : fx.tb = K.fx.tb) (R : RS (K.fxd fx) w [] H) : RS K w [] H :=
  ⟨R.len, R.nd, R.dis, R.trk, R.hl, fun k a o h1 h2 => by simp at h2, by have := R.tabs; rw [← ht]; exact this⟩
theorem RAs.to {fx : FX} {w : Wd} {st : Sto} {H : Hp} : ∀ {vs : List V} {as : List A}, (allD as).isSome = true → RAs K w st H vs as → RAs (K.fxd fx) w st H vs as
  | _, _, _, .nil => .nil
  | _, a :: as, h, .cons r t => by
    cases a with
    | d x =>
      refine .cons r (RAs.to ?_ t)
      simp only [allD, Option.isSome_map] at h
      exact h
    | r k => simp [allD] at h
    | f k => simp [allD] at h
theorem run_bodyL {C : CL} {d : DI} {as : List A} {W : WX} {E : XK} {Q : VK} {w : Wd} {st : Sto} {H : Hp} {fx : FX} (ht : fx.tb = K.fx.tb) (hW : ∀ c d σ H, E c d H → W c d σ H) (R : RS K w st H) (hlt : d.lt.isEmpty = false)
    (run : Run K xc E (runF C G d as) w st H fun a w' st' H' => ∀ v, RA K w' st' H' v a → Q v H') :
    as.length = d.np ∧ st = [] ∧ (allD as).isSome = true ∧ Run (K.fxd fx) xc (WA W) (evSL C G d.body (as.map some ++ reps (d.nn - d.np))) w st H fun o w' st' H' => outP (K.fxd fx) { nx := fun _ H' => Q .non H', rt := Q } o w' st' H' := by
  obtain ⟨r, st', e, q⟩ := run
  unfold runF at e
  split at e
  · rename_i hl
    obtain ⟨hl, hk⟩ := hl
    have hst : st = [] ∧ (allD as).isSome = true := by
      rcases hk with z | z
      · rw [hlt] at z; cases z
      · exact ⟨by simpa using z.1, z.2⟩
    obtain ⟨rfl, hall⟩ := hst
    refine ⟨hl, rfl, hall, ?_⟩
    have R0 := R.to (fx := fx) ht
    generalize evSL C G d.body (as.map some ++ reps (d.nn - d.np)) = m at e
    unfold bnd at e
    cases hm : m [] with
    | none => rw [hm] at e; cases e
    | some p =>
      obtain ⟨ro, s1⟩ := p
      rw [hm] at e
      refine ⟨ro, s1, hm, ?_⟩
      cases ro with
      | error x =>
        simp only [outF, onlyD, List.length_nil, List.take_zero] at e
        cases e
        intro w' H' cls dx t R' rx σ
        obtain ⟨t2, R2, k2⟩ := out_trim R0 (fun a ha => by rw [t.hs]; exact ha) t.pre R' t.keep t.hid
        simp only [List.length_nil, List.take_zero] at t2 R2 k2
        exact hW _ _ _ _ (q w H' cls dx t2 (R2.from ht) (RX.mono (K := K) k2 rx))
      | ok o =>
        intro w' H' t R'
        obtain ⟨t2, R2, k2⟩ := out_trim R0 (fun a ha => by rw [t.hs]; exact ha) t.pre R' t.keep t.hid
        simp only [List.length_nil, List.take_zero] at t2 R2 k2
        cases o with
        | nx env =>
          simp only [ret, outF, onlyD, List.length_nil, List.take_zero] at e
          cases e
          exact fun σ _ => q w H' t2 (R2.from ht) _ .non
        | bk env => simp only [fail, outF, onlyD] at e; cases e
        | ct env => simp only [fail, outF, onlyD] at e; cases e
        | rt a =>
          cases a with
          | d x =>
            simp only [ret, outF, onlyD, List.length_nil, List.take_zero] at e
            cases e
            exact fun v rv => q w H' t2 (R2.from ht) v (RV.mono k2 rv)
          | f k => simp only [ret, outF, onlyD] at e; cases e
          | r k =>
            simp only [ret, outF, onlyD, hlt] at e
            cases e
  · cases e
theorem interp_np {d : DI} {n i : Nat} {as : List A} {st : Sto} {r : Except Ex A × Sto} (hT : T i = some d) (h : interp T G n i as st = some r) : as.length = d.np := by
  cases n with
  | zero => cases h
  | succ n =>
    simp only [interp, hT] at h
    unfold runF at h
    split at h
    · rename_i hh; exact hh.1
    · cases h
theorem code_kds {K : PySem.W.Frag} {cd : Value} {q : Str} (h : PySem.W.codeIn K cd q = true) : PySem.W.kdsCode K cd = true := by
  unfold PySem.W.codeIn at h
  unfold PySem.W.kdsCode
  cases cd <;> try (cases h; done)
  rename_i c
  dsimp only at h ⊢
  split at h
  · rename_i e
    rw [e]
  · cases h
theorem okC {qual : Str} {params : Arguments} {body : List Stmt} {scope : Scope} {dvs : List V} {kws : List (Str × V)} {f : Addr} {fd : FuncData} {x : Str} {CX : CXT} {N ps : List Str} {k : Nat} {sp : Sp} (F : FunD K x qual params body scope dvs kws f fd) (S : FnScope N ps scope) (len : ∀ vs H Q E, sp vs H Q E → vs.length = ps.length)
    (hbody : ∀ (cdv : Value), PySem.W.codeIn K cdv qual = true → fd.code = cdv → ∀ (A : Around) (outer : List PySem.Env) (s : Shared) (H : Hp) (vs : List V) (Q : VK) (E : XK), Room k (A.deeper (PyProof.Rows.envOfC qual scope s.heap.objs.size f cdv)) → sp vs H Q E →
      ∃ t, PSs (cxOf CX P w K mg base N qual scope f cdv A outer s H E) body t ∧ t { nx := fun _ H' => Q .non H', rt := Q } (L2.start N vs) H) : FnOk P w K mg base CX (k + 1) f fd ps sp := by
  obtain ⟨oc, od, dV, kV, doc, pm, an, cdv, ct, osl, rfl, lk, hcd, _, _⟩ := F.ex
  exact fn_of lk hcd S len fun A outer s H vs Q E hr hsp => hbody cdv hcd rfl A outer s H vs Q E hr hsp
/-- what must be known of the defs with lambdas of their own -/
structure HL (nm : Nm) (K : KX) (xc : XC) (mg : Str → Option Value) (base : Heap) (T : Nat → Option DI) : Prop where
  code : ∀ i x d f fd ps, nm.fn i = some x → T i = some d → FT nm K mg d x f fd ps → d.lt.isEmpty = false → ∃ c P : Addr, fd.code = .ref c ∧ LamX.TabB base mg c P ∧ (P, (x ++ ".<locals>.") ++ "<lambda>") ∈ K.fx.tb ∧ ∀ p ∈ K.fx.tb, p.1 = P → p.2 = (x ++ ".<locals>.") ++ "<lambda>"
  kf : ∀ i d, T i = some d → d.lt.isEmpty = false → ∀ X : Cx, X.K = K.k → X.mg = mg → KindFn nm xc X
/-- the lambdas of a def -/
def lamOf (T : Nat → Option DI) (G : Nat → Option D) (lt : List E) : Nat → Nat → Env → M A
  | m + 2 => fun j env => (match lt[j]? with
    | some e => evE ⟨interp T G m, fun _ _ => fail⟩ G e env
    | none => fail)
  | _ => fun _ _ => fail
theorem interp_eqL {T : Nat → Option DI} {G : Nat → Option D} {f : Nat} {d : DI} (h : T f = some d) (n : Nat) (as : List A) : interp T G (n + 1) f as = runF ⟨interp T G n, lamOf T G d.lt n⟩ G d as := by
  rcases n with _ | _ | m <;> (rw [interp]; simp only [h]; rfl)
theorem interp_eq {T : Nat → Option DI} {G : Nat → Option D} {f : Nat} {d : DI} (h : T f = some d) (n : Nat) (as : List A) (hl : d.lt = [] := by rfl) : interp T G (n + 1) f as = runF ⟨interp T G n, lamOf T G [] n⟩ G d as := by
  rw [interp_eqL h, hl]
/-- EACH DEF keeps what its interpretation says -/
theorem interp_ok (X : TX w nm K xc mg G T) (L : HL nm K xc mg base T) (n : Nat) : ∀ (i : Nat) (x : Str) (d : DI) (f : Addr) (fd : FuncData) (ps : List Str) (fx : FX), fx.tb = K.fx.tb → nm.fn i = some x → T i = some d → FT nm K mg d x f fd ps →
    FnOk P w K mg base (L2.CX P w) (n + 2) f fd ps (spC (K.fxd fx) xc (interp T G n i)) := by
  induction n using Nat.strongRecOn with
  | _ n ih =>
  intro i x d f fd ps fx hfx hx hT F
  rcases n with _ | n
  · have no : ∀ vs H Q E, spC (K.fxd fx) xc (interp T G 0 i) vs H Q E → False := fun vs H Q E ⟨w, st, as, R, rs, run⟩ => run.fail
    exact ⟨fun vs H Q E h => (no _ _ _ _ h).elim, fun A outer s H args us vs Q E hr e0 hb r h => (no _ _ _ _ h).elim⟩
  obtain ⟨params, body, scope, kws, N, FD, S, hnn, hchk⟩ := F.ex
  refine okC FD S (fun vs H Q E h => ?_) fun cdv hcd hfc A outer s H vs Q E hr hsp => ?_
  · obtain ⟨w, st, as, R, rs, r, st', e, _⟩ := h
    rw [rs.length, interp_np hT e, F.np]
  obtain ⟨w0, st, as, R, rs, run⟩ := hsp
  obtain ⟨Y, hY⟩ : ∃ Y, Y = cxOf (L2.CX P w) P w K.k mg base N x scope f cdv A outer s H E := ⟨_, rfl⟩
  -- what every context here gives
  have fnsAt : ∀ (fx : FX) (m : Nat) (Z : Cx), fx.tb = K.fx.tb → m < n + 1 → Z.K = K.k → Z.mg = mg → Z.base = base → Z.prog = P → Z.w = w → Room (m + 2) Z.A → ∀ j y, nm.fn j = some y → ∃ f fd ps k, Z.mg y = some (.ref f) ∧ PySem.W.keepIn Z.K (.ref f) = true ∧ Binds Z.K fd ps [] ∧ FnOk Z.prog Z.w Z.K Z.mg Z.base (L2.CX Z.prog Z.w) k f fd ps (spC (K.fxd fx) xc (interp T G m j)) ∧ Room k Z.A := by
    intro fx m Z hfx hm h1 h2 h3 h4 h5 hr j y hy
    obtain ⟨d', f', fd', ps', hT', F'⟩ := X.fns j y hy
    rw [h1, h2, h3, h4, h5]
    exact ⟨f', fd', ps', m + 2, F'.gm, F'.kp, F'.bi, ih m hm j y d' f' fd' ps' fx hfx hy hT' F', hr⟩
  have tgt : TgOk Y (locB scope) := fun y hy => by
    subst hY
    refine ⟨?_, .inl rfl⟩
    show L2.Loc scope y
    unfold locB at hy
    unfold L2.Loc
    cases e : scope.names.lookup y with
    | none => rw [e] at hy; cases hy
    | some k => cases k <;> simp_all
  have tkY : Takes Y (fun cls dx _ H => E cls dx H) := by
    subst hY
    exact takes_of rfl rfl rfl rfl
  have excs : ∀ c x, nm.ex c = some x → ∃ Ca, Y.mg x = some (.ref Ca) ∧ PySem.W.keepIn Y.K (.ref Ca) = true ∧ PySem.W.excIn Y.K Ca veB "ValueError.__new__" = true ∧ Raises Y (.ref Ca) ∧ xc c = some (Ca, []) := fun c x hx => by
    subst hY
    exact (X.exs c x hx).elim fun Ca ⟨h1, h2, h3, h4, h5, h6⟩ => ⟨Ca, h1, h2, h3, raises_own h4 h5, h6⟩
  have excf : ∀ c x, nm.exf c = some x → ∃ Ca fI fd fl y k, Y.mg x = some (.ref Ca) ∧ OexC Y.K Ca ∧ PySem.W.findIn Y.K (.ref Ca) "__init__" = some (some (.ref fI)) ∧ PySem.W.typeIn Y.K (.ref fI) = some (.type "function") ∧
      FnOk Y.prog Y.w Y.K Y.mg Y.base (L2.CX Y.prog Y.w) k fI fd ["self", y] (spI Y.K fl) ∧ Binds Y.K fd ["self", y] [] ∧ PySem.W.findIn Y.K (.ref Ca) fl = some none ∧ Room (k + 1) Y.A ∧ xc c = some (Ca, [fl]) := fun c x hx => by
    subst hY
    obtain ⟨Ca, fI, fd, fl, y, e⟩ := X.exfs c x hx
    exact ⟨Ca, fI, fd, fl, y, 1, e.gm, e.oex, e.ini, e.ty, e.fn P base 0, e.bi, e.no, hr.mono (by omega), e.xc⟩
  obtain ⟨CC, hCC⟩ : ∃ CC : CL, CC = ⟨interp T G n, lamOf T G d.lt n⟩ := ⟨_, rfl⟩
  have eI : interp T G (n + 1) i as = runF CC G d as := by rw [hCC, interp_eqL hT]
  have run : Run (K.fxd fx) xc E (runF CC G d as) w0 st H fun a w' st' H' => ∀ v, RA (K.fxd fx) w' st' H' v a → Q v H' := by
    rw [← eI]
    exact run
  have mkO : ∀ (fx' : FX), fx'.tb = K.fx.tb → ((nm.at N scope d.lt).lon scope = true → Lo (nm.at N scope d.lt) (K.fxd fx') xc CC Y) → OkS (nm.at N scope d.lt) N (K.fxd fx') xc CC G (fun cls dx _ H => E cls dx H) scope Y := fun fx' hf' hlo => by
    refine { k := by subst hY; rfl, n := by subst hY; rfl, sc := by subst hY; rfl, calm := by subst hY; rfl, nd := by subst hY; exact S.nd, room := by subst hY; exact hr.mono (Nat.zero_le _), fns := ?_, gls := by subst hY; exact X.gls, gds := by subst hY; exact X.gds, blt := by subst hY; exact X.blt, pass := fun σ => passAt tkY σ, code := fun _ => by subst hY; exact code_kds hcd, lo := fun h => hlo (by subst hY; exact h), tk := tkY, exs := excs, exfs := excf, own := by subst hY; exact passes_of rfl, tgt := tgt, kind := S.kind }
    rw [hCC]
    subst hY
    exact fnsAt fx' n _ hf' (Nat.lt_succ_self n) rfl rfl rfl rfl rfl hr
  cases hlt : d.lt.isEmpty with
  | true =>
    obtain ⟨hl, run2⟩ := run_body (W := fun cls dx _ H => E cls dx H) (fun _ _ _ _ h => h) R hlt run
    have O := mkO fx hfx (fun h => by simp [Nm.at, hlt] at h)
    have ss := sndSL d.body O hchk
    rw [hY] at ss
    exact ⟨_, ss, w0, st, _, R, env_start rs _ _ hnn hl, run2⟩
  | false =>
    obtain ⟨c, Pt, hc, TB, hm, hu⟩ := L.code i x d f fd ps hx hT F hlt
    obtain ⟨fl, hfl⟩ : ∃ fl : FX, fl = ⟨lamChk nm N scope d.lt, Y.env.cells, x ++ ".<locals>.", K.fx.tb⟩ := ⟨_, rfl⟩
    have hft : fl.tb = (K.fxd fx).fx.tb := by rw [hfl]; exact hfx.symm
    obtain ⟨hl, rfl, hall, run2⟩ := run_bodyL (K := K.fxd fx) (fx := fl) hft (W := fun cls dx _ H => E cls dx H) (fun _ _ _ _ h => h) R hlt run
    have R' := R.to (fx := fl) hft
    have rs' := RAs.to (fx := fl) hall rs
    have hfl' : fl.tb = K.fx.tb := by rw [hfl]
    have LO : Lo (nm.at N scope d.lt) (K.fxd fl) xc CC Y := by
      refine ⟨⟨by rw [hfl]; rfl, by rw [hfl]; subst hY; rfl, c, Pt, ?_, ?_, ?_, ?_⟩, fun j ps b s h => by rw [hfl]; exact h, fun j ps b s h => ?_, ?_, ?_⟩
      · subst hY
        show cdv = _
        rw [← hfc]; exact hc
      · subst hY; exact TB
      · rw [hfl]; subst hY; exact hm
      · rw [hfl]; subst hY; exact hu
      · rw [hfl] at h
        have h : lamChk nm N scope d.lt j ps b s = true := h
        unfold lamChk at h
        split at h
        · rw [Bool.and_eq_true] at h
          have := lamSDB_ok h.1
          subst hY
          exact this
        · cases h
      · rcases n with _ | _ | m
        · exact .inl fun j env => by rw [hCC]; rfl
        · exact .inl fun j env => by rw [hCC]; rfl
        · refine .inr ⟨m + 2, by subst hY; exact hr, fun j ps b sl h A' outer' s0 H0 E0 f' c' hrl => ?_⟩
          rw [hfl] at h
          have h : lamChk nm N scope d.lt j ps b sl = true := h
          unfold lamChk at h
          split at h
          · rename_i e he
            rw [Bool.and_eq_true] at h
            have O2 : Okx nm.flat N (K.fxd fl) xc ⟨interp T G m, fun _ _ => fail⟩ G (fun cls dx _ H => E0 cls dx H) sl (LamX.lamCx Y A' outer' s0 H0 E0 sl f' c') := by
              have tk : Takes (LamX.lamCx Y A' outer' s0 H0 E0 sl f' c') (fun cls dx _ H => E0 cls dx H) := takes_of rfl rfl rfl rfl
              refine { k := by subst hY; rfl, n := by subst hY; rfl, sc := rfl, calm := rfl, nd := by subst hY; exact S.nd, room := hrl.mono (Nat.zero_le _), fns := ?_, gls := by subst hY; exact X.gls, gds := by subst hY; exact X.gds, blt := by subst hY; exact X.blt, pass := fun σ => passAt tk σ, code := fun h => (by cases h), lo := fun h => (by cases h) }
              subst hY
              exact fnsAt fl m _ hfl' (by omega) rfl rfl rfl rfl rfl hrl
            have pe := (sndE e O2 h.2).1
            have eC : CC.lam j = evE ⟨interp T G m, fun _ _ => fail⟩ G e := by
              rw [hCC]
              funext env
              simp only [lamOf, he]
            rw [eC]
            exact pe
          · cases h
      · have k := L.kf i d hT hlt Y (by subst hY; rfl) (by subst hY; rfl)
        exact ⟨k.fd, k.cls, k.fe, k.bi, k.bv⟩
    have O := mkO fl hfl' (fun _ => LO)
    have ss := sndSL d.body O hchk
    rw [hY] at ss
    exact ⟨_, ss, w0, [], _, R', env_start rs' _ _ hnn hl, run2⟩
/-- a law: what its interpretation must give -/
theorem law_sp {n i : Nat} {H : Hp} {a : Addr} {ns : List Int} (hS : SqL K H a (ns.map V.int)) (hTb : LamX.Tabs K.fx.tb H) (h : ∃ s', interp T G n i [.d (.scr ns)] [] = some (.ok (.d (.bl true)), s')) :
    spC K xc (interp T G n i) [.ref a] H (fun v _ => v = .bl true) fun _ _ _ => False := by
  obtain ⟨s', h⟩ := h
  have noZ : ∀ a, ¬ Zm ⟨[], []⟩ [] a := fun a z => by
    rcases z with z | ⟨k, o, h1, _⟩
    · cases z
    · simp at h1
  have rv : RV K (Zm ⟨[], []⟩ []) H (.ref a) (.scr ns) := by
    rcases hS with hS | hS
    · exact .scr hS (noZ a)
    · exact .scrK (.inr hS)
  refine ⟨⟨[], []⟩, [], [.d (.scr ns)], ⟨rfl, List.nodup_nil, fun a ha => (by cases ha), fun a ha => (by cases ha), fun a ha => (by cases ha), fun k a o h1 => (by simp at h1), hTb⟩, .cons rv .nil, _, _, h, fun w' H' t R v rv => ?_⟩
  cases rv
  rfl
end
end Sw
/-! The head: a text as data, what the module's names stand for -/
namespace Sw
open PySem PySem.Spec PyProof.Rows L2
/-- one def: its place in the module, name, names of its own, parameters, small program -/
structure Df where
  i : Nat
  x : Str
  N : List Str
  ps : List Str
  d : DI
def topS (P : Program) (i : Nat) : Stmt := P.main.body.getD i (.Pass ⟨0, 0, 0, 0⟩)
def Df.dd (P : Program) (f : Df) : He.DefD := { at_ := (f.x, none), name := f.x, qual := f.x, params := defArgs (topS P f.i), body := defBody (topS P f.i), scope := defScope (topS P f.i) }
/-- a text: its defs, its constants -/
structure Tx where
  P : Program
  fs : List Df
  cs : List (Str × D)
  ds : List (Str × List Str × List Int)
  es : List Str
/-- the fields that a class of exceptions has of its own -/
def fieldsOf (x : Str) : List Str := if x = "BadFloat" then ["number"] else if x = "BadTerm" then ["place"] else []
def Tx.nm (t : Tx) : Nm := ⟨fun i => (t.fs[i]?).map Df.x, fun j => (t.cs[j]?).map Prod.fst, t.ds, fun c => (t.es[c]?).bind fun x => if (fieldsOf x).isEmpty then some x else none, fun c => (t.es[c]?).bind fun x => if (fieldsOf x).isEmpty then none else some x, t.es, false, fun _ => false, fun _ _ _ _ => false⟩
def Tx.xc (t : Tx) (K : PySem.W.Frag) : XC := fun c => (t.es[c]?).map fun x => (He.ga K x, fieldsOf x)
def Tx.T (t : Tx) (i : Nat) : Option DI := (t.fs[i]?).map Df.d
def Tx.G (t : Tx) (j : Nat) : Option D := (t.cs[j]?).map Prod.snd
/-! ### constants -/
mutual
def relD (K : PySem.W.Frag) : D → Value → Bool
  | .non, .none => true
  | .bl b, .bool c => b == c
  | .int i, .int j _ => decide (i = j)
  | .str x, .str y _ => decide (x = y) && PyData.strOk x
  | .tup ds, .ref a => (match K.lookup a with
    | some ⟨.type c, _, .seq its _, _⟩ => decide (c = "tuple") && decide (its.size ≤ sizeLine) && relDs K ds its.toList
    | _ => false)
  | _, _ => false
def relDs (K : PySem.W.Frag) : List D → List Value → Bool
  | [], [] => true
  | d :: ds, u :: us => relD K d u && relDs K ds us
  | _, _ => false
end
mutual
theorem relD_ok {K : PySem.W.Frag} : ∀ (d : D) (u : Value), relD K d u = true → ∃ v, RelV v u ∧ ∀ Z H, RV K Z H v d
  | .non, u, h => by
    cases u with
    | none => exact ⟨.non, rfl, fun _ _ => .non⟩
    | _ => simp [relD] at h
  | .bl b, u, h => by
    cases u with
    | bool c =>
      simp only [relD] at h
      rw [← eq_of_beq h]
      exact ⟨.bl b, rfl, fun _ _ => .bl b⟩
    | _ => simp [relD] at h
  | .int i, u, h => by
    cases u with
    | int j t =>
      simp only [relD] at h
      have e : i = j := of_decide_eq_true h
      exact ⟨.int i, ⟨t, by rw [e]⟩, fun _ _ => .int i⟩
    | _ => simp [relD] at h
  | .str x, u, h => by
    cases u with
    | str y t =>
      simp only [relD, Bool.and_eq_true] at h
      have e : x = y := of_decide_eq_true h.1
      exact ⟨.str x, ⟨t, by rw [e]⟩, fun _ _ => .str h.2⟩
    | _ => simp [relD] at h
  | .tup ds, u, h => by
    cases u with
    | ref a =>
      unfold relD at h
      cases q : K.lookup a with
      | none => simp [q] at h
      | some o =>
        obtain ⟨oc, od, dt, osl⟩ := o
        cases oc with
        | type c =>
          cases dt with
          | seq its n =>
            simp only [q, Bool.and_eq_true] at h
            obtain ⟨vs, hv, hr⟩ := relDs_ok ds its.toList h.2
            exact ⟨.ref a, rfl, fun Z H => .tupK (.inr ⟨_, its, n, q, congrArg Value.type (of_decide_eq_true h.1.1), rfl, of_decide_eq_true h.1.2, hv⟩) (hr Z H)⟩
          | _ => simp [q] at h
        | _ => simp [q] at h
    | _ => simp [relD] at h
  | .lst ds, u, h => by cases u <;> simp [relD] at h
  | .scr ns, u, h => by cases u <;> simp [relD] at h
theorem relDs_ok {K : PySem.W.Frag} : ∀ (ds : List D) (us : List Value), relDs K ds us = true → ∃ vs, Vals vs us ∧ ∀ Z H, RVs K Z H vs ds
  | [], [], _ => ⟨[], .nil, fun _ _ => .nil⟩
  | [], _ :: _, h => by simp [relDs] at h
  | _ :: _, [], h => by simp [relDs] at h
  | d :: ds, u :: us, h => by
    simp only [relDs, Bool.and_eq_true] at h
    obtain ⟨v, h1, h2⟩ := relD_ok d u h.1
    obtain ⟨vs, h3, h4⟩ := relDs_ok ds us h.2
    exact ⟨v :: vs, .cons h1 h3, fun Z H => .cons (h2 Z H) (h4 Z H)⟩
end
def cnB (K : PySem.W.Frag) (c : Str × D) : Bool := match PySem.W.nsIn K mainGlobals c.1 with
  | some (some u) => relD K c.2 u
  | _ => false
/-! ### written tables -/
def intOf (e : DictEntry) : Option Int := match e.val with
  | .int i _ => some i
  | _ => none
def gdB (K : PySem.W.Frag) (p : Str × List Str × List Int) : Bool := match PySem.W.nsIn K mainGlobals p.1 with
  | some (some (.ref a)) => (match K.lookup a with
    | some ⟨_, _, .dict es _, _⟩ => decide (es.toList.map intOf = p.2.2.map some)
    | _ => false)
  | _ => false
theorem tab_get {P : Params} {z : Str} : ∀ (l : List DictEntry) (ks : List Str) (vs : List Int), l.map He.keyOf = He.keysIn P ks → l.map intOf = vs.map some → match gLook ks vs z with
    | none => l.find? (fun e => e.key.isStr z) = none ∧ l.any (fun e => e.refKey) = false
    | some i => ∃ e tk, l.find? (fun e => e.key.isStr z) = some e ∧ e.val = .int i tk
  | [], [], [], _, _ => ⟨rfl, rfl⟩
  | [], k :: ks, _, h, _ => by cases h
  | [], [], v :: vs, _, h => by cases h
  | e :: l, [], _, h, _ => by cases h
  | e :: l, _ :: _, [], _, h => by cases h
  | e :: l, k :: ks, v :: vs, h, h2 => by
    have h1 : He.keyOf e :: l.map He.keyOf = some (k, PyData.keyHash P k) :: He.keysIn P ks := h
    injection h1 with h3 h4
    injection h2 with h5 h6
    have ih := tab_get (z := z) l ks vs h4 h6
    obtain ⟨t, hk⟩ : ∃ t, e.key = .str k t := by
      unfold He.keyOf at h3
      split at h3
      · rename_i x t q
        have := (Prod.mk.inj (Option.some.inj h3)).1
        exact ⟨t, by rw [q, this]⟩
      · cases h3
    obtain ⟨tk, hv⟩ : ∃ tk, e.val = .int v tk := by
      unfold intOf at h5
      split at h5
      · rename_i i tk q
        have := Option.some.inj h5
        exact ⟨tk, by rw [q, this]⟩
      · cases h5
    have hs : e.key.isStr z = decide (k = z) := by
      rw [hk]
      show (k == z) = _
      by_cases c : k = z
      · subst c
        simp
      · rw [decide_eq_false c]
        exact beq_eq_false_iff_ne.mpr c
    have hr : e.refKey = false := by
      unfold DictEntry.refKey
      rw [hk]
    unfold gLook
    by_cases c : k = z
    · rw [if_pos c]
      refine ⟨e, tk, ?_, hv⟩
      rw [List.find?_cons, hs, decide_eq_true c]
    · rw [if_neg c]
      have e1 : (e :: l).find? (fun e => e.key.isStr z) = l.find? (fun e => e.key.isStr z) := by rw [List.find?_cons, hs, decide_eq_false c]
      have e2 : (e :: l).any (fun e => e.refKey) = l.any (fun e => e.refKey) := by rw [List.any_cons, hr, Bool.false_or]
      rw [e1, e2]
      exact ih
theorem gd_ok {K : PySem.W.Frag} {w : World} {h : Heap} {mg : Str → Option Value} (X : K.In h) (G : h.Ns mainGlobals mg) {p : Str × List Str × List Int} (h1 : gdB K p = true) (h2 : He.dicW K (He.ga K p.1) = some (He.keysIn w.params p.2.1)) : GdOk w K mg p := by
  obtain ⟨es, n, D⟩ := He.dicW_ok h2
  unfold gdB at h1
  split at h1
  · rename_i a q
    have ea : He.ga K p.1 = a := by unfold He.ga; rw [q]
    rw [ea] at D h2
    refine ⟨⟨a, es, n, PySem.W.mg_of X G q, D, fun z => ?_⟩⟩
    have hl := D.at_
    rw [hl] at h1
    have hv := of_decide_eq_true h1
    have hk : es.toList.map He.keyOf = He.keysIn w.params p.2.1 := by
      unfold He.dicW at h2
      rw [hl] at h2
      have h3 : (match decide (("dict" : String) = "dict") && ((#[] : Array Value).isEmpty && !(a == sysModules)) with
        | true => some (es.toList.map He.keyOf)
        | false => none) = some (He.keysIn w.params p.2.1) := h2
      rw [D.low] at h3
      exact Option.some.inj h3
    have := tab_get (z := z) _ _ _ hk hv
    cases hg : gLook p.2.1 p.2.2 z with
    | none =>
      rw [hg] at this
      unfold PySem.W.nsIn
      rw [hl]
      simp only [this.1, this.2]
      rfl
    | some i =>
      rw [hg] at this
      obtain ⟨e, tk, e1, e2⟩ := this
      refine ⟨tk, ?_⟩
      unfold PySem.W.nsIn
      rw [hl]
      simp only [e1, e2]
  · cases h1
/-! ### exceptions with a field -/
def scB0 (N : List Str) (sc : Scope) : Bool := decide (sc.kind = .function) && !sc.isCoroutine && !sc.isGenerator && decide N.Nodup && (N.all fun x => locB sc x) && sc.names.all fun y => decide (y.2 ≠ .free)
theorem scB0_ok {N : List Str} {sc : Scope} (h : scB0 N sc = true) : FnScope N N sc := by
  simp only [scB0, Bool.and_eq_true, Bool.not_eq_true', decide_eq_true_eq, List.all_eq_true] at h
  obtain ⟨⟨⟨⟨⟨h1, h2⟩, h3⟩, h4⟩, h6⟩, h7⟩ := h
  refine ⟨h1, h2, h3, h4, List.take_length, fun x hx => ?_, h7⟩
  have h := h6 x hx
  unfold locB at h
  cases e : sc.names.lookup x with
  | none => rw [e] at h; cases h
  | some k => cases k <;> simp_all
/-- (self, y) -/
def argB (y : Str) : Arguments → Bool
  | ⟨[], [a, b], none, [], [], none, []⟩ => decide (a.arg = "self") && (decide (b.arg = y) && (decide (y = "number") || decide (y = "place")))
  | _ => false
theorem argB_ok {y : Str} {A : Arguments} (h : argB y A = true) : ∃ a b, A = ⟨[], [a, b], none, [], [], none, []⟩ ∧ a.arg = "self" ∧ b.arg = y ∧ (y = "number" ∨ y = "place") := by
  unfold argB at h
  split at h
  · simp only [Bool.and_eq_true, Bool.or_eq_true, decide_eq_true_eq] at h
    exact ⟨_, _, rfl, h.1, h.2⟩
  · cases h
def oexB (K : PySem.W.Frag) (C : Addr) : Bool := (match K.lookup C with
  | some ⟨.type "type", _, .cls cd, sl⟩ => (match cd.mro, sl.toList with
    | .ref C' :: bm, [_, _, _, _, some (.builtin n), _] => C' == C && n == "ValueError.__new__" && !cd.hasDel && cd.hasDict && PySem.HandSPX.refsVE bm
    | _, _ => false)
  | _ => false) && (He.eqO (PySem.W.findIn K (.ref C) "__setattr__") (some (some (.builtin "object.__setattr__"))) && (decide (PySem.W.subIn K (.ref C) (.type "BaseException") = some true) && (decide (PySem.W.typeIn K (.ref C) = some (.type "type")) && PySem.W.keepIn K (.ref C))))
theorem oexB_ok {K : PySem.W.Frag} {C : Addr} (h : oexB K C = true) : OexC K C := by
  unfold oexB at h
  simp only [Bool.and_eq_true, decide_eq_true_eq] at h
  obtain ⟨q, h1, h2, h3, h4⟩ := h
  refine ⟨?_, He.eqO_ok h1, h2, h3, h4⟩
  split at q
  · rename_i dd cd sl ho
    split at q
    · rename_i C' bm k0 k1 k2 k3 n k5 hm hs
      simp only [Bool.and_eq_true, beq_iff_eq, Bool.not_eq_true'] at q
      obtain ⟨⟨⟨⟨rfl, rfl⟩, hdel⟩, hdct⟩, ht⟩ := q
      obtain ⟨nm, bs, mro, ns, qn, hd, sn, sub, ab, col, del⟩ := cd
      dsimp only at hm hdel hdct
      subst hm hdel hdct
      have hsl : sl = #[k0, k1, k2, k3, some (.builtin "ValueError.__new__"), k5] := by
        obtain ⟨l⟩ := sl
        simp only at hs
        rw [hs]
      subst hsl
      exact ⟨nm, qn, ns, bs, bm, sn, sub, ab, col, dd, k0, k1, k2, k3, k5, ho, ht⟩
    · cases q
  · cases q
def isClsN (x : Str) : Stmt → Bool
  | .ClassDef n _ _ _ _ _ _ _ _ _ _ => decide (n = x)
  | _ => false
def isDefN (x : Str) : Stmt → Bool
  | .FunctionDef n _ _ _ _ _ _ _ _ _ => decide (n = x)
  | _ => false
def clsBody : Stmt → List Stmt
  | .ClassDef _ _ _ b _ _ _ _ _ _ _ => b
  | _ => []
/-- the class's __init__ -/
def initS (P : Program) (x : Str) : Stmt := ((clsBody ((P.main.body.find? (isClsN x)).getD (.Pass ⟨0, 0, 0, 0⟩))).find? (isDefN "__init__")).getD (.Pass ⟨0, 0, 0, 0⟩)
def initD (P : Program) (x : Str) : He.DefD := { at_ := (x, some "__init__"), name := "__init__", qual := x ++ ".__init__", params := defArgs (initS P x), body := defBody (initS P x), scope := defScope (initS P x) }
/-- the text of such an __init__ -/
def initB (P : Program) (x fl : Str) : Bool := (match defBody (initS P x) with
  | [.Expr (.Call (.Attribute (.Name b _) m p2) [.Name s1 _, .Constant (.str _) _ _] [] p5) _, .Assign [.Attribute (.Name s2 _) f _] (.Name y _) _] =>
    decide (b = "FloatError") && (decide (m = "__init__") && (decide (s1 = "self") && (decide (s2 = "self") && (decide (f = fl) && ((p2.endLine == p5.line) && (scB0 ["self", y] (defScope (initS P x)) && (decide ((defScope (initS P x)).names.lookup ("self" : Str) = some .local) && (decide ((defScope (initS P x)).names.lookup y = some .local) &&
      (!(y == ("__debug__" : Str)) && (!(y == ("__classdict__" : Str)) && (glB (defScope (initS P x)) "FloatError" && argB y (defArgs (initS P x)))))))))))))
  | _ => false)
def vinB : Option PySem.W.CFound → Bool
  | some (.val (.builtin n)) => n == "ValueError.__init__"
  | _ => false
theorem vinB_ok {o : Option PySem.W.CFound} (h : vinB o = true) : o = some (.val (.builtin "ValueError.__init__")) := by
  unfold vinB at h
  split at h
  · rw [beq_iff_eq.mp h]
  · cases h
/-- what the heap must say of such a class -/
def exfB (P : Program) (K : PySem.W.Frag) (x : Str) : Bool :=
  oexB K (He.ga K x) && (He.eqO (PySem.W.findIn K (.ref (He.ga K x)) "__init__") (some (some (.ref (He.ma K (He.ga K x) "__init__")))) && (decide (PySem.W.typeIn K (.ref (He.ma K (He.ga K x) "__init__")) = some (.type "function")) && ((fieldsOf x).all (fun fl => He.eqO (PySem.W.findIn K (.ref (He.ga K x)) fl) (some none)) &&
    ((He.Fa.glo "FloatError").ok K && (PySem.W.readsIn K (He.ga K "FloatError") (.type "type") && (decide (PySem.W.specialIn K (.ref (He.ga K "FloatError")) "__getattribute__" = some (some (.builtin "type.__getattribute__"))) &&
      (vinB (PySem.W.findCls K (.ref (He.ga K "FloatError")) (.type "type") "__init__") && (initD P x).ok K)))))))
/-! ### what is looked at -/
def Tx.obs0 (t : Tx) (K : PySem.W.Frag) : He.AlD :=
  ((t.fs.all fun f => (He.Fa.glo f.x).ok K) && (bltNames.all fun x => (He.Fa.free x).ok K) && t.cs.all (cnB K) && (t.ds.all (gdB K) && (t.es.all (fun x => (He.Fa.glo x).ok K && (if (fieldsOf x).isEmpty then (He.Fa.exc x).ok K else exfB t.P K x)) && t.fs.all fun f => (f.dd t.P).ok K)), (t.fs.map fun f => He.fnW K (f.x, none)) ++ (t.es.filter fun x => !(fieldsOf x).isEmpty).map fun x => He.fnW K (x, some "__init__"))
def Tx.val0 (t : Tx) : He.AlD := (true, (t.fs.map fun f => (f.dd t.P).val) ++ (t.es.filter fun x => !(fieldsOf x).isEmpty).map fun x => (initD t.P x).val)
def Tx.obs (t : Tx) (K : PySem.W.Frag) : He.AlT := (t.obs0 K, t.ds.map fun p => He.dicW K (He.ga K p.1))
def Tx.val (t : Tx) (w : World) : He.AlT := (t.val0, t.ds.map fun p => some (He.keysIn w.params p.2.1))
def Tx.says (t : Tx) (w : World) (K : PySem.W.Frag) : Prop := t.obs K = t.val w
def Tx.obG (t : Tx) (n : Nat) (g : Addr → Option Obj) : He.AlT := t.obs (He.frG g (He.asD g n))
def Tx.hook (t : Tx) (n : Nat) : PySem.W.Hook where
  α := He.AlT
  obs := fun s => t.obG n s.heap.get?
  val := fun w => t.val w
  says := fun w h => ∃ K : PySem.W.Frag, K.In h ∧ t.says w K
  of := fun _ _ e => ⟨_, He.frG_in, e⟩
  keeps := fun _ _ _ ⟨K, hK, c⟩ k => ⟨K, PySem.W.Frag.In.keeps hK k, c⟩
def Tx.ob (t : Tx) (n : Nat) (s : PySem.W.SharedT) : He.AlT := t.obG n (HandSHeadRun.getT s)
theorem Tx.ob_eq (t : Tx) (n : Nat) (s : PySem.W.SharedT) : t.ob n s = (t.hook n).obs s.abs := by
  have e : HandSHeadRun.getT s = s.abs.heap.get? := funext (HandSHeadRun.getT_eq s)
  unfold Tx.ob
  rw [e] <;> rfl
/-! ### the checks of each def -/
def scB (N ps : List Str) (sc : Scope) : Bool := decide (sc.kind = .function) && !sc.isCoroutine && !sc.isGenerator && decide N.Nodup && decide (N.take ps.length = ps) &&
  (ps.all fun x => locB sc x) && sc.names.all fun y => decide (y.2 ≠ .free)
theorem scB_ok {N ps : List Str} {sc : Scope} (h : scB N ps sc = true) : FnScope N ps sc := by
  simp only [scB, Bool.and_eq_true, Bool.not_eq_true', decide_eq_true_eq, List.all_eq_true] at h
  obtain ⟨⟨⟨⟨⟨⟨h1, h2⟩, h3⟩, h4⟩, h5⟩, h6⟩, h7⟩ := h
  refine ⟨h1, h2, h3, h4, h5, fun x hx => ?_, h7⟩
  have h := h6 x hx
  unfold locB at h
  cases e : sc.names.lookup x with
  | none => rw [e] at h; cases h
  | some k => cases k <;> simp_all
def Df.chk (P : Program) (nm : Nm) (f : Df) : Bool := scB f.N f.ps (defScope (topS P f.i)) && decide (f.d.nn = f.N.length) && decide (f.d.np = f.ps.length) && chkSL (nm.at f.N (defScope (topS P f.i)) f.d.lt) f.N (defScope (topS P f.i)) f.d.body (defBody (topS P f.i))
def Df.BindP (P : Program) (f : Df) : Prop := ∀ (kV doc pm : Value) (an : Option Addr) (cdv ct : Value) (us : List Value), us.length = f.ps.length →
  bindArgs (PySem.W.fnOf f.x f.x (defArgs (topS P f.i)) (defBody (topS P f.i)) (defScope (topS P f.i)) .none kV doc pm an cdv ct) ⟨us, []⟩ = pure (f.ps.zip us)
def bindAll (P : Program) : List Df → Prop
  | [] => True
  | f :: r => f.BindP P ∧ bindAll P r
theorem bindAll.of {P : Program} {f : Df} : ∀ {fs : List Df}, bindAll P fs → f ∈ fs → f.BindP P
  | _ :: _, h, hm => by
    rcases List.mem_cons.mp hm with rfl | hm
    · exact h.1
    · exact bindAll.of h.2 hm
structure Tx.Good (t : Tx) : Prop where
  chk : (t.fs.all fun f => f.chk t.P t.nm) = true
  ini : (t.es.all fun x => (fieldsOf x).all fun fl => initB t.P x fl) = true := by decide +kernel
  bind : bindAll t.P t.fs
section
variable {t : Tx} {K : PySem.W.Frag} {h : Heap} {mg : Str → Option Value}
theorem Tx.split (c : t.says w K) : (∀ f ∈ t.fs, (He.Fa.glo f.x).ok K = true) ∧ (∀ x ∈ bltNames, (He.Fa.free x).ok K = true) ∧ (∀ c ∈ t.cs, cnB K c = true) ∧ (∀ f ∈ t.fs, (f.dd t.P).ok K = true) ∧ (∀ f ∈ t.fs, He.fnW K (f.x, none) = (f.dd t.P).val) ∧ (∀ p ∈ t.ds, gdB K p = true) ∧ (∀ p ∈ t.ds, He.dicW K (He.ga K p.1) = some (He.keysIn w.params p.2.1)) ∧ ∀ x ∈ t.es, (He.Fa.glo x).ok K = true ∧ (if (fieldsOf x).isEmpty then (He.Fa.exc x).ok K else exfB t.P K x) = true ∧ ((fieldsOf x).isEmpty = false → He.fnW K (x, some "__init__") = (initD t.P x).val) := by
  have c0 : t.obs0 K = t.val0 := congrArg Prod.fst c
  have e3 : (t.ds.map fun p => He.dicW K (He.ga K p.1)) = t.ds.map fun p => some (He.keysIn w.params p.2.1) := congrArg Prod.snd c
  have e1 := congrArg Prod.fst c0
  have e2 := congrArg Prod.snd c0
  simp only [Tx.obs0, Tx.val0] at e1 e2
  simp only [Bool.and_eq_true, List.all_eq_true] at e1
  obtain ⟨⟨⟨h1, h2⟩, h3⟩, h5, h6, h4⟩ := e1
  obtain ⟨e4, e5⟩ := List.append_inj e2 (by simp)
  exact ⟨h1, h2, h3, h4, fun f hf => List.map_inj_left.mp e4 f hf, h5, fun p hp => List.map_inj_left.mp e3 p hp, fun x hx => ⟨(h6 x hx).1, (h6 x hx).2, fun hf => List.map_inj_left.mp e5 x (List.mem_filter.mpr ⟨hx, by rw [hf]; rfl⟩)⟩⟩
theorem Tx.def_ (X : K.In h) (G : h.Ns mainGlobals mg) (c : t.says w K) (g : t.Good) {i : Nat} {f : Df} (e : t.fs[i]? = some f) :
    ∃ fd, FT t.nm K mg f.d f.x (He.ga K f.x) fd f.ps ∧ FunD K f.x f.x (defArgs (topS t.P f.i)) (defBody (topS t.P f.i)) (defScope (topS t.P f.i)) [] [] (He.ga K f.x) fd := by
  obtain ⟨h1, h2, h3, h4, h5, h6, h7, h8⟩ := t.split c
  have hm := List.mem_of_getElem? e
  obtain ⟨fd, F⟩ := He.DefD.funD (h5 f hm) (h4 f hm)
  have hc := List.all_eq_true.mp g.chk f hm
  simp only [Df.chk, Bool.and_eq_true, decide_eq_true_eq] at hc
  obtain ⟨⟨⟨c1, c2⟩, c3⟩, c4⟩ := hc
  refine ⟨fd, ⟨⟨_, _, _, _, f.N, F, scB_ok c1, c2, c4⟩, c3, He.glo_ok X G (h1 f hm), ?_⟩, F⟩
  exact FunD.bindsN F (g.bind.of hm)
theorem Tx.tx (X : K.In h) (G : h.Ns mainGlobals mg) (c : t.says w K) (g : t.Good) : TX w t.nm K (t.xc K) mg t.G t.T := by
  obtain ⟨h1, h2, h3, h4, h5, h6, h7, h8⟩ := t.split c
  refine ⟨fun i x e => ?_, fun j x d e1 e2 => ?_, fun p hp => gd_ok X G (h6 p hp) (h7 p hp), fun x hx => ?_, fun c x hx => ?_, fun c x hx => ?_⟩
  · simp only [Tx.nm, Option.map_eq_some_iff] at e
    obtain ⟨f, e, rfl⟩ := e
    obtain ⟨fd, F, _⟩ := Tx.def_ X G c g e
    exact ⟨f.d, _, fd, f.ps, by simp [Tx.T, e], F⟩
  · simp only [Tx.nm, Tx.G, Option.map_eq_some_iff] at e1 e2
    obtain ⟨p, e, rfl⟩ := e1
    obtain ⟨p', e', rfl⟩ := e2
    rw [e] at e'
    cases e'
    have hc := h3 p (List.mem_of_getElem? e)
    unfold cnB at hc
    cases q : PySem.W.nsIn K mainGlobals p.1 with
    | none => simp [q] at hc
    | some o =>
      cases o with
      | none => simp [q] at hc
      | some u =>
        simp only [q] at hc
        obtain ⟨v, hv, hr⟩ := relD_ok _ _ hc
        exact ⟨u, v, PySem.W.mg_of X G q, hv, hr⟩
  · exact He.free_ok X G (h2 x hx)
  · simp only [Tx.nm, Option.bind_eq_some_iff] at hx
    obtain ⟨x', hx', hx2⟩ := hx
    split at hx2
    · rename_i hf
      cases hx2
      obtain ⟨g1, g2, _⟩ := h8 x (List.mem_of_getElem? hx')
      rw [if_pos hf] at g2
      have e2 : (PySem.W.excIn K (He.ga K x) He.veBase "ValueError.__new__" && (PySem.W.keepIn K (.ref (He.ga K x)) && (decide (PySem.W.subIn K (.ref (He.ga K x)) (.type "BaseException") = some true) && decide (PySem.W.typeIn K (.ref (He.ga K x)) = some (.type "type"))))) = true := g2
      simp only [Bool.and_eq_true, decide_eq_true_eq] at e2
      obtain ⟨q1, q2, q3, q4⟩ := e2
      exact ⟨_, He.glo_ok X G g1, q2, q1, q3, q4, by unfold Tx.xc; rw [hx']; simp only [Option.map_some]; rw [List.isEmpty_iff.mp hf]⟩
    · cases hx2
  · simp only [Tx.nm, Option.bind_eq_some_iff] at hx
    obtain ⟨x', hx', hx2⟩ := hx
    split at hx2
    · cases hx2
    · rename_i hf
      cases hx2
      have hf : (fieldsOf x).isEmpty = false := by simpa using hf
      have hm := List.mem_of_getElem? hx'
      obtain ⟨g1, g2, g3⟩ := h8 x hm
      have g3 := g3 hf
      rw [if_neg (by rw [hf]; exact Bool.false_ne_true)] at g2
      obtain ⟨fl, efl⟩ : ∃ fl, fieldsOf x = [fl] := by
        unfold fieldsOf at hf ⊢
        split
        · exact ⟨_, rfl⟩
        · split
          · exact ⟨_, rfl⟩
          · rename_i z1 z2; rw [if_neg z1, if_neg z2] at hf; cases hf
      have gi := List.all_eq_true.mp (List.all_eq_true.mp g.ini x hm) fl (by rw [efl]; exact List.mem_singleton.mpr rfl)
      unfold exfB at g2
      simp only [Bool.and_eq_true, decide_eq_true_eq] at g2
      obtain ⟨q1, q2, q3, q4, q5, q6, q7, q8, q9⟩ := g2
      have q4 := List.all_eq_true.mp q4 fl (by rw [efl]; exact List.mem_singleton.mpr rfl)
      obtain ⟨fd, FD⟩ := He.DefD.funD g3 q9
      have FD : FunD K "__init__" (x ++ ".__init__") (defArgs (initS t.P x)) (defBody (initS t.P x)) (defScope (initS t.P x)) [] [] (He.ma K (He.ga K x) "__init__") fd := FD
      have bI : BaseI K mg "FloatError" (He.ga K "FloatError") := by
        refine ⟨He.glo_ok X G q5, q6, q7, ?_⟩
        exact vinB_ok q8
      unfold initB at gi
      split at gi
      · rename_i b p1 m p2 s1 p3 cm cj p4 p5 p6 s2 p7 f' p8 y p9 p10 hbody
        simp only [Bool.and_eq_true, decide_eq_true_eq, Bool.not_eq_true'] at gi
        obtain ⟨rfl, rfl, rfl, rfl, rfl, r6, r7, r8, r9, r10, r11, r12, r13⟩ := gi
        rw [hbody] at FD
        obtain ⟨a1, a2, ea, e1, e2, ey⟩ := argB_ok r13
        refine ⟨He.ga K x, He.ma K (He.ga K x) "__init__", fd, _, y, He.glo_ok X G g1, oexB_ok q1, He.eqO_ok q2, q3, fun P base k => init_ok bI r12 FD (scB0_ok r7) r8 r9 r6 r10 r11, ?_, He.eqO_ok q4, by unfold Tx.xc; rw [hx']; simp only [Option.map_some]; rw [efl]⟩
        refine FunD.bindsN FD ?_
        intro kV doc pm an cdv ct us hl
        rw [ea]
        obtain ⟨n1, t1, p1'⟩ := a1
        obtain ⟨n2, t2, p2'⟩ := a2
        dsimp only at e1 e2
        subst e1 e2
        rcases ey with rfl | rfl <;> exact match us, hl with | [_, _], _ => rfl
      · cases gi
end
/-- no lambdas -/
def fx0 : FX := ⟨fun _ _ _ _ => false, [], "", []⟩
theorem Tx.lt_nil {t : Tx} (h : (t.fs.all fun f => f.d.lt.isEmpty) = true) {i : Nat} {d : DI} (e : t.T i = some d) : d.lt.isEmpty = true := by
  simp only [Tx.T, Option.map_eq_some_iff] at e
  obtain ⟨f, e, rfl⟩ := e
  exact List.all_eq_true.mp h f (List.mem_of_getElem? e)
/-- THE END: a law, from its interpretation -/
theorem Tx.walk {t : Tx} (g : t.Good) (hlt : (t.fs.all fun f => f.d.lt.isEmpty) = true) {l : PySem.W.OpenLaw} (hP : l.prog = t.P) {m n k N : Nat} {f : Df} {x : Str} {q : Program} {loose : List Str} {XP : (Str → Option Value) → Heap → Prop} {d : DefRec} (hn : l.most = some n) (hn2 : n ≤ sizeLine)
    (hdf : d.params.defaults = []) (hr : Room (N + 2) callerA) (hk : t.fs[k]? = some f) (hx : f.x = d.name) (hps : f.ps = [x])
    (hI : ∀ ns : List Int, ns.length ≤ n → ∃ s', interp t.T t.G N k [.d (.scr ns)] [] = some (.ok (.d (.bl true)), s')) :
    PySem.W.WalkO q loose XP (t.hook m).says l.row.toRowW d [] (fun f vs => PySem.call f vs) := by
  refine Att.attach_call hn hdf fun w sA sB mg mb fa o pm cd doc a vs ns GG YY ho hd hc hmg hobj hin hle hgs => ?_
  obtain ⟨K, KX', c⟩ := YY
  obtain ⟨fd, F, FD⟩ := Tx.def_ KX' GG.T.g c g hk
  have TXX := fun (base : Heap) (kb : K.In base) (gb : base.Ns mainGlobals mg) => Tx.tx kb gb c g
  have efa : fa = He.ga K f.x := by
    have e := F.gm
    rw [hx, hmg] at e
    cases e
    rw [hx]
  have hb : ∀ (s : Shared) (u : Value), BindsTo s fd ⟨[u], []⟩ [(x, u)] := fun s u => by
    have z := FD.bindsA (ps := f.ps) (g.bind.of (List.mem_of_getElem? hk)) s [u] (by rw [hps]; rfl)
    rw [hps] at z
    exact z
  have hF : ∀ base : Heap, K.In base → base.Ns mainGlobals mg → FnOk l.prog w K mg base (L2.CX l.prog w) (N + 2) fa fd [x] (spC (⟨K, fx0⟩ : KX) (t.xc K) (interp t.T t.G N k)) := fun base kb gb => by
    rw [efa, ← hps]
    have L : HL t.nm (⟨K, fx0⟩ : KX) (t.xc K) mg base t.T := ⟨fun i x d f fd ps _ hT _ h => (by rw [Tx.lt_nil hlt hT] at h; cases h), fun i d hT h => (by rw [Tx.lt_nil hlt hT] at h; cases h)⟩
    exact interp_ok (K := ⟨K, fx0⟩) (TXX base kb gb) L N k f.x f.d _ fd f.ps fx0 rfl (by simp [Tx.nm, hk]) (by simp [Tx.T, hk]) F
  exact law_call KX' GG.T.g GG.T.b GG.T.builtins GG.T.nolimit hgs hobj hin (Nat.le_trans hle hn2) hr hF hb (fun H hO hS => law_sp (K := ⟨K, fx0⟩) hS (fun p hp => by cases hp) (hI ns hle)) fun H e s' ⟨_, _, _, _, _, _, _, _, _, _, _, _, z⟩ => z
end Sw
/-! The head of a law with lambdas; the end -/
namespace Sw
open PySem PySem.Spec PyProof.Rows L2
/-! ### the kinds -/
def excCB (K : PySem.W.Frag) (D : Addr) : Bool :=
  decide (PySem.W.findIn K (.ref D) "__getattribute__" = some (some (.builtin "BaseException.__getattribute__"))) && (decide (PySem.W.findIn K (.ref D) "__getattr__" = some none) && (decide (PySem.W.subIn K (.ref D) (.type "BaseException") = some true) && (PySem.W.hasDictIn K D &&
    (decide (PySem.W.findIn K (.ref D) "__class__" = some (some (.builtin "object.__class__"))) && (decide (PySem.W.specialIn K (.builtin "object.__class__") "__get__" = some (some (.builtin "getset_descriptor.__get__"))) && (decide (PySem.W.takesIn K (.builtin "object.__class__") = some true) && decide (PySem.W.mroIn K D (.type "object") = some true)))))))
theorem excCB_ok {K : PySem.W.Frag} {D : Addr} (h : excCB K D = true) : ExcC K D := by
  simp only [excCB, Bool.and_eq_true, decide_eq_true_eq] at h
  obtain ⟨h1, h2, h3, h4, h5, h6, h7, h8⟩ := h
  exact ⟨h1, h2, h3, h4, h5, h6, h7, h8⟩
/-- the class x is the kind number j -/
def kindB (K : PySem.W.Frag) (x : Str) : Bool :=
  excCB K (He.ga K x) && (decide (kNames.idxOf x < 11) && (decide (fieldsOf x = (kF (kNames.idxOf x)).toList) && ((xfB K (He.ga K x) && (He.eqO (PySem.W.findIn K (.ref (He.ga K x)) "number") (some none) && He.eqO (PySem.W.findIn K (.ref (He.ga K x)) "place") (some none))) && (decide (PySem.W.kitOne K (.ref (He.ga K x)) (.type "ValueError") = some true) && (decide (PySem.W.exmOne K (.ref (He.ga K x)) (.ref (He.ga K "FloatError")) = some true) &&
    ((List.range 11).all fun i => match kNames[i]? with
      | some C => decide (PySem.W.kitOne K (.ref (He.ga K x)) (.ref (He.ga K C)) = some (decide (i = kNames.idxOf x)))
      | none => true))))))
def kindsB (K : PySem.W.Frag) (es : List Str) : Bool :=
  es.all (kindB K) && ((kNames.all fun x => (He.Fa.glo x).ok K) && ((He.Fa.glo "FloatError").ok K && ((He.Fa.free "isinstance").ok K && (He.Fa.free "ValueError").ok K)))
/-! ### the hook -/
def lawT (K : PySem.W.Frag) : Addr × Addr := He.cT K ("law", none)
def Tx.KT (t : Tx) (n : Nat) (g : Addr → Option Obj) : PySem.W.Frag := He.frT g (He.asD g n ++ [cStatics])
structure Tx.saysL (t : Tx) (w : World) (h : Heap) (K : PySem.W.Frag) : Prop where
  tx : t.says w K
  ks : kindsB K t.es = true
  hd : PySem.W.codeHdIn K (lawT K).1 (lawT K).2 = true
  out : K.lookup (lawT K).2 = none
  empty : h.get? (lawT K).2 = some { cls := .none, data := .fields #[] }
def Tx.obL (t : Tx) (n : Nat) (g : Addr → Option Obj) : He.AlT × Bool := (t.obs (t.KT n g), kindsB (t.KT n g) t.es && He.tabsB g [("law", none)] (t.KT n g))
def Tx.hookL (t : Tx) (n : Nat) : PySem.W.Hook where
  α := He.AlT × Bool
  obs := fun s => t.obL n s.heap.get?
  val := fun w => (t.val w, true)
  says := fun w h => ∃ K : PySem.W.Frag, K.In h ∧ t.saysL w h K
  of := fun w s e => by
    have e1 : t.obs (t.KT n s.heap.get?) = t.val w := congrArg Prod.fst e
    have e2 : (kindsB (t.KT n s.heap.get?) t.es && He.tabsB s.heap.get? [("law", none)] (t.KT n s.heap.get?)) = true := congrArg Prod.snd e
    rw [Bool.and_eq_true] at e2
    obtain ⟨h1, h2⟩ := e2
    simp only [He.tabsB, List.all_cons, List.all_nil, Bool.and_true, Bool.and_eq_true] at h2
    obtain ⟨h3, h4⟩ := h2
    have key : ∃ o, s.heap.get? (lawT (t.KT n s.heap.get?)).2 = some o ∧ He.emptyTab o = true := by
      cases q : s.heap.get? (He.cT (t.KT n s.heap.get?) ("law", none)).2 with
      | none => rw [q] at h4; cases h4
      | some o => rw [q] at h4; exact ⟨o, q, h4⟩
    obtain ⟨o, q, z⟩ := key
    exact ⟨t.KT n s.heap.get?, He.frT_in, ⟨e1, h1, h3, He.frT_none q z, by rw [q, He.emptyTab_eq z]⟩⟩
  keeps := fun _ _ _ ⟨K, hK, c⟩ k => ⟨K, PySem.W.Frag.In.keeps hK k, c.tx, c.ks, c.hd, c.out, k _ _ c.empty⟩
def Tx.obLT (t : Tx) (n : Nat) (s : PySem.W.SharedT) : He.AlT × Bool := t.obL n (HandSHeadRun.getT s)
theorem Tx.obLT_eq (t : Tx) (n : Nat) (s : PySem.W.SharedT) : t.obLT n s = (t.hookL n).obs s.abs := by
  have e : HandSHeadRun.getT s = s.abs.heap.get? := funext (HandSHeadRun.getT_eq s)
  unfold Tx.obLT
  rw [e] <;> rfl
/-- what the text of _law_kind is -/
structure KdT (t : Tx) (ik : Nat) : Prop where
  at_ : ∃ fk n q, t.fs[ik]? = some fk ∧ fk.x = "_law_kind" ∧ fk.ps = ([("_law_work" : Str)] : List Str) ∧ defBody (topS t.P fk.i) = kindA n q ∧ KindL q ∧ scB ["_law_work", n, "_law_kinds", "_law_words", "_law_word"] ["_law_work"] (defScope (topS t.P fk.i)) = true ∧
    ((["_law_work", n, "_law_kinds", "_law_words", "_law_word"] : List Str).all fun x => decide ((defScope (topS t.P fk.i)).names.lookup x = some .local)) = true ∧
    (((["isinstance", "ValueError", "FloatError"] : List Str) ++ kNames).all fun x => decide ((defScope (topS t.P fk.i)).names.lookup x = some .globalImplicit)) = true ∧ ((n == ("__debug__" : Str)) = false ∧ (n == ("__classdict__" : Str)) = false)
section
variable {t : Tx} {K : PySem.W.Frag} {h : Heap} {mg : Str → Option Value} {w : World}
theorem Tx.kf {ik : Nat} (KI : K.In h) (G : h.Ns mainGlobals mg) (c : t.saysL w h K) (g : t.Good) (kd : KdT t ik) : ∀ X : Cx, X.K = K → X.mg = mg → KindFn t.nm (t.xc K) X := by
  intro X e1 e2
  obtain ⟨fk, n, q, h1, h2, h3, h4, h5, h6, h7, h8, h9⟩ := kd.at_
  obtain ⟨fd, F, FD⟩ := Tx.def_ KI G c.tx g h1
  have ks := c.ks
  simp only [kindsB, Bool.and_eq_true, List.all_eq_true] at ks
  obtain ⟨k1, k2, k3, k4, k5⟩ := ks
  have gl : ∀ x ∈ kNames, mg x = some (.ref (He.ga K x)) := fun x hx => He.glo_ok KI G (k2 x hx)
  refine ⟨?_, ?_, ?_, ?_, ?_⟩
  · have b := g.bind.of (List.mem_of_getElem? h1)
    have gm := F.gm
    have bi := F.bi
    rw [h2] at FD gm
    rw [h4] at FD
    rw [h3] at bi
    have FD0 := FD
    obtain ⟨oc, od, dV, kV, doc, pm, an, cdv, ct, osl, e3, lk, hcd, _, _⟩ := FD.ex
    rw [e1, e2]
    rw [e3] at lk bi
    exact ⟨_, oc, od, _, n, q, _, dV, kV, doc, pm, an, cdv, ct, osl, gm, FD0.kp, lk, hcd, bi, scB_ok h6, h5, fun x hx => by simpa using List.all_eq_true.mp h7 x hx, fun x hx => by simpa using List.all_eq_true.mp h8 x hx, h9⟩
  · intro c' C ns hc
    simp only [Tx.xc, Option.map_eq_some_iff, Prod.mk.injEq] at hc
    obtain ⟨x, hx, rfl, rfl⟩ := hc
    have kb := k1 x (List.mem_of_getElem? hx)
    simp only [kindB, Bool.and_eq_true, decide_eq_true_eq, List.all_eq_true] at kb
    obtain ⟨b1, b2, b3, b4, b5, b6, b7⟩ := kb
    have hjx : kNames[kNames.idxOf x]? = some x := by
      have hl : kNames.idxOf x < kNames.length := b2
      rw [List.getElem?_eq_getElem hl, List.getElem_idxOf hl]
    refine ⟨kNames.idxOf x, x, hjx, hx, ?_, b3⟩
    rw [e1, e2]
    refine ⟨excCB_ok b1, fun i Cn hi => ?_, b5, xfB_ok b4.1, He.eqO_ok b4.2.1, He.eqO_ok b4.2.2⟩
    have hi11 : i < 11 := (List.getElem?_eq_some_iff.mp hi).1
    have := b7 i (List.mem_range.mpr hi11)
    rw [hi] at this
    exact ⟨_, gl Cn (List.mem_of_getElem? hi), by simpa using this⟩
  · rw [e1, e2]
    refine ⟨He.ga K "FloatError", He.glo_ok KI G k3, fun c' C ns hc => ?_⟩
    simp only [Tx.xc, Option.map_eq_some_iff, Prod.mk.injEq] at hc
    obtain ⟨x, hx, rfl, rfl⟩ := hc
    have kb := k1 x (List.mem_of_getElem? hx)
    simp only [kindB, Bool.and_eq_true, decide_eq_true_eq] at kb
    exact kb.2.2.2.2.2.1
  · rw [e2]; exact He.free_ok KI G k4
  · rw [e2]; exact He.free_ok KI G k5
end
/-- THE END: a law with lambdas of its own -/
theorem Tx.walkL {t : Tx} (g : t.Good) (hlt : (t.fs.all fun f => f.d.lt.isEmpty || decide (f.x = "law")) = true) {ik : Nat} (kd : KdT t ik) {l : PySem.W.OpenLaw} (hP : l.prog = t.P) {m n k N : Nat} {f : Df} {x : Str} {q : Program} {loose : List Str} {XP : (Str → Option Value) → Heap → Prop} {d : DefRec} (hn : l.most = some n) (hn2 : n ≤ sizeLine)
    (hdf : d.params.defaults = []) (hr : Room (N + 2) callerA) (hk : t.fs[k]? = some f) (hx : f.x = d.name) (hps : f.ps = [x])
    (hI : ∀ ns : List Int, ns.length ≤ n → ∃ s', interp t.T t.G N k [.d (.scr ns)] [] = some (.ok (.d (.bl true)), s')) :
    PySem.W.WalkO q loose XP (t.hookL m).says l.row.toRowW d [] (fun f vs => PySem.call f vs) := by
  refine LamX.walk_ofTsE (CX := fun w => L2.CX l.prog w) (x := x) (k := N + 2) hn hn2 hdf hr (fun w mg fa h Y G hmg => ?_) fun w H s e s' ⟨_, _, _, _, _, _, _, _, _, _, _, _, z⟩ => z
  obtain ⟨K, KI, c⟩ := Y
  obtain ⟨fd, F, FD⟩ := Tx.def_ KI G c.tx g hk
  have efa : fa = He.ga K f.x := by
    have e := F.gm
    rw [hx, hmg] at e
    cases e
    rw [hx]
  obtain ⟨fx, hfx⟩ : ∃ fx : FX, fx = ⟨fun _ _ _ _ => false, [], "", [((lawT K).2, (("law" : Str) ++ ".<locals>.") ++ "<lambda>")]⟩ := ⟨_, rfl⟩
  refine ⟨K, KI, fd, [lawT K], spC (⟨K, fx⟩ : KX) (t.xc K) (interp t.T t.G N k), fun p hp => ?_, fun p hp => ?_, fun p hp => ?_, fun s u => ?_, fun H a ns hl hb hT hS => ?_, fun base kb gb TB => ?_⟩
  · cases List.mem_singleton.mp hp; exact c.empty
  · cases List.mem_singleton.mp hp; exact c.out
  · cases List.mem_singleton.mp hp; exact PySem.W.codeHd_of_K KI c.hd
  · have z := FD.bindsA (ps := f.ps) (g.bind.of (List.mem_of_getElem? hk)) s [u] (by rw [hps]; rfl)
    rw [hps] at z
    exact z
  · refine law_sp (K := ⟨K, fx⟩) hS (fun p hp => ?_) (hI ns hl)
    rw [hfx] at hp
    cases List.mem_singleton.mp hp
    exact LamX.TabS.nil (hT _ (List.mem_singleton.mpr rfl))
  · rw [efa, ← hps]
    have L : HL t.nm (⟨K, fx⟩ : KX) (t.xc K) mg base t.T := by
      refine ⟨fun i x' d' f' fd' ps' hi hT FF hne => ?_, fun i d' hT hne => Tx.kf KI G c g kd⟩
      have hlaw : x' = "law" := by
        simp only [Tx.nm, Option.map_eq_some_iff] at hi
        simp only [Tx.T, Option.map_eq_some_iff] at hT
        obtain ⟨fi, e1, rfl⟩ := hi
        obtain ⟨fi', e2, rfl⟩ := hT
        rw [e1] at e2
        cases e2
        have := List.all_eq_true.mp hlt fi (List.mem_of_getElem? e1)
        simpa [hne] using this
      subst hlaw
      obtain ⟨params, body, scope, kws, N', FD', _, _, _⟩ := FF.ex
      obtain ⟨oc, od, dV, kV, doc, pm, an, cdv, ct, osl, e3, lk, hcd, _, _⟩ := FD'.ex
      obtain ⟨cc, hc⟩ := He.codeIn_ref hcd
      have gm := FF.gm
      have ef : f' = He.ga K "law" := by
        have hl : (He.Fa.glo "law").ok K = true := by
          simp only [Tx.nm, Option.map_eq_some_iff] at hi
          obtain ⟨fi, e1, e2⟩ := hi
          have := (t.split c.tx).1 fi (List.mem_of_getElem? e1)
          rw [e2] at this
          exact this
        have e4 := He.glo_ok KI G hl
        rw [gm] at e4
        cases e4
        rfl
      have hcode : fd'.code = .ref cc := by rw [e3]; exact hc
      have eL : (lawT K).1 = cc := by
        refine He.codeOf_eq (p := ("law", none)) (oc := oc) (od := od) (osl := osl) (fd := fd') ?_ hcode
        show K.lookup (He.ga K "law") = _
        rw [← ef]
        exact lk
      refine ⟨cc, (lawT K).2, hcode, by rw [← eL]; exact TB _ (List.mem_singleton.mpr rfl), by rw [hfx]; exact List.mem_singleton.mpr rfl, fun p hp _ => ?_⟩
      rw [hfx] at hp
      cases List.mem_singleton.mp hp
      rfl
    exact interp_ok (K := ⟨K, fx⟩) (Tx.tx kb gb c.tx g) L N k f.x f.d _ fd f.ps fx rfl (by simp [Tx.nm, hk]) (by simp [Tx.T, hk]) F
end Sw
/-! What programs come to: plain rules -/
namespace Sw
open PySem
section
variable {α β γ : Type}
@[simp] theorem bnd_ret (a : α) (f : α → M β) : bnd (ret a) f = f a := rfl
@[simp] theorem bnd_fail (f : α → M β) : bnd (fail : M α) f = fail := rfl
@[simp] theorem opt_some (a : α) : opt (some a) = ret a := rfl
@[simp] theorem opt_none : (opt none : M α) = fail := rfl
@[simp] theorem asD_d (x : D) : asD (.d x) = ret x := rfl
@[simp] theorem pk_d (x : D) : pk (.d x) = ret x := rfl
@[simp] theorem frz_d (x : D) : frz (.d x) = ret (.d x) := rfl
@[simp] theorem trim_ret (a : α) : trim (ret a) = ret a := by
  funext s
  simp [trim, ret]
theorem bnd_bnd (m : M α) (f : α → M β) (g : β → M γ) : bnd (bnd m f) g = bnd m fun a => bnd (f a) g := by
  funext s
  unfold bnd
  cases m s with
  | none => rfl
  | some p =>
    obtain ⟨r, s'⟩ := p
    cases r <;> rfl
theorem ite_ret {c : Prop} [Decidable c] (a b : α) : (if c then ret a else ret b) = ret (if c then a else b) := by split <;> rfl
theorem bnd_ite {c : Prop} [Decidable c] (m n : M α) (f : α → M β) : bnd (if c then m else n) f = if c then bnd m f else bnd n f := by split <;> rfl
theorem opt_ite {c : Prop} [Decidable c] (a b : Option α) : opt (if c then a else b) = if c then opt a else opt b := by split <;> rfl
@[simp] theorem get_zero (a : Option A) (r : Env) : get (a :: r) 0 = a := rfl
@[simp] theorem get_succ (a : Option A) (r : Env) (n : Nat) : get (a :: r) (n + 1) = get r n := rfl
@[simp] theorem put_zero (a b : Option A) (r : Env) : put (a :: r) 0 b = b :: r := rfl
@[simp] theorem put_succ (a b : Option A) (r : Env) (n : Nat) : put (a :: r) (n + 1) b = a :: put r n b := rfl
/-- data from a body -/
theorem runF_rt {C : CL} {G : Nat → Option D} {d : DI} {as : List A} {x : D} (h1 : as.length = d.np) (h2 : evSL C G d.body (as.map some ++ reps (d.nn - d.np)) = ret (.rt (.d x))) (h0 : d.lt = [] := by rfl) : runF C G d as = ret (.d x) := by
  funext s
  unfold runF
  rw [if_pos ⟨h1, .inl (by rw [h0]; rfl)⟩, h2]
  simp [outF, onlyD, ret, bnd]
theorem runF_nx {C : CL} {G : Nat → Option D} {d : DI} {as : List A} {e : Env} (h1 : as.length = d.np) (h2 : evSL C G d.body (as.map some ++ reps (d.nn - d.np)) = ret (.nx e)) (h0 : d.lt = [] := by rfl) : runF C G d as = ret (.d .non) := by
  funext s
  unfold runF
  rw [if_pos ⟨h1, .inl (by rw [h0]; rfl)⟩, h2]
  simp [outF, onlyD, ret, bnd]
/-- a loop: what holds behind k turns -/
theorem forM_ind {f : D → Env → M Out} (I : Nat → Env → Prop) : ∀ (xs : List D) (k : Nat) (e : Env), I k e → (∀ (j : Nat) (x : D) (e : Env), xs[j]? = some x → I (k + j) e → ∃ e', f x e = ret (.nx e') ∧ I (k + j + 1) e') → ∃ e', forM f xs e = ret (.nx e') ∧ I (k + xs.length) e'
  | [], k, e, h0, _ => ⟨e, rfl, h0⟩
  | x :: xs, k, e, h0, hs => by
    obtain ⟨e1, h1, h2⟩ := hs 0 x e rfl h0
    obtain ⟨e2, h3, h4⟩ := forM_ind I xs (k + 1) e1 h2 fun j y e hy hI => by
      have z := hs (j + 1) y e hy (by rw [show k + (j + 1) = k + 1 + j by omega]; exact hI)
      rw [show k + (j + 1) = k + 1 + j by omega] at z
      exact z
    refine ⟨e2, ?_, ?_⟩
    · show bnd (f x e) _ = _
      rw [h1]
      exact h3
    · rw [show k + (x :: xs).length = k + 1 + xs.length by simp; omega]
      exact h4
theorem mapM_ret {f : D → M (Option D)} {g : D → Option D} : ∀ {xs : List D}, (∀ x ∈ xs, f x = ret (g x)) → mapM f xs = ret (xs.filterMap g)
  | [], _ => rfl
  | x :: xs, h => by
    have h1 := h x (List.mem_cons_self ..)
    have h2 := mapM_ret (f := f) (g := g) (xs := xs) fun y hy => h y (List.mem_cons_of_mem _ hy)
    show bnd (f x) _ = _
    rw [h1, bnd_ret, h2, bnd_ret, List.filterMap_cons]
    cases g x <;> rfl
theorem mapM_map {ι : Type} {f : D → M (Option D)} {g : ι → D} {h : ι → D} {xs : List ι} (e : ∀ x ∈ xs, f (g x) = ret (some (h x))) : mapM f (xs.map g) = ret (xs.map h) := by
  induction xs with
  | nil => rfl
  | cons x xs ih =>
    show bnd (f (g x)) _ = _
    rw [e x (List.mem_cons_self ..), bnd_ret]
    have := ih fun y hy => e y (List.mem_cons_of_mem _ hy)
    rw [this]
    rfl
theorem mapM2_map {ι : Type} {f : D → M (List D)} {g : ι → D} {h : ι → List D} {xs : List ι} (e : ∀ x ∈ xs, f (g x) = ret (h x)) : mapM2 f (xs.map g) = ret (xs.flatMap h) := by
  induction xs with
  | nil => rfl
  | cons x xs ih =>
    show bnd (f (g x)) _ = _
    rw [e x (List.mem_cons_self ..), bnd_ret]
    have := ih fun y hy => e y (List.mem_cons_of_mem _ hy)
    rw [this]
    rfl
@[simp] theorem fin_ret {rs : List D} (h : rs.length ≤ 16777216) : fin rs = ret (.d (.lst rs)) := by
  unfold fin
  rw [if_pos h]
/-! ### how the small language runs, rule by rule -/
theorem bnd_cong {m m' : M α} {f : α → M β} (h : m = m') : bnd m f = bnd m' f := by rw [h]
theorem forM_cong {f : D → Env → M Out} {xs xs' : List D} {e e' : Env} (h1 : xs = xs') (h2 : e = e') : forM f xs e = forM f xs' e' := by rw [h1, h2]
theorem mapM_cong {f : D → M (Option D)} {xs xs' : List D} (h1 : xs = xs') : mapM f xs = mapM f xs' := by rw [h1]
theorem mapM2_cong {f : D → M (List D)} {xs xs' : List D} (h1 : xs = xs') : mapM2 f xs = mapM2 f xs' := by rw [h1]
theorem whlM_cong {c : Env → M Bool} {f : Env → M Out} {n : Nat} {e e' : Env} (h : e = e') : whlM c f n e = whlM c f n e' := by rw [h]
def andM (m : M A) : A → M A
  | .d (.bl t) => if t then m else ret (.d (.bl false))
  | _ => fail
def orM (m : M A) : A → M A
  | .d (.bl t) => if t then ret (.d (.bl true)) else m
  | _ => fail
theorem andM_cong {m : M A} {a a' : A} (h : a = a') : andM m a = andM m a' := by rw [h]
theorem orM_cong {m : M A} {a a' : A} (h : a = a') : orM m a = orM m a' := by rw [h]
def seqM (C : CL) (G : Nat → Option D) (r : SL) : Out → M Out
  | .nx e => evSL C G r e
  | o => ret o
def compM (C : CL) (G : Nat → Option D) (elt : E) (t : T) (cs : EL) (own : List Nat) (env : Env) (x : D) : M (Option D) :=
  bnd (opt (asgT t (.d x) (wip env own))) fun env' => bnd (evT C G cs env') fun b => if b then bnd (evE C G elt env') fun y => bnd (asD y) fun y => ret (some y) else ret none
def comp2M (C : CL) (G : Nat → Option D) (elt : E) (t : T) (t1 : T) (it1 : I) (own own1 : List Nat) (env : Env) (x : D) : M (List D) :=
  bnd (opt (asgT t (.d x) (wip env own))) fun env' => bnd (evI C G it1 env') fun ys => mapM (fun y => bnd (opt (asgT t1 (.d y) (wip env' own1))) fun env2 => bnd (evE C G elt env2) fun y => bnd (asD y) fun y => ret (some y)) ys
def forB (C : CL) (G : Nat → Option D) (t : T) (b : SL) (x : D) (e : Env) : M Out := bnd (opt (asgT t (.d x) e)) fun e' => evSL C G b e'
def negM : A → M A
  | .d (.int i) => ret (.d (.int (-i)))
  | _ => fail
def intO : A → M (Option Int)
  | .d (.int i) => ret (some i)
  | _ => fail
def rngM : A → A → M (List D)
  | .d (.int l), .d (.int n) => opt (rngs l n)
  | _, _ => fail
def enmM : A → M (List D)
  | .d (.lst xs) => ret (enms xs 0)
  | .d (.tup xs) => ret (enms xs 0)
  | _ => fail
theorem evx {C : CL} {G : Nat → Option D} {env : Env} : (∀ i, evE C G (.var i) env = opt (get env i)) ∧ (∀ i, evE C G (.int i) env = ret (.d (.int i))) ∧ (∀ i, evE C G (.bl i) env = ret (.d (.bl i))) ∧
    (∀ i, evE C G (.str i) env = ret (.d (.str i))) ∧ evE C G .non env = ret (.d .non) ∧ (∀ j, evE C G (.glob j) env = bnd (opt (G j)) fun x => ret (.d x)) ∧
    (∀ es, evE C G (.tup es) env = bnd (evL C G es env) fun xs => ret (.d (.tup xs))) ∧ (∀ es, evE C G (.lst es) env = bnd (evL C G es env) fun xs => ret (.d (.lst xs))) ∧ (∀ es, evE C G (.newl es) env = bnd (evA C G es env) fun xs => new (.lst xs)) ∧
    (∀ o a b, evE C G (.bin o a b) env = bnd (evE C G a env) fun x => bnd (evE C G b env) fun y => bnd (pk x) fun x => bnd (pk y) fun y => bnd (opt (bop o x y)) fun z => ret (.d z)) ∧
    (∀ a, evE C G (.neg a) env = bnd (evE C G a env) negM) ∧
    (∀ o a b, evE C G (.cmp o a b) env = bnd (evE C G a env) fun x => bnd (evE C G b env) fun y => bnd (pk x) fun x => bnd (pk y) fun y => bnd (opt (cop o x y)) fun z => ret (.d (.bl z))) ∧
    (∀ o1 o2 a b c, evE C G (.chain o1 o2 a b c) env = bnd (evE C G a env) fun x => bnd (evE C G b env) fun y => bnd (pk x) fun x => bnd (pk y) fun y' => bnd (opt (cop o1 x y')) fun t =>
      if t then bnd (evE C G c env) fun z => bnd (pk y) fun y => bnd (pk z) fun z => bnd (opt (cop o2 y z)) fun t => ret (.d (.bl t)) else ret (.d (.bl false))) ∧
    (∀ a b, evE C G (.and a b) env = bnd (evE C G a env) (andM (evE C G b env))) ∧ (∀ a b, evE C G (.or a b) env = bnd (evE C G a env) (orM (evE C G b env))) ∧
    (∀ a, evE C G (.not a) env = bnd (evE C G a env) fun x => bnd (opt (tru x)) fun t => ret (.d (.bl !t))) ∧ (∀ c a b, evE C G (.ife c a b) env = bnd (evE C G c env) fun x => bnd (opt (tru x)) fun t => if t then evE C G a env else evE C G b env) ∧
    (∀ a b, evE C G (.idx a b) env = bnd (evE C G a env) fun x => bnd (evE C G b env) fun y => bnd (asD y) fun y => idxA x y) ∧
    (∀ a lo hi, evE C G (.slc a lo hi) env = bnd (evE C G a env) fun x => bnd (evO C G lo env) fun l => bnd (evO C G hi env) fun h => bnd (pk x) fun x => bnd (opt (slc l h x)) fun z => ret (.d z)) ∧
    (∀ a, evE C G (.rev a) env = bnd (evE C G a env) fun x => bnd (pk x) fun x => bnd (opt (revD x)) fun z => ret (.d z)) ∧
    (∀ f es, evE C G (.call f es) env = bnd (evA C G es env) fun xs => C f xs) ∧ (∀ f es, evE C G (.bi f es) env = bnd (evA C G es env) fun xs => bnd (pks xs) fun xs => bnd (opt (biD f xs)) fun z => ret (.d z)) ∧
    (∀ a ts, evE C G (.isi a ts) env = bnd (evE C G a env) fun x => bnd (pk x) fun x => ret (.d (.bl (ts.any (isT x))))) ∧
    (∀ elt t it cs own, evE C G (.comp elt t it cs own) env = bnd (evI C G it env) fun xs => bnd (trim (mapM (compM C G elt t cs own env) xs)) fin) ∧
    (∀ elt t it t1 it1 own own1, evE C G (.comp2 elt t it t1 it1 own own1) env = bnd (evI C G it env) fun xs => bnd (trim (mapM2 (comp2M C G elt t t1 it1 own own1 env) xs)) fin) ∧
    (∀ a, evE C G (.frz a) env = bnd (evE C G a env) frz) ∧ (∀ a, evE C G (.nw a) env = bnd (evE C G a env) thaw) ∧
    evL C G .nil env = ret [] ∧ (∀ e r, evL C G (.cons e r) env = bnd (evE C G e env) fun x => bnd (asD x) fun x => bnd (evL C G r env) fun xs => ret (x :: xs)) ∧
    evA C G .nil env = ret [] ∧ (∀ e r, evA C G (.cons e r) env = bnd (evE C G e env) fun x => bnd (evA C G r env) fun xs => ret (x :: xs)) ∧
    evO C G .nil env = ret none ∧ (∀ e r, evO C G (.cons e r) env = bnd (evE C G e env) intO) ∧ evT C G .nil env = ret true ∧ (∀ e r, evT C G (.cons e r) env = bnd (evE C G e env) fun x => opt (tru x)) ∧
    (∀ a, evI C G (.val a) env = bnd (evE C G a env) fun x => bnd (asD x) fun x => opt x.items) ∧ (∀ a, evI C G (.rng1 a) env = bnd (evE C G a env) (rngM (.d (.int 0)))) ∧
    (∀ a b, evI C G (.rng2 a b) env = bnd (evE C G a env) fun x => bnd (evE C G b env) (rngM x)) ∧ (∀ a, evI C G (.enm a) env = bnd (evE C G a env) enmM) := by
  refine ⟨?_, ?_, ?_, ?_, ?_, ?_, ?_, ?_, ?_, ?_, ?_, ?_, ?_, ?_, ?_, ?_, ?_, ?_, ?_, ?_, ?_, ?_, ?_, ?_, ?_, ?_, ?_, ?_, ?_, ?_, ?_, ?_, ?_, ?_, ?_, ?_, ?_, ?_, ?_⟩
  all_goals try intros
  all_goals try rfl
  all_goals simp only [evE, evO, evI]
  all_goals congr 1
  all_goals funext x
  all_goals cases x with
    | r k => rfl
    | f k => rfl
    | d x => cases x with
      | bl t => cases t <;> rfl
      | _ => rfl
def cndM (C : CL) (G : Nat → Option D) (c : E) (e : Env) : M Bool := bnd (evE C G c e) fun x => opt (tru x)
def blkM (C : CL) (G : Nat → Option D) (b : SL) (e : Env) : M Out := evSL C G b e
def extM (k : Nat) (env : Env) : A → M Out
  | .d (.lst ys) => bnd (chg k fun xs => if xs.length + ys.length ≤ 16777216 then some (xs ++ ys.map .d) else none) fun _ => ret (.nx env)
  | _ => fail
def setM (k : Nat) (x : D) (env : Env) : A → M Out
  | .d (.int j) => bnd (chg k fun xs => (ixN xs.length j).map fun j => xs.set j (.d x)) fun _ => ret (.nx env)
  | _ => fail
theorem evs {C : CL} {G : Nat → Option D} {env : Env} : evSL C G .nil env = ret (.nx env) ∧ (∀ s r, evSL C G (.cons s r) env = bnd (evS C G s env) (seqM C G r)) ∧
    (∀ t e, evS C G (.asg t e) env = bnd (evE C G e env) fun x => bnd (opt (asgT t x env)) fun env' => ret (.nx env')) ∧
    (∀ i j a b, evS C G (.par i j a b) env = bnd (evE C G a env) fun x => bnd (evE C G b env) fun y => ret (.nx (put (put env i (some x)) j (some y)))) ∧
    (∀ o i e, evS C G (.aug o i e) env = bnd (opt (get env i)) fun x => bnd (asD x) fun x => bnd (evE C G e env) fun y => bnd (asD y) fun y => bnd (opt (aop o x y)) fun z => ret (.nx (put env i (some (.d z))))) ∧
    (∀ c a b, evS C G (.ife c a b) env = bnd (evE C G c env) fun x => bnd (opt (tru x)) fun t => if t then evSL C G a env else evSL C G b env) ∧
    (∀ t it b, evS C G (.forr t it b) env = bnd (evI C G it env) fun xs => forM (forB C G t b) xs env) ∧
    (∀ c b, evS C G (.whil c b) env = whlM (cndM C G c) (blkM C G b) wMost env) ∧
    (∀ e, evS C G (.ret e) env = bnd (evE C G e env) fun x => ret (.rt x)) ∧ evS C G .retN env = ret (.rt (.d .non)) ∧ (∀ e, evS C G (.exp e) env = bnd (evE C G e env) fun _ => ret (.nx env)) ∧
    (∀ i e, evS C G (.app i e) env = bnd (opt (get env i)) fun a => bnd (asR a) fun k => bnd (lstAt k) fun _ => bnd (evE C G e env) fun x => bnd (asD x) fun x => bnd (chg k fun xs => if xs.length < 16777216 then some (xs ++ [.d x]) else none) fun _ => ret (.nx env)) ∧
    (∀ i e, evS C G (.ext i e) env = bnd (opt (get env i)) fun a => bnd (asR a) fun k => bnd (lstAt k) fun _ => bnd (evE C G e env) (extM k env)) ∧
    (∀ o ix e, evS C G (.seti o ix e) env = bnd (evE C G e env) fun x => bnd (asD x) fun x => bnd (evE C G o env) fun a => bnd (evE C G ix env) fun j => bnd (asR a) fun k => setM k x env j) ∧
    evS C G .pass env = ret (.nx env) ∧ evS C G .brk env = ret (.bk env) ∧ evS C G .cont env = ret (.ct env) := by
  refine ⟨?_, ?_, ?_, ?_, ?_, ?_, ?_, ?_, ?_, ?_, ?_, ?_, ?_, ?_, ?_, ?_, ?_⟩
  all_goals try intros
  all_goals try rfl
  all_goals simp only [evS]
  all_goals congr 1
  all_goals funext a
  all_goals congr 1
  all_goals funext k
  all_goals congr 1
  all_goals funext u
  all_goals congr 1
  all_goals funext x
  all_goals cases x with
    | r k => rfl
    | f k => rfl
    | d x => cases x <;> rfl
theorem seq_nx {C : CL} {G : Nat → Option D} {r : SL} {e : Env} : seqM C G r (.nx e) = evSL C G r e := rfl
theorem seq_rt {C : CL} {G : Nat → Option D} {r : SL} {a : A} : seqM C G r (.rt a) = ret (.rt a) := rfl
theorem seq_bk {C : CL} {G : Nat → Option D} {r : SL} {e : Env} : seqM C G r (.bk e) = ret (.bk e) := rfl
theorem seq_ct {C : CL} {G : Nat → Option D} {r : SL} {e : Env} : seqM C G r (.ct e) = ret (.ct e) := rfl
theorem andM_bl {m : M A} {t : Bool} : andM m (.d (.bl t)) = if t = true then m else ret (.d (.bl false)) := rfl
theorem orM_bl {m : M A} {t : Bool} : orM m (.d (.bl t)) = if t = true then ret (.d (.bl true)) else m := rfl
theorem if_and {p : Prop} [Decidable p] {q : Bool} : (if p then ret (A.d (.bl q)) else ret (.d (.bl false))) = ret (.d (.bl (decide p && q))) := by by_cases h : p <;> simp [h]
theorem if_or {p : Prop} [Decidable p] {q : Bool} : (if p then ret (A.d (.bl true)) else ret (.d (.bl q))) = ret (.d (.bl (decide p || q))) := by by_cases h : p <;> simp [h]
theorem neg_int {i : Int} : negM (.d (.int i)) = ret (.d (.int (-i))) := rfl
theorem intO_int {i : Int} : intO (.d (.int i)) = ret (some i) := rfl
theorem rng_int {i j : Int} : rngM (.d (.int i)) (.d (.int j)) = opt (rngs i j) := rfl
theorem enm_lst {xs : List D} : enmM (.d (.lst xs)) = ret (enms xs 0) := rfl
theorem asg_nm {i : Nat} {a : A} {e : Env} : asgT (.nm i) a e = some (put e i (some a)) := rfl
theorem asg_tp {is : List Nat} {xs : List D} {e : Env} : asgT (.tp is) (.d (.tup xs)) e = asgs is xs e := rfl
theorem asgs_nil {e : Env} : asgs [] [] e = some e := rfl
theorem asgs_cons {i : Nat} {is : List Nat} {x : D} {xs : List D} {e : Env} : asgs (i :: is) (x :: xs) e = asgs is xs (put e i (some (.d x))) := rfl
theorem idxA_d {x i : D} : idxA (.d x) i = bnd (opt (idx x i)) fun z => ret (.d z) := rfl
theorem tru_b {t : Bool} : tru (.d (.bl t)) = some t := rfl
theorem mm : (∀ (α β : Type) (a : α) (f : α → M β), bnd (ret a) f = f a) ∧ (∀ (α : Type) (a : α), opt (some a) = ret a) ∧ (∀ (α : Type) (a : α), trim (ret a) = ret a) := ⟨fun _ _ _ _ => rfl, fun _ _ => rfl, fun _ _ => trim_ret _⟩
theorem mv : (∀ x, asD (.d x) = ret x) ∧ (∀ x, pk (.d x) = ret x) ∧ (∀ x, frz (.d x) = ret (.d x)) ∧ (∀ a r, get (a :: r) 0 = a) ∧ (∀ a r n, get (a :: r) (n + 1) = get r n) ∧ (∀ a r b, put (a :: r) 0 b = b :: r) ∧ (∀ a r n b, put (a :: r) (n + 1) b = a :: put r n b) ∧
    (∀ i a e, asgT (.nm i) a e = some (put e i (some a))) ∧ (∀ is xs e, asgT (.tp is) (.d (.tup xs)) e = asgs is xs e) ∧ (∀ e, asgs [] [] e = some e) ∧ (∀ i is x xs e, asgs (i :: is) (x :: xs) e = asgs is xs (put e i (some (.d x)))) ∧
    (∀ x i, idxA (.d x) i = bnd (opt (idx x i)) fun z => ret (.d z)) ∧ (∀ t, tru (.d (.bl t)) = some t) ∧ (∀ i, negM (.d (.int i)) = ret (.d (.int (-i)))) ∧ (∀ i, intO (.d (.int i)) = ret (some i)) ∧
    (∀ i j, rngM (.d (.int i)) (.d (.int j)) = opt (rngs i j)) ∧ (∀ xs, enmM (.d (.lst xs)) = ret (enms xs 0)) ∧ pks [] = ret [] ∧ (∀ a r, pks (a :: r) = bnd (pk a) fun x => bnd (pks r) fun xs => ret (x :: xs)) ∧
    (∀ e, wip e [] = e) ∧ (∀ e v vs, wip e (v :: vs) = put (wip e vs) v none) ∧ (∀ m t, andM m (.d (.bl t)) = if t = true then m else ret (.d (.bl false))) ∧ (∀ m t, orM m (.d (.bl t)) = if t = true then ret (.d (.bl true)) else m) ∧
    (∀ xs : List D, (D.lst xs).items = some xs) ∧ (∀ xs : List D, (D.tup xs).items = some xs) ∧ (∀ xs : List D, (D.lst xs).len = some xs.length) ∧ (∀ xs : List D, (D.tup xs).len = some xs.length) ∧ (∀ x : D, biD .len [x] = x.len.map fun (n : Nat) => D.int (n : Int)) := by
  refine ⟨?_, ?_, ?_, ?_, ?_, ?_, ?_, ?_, ?_, ?_, ?_, ?_, ?_, ?_, ?_, ?_, ?_, ?_, ?_, ?_, ?_, ?_, ?_, ?_, ?_, ?_, ?_, ?_⟩ <;> intros <;> rfl
theorem mq {C : CL} {G : Nat → Option D} {r : SL} : (∀ e, seqM C G r (.nx e) = evSL C G r e) ∧ (∀ a, seqM C G r (.rt a) = ret (.rt a)) ∧ (∀ e, seqM C G r (.bk e) = ret (.bk e)) ∧ (∀ e, seqM C G r (.ct e) = ret (.ct e)) := ⟨fun _ => rfl, fun _ => rfl, fun _ => rfl, fun _ => rfl⟩
theorem mx : (∀ (a : D) r, ix (a :: r) 0 = some a) ∧ (∀ (a b : D) r, ix (a :: b :: r) 1 = some b) ∧ (∀ (a b c : D) r, ix (a :: b :: c :: r) 2 = some c) ∧ (∀ (a b c d : D) r, ix (a :: b :: c :: d :: r) 3 = some d) := ⟨fun _ _ => rfl, fun _ _ _ => rfl, fun _ _ _ _ => rfl, fun _ _ _ _ _ => rfl⟩
theorem mxi : (∀ xs i, idx (.tup xs) (.int i) = ix xs i) ∧ (∀ xs i, idx (.lst xs) (.int i) = ix xs i) := ⟨fun _ _ => rfl, fun _ _ => rfl⟩
theorem dq : (D.eqv .non .non = true) ∧ (∀ y, D.eqv .non (.bl y) = false) ∧ (∀ y, D.eqv .non (.int y) = false) ∧ (∀ y, D.eqv .non (.str y) = false) ∧
    (∀ y, D.eqv .non (.tup y) = false) ∧ (∀ y, D.eqv .non (.lst y) = false) ∧ (∀ x, D.eqv (.bl x) .non = false) ∧ (∀ x y, D.eqv (.bl x) (.bl y) = (x == y)) ∧
    (∀ x y, D.eqv (.bl x) (.int y) = ((if x then 1 else 0) == y)) ∧ (∀ x y, D.eqv (.bl x) (.str y) = false) ∧ (∀ x y, D.eqv (.bl x) (.tup y) = false) ∧ (∀ x y, D.eqv (.bl x) (.lst y) = false) ∧
    (∀ x, D.eqv (.int x) .non = false) ∧ (∀ x y, D.eqv (.int x) (.bl y) = (x == (if y then 1 else 0))) ∧ (∀ x y, D.eqv (.int x) (.int y) = (x == y)) ∧ (∀ x y, D.eqv (.int x) (.str y) = false) ∧
    (∀ x y, D.eqv (.int x) (.tup y) = false) ∧ (∀ x y, D.eqv (.int x) (.lst y) = false) ∧ (∀ x, D.eqv (.str x) .non = false) ∧ (∀ x y, D.eqv (.str x) (.bl y) = false) ∧
    (∀ x y, D.eqv (.str x) (.int y) = false) ∧ (∀ x y, D.eqv (.str x) (.str y) = (x == y)) ∧ (∀ x y, D.eqv (.str x) (.tup y) = false) ∧ (∀ x y, D.eqv (.str x) (.lst y) = false) ∧
    (∀ x, D.eqv (.tup x) .non = false) ∧ (∀ x y, D.eqv (.tup x) (.bl y) = false) ∧ (∀ x y, D.eqv (.tup x) (.int y) = false) ∧ (∀ x y, D.eqv (.tup x) (.str y) = false) ∧
    (∀ x y, D.eqv (.tup x) (.tup y) = D.eqvs x y) ∧ (∀ x y, D.eqv (.tup x) (.lst y) = false) ∧ (∀ x, D.eqv (.lst x) .non = false) ∧ (∀ x y, D.eqv (.lst x) (.bl y) = false) ∧
    (∀ x y, D.eqv (.lst x) (.int y) = false) ∧ (∀ x y, D.eqv (.lst x) (.str y) = false) ∧ (∀ x y, D.eqv (.lst x) (.tup y) = false) ∧ (∀ x y, D.eqv (.lst x) (.lst y) = D.eqvs x y) ∧
    (D.eqvs [] [] = true) ∧ (∀ x xs, D.eqvs (x :: xs) [] = false) ∧ (∀ x xs, D.eqvs [] (x :: xs) = false) ∧ (∀ x xs y ys, D.eqvs (x :: xs) (y :: ys) = (D.eqv x y && D.eqvs xs ys)) := by
  refine ⟨?_, ?_, ?_, ?_, ?_, ?_, ?_, ?_, ?_, ?_, ?_, ?_, ?_, ?_, ?_, ?_, ?_, ?_, ?_, ?_, ?_, ?_, ?_, ?_, ?_, ?_, ?_, ?_, ?_, ?_, ?_, ?_, ?_, ?_, ?_, ?_, ?_, ?_, ?_, ?_⟩ <;> intros <;> simp only [D.eqv, D.eqvs]
theorem dok : (∀ k, D.ok k .non = true) ∧ (∀ k x, D.ok k (.bl x) = true) ∧ (∀ k x, D.ok k (.int x) = true) ∧ (∀ k x, D.ok k (.str x) = true) ∧
    (∀ k x, D.ok (k + 1) (.tup x) = D.oks k x) ∧ (∀ k x, D.ok (k + 1) (.lst x) = D.oks k x) ∧ (∀ k, D.oks k [] = true) ∧ (∀ k x xs, D.oks k (x :: xs) = (D.ok k x && D.oks k xs)) := by
  refine ⟨?_, ?_, ?_, ?_, ?_, ?_, ?_, ?_⟩ <;> intros <;> simp only [D.ok, D.oks]
theorem dc : (∀ a b, cop .eq a b = eqD a b) ∧ (∀ a b, cop .ne a b = (eqD a b).map (!·)) ∧ (∀ a b, cop .inn a b = inD a b) ∧ (∀ a b, cop .nin a b = (inD a b).map (!·)) ∧ (∀ a b, eqD a b = if D.ok 60 a && D.ok 60 b then some (D.eqv a b) else none) ∧
    (∀ x xs, inD x (.lst xs) = if D.ok 60 x && D.oks 60 xs then some (xs.any fun z => D.eqv z x) else none) ∧ (∀ x xs, inD x (.tup xs) = if D.ok 60 x && D.oks 60 xs then some (xs.any fun z => D.eqv z x) else none) ∧
    cop .isN .non .non = some true ∧ (∀ x, cop .isN (.bl x) .non = some false) ∧ (∀ x, cop .isN (.int x) .non = some false) ∧ (∀ x, cop .isN (.str x) .non = some false) ∧ (∀ x, cop .isN (.tup x) .non = some false) ∧ (∀ x, cop .isN (.lst x) .non = some false) ∧
    cop .notN .non .non = some false ∧ (∀ x, cop .notN (.bl x) .non = some true) ∧ (∀ x, cop .notN (.int x) .non = some true) ∧ (∀ x, cop .notN (.str x) .non = some true) ∧ (∀ x, cop .notN (.tup x) .non = some true) ∧ (∀ x, cop .notN (.lst x) .non = some true) := by
  refine ⟨?_, ?_, ?_, ?_, ?_, ?_, ?_, ?_, ?_, ?_, ?_, ?_, ?_, ?_, ?_, ?_, ?_, ?_, ?_⟩ <;> intros <;> first | rfl | (simp only [cop, eqD, inD])
theorem kinds : (∀ i, isT (.int i) "int" = true) ∧ (∀ i, isT (.int i) "bool" = false) ∧ (∀ i, isT (.int i) "str" = false) ∧ (∀ i, isT (.int i) "tuple" = false) ∧ (∀ i, isT (.int i) "list" = false) ∧
    (∀ i, isT (.bl i) "int" = true) ∧ (∀ i, isT (.bl i) "bool" = true) ∧ (∀ i, isT (.bl i) "str" = false) ∧ (∀ i, isT (.bl i) "tuple" = false) ∧ (∀ i, isT (.bl i) "list" = false) ∧
    (∀ i, isT (.str i) "int" = false) ∧ (∀ i, isT (.str i) "bool" = false) ∧ (∀ i, isT (.str i) "str" = true) ∧ (∀ i, isT (.str i) "tuple" = false) ∧ (∀ i, isT (.str i) "list" = false) ∧
    (∀ i, isT (.tup i) "int" = false) ∧ (∀ i, isT (.tup i) "bool" = false) ∧ (∀ i, isT (.tup i) "str" = false) ∧ (∀ i, isT (.tup i) "tuple" = true) ∧ (∀ i, isT (.tup i) "list" = false) ∧
    (∀ i, isT (.lst i) "int" = false) ∧ (∀ i, isT (.lst i) "bool" = false) ∧ (∀ i, isT (.lst i) "str" = false) ∧ (∀ i, isT (.lst i) "tuple" = false) ∧ (∀ i, isT (.lst i) "list" = true) ∧
    isT .non "int" = false ∧ isT .non "bool" = false ∧ isT .non "str" = false ∧ isT .non "tuple" = false ∧ isT .non "list" = false := by
  refine ⟨?_, ?_, ?_, ?_, ?_, ?_, ?_, ?_, ?_, ?_, ?_, ?_, ?_, ?_, ?_, ?_, ?_, ?_, ?_, ?_, ?_, ?_, ?_, ?_, ?_, ?_, ?_, ?_, ?_, ?_⟩ <;> intros <;> simp [isT, isK, kindD]
theorem env0 : reps 0 = [] ∧ (∀ n, reps (n + 1) = none :: reps n) ∧ (∀ r : Env, [] ++ r = r) ∧ (∀ (a : Option A) (r q : Env), (a :: r) ++ q = a :: (r ++ q)) ∧ List.map some ([] : List A) = [] ∧ (∀ (a : A) r, List.map some (a :: r) = some a :: List.map some r) := ⟨rfl, fun _ => rfl, fun _ => rfl, fun _ _ _ => rfl, rfl, fun _ _ => rfl⟩
theorem compM_ret {C : CL} {G : Nat → Option D} {elt : E} {t : T} {cs : EL} {own : List Nat} {env env' : Env} {x y : D} (h1 : asgT t (.d x) (wip env own) = some env') (h2 : evT C G cs env' = ret true) (h3 : evE C G elt env' = ret (.d y)) : compM C G elt t cs own env x = ret (some y) := by
  unfold compM
  rw [h1, opt_some, bnd_ret, h2, bnd_ret, if_pos rfl, h3]
  rfl
theorem compM_no {C : CL} {G : Nat → Option D} {elt : E} {t : T} {cs : EL} {own : List Nat} {env env' : Env} {x : D} (h1 : asgT t (.d x) (wip env own) = some env') (h2 : evT C G cs env' = ret false) : compM C G elt t cs own env x = ret none := by
  unfold compM
  rw [h1, opt_some, bnd_ret, h2, bnd_ret, if_neg (by decide)]
theorem comp2M_ret {ι : Type} {C : CL} {G : Nat → Option D} {elt : E} {t t1 : T} {it1 : I} {own own1 : List Nat} {env env' : Env} {x : D} {g h : ι → D} {ys : List ι} (h1 : asgT t (.d x) (wip env own) = some env') (h2 : evI C G it1 env' = ret (ys.map g))
    (h3 : ∀ j ∈ ys, ∃ env2, asgT t1 (.d (g j)) (wip env' own1) = some env2 ∧ evE C G elt env2 = ret (.d (h j))) : comp2M C G elt t t1 it1 own own1 env x = ret (ys.map h) := by
  unfold comp2M
  rw [h1, opt_some, bnd_ret, h2, bnd_ret]
  refine mapM_map fun j hj => ?_
  obtain ⟨e2, h4, h5⟩ := h3 j hj
  rw [h4, opt_some, bnd_ret, h5]
  rfl
theorem slcs : (∀ a b c d, slc (some 2) none (.tup [a, b, c, d]) = some (.tup [c, d])) ∧ (∀ a b, slc (some 2) none (.tup [a, b]) = some (.tup [])) ∧ (∀ a b c, slc (some 1) none (.tup [a, b, c]) = some (.tup [b, c])) ∧ (∀ a b c d, slc (some 1) none (.tup [a, b, c, d]) = some (.tup [b, c, d])) ∧
    (∀ xs, revD (.lst xs) = some (.lst xs.reverse)) := ⟨fun _ _ _ _ => rfl, fun _ _ => rfl, fun _ _ _ => rfl, fun _ _ _ _ => rfl, fun _ => rfl⟩
theorem cats : (∀ a b : List D, bop .add (.tup a) (.tup b) = if a.length + b.length ≤ 16777216 then some (.tup (a ++ b)) else none) ∧ (∀ a b : List D, bop .add (.lst a) (.lst b) = if a.length + b.length ≤ 16777216 then some (.lst (a ++ b)) else none) := ⟨fun _ _ => rfl, fun _ _ => rfl⟩
/-- numbers -/
theorem numb : (∀ i, biD .abs [.int i] = some (.int (if i < 0 then -i else i))) ∧ (∀ i, biD .int [.int i] = some (.int i)) ∧ (∀ b, biD .int [.bl b] = some (.int (if b then 1 else 0))) := ⟨fun _ => rfl, fun _ => rfl, fun _ => rfl⟩
theorem numb2 {i j : Int} : bop .add (.int i) (.int j) = some (.int (i + j)) ∧ bop .sub (.int i) (.int j) = some (.int (i - j)) ∧ aop .add (.int i) (.int j) = some (.int (i + j)) ∧ aop .sub (.int i) (.int j) = some (.int (i - j)) ∧
    cop .lt (.int i) (.int j) = some (decide (i < j)) ∧ cop .le (.int i) (.int j) = some (decide (i ≤ j)) ∧ cop .gt (.int i) (.int j) = some (decide (j < i)) ∧ cop .ge (.int i) (.int j) = some (decide (j ≤ i)) ∧
    cop .eq (.int i) (.int j) = some (i == j) ∧ cop .ne (.int i) (.int j) = some (!(i == j)) ∧ 
    biD .max2 [.int i, .int j] = some (.int (if j > i then j else i)) ∧ biD .min2 [.int i, .int j] = some (.int (if j < i then j else i)) := ⟨rfl, rfl, rfl, rfl, rfl, rfl, rfl, rfl, rfl, rfl, rfl, rfl⟩
theorem mul_ok {i j : Int} (h : okMul i j = true) : bop .mul (.int i) (.int j) = some (.int (i * j)) := if_pos h
theorem aug_mul_ok {i j : Int} (h : okMul i j = true) : aop .mul (.int i) (.int j) = some (.int (i * j)) := if_pos h
theorem okDiv_of {j : Int} (h0 : 0 < j) (h : j < 2 ^ 9000) : okDiv j = true := by
  unfold okDiv
  refine decide_eq_true ⟨h0, ?_⟩
  have h1 : j.natAbs ≠ 0 := by omega
  rw [Nat.log2_lt h1]
  have : (j.natAbs : Int) = j := Int.natAbs_of_nonneg (Int.le_of_lt h0)
  exact_mod_cast this ▸ h
theorem div_ok {i j : Int} (h : okDiv j = true) : bop .fdiv (.int i) (.int j) = some (.int (i / j)) := if_pos h
theorem mod_ok {i j : Int} (h : j ≠ 0) : bop .mod (.int i) (.int j) = some (.int (i.fmod j)) := if_neg h
theorem okMul_l {a b : Int} (h : a.natAbs < 18446744073709551616) : okMul a b = true := by simp [okMul, h]
theorem okMul_r {a b : Int} (h : b.natAbs < 18446744073709551616) : okMul a b = true := by simp [okMul, h]
theorem rngs_eq {lo hi : Int} (h1 : -(2 ^ 62) ≤ lo) (h2 : lo < 2 ^ 62) (h3 : -(2 ^ 62) ≤ hi) (h4 : hi < 2 ^ 62) : rngs lo hi = some ((List.range (hi - lo).toNat).map fun (i : Nat) => D.int (lo + (i : Int))) := if_pos ⟨h1, h2, h3, h4⟩
/-- a loop whose names' values are told by s and the last item -/
theorem forM_steps {ι σ : Type} {f : D → Env → M Out} (g : ι → D) (env : σ → Option A → Env) (step : σ → ι → σ) : ∀ (xs : List ι) (s : σ) (t : Option A), (∀ i ∈ xs, ∀ s t, f (g i) (env s t) = ret (.nx (env (step s i) (some (.d (g i)))))) →
    ∃ t', forM f (xs.map g) (env s t) = ret (.nx (env (xs.foldl step s) t'))
  | [], s, t, _ => ⟨t, rfl⟩
  | x :: xs, s, t, h => by
    obtain ⟨t', e⟩ := forM_steps g env step xs (step s x) (some (.d (g x))) fun i hi => h i (List.mem_cons_of_mem _ hi)
    refine ⟨t', ?_⟩
    show bnd (f (g x) (env s t)) _ = _
    rw [h x (List.mem_cons_self ..)]
    exact e
theorem forM_one {f : D → Env → M Out} {x : D} {e e' : Env} (h : f x e = ret (.nx e')) : forM f [x] e = ret (.nx e') := by
  show bnd (f x e) _ = _
  rw [h]
  rfl
theorem forM_two {f : D → Env → M Out} {x y : D} {e e' e2 : Env} (h : f x e = ret (.nx e')) (h2 : f y e' = ret (.nx e2)) : forM f [x, y] e = ret (.nx e2) := by
  show bnd (f x e) _ = _
  rw [h]
  exact forM_one h2
/-! ### runs with a store -/
def wp (m : M α) (s : Sto) (Q : α → Sto → Prop) : Prop := ∃ a s', m s = some (.ok a, s') ∧ Q a s'
variable {s : Sto}
theorem wp.ret {a : α} {Q : α → Sto → Prop} (h : Q a s) : wp (Sw.ret a) s Q := ⟨a, s, rfl, h⟩
theorem wp.of {m : M α} {a : α} {Q : α → Sto → Prop} (e : m = Sw.ret a) (h : Q a s) : wp m s Q := ⟨a, s, by rw [e]; rfl, h⟩
theorem wp.bnd {m : M α} {f : α → M β} {Q : β → Sto → Prop} (h : wp m s fun a s' => wp (f a) s' Q) : wp (Sw.bnd m f) s Q := by
  obtain ⟨a, s', h1, b, s2, h2, h3⟩ := h
  exact ⟨b, s2, by unfold Sw.bnd; rw [h1]; exact h2, h3⟩
theorem wp.mono {m : M α} {Q R : α → Sto → Prop} (h : wp m s Q) (k : ∀ a s, Q a s → R a s) : wp m s R := by
  obtain ⟨a, s', h1, h2⟩ := h
  exact ⟨a, s', h1, k a s' h2⟩
theorem wp_cong {m m' : M α} {Q : α → Sto → Prop} (h : m = m') : wp m s Q = wp m' s Q := by rw [h]
theorem wp_bnd {m : M α} {f : α → M β} {Q : β → Sto → Prop} : wp (Sw.bnd m f) s Q = wp m s fun a s' => wp (f a) s' Q := by
  refine propext ⟨fun ⟨b, s2, e, h⟩ => ?_, wp.bnd⟩
  unfold Sw.bnd at e
  cases em : m s with
  | none => rw [em] at e; cases e
  | some p =>
    obtain ⟨r, s1⟩ := p
    rw [em] at e
    cases r with
    | error x => cases e
    | ok a => exact ⟨a, s1, em, b, s2, e, h⟩
theorem wp_ret {a : α} {Q : α → Sto → Prop} : wp (Sw.ret a) s Q = Q a s := by
  refine propext ⟨fun ⟨b, s2, e, h⟩ => ?_, wp.ret⟩
  cases e
  exact h
theorem wp_ite {c : Prop} [Decidable c] {m n : M α} {Q : α → Sto → Prop} : wp (if c then m else n) s Q = if c then wp m s Q else wp n s Q := by split <;> rfl
def wpn (o : SO) (Q : A → Sto → Prop) (s : Sto) : Prop := Q (.r s.length) (s ++ [o])
theorem wp_new {o : SO} {Q : A → Sto → Prop} : wp (new o) s Q = Q (.r s.length) (s ++ [o]) := propext ⟨fun ⟨a, s', e, h⟩ => by cases e; exact h, fun h => ⟨_, _, rfl, h⟩⟩
theorem allD_map : ∀ xs : List D, allD (xs.map A.d) = some xs
  | [] => rfl
  | x :: xs => by simp [allD, allD_map xs]
theorem at_end {o : SO} : (s ++ [o])[s.length]? = some o := by simp
theorem set_end {o p : SO} : (s ++ [o]).set s.length p = s ++ [p] := by simp
theorem take_end {o : SO} : (s ++ [o]).take s.length = s := by simp
theorem wp_pk {k : Nat} {xs : List D} {Q : D → Sto → Prop} (h : s[k]? = some (.lst (xs.map .d))) : wp (pk (.r k)) s Q = Q (.lst xs) s := by
  refine propext ⟨fun ⟨a, s', e, q⟩ => ?_, fun q => ⟨.lst xs, s, ?_, q⟩⟩
  · simp only [pk, h, allD_map] at e
    cases e
    exact q
  · simp only [pk, h, allD_map]
theorem wp_lstAt {k : Nat} {xs : List A} {Q : Unit → Sto → Prop} (h : s[k]? = some (.lst xs)) : wp (lstAt k) s Q = Q () s := by
  refine propext ⟨fun ⟨a, s', e, q⟩ => ?_, fun q => ⟨(), s, ?_, q⟩⟩
  · simp only [lstAt, h] at e
    cases e
    exact q
  · simp only [lstAt, h]
theorem wp_chg {k : Nat} {xs ys : List A} {f : List A → Option (List A)} {Q : Unit → Sto → Prop} (h : s[k]? = some (.lst xs)) (h2 : f xs = some ys) : wp (chg k f) s Q = Q () (s.set k (.lst ys)) := by
  refine propext ⟨fun ⟨a, s', e, q⟩ => ?_, fun q => ⟨(), _, ?_, q⟩⟩
  · simp only [chg, h, h2] at e
    cases e
    exact q
  · simp only [chg, h, h2]
theorem wp_idxA {k : Nat} {xs : List A} {i : Int} {a : A} {Q : A → Sto → Prop} (h : s[k]? = some (.lst xs)) (h2 : ix xs i = some a) : wp (idxA (.r k) (.int i)) s Q = Q a s := by
  refine propext ⟨fun ⟨a, s', e, q⟩ => ?_, fun q => ⟨a, s, ?_, q⟩⟩
  · simp only [idxA, h, h2] at e
    cases e
    exact q
  · simp only [idxA, h, h2]
/-- what gives data and leaves the store as it was -/
theorem ret_of_wp {m : M α} {x : α} (h : ∀ s, wp m s fun a s' => a = x ∧ s' = s) : m = Sw.ret x := by
  funext s
  obtain ⟨a, s', e, rfl, rfl⟩ := h s
  exact e
theorem wpx : (∀ (α β : Type) (m : M α) (f : α → M β) (s : Sto) (Q : β → Sto → Prop), wp (Sw.bnd m f) s Q = wp m s fun a s' => wp (f a) s' Q) ∧ (∀ (α : Type) (a : α) (s : Sto) (Q : α → Sto → Prop), wp (Sw.ret a) s Q = Q a s) ∧ (∀ o s Q, wp (new o) s Q = Q (.r s.length) (s ++ [o])) ∧
    (∀ xs : List D, thaw (.d (.lst xs)) = new (.lst (xs.map .d))) ∧ (∀ k, asR (.r k) = Sw.ret k) ∧ (∀ k env ys, extM k env (.d (.lst ys)) = Sw.bnd (chg k fun xs => if xs.length + ys.length ≤ 16777216 then some (xs ++ ys.map .d) else none) fun _ => Sw.ret (.nx env)) ∧
    (∀ k x env j, setM k x env (.d (.int j)) = Sw.bnd (chg k fun xs => (ixN xs.length j).map fun j => xs.set j (.d x)) fun _ => Sw.ret (.nx env)) :=
  ⟨fun _ _ _ _ _ _ => wp_bnd, fun _ _ _ _ => wp_ret, fun _ _ _ => wp_new, fun _ => rfl, fun _ => rfl, fun _ _ _ => rfl, fun _ _ _ _ => rfl⟩
/-- a loop that may be left -/
theorem wp.forM {f : D → Env → M Out} {Q : Out → Sto → Prop} (I : Nat → Env → Sto → Prop) : ∀ (xs : List D) (k : Nat) (e : Env) (s : Sto), I k e s → (∀ (j : Nat) (x : D) (e : Env) (s : Sto), xs[j]? = some x → I (k + j) e s → wp (f x e) s fun o s => match o with
    | .nx e => I (k + j + 1) e s
    | .ct e => I (k + j + 1) e s
    | .bk e => Q (.nx e) s
    | .rt a => Q (.rt a) s) → (∀ e s, I (k + xs.length) e s → Q (.nx e) s) → wp (Sw.forM f xs e) s Q
  | [], k, e, s, h0, _, hq => .ret (hq e s h0)
  | x :: xs, k, e, s, h0, hs, hq => by
    have h1 := hs 0 x e s rfl h0
    refine .bnd (h1.mono fun o s1 h => ?_)
    have go : ∀ e1, I (k + 0 + 1) e1 s1 → wp (Sw.forM f xs e1) s1 Q := fun e1 hI => by
      refine wp.forM I xs (k + 1) e1 s1 hI (fun j y e s hy hI => ?_) (fun e s hI => hq e s ?_)
      · have z := hs (j + 1) y e s hy (by rw [show k + (j + 1) = k + 1 + j by omega]; exact hI)
        rw [show k + (j + 1) = k + 1 + j by omega] at z
        exact z
      · rw [show k + (x :: xs).length = k + 1 + xs.length by simp; omega]
        exact hI
    cases o with
    | nx e1 => exact go e1 h
    | ct e1 => exact go e1 h
    | bk e1 => exact .ret h
    | rt a => exact .ret h
theorem wp.runF {C : CL} {G : Nat → Option D} {d : DI} {as : List A} {Q : A → Sto → Prop} (h1 : as.length = d.np) (h2 : wp (evSL C G d.body (as.map some ++ reps (d.nn - d.np))) s fun o s' => match o with
    | .nx _ => Q (.d .non) (s'.take s.length)
    | .rt (.d x) => Q (.d x) (s'.take s.length)
    | .rt (.r k) => Q (.r k) s'
    | _ => False) (h0 : d.lt = [] := by rfl) : wp (Sw.runF C G d as) s Q := by
  obtain ⟨o, s', e, h⟩ := h2
  have hb : d.lt.isEmpty = true := by rw [h0]; rfl
  unfold wp Sw.runF
  rw [if_pos ⟨h1, .inl hb⟩]
  unfold Sw.bnd
  rw [e]
  cases o with
  | nx _ => exact ⟨_, _, rfl, h⟩
  | bk _ => exact h.elim
  | ct _ => exact h.elim
  | rt a =>
    cases a with
    | d x => exact ⟨_, _, rfl, h⟩
    | f k => exact h.elim
    | r k => exact ⟨_, _, by show onlyD d (some (.ok (.r k), s')) = _; simp only [onlyD, hb, if_true], h⟩
/-- a def with lambdas of its own -/
theorem wp.runFL {C : CL} {G : Nat → Option D} {d : DI} {as : List A} {Q : A → Sto → Prop} (h1 : as.length = d.np) (ha : (allD as).isSome = true) (h2 : wp (evSL C G d.body (as.map some ++ reps (d.nn - d.np))) [] fun o s' => match o with
    | .nx _ => Q (.d .non) []
    | .rt (.d x) => Q (.d x) []
    | _ => False) : wp (Sw.runF C G d as) [] Q := by
  obtain ⟨o, s', e, h⟩ := h2
  unfold wp Sw.runF
  rw [if_pos ⟨h1, .inr ⟨rfl, ha⟩⟩]
  unfold Sw.bnd
  rw [e]
  cases o with
  | nx _ => exact ⟨_, [], rfl, h⟩
  | bk _ => exact h.elim
  | ct _ => exact h.elim
  | rt a =>
    cases a with
    | d x => exact ⟨_, [], rfl, h⟩
    | f k => exact h.elim
    | r k => exact h.elim
end
end Sw
/-! Numbers -/
namespace Sw
open PySem
theorem gcd_fmod (a b : Int) : Int.gcd b (a.fmod b) = Int.gcd a b := by
  have h : a.fmod b + b * a.fdiv b = a := Int.fmod_add_mul_fdiv a b
  have h2 : Int.gcd b (a.fmod b + b * a.fdiv b) = Int.gcd b (a.fmod b) := Int.gcd_add_mul_left_right ..
  rw [← h2, h, Int.gcd_comm]
theorem fmod_half (b r : Int) (h : (0 ≤ b ∧ 0 ≤ r) ∨ (b ≤ 0 ∧ r ≤ 0)) (hr : r ≠ 0) (h2 : r.natAbs < b.natAbs) : 2 * (b.fmod r).natAbs < b.natAbs := by
  have key : ∀ x y : Nat, 0 < y → y < x → 2 * (x % y) < x := fun x y hy hx => by
    have h1 := Nat.mod_lt x hy
    have h3 := Nat.div_add_mod x y
    have h4 : 1 ≤ x / y := (Nat.le_div_iff_mul_le hy).mpr (by omega)
    have h5 : y * 1 ≤ y * (x / y) := Nat.mul_le_mul_left y h4
    omega
  have e : (b.fmod r).natAbs = b.natAbs % r.natAbs := by
    rcases h with ⟨h0, h1⟩ | ⟨h0, h1⟩
    · obtain ⟨x, rfl⟩ := Int.eq_ofNat_of_zero_le h0
      obtain ⟨y, rfl⟩ := Int.eq_ofNat_of_zero_le h1
      rw [← Int.ofNat_fmod]
      rfl
    · obtain ⟨x, hx⟩ := Int.eq_ofNat_of_zero_le (Int.neg_nonneg_of_nonpos h0)
      obtain ⟨y, hy⟩ := Int.eq_ofNat_of_zero_le (Int.neg_nonneg_of_nonpos h1)
      have eb : b = -(x : Int) := by omega
      have er : r = -(y : Int) := by omega
      subst eb er
      have : (-(x : Int)).fmod (-(y : Int)) = -(((x : Int).fmod y)) := Int.neg_fmod_neg ..
      rw [this, ← Int.ofNat_fmod, Int.natAbs_neg, Int.natAbs_neg, Int.natAbs_neg]
      rfl
  rw [e]
  exact key _ _ (by omega) h2
theorem fmod_abs (a b : Int) (hb : b ≠ 0) : (a.fmod b).natAbs < b.natAbs ∧ ((0 ≤ b ∧ 0 ≤ a.fmod b) ∨ (b ≤ 0 ∧ a.fmod b ≤ 0)) := by
  rcases Int.lt_or_gt_of_ne hb with h | h
  · have e : (-(-a)).fmod (-(-b)) = -((-a).fmod (-b)) := Int.neg_fmod_neg ..
    rw [Int.neg_neg, Int.neg_neg] at e
    have h3 : 0 ≤ (-a).fmod (-b) := Int.fmod_nonneg_of_pos (-a) (by omega)
    have h4 : (-a).fmod (-b) < -b := Int.fmod_lt_of_pos (-a) (by omega)
    have h1 : a.fmod b ≤ 0 := by omega
    have h2 : b < a.fmod b := by omega
    exact ⟨by omega, .inr ⟨by omega, h1⟩⟩
  · have h1 : 0 ≤ a.fmod b := Int.fmod_nonneg_of_pos a h
    have h2 : a.fmod b < b := Int.fmod_lt_of_pos a h
    exact ⟨by omega, .inl ⟨by omega, h1⟩⟩
/-- Euclid's loop -/
theorem whl_gcd {c : Env → M Bool} {f : Env → M Out} (mk : Int → Int → Env) (hc : ∀ a b, c (mk a b) = ret (!(b == 0))) (hf : ∀ a b, b ≠ 0 → f (mk a b) = ret (.nx (mk b (a.fmod b)))) :
    ∀ (k : Nat) (a b : Int) (n : Nat), b.natAbs < 2 ^ k → 2 * k + 1 ≤ n → ∃ g, whlM c f n (mk a b) = ret (.nx (mk g 0)) ∧ g.natAbs = Int.gcd a b ∧ (0 ≤ a → 0 ≤ b → 0 ≤ g) := by
  have zero : ∀ a n, 1 ≤ n → whlM c f n (mk a 0) = ret (.nx (mk a 0)) := fun a n h => by
    cases n with
    | zero => omega
    | succ n =>
      unfold whlM
      rw [hc]
      rfl
  have step : ∀ a b n, b ≠ 0 → whlM c f (n + 1) (mk a b) = whlM c f n (mk b (a.fmod b)) := fun a b n h => by
    show bnd (c (mk a b)) _ = _
    rw [hc]
    have e : (!(b == 0)) = true := by simpa using h
    rw [e]
    show bnd (f (mk a b)) _ = _
    rw [hf a b h]
    rfl
  intro k
  induction k with
  | zero =>
    intro a b n hb hn
    have : b = 0 := by
      have : b.natAbs < 1 := by simpa using hb
      omega
    subst this
    exact ⟨a, zero a n (by omega), by simp, fun h _ => h⟩
  | succ k ih =>
    intro a b n hb hn
    by_cases h : b = 0
    · subst h
      exact ⟨a, zero a n (by omega), by simp, fun h _ => h⟩
    · obtain ⟨m, rfl⟩ : ∃ m, n = m + 2 := ⟨n - 2, by omega⟩
      rw [step a b _ h]
      obtain ⟨h1, h2⟩ := fmod_abs a b h
      by_cases hr : a.fmod b = 0
      · rw [hr]
        exact ⟨b, zero b _ (by omega), by rw [← gcd_fmod a b, hr]; simp, fun _ h => h⟩
      · rw [step b _ _ hr]
        have h3 := fmod_half b (a.fmod b) h2 hr h1
        obtain ⟨g, e1, e2, e3⟩ := ih (a.fmod b) (b.fmod (a.fmod b)) m (by rw [Nat.pow_succ] at hb; omega) (by omega)
        refine ⟨g, e1, by rw [e2, gcd_fmod, gcd_fmod], fun ha hb => ?_⟩
        have p1 : 0 ≤ a.fmod b := Int.fmod_nonneg_of_pos a (by omega)
        exact e3 p1 (Int.fmod_nonneg_of_pos b (by omega))
end Sw
/-! More rules: the small language without comprehensions; comprehensions and loops by what they give -/
namespace Sw
open PySem
section
variable {α β γ : Type}
theorem evz {C : CL} {G : Nat → Option D} {env : Env} : (∀ i, evE C G (.var i) env = opt (get env i)) ∧
    (∀ i, evE C G (.int i) env = ret (.d (.int i))) ∧
    (∀ i, evE C G (.bl i) env = ret (.d (.bl i))) ∧
    (∀ i, evE C G (.str i) env = ret (.d (.str i))) ∧
    evE C G .non env = ret (.d .non) ∧
    (∀ j, evE C G (.glob j) env = bnd (opt (G j)) fun x => ret (.d x)) ∧
    (∀ es, evE C G (.tup es) env = bnd (evL C G es env) fun xs => ret (.d (.tup xs))) ∧
    (∀ es, evE C G (.lst es) env = bnd (evL C G es env) fun xs => ret (.d (.lst xs))) ∧
    (∀ es, evE C G (.newl es) env = bnd (evA C G es env) fun xs => new (.lst xs)) ∧
    (∀ o a b, evE C G (.bin o a b) env = bnd (evE C G a env) fun x => bnd (evE C G b env) fun y => bnd (pk x) fun x => bnd (pk y) fun y => bnd (opt (bop o x y)) fun z => ret (.d z)) ∧
    (∀ a, evE C G (.neg a) env = bnd (evE C G a env) negM) ∧
    (∀ o a b, evE C G (.cmp o a b) env = bnd (evE C G a env) fun x => bnd (evE C G b env) fun y => bnd (pk x) fun x => bnd (pk y) fun y => bnd (opt (cop o x y)) fun z => ret (.d (.bl z))) ∧
    (∀ o1 o2 a b c, evE C G (.chain o1 o2 a b c) env = bnd (evE C G a env) fun x => bnd (evE C G b env) fun y => bnd (pk x) fun x => bnd (pk y) fun y' => bnd (opt (cop o1 x y')) fun t =>
      if t then bnd (evE C G c env) fun z => bnd (pk y) fun y => bnd (pk z) fun z => bnd (opt (cop o2 y z)) fun t => ret (.d (.bl t)) else ret (.d (.bl false))) ∧
    (∀ a b, evE C G (.and a b) env = bnd (evE C G a env) (andM (evE C G b env))) ∧
    (∀ a b, evE C G (.or a b) env = bnd (evE C G a env) (orM (evE C G b env))) ∧
    (∀ a, evE C G (.not a) env = bnd (evE C G a env) fun x => bnd (opt (tru x)) fun t => ret (.d (.bl !t))) ∧
    (∀ c a b, evE C G (.ife c a b) env = bnd (evE C G c env) fun x => bnd (opt (tru x)) fun t => if t then evE C G a env else evE C G b env) ∧
    (∀ a b, evE C G (.idx a b) env = bnd (evE C G a env) fun x => bnd (evE C G b env) fun y => bnd (asD y) fun y => idxA x y) ∧
    (∀ a lo hi, evE C G (.slc a lo hi) env = bnd (evE C G a env) fun x => bnd (evO C G lo env) fun l => bnd (evO C G hi env) fun h => bnd (pk x) fun x => bnd (opt (slc l h x)) fun z => ret (.d z)) ∧
    (∀ a, evE C G (.rev a) env = bnd (evE C G a env) fun x => bnd (pk x) fun x => bnd (opt (revD x)) fun z => ret (.d z)) ∧
    (∀ f es, evE C G (.call f es) env = bnd (evA C G es env) fun xs => C f xs) ∧
    (∀ f es, evE C G (.bi f es) env = bnd (evA C G es env) fun xs => bnd (pks xs) fun xs => bnd (opt (biD f xs)) fun z => ret (.d z)) ∧
    (∀ a ts, evE C G (.isi a ts) env = bnd (evE C G a env) fun x => bnd (pk x) fun x => ret (.d (.bl (ts.any (isT x))))) ∧
    (∀ a, evE C G (.frz a) env = bnd (evE C G a env) frz) ∧
    (∀ a, evE C G (.nw a) env = bnd (evE C G a env) thaw) ∧
    evL C G .nil env = ret [] ∧
    (∀ e r, evL C G (.cons e r) env = bnd (evE C G e env) fun x => bnd (asD x) fun x => bnd (evL C G r env) fun xs => ret (x :: xs)) ∧
    evA C G .nil env = ret [] ∧
    (∀ e r, evA C G (.cons e r) env = bnd (evE C G e env) fun x => bnd (evA C G r env) fun xs => ret (x :: xs)) ∧
    evO C G .nil env = ret none ∧
    (∀ e r, evO C G (.cons e r) env = bnd (evE C G e env) intO) ∧
    evT C G .nil env = ret true ∧
    (∀ e r, evT C G (.cons e r) env = bnd (evE C G e env) fun x => opt (tru x)) ∧
    (∀ a, evI C G (.val a) env = bnd (evE C G a env) fun x => bnd (asD x) fun x => opt x.items) ∧
    (∀ a, evI C G (.rng1 a) env = bnd (evE C G a env) (rngM (.d (.int 0)))) ∧
    (∀ a b, evI C G (.rng2 a b) env = bnd (evE C G a env) fun x => bnd (evE C G b env) (rngM x)) ∧
    (∀ a, evI C G (.enm a) env = bnd (evE C G a env) enmM) := by
  obtain ⟨h0, h1, h2, h3, h4, h5, h6, h7, h8, h9, h10, h11, h12, h13, h14, h15, h16, h17, h18, h19, h20, h21, h22, h23, h24, h25, h26, h27, h28, h29, h30, h31, h32, h33, h34, h35, h36, h37, h38⟩ := evx (C := C) (G := G) (env := env)
  exact ⟨h0, h1, h2, h3, h4, h5, h6, h7, h8, h9, h10, h11, h12, h13, h14, h15, h16, h17, h18, h19, h20, h21, h22, h25, h26, h27, h28, h29, h30, h31, h32, h33, h34, h35, h36, h37, h38⟩

theorem evg {C : CL} {G : Nat → Option D} {env : Env} : (∀ ks vs b c, evE C G (.gget ks vs b c) env = bnd (evE C G b env) fun y => bnd (asD y) fun y => bnd (evE C G c env) fun z => bnd (asD z) fun z => bnd (opt (ggD ks vs y z)) fun z => ret (.d z)) ∧
    (∀ o1 o2 o3 a b c d, evE C G (.chain3 o1 o2 o3 a b c d) env = bnd (evE C G a env) fun x => bnd (evE C G b env) fun y => bnd (pk x) fun x => bnd (pk y) fun y' => bnd (opt (cop o1 x y')) fun t =>
      if t = true then bnd (evE C G c env) fun z => bnd (pk y) fun y => bnd (pk z) fun z' => bnd (opt (cop o2 y z')) fun t =>
        if t = true then bnd (evE C G d env) fun u => bnd (pk z) fun z => bnd (pk u) fun u => bnd (opt (cop o3 z u)) fun t => ret (.d (.bl t)) else ret (.d (.bl false))
      else ret (.d (.bl false))) ∧
    (∀ a b c d, evE C G (.seq a b c d) env = bnd (evE C G a env) fun x => bnd (asD x) fun x => bnd (evE C G b env) fun y => bnd (asD y) fun y => bnd (opt (tkD x)) fun _ => bnd (opt (tkD y)) fun _ =>
      bnd (evE C G c env) fun z => bnd (asD z) fun z => bnd (evE C G d env) fun u => bnd (asD u) fun u => bnd (opt (seqD x y z u)) fun t => ret (.d t)) := by
  refine ⟨?_, ?_, ?_⟩ <;> intros <;> first | rfl | simp only [evE]
theorem evh : (∀ ks vs x z, ggD ks vs (.str x) z = some (match gLook ks vs x with
    | some i => .int i
    | none => z)) ∧ (∀ k ks v vs x, gLook (k :: ks) (v :: vs) x = if k = x then some v else gLook ks vs x) ∧ (∀ x, gLook [] [] x = none) ∧ (∀ xs, enmM (.d (.tup xs)) = ret (enms xs 0)) ∧ (∀ is xs e, asgT (.tp is) (.d (.lst xs)) e = asgs is xs e) ∧ (∀ xs, biD .list [.tup xs] = some (.lst xs)) ∧ (∀ xs, biD .list [.lst xs] = some (.lst xs)) := ⟨fun _ _ _ _ => rfl, fun _ _ _ _ _ => rfl, fun _ => rfl, fun _ => rfl, fun _ _ _ => rfl, fun _ => rfl, fun _ => rfl⟩
theorem evy {C : CL} {G : Nat → Option D} {env : Env} : (evE C G .nev env = fail) ∧ (∀ ks es, evE C G (.dsp ks es) env = bnd (evL C G es env) fun xs => ret (.d (.dct ks xs))) ∧
    (∀ o a, evE C G (.op1 o a) env = bnd (evE C G a env) fun x => bnd (asD x) fun x => bnd (opt (op1D o x)) fun z => ret (.d z)) ∧
    (∀ o a b, evE C G (.op2 o a b) env = bnd (evE C G a env) fun x => bnd (asD x) fun x => bnd (opt (pre2 o x)) fun _ => bnd (evE C G b env) fun y => bnd (asD y) fun y => bnd (opt (op2D o x y)) fun z => ret (.d z)) ∧
    (∀ o a b c, evE C G (.op3 o a b c) env = bnd (evE C G a env) fun x => bnd (asD x) fun x => bnd (opt (pre3 o x)) fun _ => bnd (evE C G b env) fun y => bnd (asD y) fun y => bnd (evE C G c env) fun z => bnd (asD z) fun z => bnd (opt (op3D o x y z)) fun z => ret (.d z)) ∧
    (∀ a, evI C G (.keys a) env = bnd (evE C G a env) fun x => bnd (asD x) fun x => opt (keysD x)) := by
  refine ⟨?_, ?_, ?_, ?_, ?_, ?_⟩ <;> intros <;> first | rfl | simp only [evE, evI]
theorem evd : (∀ o x, pre2 o x = some ()) ∧ (∀ ks xs, pre3 .get (.dct ks xs) = some ()) ∧
    (∀ ks xs k z, op3D .get (.dct ks xs) k z = (keyD k).map fun k => (dlook ks xs k).getD z) ∧ (∀ ks xs k, op2D .dix (.dct ks xs) k = (keyD k).bind (dlook ks xs)) ∧ (∀ s, keyD (.str s) = some (.inr s)) ∧ (∀ s, keyD (.int s) = some (.inl s)) ∧
    (∀ k x ks xs j, dlook (k :: ks) (x :: xs) j = if k = j then some x else dlook ks xs j) ∧ (∀ j, dlook [] [] j = none) ∧ (∀ ks xs, keysD (.dct ks xs) = some (ks.map dKey)) := by
  refine ⟨?_, ?_, ?_, ?_, ?_, ?_, ?_, ?_, ?_⟩ <;> intros <;> rfl
/-! ### the last list of the store -/
theorem wpe {st : Sto} {as : List A} : (∀ Q, wp (pk (.r st.length)) (st ++ [SO.lst as]) Q = wp (opt ((allD as).map D.lst)) (st ++ [.lst as]) Q) ∧ (∀ Q, wp (lstAt st.length) (st ++ [.lst as]) Q = Q () (st ++ [.lst as])) ∧
    (∀ f Q, wp (chg st.length f) (st ++ [.lst as]) Q = wp (opt (f as)) (st ++ [.lst as]) (fun ys _ => Q () (st ++ [.lst ys]))) ∧ (∀ i Q, wp (idxA (.r st.length) (.int i)) (st ++ [SO.lst as]) Q = wp (opt (ix as i)) (st ++ [.lst as]) Q) := by
  refine ⟨fun Q => ?_, fun Q => ?_, fun f Q => ?_, fun i Q => ?_⟩
  · unfold wp pk
    simp only [at_end]
    cases allD as <;> rfl
  · unfold wp lstAt
    simp only [at_end]
    refine propext ⟨fun ⟨a, s', e, q⟩ => ?_, fun q => ⟨(), _, rfl, q⟩⟩
    cases e
    exact q
  · unfold wp chg
    simp only [at_end]
    cases hf : f as with
    | none =>
      refine propext ⟨fun ⟨a, s', e, q⟩ => ?_, fun ⟨a, s', e, q⟩ => ?_⟩
      · cases e
      · cases e
    | some ys =>
      simp only [set_end]
      refine propext ⟨fun ⟨a, s', e, q⟩ => ?_, fun ⟨a, s', e, q⟩ => ?_⟩
      · cases e
        exact ⟨ys, _, rfl, q⟩
      · cases e
        exact ⟨(), _, rfl, q⟩
  · unfold wp idxA
    simp only [at_end]
    cases ix as i <;> rfl
theorem wpa : allD [] = some [] ∧ (∀ x r, allD (.d x :: r) = (allD r).map (x :: ·)) ∧ (∀ x, biD .tuple [x] = x.items.map .tup) ∧ (∀ x, biD .list [x] = x.items.map .lst) ∧ (∀ (st : Sto) (o : SO), (st ++ [o]).take st.length = st) :=
  ⟨rfl, fun _ _ => rfl, fun _ => rfl, fun _ => rfl, fun _ _ => by simp⟩
/-! ### parts of a body -/
def nthS : Nat → SL → S
  | 0, .cons s _ => s
  | n + 1, .cons _ r => nthS n r
  | _, .nil => .nev
def whE : S → E
  | .whil c _ => c
  | .ife c _ _ => c
  | .asg _ e => e
  | .ret e => e
  | _ => .non
def whB : S → SL
  | .whil _ b => b
  | .forr _ _ b => b
  | .ife _ a _ => a
  | _ => .nil
def whL : S → SL
  | .ife _ _ b => b
  | _ => .nil
/-! ### comprehensions -/
theorem mapM_flt {ι : Type} {f : D → M (Option D)} {g h : ι → D} {p : ι → Bool} : ∀ {xs : List ι}, (∀ x ∈ xs, f (g x) = ret (if p x then some (h x) else none)) → mapM f (xs.map g) = ret ((xs.filter p).map h)
  | [], _ => rfl
  | x :: xs, e => by
    have h2 := mapM_flt (f := f) (g := g) (h := h) (p := p) (xs := xs) fun y hy => e y (List.mem_cons_of_mem _ hy)
    show bnd (f (g x)) _ = _
    rw [e x (List.mem_cons_self ..), bnd_ret, h2, bnd_ret, List.filter_cons]
    cases p x <;> rfl
/-- [elt for t in xs] -/
theorem cmp_map {ι : Type} {C : CL} {G : Nat → Option D} {elt : E} {t : T} {it : I} {own : List Nat} {env : Env} {xs : List ι} (g h : ι → D) (hi : evI C G it env = ret (xs.map g)) (hl : xs.length ≤ 16777216)
    (he : ∀ x ∈ xs, ∃ env', asgT t (.d (g x)) (wip env own) = some env' ∧ evE C G elt env' = ret (.d (h x))) : evE C G (.comp elt t it .nil own) env = ret (.d (.lst (xs.map h))) := by
  show bnd (evI C G it env) (fun ys => bnd (trim (mapM (compM C G elt t .nil own env) ys)) fin) = _
  rw [hi, bnd_ret, mapM_map fun x hx => ?_, trim_ret, bnd_ret, fin_ret (by simpa using hl)]
  obtain ⟨env', h1, h2⟩ := he x hx
  exact compM_ret h1 rfl h2
/-- [elt for t in xs if c] -/
theorem cmp_flt {ι : Type} {C : CL} {G : Nat → Option D} {elt c : E} {t : T} {it : I} {own : List Nat} {env : Env} {xs : List ι} (g h : ι → D) (p : ι → Bool) (hi : evI C G it env = ret (xs.map g)) (hl : (xs.filter p).length ≤ 16777216)
    (he : ∀ x ∈ xs, ∃ env', asgT t (.d (g x)) (wip env own) = some env' ∧ evE C G c env' = ret (.d (.bl (p x))) ∧ (p x = true → evE C G elt env' = ret (.d (h x)))) : evE C G (.comp elt t it (.cons c .nil) own) env = ret (.d (.lst ((xs.filter p).map h))) := by
  have main : ∀ x ∈ xs, compM C G elt t (.cons c .nil) own env (g x) = ret (if p x then some (h x) else none) := fun x hx => by
    obtain ⟨env', h1, h2, h3⟩ := he x hx
    have e2 : evT C G (.cons c .nil) env' = ret (p x) := by
      show bnd (evE C G c env') (fun x => opt (tru x)) = _
      rw [h2]
      rfl
    unfold compM
    rw [h1, opt_some, bnd_ret, e2, bnd_ret]
    cases hp : p x with
    | false => rfl
    | true =>
      rw [if_pos rfl, h3 hp]
      rfl
  show bnd (evI C G it env) (fun ys => bnd (trim (mapM (compM C G elt t (.cons c .nil) own env) ys)) fin) = _
  rw [hi, bnd_ret, mapM_flt main, trim_ret, bnd_ret, fin_ret (by rw [List.length_map]; exact hl)]
/-- a loop without a change of the store that ends as it should -/
theorem for_ret {ι σ : Type} {C : CL} {G : Nat → Option D} {t : T} {b : SL} {xs : List ι} (g : ι → D) (mk : σ → Option A → Env) (step : σ → ι → σ) (s : σ) (u : Option A)
    (h : ∀ x ∈ xs, ∀ s u, ∃ e', asgT t (.d (g x)) (mk s u) = some e' ∧ evSL C G b e' = ret (.nx (mk (step s x) (some (.d (g x)))))) : ∃ u', forM (forB C G t b) (xs.map g) (mk s u) = ret (.nx (mk (xs.foldl step s) u')) :=
  forM_steps g mk step xs s u fun x hx s u => by
    obtain ⟨e', h1, h2⟩ := h x hx s u
    unfold forB
    rw [h1, opt_some, bnd_ret, h2]
/-- a while that counts: P is its test behind k turns -/
theorem whl_cnt {c : Env → M Bool} {f : Env → M Out} (mk : Nat → Env) (P : Nat → Bool) (hc : ∀ k, c (mk k) = ret (P k)) (hf : ∀ k, P k = true → f (mk k) = ret (.nx (mk (k + 1)))) :
    ∀ (d k fuel : Nat), P (k + d) = false → d < fuel → ∃ j, k ≤ j ∧ j ≤ k + d ∧ whlM c f fuel (mk k) = ret (.nx (mk j)) ∧ P j = false ∧ ∀ i, k ≤ i → i < j → P i = true
  | d, k, 0, _, h => by omega
  | d, k, fuel + 1, h, hf2 => by
    cases hp : P k with
    | false =>
      refine ⟨k, Nat.le_refl _, by omega, ?_, hp, fun i h1 h2 => by omega⟩
      show bnd (c (mk k)) _ = _
      rw [hc, hp]
      rfl
    | true =>
      cases d with
      | zero => rw [Nat.add_zero, hp] at h; cases h
      | succ d =>
        obtain ⟨j, h1, h2, h3, h4, h5⟩ := whl_cnt mk P hc hf d (k + 1) fuel (by rw [show k + 1 + d = k + (d + 1) by omega]; exact h) (by omega)
        refine ⟨j, by omega, by omega, ?_, h4, fun i hi1 hi2 => ?_⟩
        · show bnd (c (mk k)) _ = _
          rw [hc, hp, bnd_ret, if_pos rfl, hf k hp]
          exact h3
        · by_cases e : i = k
          · subst e; exact hp
          · exact h5 i (by omega) hi2
theorem whl_then {c : Env → M Bool} {f : Env → M Out} {g : Out → M β} {R : M β} {e : Env} {fuel : Nat} (mk : Nat → Env) (P : Nat → Bool) (he : e = mk 0) (hc : ∀ k, c (mk k) = ret (P k)) (hf : ∀ k, P k = true → f (mk k) = ret (.nx (mk (k + 1))))
    (d : Nat) (hd : P d = false) (hl : d < fuel) (k : ∀ j, j ≤ d → P j = false → (∀ i, i < j → P i = true) → g (.nx (mk j)) = R) : bnd (whlM c f fuel e) g = R := by
  obtain ⟨j, h1, h2, h3, h4, h5⟩ := whl_cnt mk P hc hf d 0 fuel (by rw [Nat.zero_add]; exact hd) hl
  rw [he, h3, bnd_ret]
  exact k j (by omega) h4 fun i hi => h5 i (by omega) hi
theorem for_then {ι σ : Type} {C : CL} {G : Nat → Option D} {t : T} {b : SL} {xs : List ι} {g0 : Out → M β} {R : M β} {e : Env} (g : ι → D) (mk : σ → Option A → Env) (step : σ → ι → σ) (s : σ) (u : Option A) (he : e = mk s u)
    (h : ∀ x ∈ xs, ∀ s u, ∃ e', asgT t (.d (g x)) (mk s u) = some e' ∧ evSL C G b e' = ret (.nx (mk (step s x) (some (.d (g x)))))) (k : ∀ u, g0 (.nx (mk (xs.foldl step s) u)) = R) : bnd (forM (forB C G t b) (xs.map g) e) g0 = R := by
  obtain ⟨u', h2⟩ := for_ret g mk step s u h
  rw [he, h2, bnd_ret]
  exact k u'
/-- a loop whose state is known turn by turn -/
theorem for_at0 {ι σ : Type} {C : CL} {G : Nat → Option D} {t : T} {b : SL} (g : ι → D) (mk : σ → Option A → Env) (st : Nat → σ) : ∀ (xs : List ι) (k : Nat) (u : Option A),
    (∀ j x u, xs[j]? = some x → ∃ e' u', asgT t (.d (g x)) (mk (st (k + j)) u) = some e' ∧ evSL C G b e' = ret (.nx (mk (st (k + j + 1)) u'))) → ∃ u', forM (forB C G t b) (xs.map g) (mk (st k) u) = ret (.nx (mk (st (k + xs.length)) u'))
  | [], k, u, _ => ⟨u, rfl⟩
  | x :: xs, k, u, h => by
    obtain ⟨e', u1, h1, h2⟩ := h 0 x u rfl
    obtain ⟨u2, h3⟩ := for_at0 g mk st xs (k + 1) u1 fun j y u hy => by
      have := h (j + 1) y u (by simpa using hy)
      rw [show k + (j + 1) = k + 1 + j by omega] at this
      exact this
    refine ⟨u2, ?_⟩
    show bnd (forB C G t b (g x) (mk (st k) u)) _ = _
    unfold forB
    rw [show k + 0 = k from rfl] at h1 h2
    rw [h1, opt_some, bnd_ret, h2]
    rw [show k + (x :: xs).length = k + 1 + xs.length by simp; omega]
    exact h3
theorem for_at {ι σ : Type} {C : CL} {G : Nat → Option D} {t : T} {b : SL} {xs : List ι} {g0 : Out → M β} {R : M β} {e : Env} (g : ι → D) (mk : σ → Option A → Env) (st : Nat → σ) (u : Option A) (he : e = mk (st 0) u)
    (h : ∀ j x u, xs[j]? = some x → ∃ e' u', asgT t (.d (g x)) (mk (st j) u) = some e' ∧ evSL C G b e' = ret (.nx (mk (st (j + 1)) u'))) (k : ∀ u, g0 (.nx (mk (st xs.length) u)) = R) : bnd (forM (forB C G t b) (xs.map g) e) g0 = R := by
  obtain ⟨u', h2⟩ := for_at0 g mk st xs 0 u (fun j x u hx => by rw [Nat.zero_add]; exact h j x u hx)
  rw [he, h2, bnd_ret, Nat.zero_add]
  exact k u'
end
end Sw
namespace Sw
open PySem
/-! rules for refusals and lists of functions -/
theorem runF_th {C : CL} {G : Nat → Option D} {d : DI} {as : List A} {x : Ex} (h1 : as.length = d.np) (h2 : evSL C G d.body (as.map some ++ reps (d.nn - d.np)) = throw x) (h0 : d.lt = [] := by rfl) : runF C G d as = throw x := by
  have hb : d.lt.isEmpty = true := by rw [h0]; rfl
  funext s
  unfold runF
  rw [if_pos ⟨h1, .inl hb⟩, h2]
  show onlyD d (some (.error x, s.take s.length)) = some (.error x, s)
  rw [List.take_length]
  rfl
theorem evk {C : CL} {G : Nat → Option D} {env : Env} : (∀ j, evE C G (.lam j) env = ret (.f j)) ∧
    (∀ ks a, evE C G (.kinds ks a) env = bnd (evE C G a env) fun x => bnd (fns x) fun js => bnd (trim (kindsM x js (fun j => kindM ks (C.lam j env)) js)) fin) ∧
    (∀ c es, evS C G (.rse c es) env = bnd (evL C G es env) fun xs => throw (.mk c xs)) :=
  ⟨fun _ => by rw [evE], fun _ _ => by rw [evE], fun _ _ => by rw [evS]⟩
theorem bnd_throw {α β : Type} (x : Ex) (f : α → M β) : bnd (throw x) f = throw x := rfl
theorem kindM_throw {ks : List Str} {c : Nat} {x : Str} (h : ks[c]? = some x) : kindM ks (throw (.mk c [])) = ret (.str x) := by
  funext s
  simp only [kindM, throw, kindX, h, ret, List.take_length]
theorem kindM_throw1 {ks : List Str} {c : Nat} {x : Str} {d : D} (h : ks[c]? = some x) : kindM ks (throw (.mk c [d])) = ret (.tup [.str x, d]) := by
  funext s
  simp only [kindM, throw, kindX, h, ret, List.take_length]
theorem kindM_ret {ks : List Str} {x : D} : kindM ks (ret (.d x)) = ret x := by
  funext s
  simp only [kindM, ret, List.take_length]
theorem forM_all {f : D → Sw.Env → M Out} {xs : List D} {e : Sw.Env} {s : Sto} {I : Sw.Env → Sto → Prop} {Q : Out → Sto → Prop} (h0 : I e s) (hs : ∀ x ∈ xs, ∀ e s, I e s → wp (f x e) s fun r s' => ∃ e', r = .nx e' ∧ I e' s') (hq : ∀ e s, I e s → Q (.nx e) s) : wp (Sw.forM f xs e) s Q :=
  wp.forM (fun _ => I) xs 0 e s h0 (fun j x e s hx hI => (hs x (List.mem_of_getElem? hx) e s hI).mono fun r s' ⟨e', hr, hI'⟩ => by subst hr; exact hI') hq
theorem wp_fns {s : Sto} {k : Nat} {xs : List A} {js : List Nat} (h : s[k]? = some (.lst xs)) (hf : allF xs = some js) {Q : List Nat → Sto → Prop} : wp (fns (.r k)) s Q = Q js s := by
  have e : fns (.r k) s = some (.ok js, s) := by simp only [fns, h, hf]
  exact propext ⟨fun ⟨a, s', h1, h2⟩ => by rw [e] at h1; cases h1; exact h2, fun h2 => ⟨_, _, e, h2⟩⟩
theorem kindsM_run {s : Sto} {k : Nat} {xs : List A} {js : List Nat} (h : s[k]? = some (.lst xs)) (hf : allF xs = some js) {f : Nat → M D} {g : Nat → D} : ∀ {is : List Nat}, (∀ j ∈ is, f j = ret (g j)) → kindsM (.r k) js f is s = some (.ok (is.map g), s)
  | [], _ => by
    have e : fns (.r k) s = some (.ok js, s) := by simp only [fns, h, hf]
    simp only [kindsM, chkF, bnd, e, if_true, ret, List.map_nil]
  | i :: is, hg => by
    have e : fns (.r k) s = some (.ok js, s) := by simp only [fns, h, hf]
    have ih := kindsM_run h hf (f := f) (g := g) (is := is) fun j hj => hg j (List.mem_cons_of_mem _ hj)
    have hi := hg i (List.mem_cons_self ..)
    simp only [kindsM, chkF, bnd, e, if_true, ret, hi, ih, List.map_cons]
theorem wp_kinds {s : Sto} {k : Nat} {xs : List A} {js : List Nat} (h : s[k]? = some (.lst xs)) (hf : allF xs = some js) {f : Nat → M D} {g : Nat → D} (hg : ∀ j ∈ js, f j = ret (g j)) {Q : List D → Sto → Prop} : wp (trim (kindsM (.r k) js f js)) s Q = Q (js.map g) s := by
  have e : trim (kindsM (.r k) js f js) s = some (.ok (js.map g), s) := by simp only [trim, kindsM_run h hf hg, List.take_length]
  exact propext ⟨fun ⟨a, s', h1, h2⟩ => by rw [e] at h1; cases h1; exact h2, fun h2 => ⟨_, _, e, h2⟩⟩
end Sw
/-! Numbers in a row: sizes by place, and where a fraction stands among them -/
namespace Fm
def mOf (H i : Nat) : Nat := if i < H then i else H + (i - H) % H
def kOf (H i : Nat) : Nat := if i < H then 0 else (i - H) / H
def siz (H i : Nat) : Nat := mOf H i * 2 ^ kOf H i
theorem mk_eq {H : Nat} (hH : 0 < H) (i : Nat) : i = mOf H i + kOf H i * H := by
  unfold mOf kOf
  by_cases h : i < H
  · rw [if_pos h, if_pos h]; omega
  · rw [if_neg h, if_neg h]
    have := Nat.mod_add_div (i - H) H
    rw [Nat.mul_comm] at this
    omega
theorem mOf_lt {H : Nat} (hH : 0 < H) (i : Nat) : mOf H i < 2 * H := by
  unfold mOf
  have := Nat.mod_lt (i - H) hH
  split <;> omega
theorem mOf_ge {H : Nat} (hH : 0 < H) (i : Nat) (h : 0 < kOf H i) : H ≤ mOf H i := by
  unfold kOf at h
  unfold mOf
  by_cases h1 : i < H
  · rw [if_pos h1] at h; omega
  · rw [if_neg h1]; omega
theorem mk_at {H m k : Nat} (hm : m < 2 * H) (hk : 0 < k → H ≤ m) : mOf H (m + k * H) = m ∧ kOf H (m + k * H) = k := by
  unfold mOf kOf
  have hH : 0 < H := by omega
  by_cases h : m + k * H < H
  · rw [if_pos h, if_pos h]
    have : k = 0 := by
      refine Nat.eq_zero_of_not_pos fun hp => ?_
      have := Nat.mul_le_mul_right H hp
      omega
    subst this
    simp
  · rw [if_neg h, if_neg h]
    have hm2 : H ≤ m := by
      by_cases h0 : 0 < k
      · exact hk h0
      · have : k = 0 := by omega
        subst this
        omega
    have e : m + k * H - H = (m - H) + H * k := by rw [Nat.mul_comm H k]; omega
    rw [e, Nat.add_mul_mod_self_left, Nat.mod_eq_of_lt (by omega), Nat.add_mul_div_left _ _ hH, Nat.div_eq_of_lt (by omega)]
    omega
theorem siz_at {H m k : Nat} (hm : m < 2 * H) (hk : 0 < k → H ≤ m) : siz H (m + k * H) = m * 2 ^ k := by
  unfold siz
  obtain ⟨h1, h2⟩ := mk_at hm hk
  rw [h1, h2]
theorem siz_next {H m k : Nat} (hm : m < 2 * H) (hk : 0 < k → H ≤ m) : siz H (m + k * H + 1) = (m + 1) * 2 ^ k := by
  by_cases h : m + 1 < 2 * H
  · rw [show m + k * H + 1 = (m + 1) + k * H by omega]
    exact siz_at h fun h0 => by have := hk h0; omega
  · have e : m + k * H + 1 = H + (k + 1) * H := by rw [Nat.succ_mul]; omega
    rw [e, siz_at (by omega) (fun _ => Nat.le_refl _), Nat.pow_succ, show m + 1 = 2 * H by omega, Nat.mul_comm (2 ^ k) 2, ← Nat.mul_assoc, Nat.mul_comm H 2]
theorem siz_lt {H : Nat} (hH : 0 < H) (i : Nat) : siz H i < siz H (i + 1) := by
  have e := mk_eq hH i
  have h1 := mOf_lt hH i
  have h2 := mOf_ge hH i
  generalize hm : mOf H i = m at *
  generalize hk : kOf H i = k at *
  subst e
  rw [siz_at h1 h2, siz_next h1 h2, Nat.succ_mul]
  have := Nat.two_pow_pos k
  omega
theorem siz_mono {H : Nat} (hH : 0 < H) {i j : Nat} (h : i < j) : siz H i < siz H j := by
  induction j with
  | zero => omega
  | succ j ih =>
    by_cases e : i = j
    · subst e; exact siz_lt hH i
    · exact Nat.lt_trans (ih (by omega)) (siz_lt hH j)
theorem siz_le {H : Nat} (hH : 0 < H) {i j : Nat} (h : i ≤ j) : siz H i ≤ siz H j := by
  by_cases e : i = j
  · subst e; exact Nat.le_refl _
  · exact Nat.le_of_lt (siz_mono hH (by omega))
/-- a fraction whole / part stands at m times two to the k, below the next one -/
structure Cut (H : Nat) (whole part : Int) (m k : Nat) : Prop where
  lo : (m : Int) * (part * 2 ^ k) ≤ whole
  hi : whole < ((m : Int) + 1) * (part * 2 ^ k)
  lt : m < 2 * H
  ge : 0 < k → H ≤ m
theorem p2_pos (k : Nat) : (0 : Int) < 2 ^ k := Int.pow_pos (by decide)
theorem cut_ex0 {H : Nat} (hH : 0 < H) {whole part : Int} (hw : 0 ≤ whole) (hp : 0 < part) : ∀ n : Nat, whole < (2 * H : Nat) * (part * 2 ^ n) → ∃ m k, Cut H whole part m k := by
  have mk : ∀ n : Nat, whole < (2 * H : Nat) * (part * 2 ^ n) → (0 < n → (H : Int) * (part * 2 ^ n) ≤ whole) → ∃ m k, Cut H whole part m k := fun n h h2 => by
    have hu : 0 < part * 2 ^ n := Int.mul_pos hp (p2_pos n)
    generalize hU : part * 2 ^ n = u at *
    have q0 : 0 ≤ whole / u := Int.ediv_nonneg hw (Int.le_of_lt hu)
    have q1 : whole / u * u ≤ whole := Int.ediv_mul_le _ (by omega)
    have q2 : whole < (whole / u + 1) * u := by
      have := Int.lt_ediv_add_one_mul_self whole hu
      exact this
    refine ⟨(whole / u).toNat, n, ?_, ?_, ?_, fun h0 => ?_⟩
    · rw [hU, Int.toNat_of_nonneg q0]; exact q1
    · rw [hU, Int.toNat_of_nonneg q0]; exact q2
    · have : whole / u < (2 * H : Nat) := Int.ediv_lt_of_lt_mul hu h
      omega
    · have : (H : Int) ≤ whole / u := (Int.le_ediv_iff_mul_le hu).mpr (h2 h0)
      omega
  intro n
  induction n with
  | zero => exact fun h => mk 0 h fun h0 => absurd h0 (by decide)
  | succ n ih =>
    intro h
    by_cases hc : whole < (2 * H : Nat) * (part * 2 ^ n)
    · exact ih hc
    · refine mk (n + 1) h fun _ => ?_
      have e : (H : Int) * (part * 2 ^ (n + 1)) = (2 * H : Nat) * (part * 2 ^ n) := by
        rw [Int.pow_succ, Int.natCast_mul, ← Int.mul_assoc part, Int.mul_comm _ (2 : Int), Int.mul_left_comm, Int.mul_assoc]
        rfl
      rw [e]
      omega
theorem cut_ex {H : Nat} (hH : 0 < H) {whole part : Int} (hw : 0 ≤ whole) (hp : 0 < part) : ∃ m k, Cut H whole part m k := by
  refine cut_ex0 hH hw hp whole.toNat ?_
  have h1 : whole < 2 ^ whole.toNat := by
    have := Nat.lt_two_pow_self (n := whole.toNat)
    have e : ((2 ^ whole.toNat : Nat) : Int) = 2 ^ whole.toNat := by norm_cast
    omega
  have h2 := p2_pos whole.toNat
  generalize (2 : Int) ^ whole.toNat = t at *
  have h3 : 1 * t ≤ part * t := Int.mul_le_mul_of_nonneg_right (by omega) (by omega)
  have h4 : 1 * (part * t) ≤ (2 * H : Nat) * (part * t) := Int.mul_le_mul_of_nonneg_right (by omega) (by omega)
  omega
section
variable {H : Nat} {whole part : Int} {m k : Nat} (c : Cut H whole part m k) (hp : 0 < part)
include c
theorem Cut.hH : 0 < H := by have := c.lt; omega
def Cut.at_ (_ : Cut H whole part m k) : Nat := m + k * H
include hp
theorem Cut.le_iff (i : Nat) : (siz H i : Int) * part ≤ whole ↔ i ≤ m + k * H := by
  have hH := c.hH
  have e1 := siz_at c.lt c.ge
  have e2 := siz_next c.lt c.ge
  have z1 : ((m : Int) * 2 ^ k) * part ≤ whole := by
    have := c.lo
    rw [Int.mul_comm part, ← Int.mul_assoc] at this
    exact this
  have z2 : whole < (((m : Int) + 1) * 2 ^ k) * part := by
    have := c.hi
    rw [Int.mul_comm part, ← Int.mul_assoc] at this
    exact this
  constructor
  · intro h
    refine Nat.le_of_not_lt fun hlt => ?_
    have h3 := siz_le hH (i := m + k * H + 1) (j := i) (by omega)
    rw [e2] at h3
    have h4 : (((m + 1) * 2 ^ k : Nat) : Int) * part ≤ (siz H i : Int) * part := Int.mul_le_mul_of_nonneg_right (by exact_mod_cast h3) (by omega)
    have e : (((m + 1) * 2 ^ k : Nat) : Int) = ((m : Int) + 1) * 2 ^ k := by norm_cast
    rw [e] at h4
    omega
  · intro h
    have h3 := siz_le hH (i := i) (j := m + k * H) h
    rw [e1] at h3
    have h4 : (siz H i : Int) * part ≤ ((m * 2 ^ k : Nat) : Int) * part := Int.mul_le_mul_of_nonneg_right (by exact_mod_cast h3) (by omega)
    have e : ((m * 2 ^ k : Nat) : Int) = (m : Int) * 2 ^ k := by norm_cast
    rw [e] at h4
    omega
theorem Cut.ge_iff (i : Nat) : whole ≤ (siz H i : Int) * part ↔ (m + k * H < i ∨ (i = m + k * H ∧ whole = (m : Int) * (part * 2 ^ k))) := by
  have hH := c.hH
  have h1 := c.le_iff hp i
  have e1 := siz_at c.lt c.ge
  have e3 : ((siz H (m + k * H) : Nat) : Int) * part = (m : Int) * (part * 2 ^ k) := by
    rw [e1]
    have e : ((m * 2 ^ k : Nat) : Int) = (m : Int) * 2 ^ k := by norm_cast
    rw [e, Int.mul_assoc, Int.mul_comm part]
  have lo := c.lo
  by_cases hi : i ≤ m + k * H
  · have h2 := h1.mpr hi
    by_cases he : i = m + k * H
    · subst he
      rw [e3]
      constructor
      · intro h; exact .inr ⟨rfl, by omega⟩
      · rintro (h | ⟨_, h⟩) <;> omega
    · have h3 := siz_mono hH (i := i) (j := m + k * H) (by omega)
      have h4 : (siz H i : Int) * part < (siz H (m + k * H) : Int) * part := Int.mul_lt_mul_of_pos_right (by exact_mod_cast h3) hp
      rw [e3] at h4
      constructor
      · intro h; omega
      · rintro (h | ⟨h, _⟩) <;> omega
  · have h2 : ¬ (siz H i : Int) * part ≤ whole := fun h => hi (h1.mp h)
    constructor
    · intro _; exact .inl (by omega)
    · intro _; omega
end
/-- only one place -/
theorem Cut.uniq {H : Nat} {whole part : Int} {m k m' k' : Nat} (hp : 0 < part) (c : Cut H whole part m k) (c' : Cut H whole part m' k') : m = m' ∧ k = k' := by
  have h1 := (c'.le_iff hp _).mp ((c.le_iff hp _).mpr (Nat.le_refl _))
  have h2 := (c.le_iff hp _).mp ((c'.le_iff hp _).mpr (Nat.le_refl _))
  have e : m + k * H = m' + k' * H := by omega
  obtain ⟨a1, a2⟩ := mk_at c.lt c.ge
  obtain ⟨b1, b2⟩ := mk_at c'.lt c'.ge
  rw [e] at a1 a2
  exact ⟨by omega, by omega⟩
theorem count_le (at_ : Nat) (p : Nat → Bool) : ∀ n : Nat, (∀ i, i < n → p i = decide (i ≤ at_)) → ((List.range n).filter p) = List.range (min (at_ + 1) n)
  | 0, _ => by simp
  | n + 1, h => by
    rw [List.range_succ, List.filter_append, count_le at_ p n fun i hi => h i (by omega)]
    by_cases hn : n ≤ at_
    · have : p n = true := by rw [h n (by omega)]; simpa using hn
      rw [List.filter_cons, this, if_pos rfl, List.filter_nil]
      have e1 : min (at_ + 1) n = n := by omega
      have e2 : min (at_ + 1) (n + 1) = n + 1 := by omega
      rw [e1, e2, List.range_succ]
    · have : p n = false := by rw [h n (by omega)]; simpa using hn
      rw [List.filter_cons, this, if_neg (by decide), List.filter_nil, List.append_nil]
      have e1 : min (at_ + 1) n = at_ + 1 := by omega
      have e2 : min (at_ + 1) (n + 1) = at_ + 1 := by omega
      rw [e1, e2]
end Fm
namespace Fm
open PySem Sw
/-! ### floats, formats -/
inductive Fl where
  | num (s m e : Int) | inf (s : Int) | nan
deriving DecidableEq
def Fl.d : Fl → D
  | .num s m e => .tup [.str "num", .int s, .int m, .int e]
  | .inf s => .tup [.str "inf", .int s]
  | .nan => .tup [.str "nan"]
def fd (b l h : Int) : D := .tup [.int b, .int l, .int h]
def okB (b l h : Int) : Prop := 2 ≤ b ∧ b ≤ 8 ∧ -20 ≤ l ∧ l ≤ h ∧ h ≤ 20
def two (p : Int) : Int := 2 ^ p.toNat
theorem two_pos (p : Int) : 0 < two p := Int.pow_pos (by decide)
theorem two_le {p q : Int} (h : p ≤ q) : two p ≤ two q := by
  unfold two
  have h2 : p.toNat ≤ q.toNat := by omega
  exact_mod_cast Nat.pow_le_pow_right (show 0 < 2 by decide) h2
def Fl.ok (b l h : Int) : Fl → Prop
  | .num s m e => (s = 0 ∨ s = 1) ∧ (l ≤ e ∧ e ≤ h) ∧ (if e = l then 0 else two (b - 1)) ≤ m ∧ m ≤ 2 * two (b - 1) - 1
  | .inf s => s = 0 ∨ s = 1
  | .nan => True
theorem ss : (("num" : Str) == "num") = true ∧ (("num" : Str) == "inf") = false ∧ (("num" : Str) == "nan") = false ∧ (("inf" : Str) == "num") = false ∧ (("inf" : Str) == "inf") = true ∧ (("inf" : Str) == "nan") = false ∧ (("nan" : Str) == "num") = false ∧ (("nan" : Str) == "inf") = false ∧ (("nan" : Str) == "nan") = true := by decide +kernel
/-! ### two_to -/
theorem foldl_two : ∀ (xs : List Nat) (a : Int), xs.foldl (fun a _ => a * 2) a = a * 2 ^ xs.length
  | [], a => by simp
  | x :: xs, a => by rw [List.foldl_cons, foldl_two xs, List.length_cons, Int.pow_succ, Int.mul_assoc, Int.mul_comm 2]
theorem ok2 (a : Int) : okMul a 2 = true := okMul_r (by decide)
/-! ### what is refused -/
theorem half_pos {b : Int} (h : 2 ≤ b) : 2 ≤ two (b - 1) := by
  have := two_le (p := 1) (q := b - 1) (by omega)
  exact this
theorem half_le {b : Int} (h : b ≤ 8) : two (b - 1) ≤ 128 := by
  have := two_le (p := b - 1) (q := 7) (by omega)
  exact this
theorem ok2l (a : Int) : okMul 2 a = true := okMul_l (by decide)
/-! ### fractions -/
theorem gcd_pos {a b : Int} (hb : b ≠ 0) : (0 : Int) < Int.gcd a b := by
  have : Int.gcd a b ≠ 0 := fun h => hb (Int.gcd_eq_zero_iff.mp h).2
  omega
theorem gcd_le {a b : Int} (hb : b ≠ 0) : (Int.gcd a b : Int) ≤ b.natAbs := by
  have h1 : Int.gcd a b ∣ b.natAbs := by
    have := Int.gcd_dvd_natAbs_right a b
    exact this
  exact_mod_cast Nat.le_of_dvd (by omega) h1
theorem okg {a b : Int} (hb : b ≠ 0) (h : b.natAbs < 2 ^ 8000) : okDiv (Int.gcd a b) = true := by
  refine okDiv_of (gcd_pos hb) ?_
  have h1 := gcd_le (a := a) hb
  have h2 : (2 : Int) ^ 8000 ≤ 2 ^ 9000 := by exact_mod_cast Nat.pow_le_pow_right (show 0 < 2 by decide) (show 8000 ≤ 9000 by decide)
  have h3 : (b.natAbs : Int) < 2 ^ 8000 := by exact_mod_cast h
  exact Int.lt_of_le_of_lt h1 (Int.lt_of_lt_of_le h3 h2)
def fra (a b : Int) : Int × Int := if 0 < b then (a / (Int.gcd a b : Int), b / (Int.gcd a b : Int)) else (0 - a / (Int.gcd a b : Int), 0 - b / (Int.gcd a b : Int))
def frD (p : Int × Int) : D := .tup [.int p.1, .int p.2]
theorem pow_up {b : Int} (h : b.natAbs < 2 ^ 8000) : b.natAbs < 2 ^ 400000 := Nat.lt_of_lt_of_le h (Nat.pow_le_pow_right (by decide) (by decide))
def sca (m e : Int) : Int × Int := if 0 ≤ e then (m * two e, 1) else fra m (two (0 - e))
theorem two_lt {p : Int} (h : p ≤ 4000) : (two p).natAbs < 2 ^ 8000 := by
  have h1 := two_le h
  have h2 := two_pos p
  have h3 : two 4000 < 2 ^ 8000 := by
    show (2 : Int) ^ 4000 < 2 ^ 8000
    exact_mod_cast Nat.pow_lt_pow_right (show 1 < 2 by decide) (show 4000 < 8000 by decide)
  have h4 : ((two p).natAbs : Int) = two p := Int.natAbs_of_nonneg (by omega)
  exact_mod_cast h4 ▸ (Int.lt_of_le_of_lt h1 h3)
def negF (s : Int) (p : Int × Int) : Int × Int := if s = 1 then (0 - p.1, p.2) else p
def Fl.neg : Fl → Fl
  | .num s m e => .num (1 - s) m e
  | .inf s => .inf (1 - s)
  | .nan => .nan
def posL (b l h : Int) : List Fl := (List.range (two (b - 1)).toNat).map (fun i : Nat => Fl.num 0 (0 + i) l) ++
  ((List.range (h + 1 - l).toNat).flatMap fun p : Nat => (List.range (2 * two (b - 1) - two (b - 1)).toNat).map fun j : Nat => Fl.num 0 (two (b - 1) + j) (l + p)) ++ [Fl.inf 0]
theorem lenM (b l h : Int) : ((List.range (h + 1 - l).toNat).flatMap fun p : Nat => (List.range (2 * two (b - 1) - two (b - 1)).toNat).map fun j : Nat => Fl.num 0 (two (b - 1) + j) (l + p)).length = (h + 1 - l).toNat * (two (b - 1)).toNat := by
  rw [List.length_flatMap]
  have e : 2 * two (b - 1) - two (b - 1) = two (b - 1) := by omega
  simp [e, List.map_const', List.sum_replicate_nat]
theorem posL_len (b l h : Int) : (posL b l h).length = (two (b - 1)).toNat + (h + 1 - l).toNat * (two (b - 1)).toNat + 1 := by
  unfold posL
  rw [List.length_append, List.length_append, lenM]
  simp
theorem posL_le {b l h : Int} (o : okB b l h) : (posL b l h).length ≤ 6000 := by
  obtain ⟨h1, h2, h3, h4, h5⟩ := o
  have a := half_le h2
  rw [posL_len]
  have c : (h + 1 - l).toNat * (two (b - 1)).toNat ≤ 41 * 128 := Nat.mul_le_mul (by omega) (by omega)
  omega
def allL (b l h : Int) : List Fl := (posL b l h).reverse.map Fl.neg ++ posL b l h
theorem allL_len (b l h : Int) : (allL b l h).length = 2 * (posL b l h).length := by
  unfold allL
  simp
  omega
def upF (b l h : Int) : Fl → Fl
  | .nan => .nan
  | .inf s => if s = 0 then .inf 0 else .num 1 (2 * two (b - 1) - 1) h
  | .num s m e => if m = 0 then .num 0 1 l else if s = 1 then (if m = two (b - 1) ∧ l < e then .num 1 (2 * two (b - 1) - 1) (e - 1) else .num 1 (m - 1) e) else
    if m + 1 < 2 * two (b - 1) then .num 0 (m + 1) e else if e < h then .num 0 (two (b - 1)) (e + 1) else .inf 0
theorem neg_ok {b l h : Int} (x : Fl) (hx : x.ok b l h) : x.neg.ok b l h := by
  cases x with
  | nan => trivial
  | inf s => exact (show 1 - s = 0 ∨ 1 - s = 1 by rcases hx with h | h <;> omega)
  | num s m e =>
    obtain ⟨h1, h2⟩ := hx
    exact ⟨by omega, h2⟩
/-! ### order -/
theorem fra_pos {a b : Int} (hb : 0 < b) (h : b ≤ 2 ^ 20) (ha : a.natAbs ≤ 2 ^ 40) : 0 < (fra a b).2 ∧ (fra a b).2 ≤ 2 ^ 20 ∧ (fra a b).1.natAbs ≤ 2 ^ 40 ∧ (fra a b).1 * b = a * (fra a b).2 := by
  have hg := gcd_pos (a := a) (b := b) (by omega)
  obtain ⟨x, hx⟩ := Int.gcd_dvd_left (a := a) (b := b)
  obtain ⟨y, hy⟩ := Int.gcd_dvd_right (a := a) (b := b)
  unfold fra
  rw [if_pos hb]
  generalize (Int.gcd a b : Int) = g at *
  have e1 : a / g = x := by rw [hx]; exact Int.mul_ediv_cancel_left _ (by omega)
  have e2 : b / g = y := by rw [hy]; exact Int.mul_ediv_cancel_left _ (by omega)
  simp only [e1, e2]
  have hy0 : 0 < y := by
    refine Int.lt_of_not_ge fun hn => ?_
    have : g * y ≤ 0 := Int.mul_nonpos_of_nonneg_of_nonpos (by omega) hn
    omega
  have hy1 : y ≤ b := by
    have : 1 * y ≤ g * y := Int.mul_le_mul_of_nonneg_right (by omega) (by omega)
    omega
  have hx1 : x.natAbs ≤ a.natAbs := by
    rw [hx, Int.natAbs_mul]
    have : 1 * x.natAbs ≤ g.natAbs * x.natAbs := Nat.mul_le_mul_right _ (by omega)
    omega
  refine ⟨hy0, by omega, by omega, ?_⟩
  rw [hx, hy]
  rw [Int.mul_comm g x, Int.mul_assoc]
theorem okm {a : Int} (h : a.natAbs ≤ 2 ^ 40) : a.natAbs < 18446744073709551616 := by omega
theorem two_add {a b : Int} (ha : 0 ≤ a) (hb : 0 ≤ b) : two a * two b = two (a + b) := by
  unfold two
  rw [← Int.pow_add]
  congr 1
  omega
theorem num_rng {b l h : Int} (o : okB b l h) {s m e : Int} (hx : (Fl.num s m e).ok b l h) : 0 ≤ m ∧ m ≤ 255 ∧ -20 ≤ e ∧ e ≤ 20 ∧ (s = 0 ∨ s = 1) := by
  obtain ⟨h1, h2, h3, h4, h5⟩ := o
  obtain ⟨hs, ⟨h6, h7⟩, h8, h9⟩ := hx
  have := half_le h2
  have := two_pos (b - 1)
  refine ⟨?_, by omega, by omega, by omega, hs⟩
  by_cases he : e = l
  · rw [if_pos he] at h8
    exact h8
  · rw [if_neg he] at h8
    omega
theorem sca_key {m e : Int} (h0 : 0 ≤ m) (h1 : m ≤ 255) (h2 : -20 ≤ e) (h3 : e ≤ 20) : 0 < (sca m e).2 ∧ (sca m e).2 ≤ 2 ^ 20 ∧ (sca m e).1.natAbs ≤ 2 ^ 40 ∧ (sca m e).1 * two 20 = m * two (e + 20) * (sca m e).2 := by
  unfold sca
  by_cases h : 0 ≤ e
  · rw [if_pos h]
    have ht := two_le (p := e) (q := 20) h3
    have ht2 : two 20 = 2 ^ 20 := rfl
    have hp := two_pos e
    refine ⟨show (0 : Int) < 1 by decide, show (1 : Int) ≤ 2 ^ 20 by decide, ?_, ?_⟩
    · show (m * two e).natAbs ≤ 2 ^ 40
      rw [Int.natAbs_mul]
      have : m.natAbs * (two e).natAbs ≤ 255 * 2 ^ 20 := Nat.mul_le_mul (by omega) (by omega)
      omega
    · rw [← two_add h (by decide)]
      simp only [Int.mul_one, Int.mul_assoc]
  · rw [if_neg h]
    have ht := two_le (p := 0 - e) (q := 20) (by omega)
    have ht2 : two 20 = 2 ^ 20 := rfl
    have hp := two_pos (0 - e)
    obtain ⟨a1, a2, a3, a4⟩ := fra_pos (a := m) hp (by omega) (by omega)
    refine ⟨a1, a2, a3, ?_⟩
    have e1 : two 20 = two (0 - e) * two (e + 20) := by
      rw [two_add (by omega) (by omega)]
      congr 1
      omega
    rw [e1, ← Int.mul_assoc, a4, Int.mul_assoc, Int.mul_comm _ (two (e + 20)), ← Int.mul_assoc]
def keyI : Fl → Int
  | .num s m e => (1 - 2 * s) * (m * two (e + 20))
  | .inf s => (1 - 2 * s) * two 80
  | .nan => 0
theorem neg_key {s : Int} {p : Int × Int} {k : Int} (hs : s = 0 ∨ s = 1) (h : 0 < p.2 ∧ p.2 ≤ 2 ^ 20 ∧ p.1.natAbs ≤ 2 ^ 40 ∧ p.1 * two 20 = k * p.2) :
    0 < (negF s p).2 ∧ (negF s p).2 ≤ 2 ^ 20 ∧ (negF s p).1.natAbs ≤ 2 ^ 40 ∧ (negF s p).1 * two 20 = ((1 - 2 * s) * k) * (negF s p).2 := by
  obtain ⟨h1, h2, h3, h4⟩ := h
  unfold negF
  rcases hs with rfl | rfl
  · rw [if_neg (by decide)]
    refine ⟨h1, h2, h3, ?_⟩
    simpa using h4
  · rw [if_pos rfl]
    refine ⟨h1, h2, by simp only; omega, ?_⟩
    show (0 - p.1) * two 20 = (1 - 2 * 1) * k * p.2
    have e1 : (0 - p.1) * two 20 = -(p.1 * two 20) := by rw [Int.zero_sub, Int.neg_mul]
    have e2 : ((1 : Int) - 2 * 1) * k = -k := by omega
    rw [e1, e2, h4, Int.neg_mul]
def keyD (x : Fl) : Int × Int × Int := match x with
  | .num s m e => (0, negF s (sca m e))
  | .inf s => (1 - 2 * s, 0, 1)
  | .nan => (0, 0, 1)
theorem key_cmp {X Y p1 q1 p2 q2 : Int} (a1 : 0 < q1) (c1 : 0 < q2) (a4 : p1 * two 20 = X * q1) (c4 : p2 * two 20 = Y * q2) : p1 * q2 < p2 * q1 ↔ X < Y := by
  have w : 0 < q1 * q2 := Int.mul_pos a1 c1
  have l1 : (p1 * q2) * two 20 = X * (q1 * q2) := by rw [Int.mul_right_comm, a4, Int.mul_assoc]
  have l2 : (p2 * q1) * two 20 = Y * (q1 * q2) := by rw [Int.mul_right_comm, c4, Int.mul_assoc, Int.mul_comm q2 q1]
  have tp := two_pos 20
  constructor
  · intro hlt
    have := Int.mul_lt_mul_of_pos_right hlt tp
    rw [l1, l2] at this
    exact Int.lt_of_mul_lt_mul_right this (Int.le_of_lt w)
  · intro hlt
    have := Int.mul_lt_mul_of_pos_right hlt w
    rw [← l1, ← l2] at this
    exact Int.lt_of_mul_lt_mul_right this (Int.le_of_lt tp)
theorem less_key {b l h : Int} (o : okB b l h) (x y : Fl) (hx : x.ok b l h) (hy : y.ok b l h) (nx : x ≠ .nan) (ny : y ≠ .nan) :
    (if (keyD x).1 = (keyD y).1 then decide ((keyD x).2.1 * (keyD y).2.2 < (keyD y).2.1 * (keyD x).2.2) else decide ((keyD x).1 < (keyD y).1)) = decide (keyI x < keyI y) := by
  have t80 : two 80 = 2 ^ 80 := rfl
  have t20 : two 20 = 2 ^ 20 := rfl
  have big : ∀ s m e : Int, (Fl.num s m e).ok b l h → -(2 ^ 60) ≤ keyI (.num s m e) ∧ keyI (.num s m e) ≤ 2 ^ 60 := fun s m e hx => by
    obtain ⟨h0, h1, h2, h3, hs⟩ := num_rng o hx
    have ht := two_le (p := e + 20) (q := 40) (by omega)
    have t40 : two 40 = 2 ^ 40 := rfl
    have hp := two_pos (e + 20)
    have a1 : m * two (e + 20) ≤ 255 * 2 ^ 40 := Int.mul_le_mul h1 (by omega) (by omega) (by decide)
    have a2 : 0 ≤ m * two (e + 20) := Int.mul_nonneg h0 (by omega)
    show -(2 ^ 60) ≤ (1 - 2 * s) * (m * two (e + 20)) ∧ (1 - 2 * s) * (m * two (e + 20)) ≤ 2 ^ 60
    generalize m * two (e + 20) = z at *
    rcases hs with rfl | rfl <;> omega
  cases x with
  | nan => exact absurd rfl nx
  | inf s =>
    have hs : s = 0 ∨ s = 1 := hx
    cases y with
    | nan => exact absurd rfl ny
    | inf t =>
      have ht : t = 0 ∨ t = 1 := hy
      rcases hs with rfl | rfl <;> rcases ht with rfl | rfl <;> decide +kernel
    | num t m e =>
      obtain ⟨b1, b2⟩ := big t m e hy
      have e1 : ¬ (keyD (.inf s)).1 = (keyD (.num t m e)).1 := by
        simp only [keyD]
        omega
      rw [if_neg e1]
      generalize hz : keyI (.num t m e) = z at *
      simp only [keyD, keyI]
      rcases hs with rfl | rfl <;> exact decide_eq_decide.mpr (by omega)
  | num s m e =>
    obtain ⟨b1, b2⟩ := big s m e hx
    cases y with
    | nan => exact absurd rfl ny
    | inf t =>
      have ht : t = 0 ∨ t = 1 := hy
      have e1 : ¬ (keyD (.num s m e)).1 = (keyD (.inf t)).1 := by
        simp only [keyD]
        omega
      rw [if_neg e1]
      generalize hz : keyI (.num s m e) = z at *
      simp only [keyD, keyI]
      rcases ht with rfl | rfl <;> exact decide_eq_decide.mpr (by omega)
    | num t m2 e2 =>
      obtain ⟨h0, h1, h2, h3, hs⟩ := num_rng o hx
      obtain ⟨g0, g1, g2, g3, ht⟩ := num_rng o hy
      obtain ⟨a1, a2, a3, a4⟩ := neg_key hs (sca_key h0 h1 h2 h3)
      obtain ⟨c1, c2, c3, c4⟩ := neg_key ht (sca_key g0 g1 g2 g3)
      rw [if_pos (show (keyD (.num s m e)).1 = (keyD (.num t m2 e2)).1 from rfl)]
      exact decide_eq_decide.mpr (key_cmp a1 c1 a4 c4)
theorem key_small {b l h : Int} (o : okB b l h) (x : Fl) (hx : x.ok b l h) : (keyD x).2.1.natAbs < 18446744073709551616 := by
  cases x with
  | nan => exact show Int.natAbs 0 < 18446744073709551616 by decide
  | inf s => exact show Int.natAbs 0 < 18446744073709551616 by decide
  | num s m e =>
    obtain ⟨h0, h1, h2, h3, hs⟩ := num_rng o hx
    have := (neg_key hs (sca_key h0 h1 h2 h3)).2.2.1
    exact okm this
theorem strOk_d (x : Fl) : D.ok 60 x.d = true ∧ D.ok 59 x.d = true := by cases x <;> simp [Fl.d, dok]
theorem eqv_nan (x : Fl) : D.eqv x.d (.tup [.str "nan"]) = decide (x = .nan) := by cases x <;> simp [Fl.d, dq, ss]
def lessB (x y : Fl) : Bool := decide (x ≠ .nan) && (decide (y ≠ .nan) && decide (keyI x < keyI y))
def sameB (x y : Fl) : Bool := decide (x ≠ .nan) && (decide (y ≠ .nan) && decide (keyI x = keyI y))
theorem ok_get {k : Nat} : ∀ {xs : List D} {i : Nat} {x : D}, D.oks k xs = true → xs[i]? = some x → D.ok k x = true
  | y :: ys, 0, x, h, e => by
    simp only [dok, Bool.and_eq_true] at h
    cases e
    exact h.1
  | y :: ys, i + 1, x, h, e => by
    simp only [dok, Bool.and_eq_true] at h
    exact ok_get h.2 (by simpa using e)
mutual
def szD : D → Bool
  | .tup xs => decide (xs.length < 2 ^ 62) && szL xs
  | .lst xs => decide (xs.length < 2 ^ 62) && szL xs
  | _ => true
def szL : List D → Bool
  | [] => true
  | x :: xs => szD x && szL xs
end
theorem sz_get : ∀ {xs : List D} {i : Nat} {x : D}, szL xs = true → xs[i]? = some x → szD x = true
  | y :: ys, 0, x, h, e => by
    simp only [szL, Bool.and_eq_true] at h
    cases e
    exact h.1
  | y :: ys, i + 1, x, h, e => by
    simp only [szL, Bool.and_eq_true] at h
    exact sz_get h.2 (by simpa using e)
theorem filter_none {xs : List D} : xs.filterMap (fun _ => (none : Option D)) = [] := by simp
theorem f0 : fin [] = ret (.d (.lst [])) := fin_ret (by simp)
/-! ### all floats, the law's way -/
def rw3 (w m e : Int) : D := .tup [.int w, .int m, .int e]
def rows (b l : Int) (p : Nat) : List D := (List.range (2 * two (b - 1) - two (b - 1)).toNat).map fun j : Nat => rw3 ((two (b - 1) + j) * two (l + p - l)) (two (b - 1) + j) (l + p)
def szs (b l h : Int) : List D := (List.range (two (b - 1)).toNat).map (fun i : Nat => rw3 (0 + i) (0 + i) l) ++ (List.range (h + 1 - l).toNat).flatMap (rows b l)
theorem rows_len (b l : Int) (p : Nat) : (rows b l p).length = (two (b - 1)).toNat := by
  unfold rows
  have e : 2 * two (b - 1) - two (b - 1) = two (b - 1) := by omega
  simp [e]
theorem pre_len (b l : Int) (A : List D) (k : Nat) : (A ++ (List.range k).flatMap (rows b l)).length = A.length + k * (two (b - 1)).toNat := by
  rw [List.length_append, List.length_flatMap]
  simp [rows_len, List.map_const', List.sum_replicate_nat]
def rowT (b l : Int) (p : Nat) : List (Int × Int × Int) := (List.range (2 * two (b - 1) - two (b - 1)).toNat).map fun j : Nat => ((two (b - 1) + j) * two (l + p - l), two (b - 1) + j, l + p)
def szT (b l h : Int) : List (Int × Int × Int) := (List.range (two (b - 1)).toNat).map (fun i : Nat => ((0 + i : Int), (0 + i : Int), l)) ++ (List.range (h + 1 - l).toNat).flatMap (rowT b l)
theorem szs_eq (b l h : Int) : szs b l h = (szT b l h).map fun t => rw3 t.1 t.2.1 t.2.2 := by
  unfold szs szT
  rw [List.map_append, List.map_map, List.map_flatMap]
  congr 1
  congr 1
  funext p
  unfold rows rowT
  rw [List.map_map]
  rfl
theorem pos_eq (b l h : Int) : posL b l h = (szT b l h).map (fun t => Fl.num 0 t.2.1 t.2.2) ++ [Fl.inf 0] := by
  unfold posL szT
  rw [List.map_append, List.map_map, List.map_flatMap]
  congr 1
  congr 1
  congr 1
  funext p
  unfold rowT
  rw [List.map_map]
  rfl
theorem pos_sign {b l h : Int} {x : Fl} (hx : x ∈ posL b l h) : (∃ m e, x = .num 0 m e) ∨ x = .inf 0 := by
  rw [pos_eq] at hx
  rcases List.mem_append.mp hx with hx | hx
  · obtain ⟨t, _, rfl⟩ := List.mem_map.mp hx
    exact .inl ⟨_, _, rfl⟩
  · exact .inr (by simpa using hx)
theorem mapM_mem {f : D → M (Option D)} {g h : Fl → D} : ∀ {xs : List Fl}, (∀ x ∈ xs, f (g x) = ret (some (h x))) → mapM f (xs.map g) = ret (xs.map h) := fun e => mapM_map e
/-! ### places -/
def posAt (b l : Int) (i : Nat) : Fl := if (i : Int) < two (b - 1) then .num 0 i l else .num 0 (two (b - 1) + (i - two (b - 1)) % two (b - 1)) (l + (i - two (b - 1)) / two (b - 1))
theorem flat_get {α : Type} (f : Nat → Nat → α) (H : Nat) : ∀ K i : Nat, i < K * H → ((List.range K).flatMap fun p => (List.range H).map (f p))[i]? = some (f (i / H) (i % H))
  | 0, i, h => by omega
  | K + 1, i, h => by
    have hH : 0 < H := Nat.pos_of_ne_zero fun e => by subst e; simp at h
    have hl : ((List.range K).flatMap fun p => (List.range H).map (f p)).length = K * H := by
      rw [List.length_flatMap]
      simp [List.map_const', List.sum_replicate_nat]
    rw [List.range_succ, List.flatMap_append]
    by_cases hi : i < K * H
    · rw [List.getElem?_append_left (by omega)]
      exact flat_get f H K i hi
    · rw [List.getElem?_append_right (by omega), hl]
      have h1 : i < K * H + H := by rw [Nat.succ_mul] at h; exact h
      have h2 : i = H * K + (i - K * H) := by rw [Nat.mul_comm]; omega
      have h3 : i / H = K := by
        rw [h2, Nat.mul_add_div hH, Nat.div_eq_of_lt (by omega)]
        rfl
      have h4 : i % H = i - K * H := by
        conv => lhs; rw [h2]
        rw [Nat.mul_add_mod, Nat.mod_eq_of_lt (by omega)]
      rw [h3, h4, List.flatMap_cons, List.flatMap_nil, List.append_nil, List.getElem?_map, List.getElem?_range (by omega)]
      rfl
theorem mod_step (H j : Nat) (h2 : 2 ≤ H) : (j % H + 1 < H ∧ (j + 1) % H = j % H + 1 ∧ (j + 1) / H = j / H) ∨ (j % H + 1 = H ∧ (j + 1) % H = 0 ∧ (j + 1) / H = j / H + 1) := by
  have hm := Nat.mod_lt j (show 0 < H by omega)
  have e := Nat.div_add_mod j H
  generalize hq : j / H = q at *
  generalize hr : j % H = r at *
  subst e
  by_cases hc : r + 1 < H
  · refine .inl ⟨hc, ?_, ?_⟩
    · rw [Nat.add_assoc, Nat.mul_add_mod, Nat.mod_eq_of_lt hc]
    · rw [Nat.add_assoc, Nat.mul_add_div (by omega), Nat.div_eq_of_lt hc, Nat.add_zero]
  · have : r + 1 = H := by omega
    refine .inr ⟨this, ?_, ?_⟩
    · rw [Nat.add_assoc, this, Nat.mul_add_mod, Nat.mod_self]
    · rw [Nat.add_assoc, this, Nat.mul_add_div (by omega), Nat.div_self (by omega)]
/-- the i-th of the floats from 0 on -/
def pAt (H : Nat) (l : Int) (i : Nat) : Fl := if i < H then .num 0 i l else .num 0 (H + ((i - H) % H : Nat)) (l + ((i - H) / H : Nat))
section
variable {b l h : Int} (o : okB b l h)
def hf (b : Int) : Nat := (two (b - 1)).toNat
def Np (b l h : Int) : Nat := hf b + (h + 1 - l).toNat * hf b + 1
include o
theorem hf_eq : (hf b : Int) = two (b - 1) ∧ 2 ≤ hf b ∧ hf b ≤ 128 := by
  have h1 := half_pos o.1
  have h2 := half_le o.2.1
  unfold hf
  omega
theorem pos_at {i : Nat} (hi : i + 1 < Np b l h) : (posL b l h)[i]? = some (pAt (hf b) l i) := by
  obtain ⟨e1, e2, e3⟩ := hf_eq o
  have hT : (two (b - 1)).toNat = hf b := rfl
  have hT2 : (2 * two (b - 1) - two (b - 1)).toNat = hf b := by omega
  unfold Np at hi
  unfold posL pAt
  rw [hT, hT2, ← e1]
  have hl := lenM b l h
  rw [hT, hT2, ← e1] at hl
  rw [List.getElem?_append_left (by rw [List.length_append, hl]; simp; omega)]
  by_cases hc : i < hf b
  · rw [List.getElem?_append_left (by simpa using hc), if_pos hc]
    simp [hc]
  · rw [List.getElem?_append_right (by simpa using hc), if_neg hc]
    have e : ((List.range (hf b)).map fun i : Nat => Fl.num 0 (0 + i) l).length = hf b := by simp
    rw [e]
    exact flat_get (fun p j => Fl.num 0 ((hf b : Int) + j) (l + p)) (hf b) _ (i - hf b) (by omega)
theorem pos_last : (posL b l h)[Np b l h - 1]? = some (.inf 0) := by
  have hl := posL_len b l h
  have hN : (posL b l h).length = Np b l h := hl
  unfold posL at hN ⊢
  rw [List.length_append] at hN
  rw [List.getElem?_append_right (by simp at hN ⊢; omega)]
  have : Np b l h - 1 - ((List.range (two (b - 1)).toNat).map (fun i : Nat => Fl.num 0 (0 + i) l) ++ (List.range (h + 1 - l).toNat).flatMap fun p : Nat => (List.range (2 * two (b - 1) - two (b - 1)).toNat).map fun j : Nat => Fl.num 0 (two (b - 1) + j) (l + p)).length = 0 := by
    simp at hN ⊢
    omega
  rw [this]
  rfl
theorem Np_ge : 3 ≤ Np b l h := by
  obtain ⟨e1, e2, e3⟩ := hf_eq o
  unfold Np
  omega
/-- the float behind the i-th -/
theorem up_pos {i : Nat} (hi : i + 2 < Np b l h) : upF b l h (pAt (hf b) l i) = pAt (hf b) l (i + 1) := by
  obtain ⟨e1, e2, e3⟩ := hf_eq o
  unfold pAt
  by_cases h1 : i < hf b
  · rw [if_pos h1]
    by_cases h2 : i + 1 < hf b
    · rw [if_pos h2]
      unfold upF
      by_cases h0 : (i : Int) = 0
      · have : i = 0 := by omega
        subst this
        simp
      · simp only [h0, if_false]
        rw [if_neg (by decide), if_pos (by omega)]
        simp
    · rw [if_neg h2]
      have : i + 1 - hf b = 0 := by omega
      rw [this]
      unfold upF
      simp only [show ¬ (i : Int) = 0 by omega, if_false]
      rw [if_neg (by decide), if_pos (by omega)]
      simp
      omega
  · rw [if_neg h1, if_neg (by omega)]
    have ej : i + 1 - hf b = (i - hf b) + 1 := by omega
    rw [ej]
    generalize hj : i - hf b = j
    rcases mod_step (hf b) j e2 with ⟨m1, m2, m3⟩ | ⟨m1, m2, m3⟩
    · rw [m2, m3]
      unfold upF
      simp only [show ¬ ((hf b : Int) + (j % hf b : Nat)) = 0 by omega, if_false]
      rw [if_neg (by decide), if_pos (by omega)]
      simp
      omega
    · rw [m2, m3]
      have hq : j + 1 < (h + 1 - l).toNat * hf b := by
        unfold Np at hi
        omega
      have hq2 : (j + 1) / hf b < (h + 1 - l).toNat := Nat.div_lt_of_lt_mul (by rw [Nat.mul_comm]; exact hq)
      rw [m3] at hq2
      generalize j / hf b = q at *
      generalize j % hf b = r at *
      unfold upF
      simp only [show ¬ ((hf b : Int) + (r : Nat)) = 0 by omega, if_false]
      rw [if_neg (by decide), if_neg (by omega), if_pos (by omega)]
      simp
      omega
theorem up_end : upF b l h (pAt (hf b) l (Np b l h - 2)) = .inf 0 := by
  obtain ⟨e1, e2, e3⟩ := hf_eq o
  obtain ⟨o1, o2, o3, o4, o5⟩ := o
  have hK : 1 ≤ (h + 1 - l).toNat := by omega
  have hKH : hf b ≤ (h + 1 - l).toNat * hf b := Nat.le_mul_of_pos_left _ (by omega)
  unfold pAt Np
  rw [if_neg (by omega)]
  have ej : hf b + (h + 1 - l).toNat * hf b + 1 - 2 - hf b = (h + 1 - l).toNat * hf b - 1 := by omega
  rw [ej]
  generalize hj : (h + 1 - l).toNat * hf b - 1 = j
  have hj2 : j + 1 = hf b * (h + 1 - l).toNat := by rw [Nat.mul_comm]; omega
  rcases mod_step (hf b) j e2 with ⟨m1, m2, m3⟩ | ⟨m1, m2, m3⟩
  · rw [hj2, Nat.mul_mod_right] at m2
    omega
  · rw [hj2, Nat.mul_div_cancel_left _ (by omega)] at m3
    unfold upF
    simp only [show ¬ ((hf b : Int) + (j % hf b : Nat)) = 0 by omega, if_false]
    rw [if_neg (by decide), if_neg (by omega), if_neg (by omega)]
theorem up_neg {i : Nat} (hi : i + 2 < Np b l h) : upF b l h (pAt (hf b) l (i + 1)).neg = (pAt (hf b) l i).neg := by
  obtain ⟨e1, e2, e3⟩ := hf_eq o
  unfold pAt
  by_cases h1 : i + 1 < hf b
  · rw [if_pos h1, if_pos (by omega)]
    unfold Fl.neg upF
    simp only [show ¬ ((i + 1 : Nat) : Int) = 0 by omega, if_false, Int.sub_zero, if_true]
    rw [if_neg (by omega)]
    simp
  · rw [if_neg h1]
    by_cases h2 : i < hf b
    · rw [if_pos h2]
      have : i + 1 - hf b = 0 := by omega
      rw [this]
      unfold Fl.neg upF
      simp only [Nat.zero_mod, Nat.zero_div, show ¬ ((hf b : Int) + ((0 : Nat) : Int)) = 0 by omega, if_false, Int.sub_zero, if_true]
      rw [if_neg (by omega)]
      simp
      omega
    · rw [if_neg h2]
      have ej : i + 1 - hf b = (i - hf b) + 1 := by omega
      rw [ej]
      generalize hj : i - hf b = j
      rcases mod_step (hf b) j e2 with ⟨m1, m2, m3⟩ | ⟨m1, m2, m3⟩
      · rw [m2, m3]
        unfold Fl.neg upF
        simp only [show ¬ ((hf b : Int) + ((j % hf b + 1 : Nat) : Int)) = 0 by omega, if_false, Int.sub_zero, if_true]
        rw [if_neg (by omega)]
        simp
        omega
      · rw [m2, m3]
        generalize j / hf b = q at *
        generalize j % hf b = r at *
        unfold Fl.neg upF
        simp only [show ¬ ((hf b : Int) + ((0 : Nat) : Int)) = 0 by omega, if_false, Int.sub_zero, if_true]
        rw [if_pos (by omega)]
        simp
        omega
theorem up_inf : upF b l h (.inf 1) = (pAt (hf b) l (Np b l h - 2)).neg := by
  obtain ⟨e1, e2, e3⟩ := hf_eq o
  obtain ⟨o1, o2, o3, o4, o5⟩ := o
  have hKH : hf b ≤ (h + 1 - l).toNat * hf b := Nat.le_mul_of_pos_left _ (by omega)
  unfold pAt Np
  rw [if_neg (by omega)]
  have ej : hf b + (h + 1 - l).toNat * hf b + 1 - 2 - hf b = (h + 1 - l).toNat * hf b - 1 := by omega
  rw [ej]
  generalize hj : (h + 1 - l).toNat * hf b - 1 = j
  have hj2 : j + 1 = hf b * (h + 1 - l).toNat := by rw [Nat.mul_comm]; omega
  rcases mod_step (hf b) j e2 with ⟨m1, m2, m3⟩ | ⟨m1, m2, m3⟩
  · rw [hj2, Nat.mul_mod_right] at m2
    omega
  · rw [hj2, Nat.mul_div_cancel_left _ (by omega)] at m3
    generalize j / hf b = q at *
    generalize j % hf b = r at *
    simp only [upF, Fl.neg]
    rw [if_neg (by decide)]
    simp only [Int.sub_zero, Fl.num.injEq, true_and]
    omega
theorem up_zero : upF b l h (pAt (hf b) l 0).neg = pAt (hf b) l 1 := by
  obtain ⟨e1, e2, e3⟩ := hf_eq o
  unfold pAt
  rw [if_pos (by omega), if_pos (by omega)]
  simp [Fl.neg, upF]
theorem p_ok {i : Nat} (hi : i + 1 < Np b l h) : (pAt (hf b) l i).ok b l h ∧ pAt (hf b) l i ≠ .nan := by
  obtain ⟨e1, e2, e3⟩ := hf_eq o
  unfold pAt
  by_cases h1 : i < hf b
  · rw [if_pos h1]
    refine ⟨⟨.inl rfl, ⟨by omega, o.2.2.2.1⟩, ?_, by omega⟩, by simp⟩
    rw [if_pos rfl]
    omega
  · rw [if_neg h1]
    have hm := Nat.mod_lt (i - hf b) (show 0 < hf b by omega)
    have hq : i - hf b < (h + 1 - l).toNat * hf b := by
      unfold Np at hi
      omega
    have hq2 : (i - hf b) / hf b < (h + 1 - l).toNat := Nat.div_lt_of_lt_mul (by rw [Nat.mul_comm]; exact hq)
    have o4 := o.2.2.2.1
    generalize (i - hf b) / hf b = q at *
    generalize (i - hf b) % hf b = r at *
    refine ⟨⟨.inl rfl, ⟨by omega, by omega⟩, ?_, by omega⟩, by simp⟩
    split <;> omega
end
theorem neg_neg (x : Fl) : x.neg.neg = x := by
  cases x with
  | num s m e => simp only [Fl.neg, Fl.num.injEq, and_true]; omega
  | inf s => simp only [Fl.neg, Fl.inf.injEq]; omega
  | nan => rfl
/-- the i-th from 0 on, inf the last -/
def pA (b l h : Int) (i : Nat) : Fl := if i + 1 < Np b l h then pAt (hf b) l i else .inf 0
def aA (b l h : Int) (k : Nat) : Fl := if k < Np b l h then (pA b l h (Np b l h - 1 - k)).neg else pA b l h (k - Np b l h)
section
variable {b l h : Int} (o : okB b l h)
include o
theorem pos_get {i : Nat} (hi : i < Np b l h) : (posL b l h)[i]? = some (pA b l h i) := by
  unfold pA
  by_cases h1 : i + 1 < Np b l h
  · rw [if_pos h1]
    exact pos_at o h1
  · rw [if_neg h1]
    have : i = Np b l h - 1 := by omega
    rw [this]
    exact pos_last o
theorem all_get {k : Nat} (hk : k < 2 * Np b l h) : (allL b l h)[k]? = some (aA b l h k) := by
  have hN : (posL b l h).length = Np b l h := posL_len b l h
  unfold allL aA
  by_cases h1 : k < Np b l h
  · rw [if_pos h1, List.getElem?_append_left (by simpa [hN] using h1), List.getElem?_map, List.getElem?_reverse (by omega), hN, pos_get o (by omega)]
    rfl
  · rw [if_neg h1, List.getElem?_append_right (by simp [hN]; omega)]
    have : k - ((posL b l h).reverse.map Fl.neg).length = k - Np b l h := by simp [hN]
    rw [this]
    exact pos_get o (by omega)
theorem u1 {i : Nat} (hi : i + 1 < Np b l h) : upF b l h (pA b l h i) = pA b l h (i + 1) := by
  unfold pA
  rw [if_pos hi]
  by_cases h1 : i + 1 + 1 < Np b l h
  · rw [if_pos h1]
    exact up_pos o h1
  · rw [if_neg h1]
    have : i = Np b l h - 2 := by omega
    rw [this]
    exact up_end o
theorem u2 : upF b l h (pA b l h (Np b l h - 1)) = pA b l h (Np b l h - 1) := by
  unfold pA
  rw [if_neg (by omega)]
  rfl
theorem u3 {i : Nat} (hi : i + 1 < Np b l h) : upF b l h (pA b l h (i + 1)).neg = (pA b l h i).neg := by
  unfold pA
  rw [if_pos hi]
  by_cases h1 : i + 1 + 1 < Np b l h
  · rw [if_pos h1]
    exact up_neg o h1
  · rw [if_neg h1]
    have : i = Np b l h - 2 := by omega
    rw [this]
    exact up_inf o
theorem u4 : upF b l h (pA b l h 0).neg = pA b l h 1 := by
  have := Np_ge o
  unfold pA
  rw [if_pos (by omega), if_pos (by omega)]
  exact up_zero o
theorem pA_ok {i : Nat} : (pA b l h i).ok b l h ∧ pA b l h i ≠ .nan := by
  unfold pA
  split
  · rename_i h1
    exact p_ok o h1
  · exact ⟨.inl rfl, by simp⟩
theorem aA_ok {k : Nat} : (aA b l h k).ok b l h ∧ aA b l h k ≠ .nan := by
  have neg_nan : ∀ x : Fl, x ≠ .nan → x.neg ≠ .nan := fun x hx => by cases x <;> simp_all [Fl.neg]
  unfold aA
  split
  · exact ⟨neg_ok _ (pA_ok o).1, neg_nan _ (pA_ok o).2⟩
  · exact pA_ok o
theorem up_all {k : Nat} (hk : k < 2 * Np b l h) : upF b l h (aA b l h k) = aA b l h (min (k + 1 + (if k + 1 = Np b l h then 1 else 0)) (2 * Np b l h - 1)) := by
  have h3 := Np_ge o
  by_cases h1 : k < Np b l h
  · by_cases h2 : k + 1 = Np b l h
    · have e1 : aA b l h k = (pA b l h 0).neg := by
        unfold aA
        rw [if_pos h1]
        have : Np b l h - 1 - k = 0 := by omega
        rw [this]
      have e2 : min (k + 1 + (if k + 1 = Np b l h then 1 else 0)) (2 * Np b l h - 1) = Np b l h + 1 := by
        rw [if_pos h2]
        omega
      rw [e1, u4 o, e2]
      unfold aA
      rw [if_neg (by omega)]
      have : Np b l h + 1 - Np b l h = 1 := by omega
      rw [this]
    · have e1 : aA b l h k = (pA b l h (Np b l h - 2 - k + 1)).neg := by
        unfold aA
        rw [if_pos h1]
        have : Np b l h - 1 - k = Np b l h - 2 - k + 1 := by omega
        rw [this]
      have e2 : min (k + 1 + (if k + 1 = Np b l h then 1 else 0)) (2 * Np b l h - 1) = k + 1 := by
        rw [if_neg h2]
        omega
      rw [e1, u3 o (by omega), e2]
      unfold aA
      rw [if_pos (by omega)]
      have : Np b l h - 1 - (k + 1) = Np b l h - 2 - k := by omega
      rw [this]
  · have e1 : aA b l h k = pA b l h (k - Np b l h) := by
      unfold aA
      rw [if_neg h1]
    rw [e1, if_neg (by omega)]
    by_cases h2 : k + 1 = 2 * Np b l h
    · have e2 : k - Np b l h = Np b l h - 1 := by omega
      have e3 : min (k + 1 + 0) (2 * Np b l h - 1) = k := by omega
      rw [e2, u2 o, e3]
      unfold aA
      rw [if_neg h1, e2]
    · have e3 : min (k + 1 + 0) (2 * Np b l h - 1) = k + 1 := by omega
      rw [u1 o (by omega), e3]
      unfold aA
      rw [if_neg (by omega)]
      have : k + 1 - Np b l h = k - Np b l h + 1 := by omega
      rw [this]
theorem dn_all {k : Nat} (hk : k < 2 * Np b l h) : (upF b l h (aA b l h k).neg).neg = aA b l h (k - 1 - (if k = Np b l h then 1 else 0)) := by
  have h3 := Np_ge o
  by_cases h1 : k < Np b l h
  · have e1 : (aA b l h k).neg = pA b l h (Np b l h - 1 - k) := by
      unfold aA
      rw [if_pos h1, neg_neg]
    rw [e1, if_neg (by omega)]
    by_cases h2 : k = 0
    · subst h2
      rw [Nat.sub_zero, u2 o]
      unfold aA
      rw [if_pos (by omega)]
      rfl
    · rw [u1 o (by omega)]
      unfold aA
      rw [if_pos (by omega)]
      have : Np b l h - 1 - k + 1 = Np b l h - 1 - (k - 1 - 0) := by omega
      rw [this]
  · have e1 : aA b l h k = pA b l h (k - Np b l h) := by
      unfold aA
      rw [if_neg h1]
    rw [e1]
    by_cases h2 : k = Np b l h
    · rw [if_pos h2]
      have : k - Np b l h = 0 := by omega
      rw [this, u4 o]
      unfold aA
      rw [if_pos (by omega)]
      have : Np b l h - 1 - (k - 1 - 1) = 1 := by omega
      rw [this]
    · rw [if_neg h2]
      have : k - Np b l h = (k - Np b l h - 1) + 1 := by omega
      rw [this, u3 o (by omega), neg_neg]
      unfold aA
      rw [if_neg (by omega)]
      have : k - 1 - 0 - Np b l h = k - Np b l h - 1 := by omega
      rw [this]
end
end Fm
/-! Rounding, told in numbers -/
namespace Fm
open PySem Sw
inductive Rule where | even | away | nought | up | down
deriving DecidableEq
def Rule.s : Rule → Str
  | .even => "even"
  | .away => "away"
  | .nought => "nought"
  | .up => "up"
  | .down => "down"
def Rule.d (r : Rule) : D := .str r.s
theorem two_b {b : Int} (h : 1 ≤ b) : two b = 2 * two (b - 1) := by
  have e : two (b - 1) * two 1 = two b := by
    rw [two_add (by omega) (by decide)]
    congr 1
    omega
  have e1 : two 1 = 2 := rfl
  rw [← e, e1, Int.mul_comm]
def wh (l t : Int) : Int := if l < 0 then t * two (0 - l) else t
def pt (l u : Int) : Int := if l < 0 then u else u * two l
theorem pt_pos {l u : Int} (h : 0 < u) : 0 < pt l u := by
  unfold pt
  split
  · exact h
  · exact Int.mul_pos h (two_pos _)
theorem wh_nn {l t : Int} (h : 0 ≤ t) : 0 ≤ wh l t := by
  unfold wh
  split
  · exact Int.mul_nonneg h (Int.le_of_lt (two_pos _))
  · exact h
def cod (left u : Int) : Int := if left = 0 then 0 else if 2 * left < u then 1 else if 2 * left = u then 2 else 3
def Rule.ups (r : Rule) (s m code : Int) : Bool := if code = 0 then false else match r with
  | .nought => false
  | .up => decide (s = 0)
  | .down => !decide (s = 0)
  | .even => decide (code = 3) || (decide (code = 2) && decide (m % 2 = 1))
  | .away => decide (code = 3) || decide (code = 2)
def Rule.toinf (r : Rule) (s : Int) : Bool := match r with
  | .nought => false
  | .up => decide (s = 0)
  | .down => !decide (s = 0)
  | .even => true
  | .away => true
def fIO : List Str := ["inexact", "over"]
def flg (code : Int) (small : Bool) : List Str := if code = 0 then [] else if small then ["inexact", "under"] else ["inexact"]
def rsz (b l h : Int) (r : Rule) (s : Int) (m k : Nat) (code : Int) (small : Bool) : Fl × List Str :=
  let m' := if r.ups s m code = true then (if m + 1 = 2 * hf b then hf b else m + 1) else m
  let k' := if r.ups s m code = true ∧ m + 1 = 2 * hf b then k + 1 else k
  if h < l + (k' : Nat) then (if r.toinf s then .inf 0 else .num 0 (2 * hf b - 1) h, fIO)
  else (.num 0 m' (l + (k' : Nat)), flg code small)
noncomputable def cm (H : Nat) (whole part : Int) : Nat × Nat := open Classical in if h : ∃ p : Nat × Nat, Cut H whole part p.1 p.2 then Classical.choose h else (0, 0)
theorem cm_cut {H : Nat} {whole part : Int} (hH : 0 < H) (hw : 0 ≤ whole) (hp : 0 < part) : Cut H whole part (cm H whole part).1 (cm H whole part).2 := by
  have h : ∃ p : Nat × Nat, Cut H whole part p.1 p.2 := let ⟨m, k, c⟩ := cut_ex hH hw hp; ⟨(m, k), c⟩
  unfold cm
  rw [dif_pos h]
  exact Classical.choose_spec h
theorem cm_eq {H : Nat} {whole part : Int} {m k : Nat} (hw : 0 ≤ whole) (hp : 0 < part) (c : Cut H whole part m k) : cm H whole part = (m, k) := by
  obtain ⟨h1, h2⟩ := (cm_cut c.hH hw hp).uniq hp c
  exact Prod.ext h1 h2
theorem bqi (a b : Int) : (a == b) = decide (a = b) := rfl
def absI (i : Int) : Int := if i < 0 then -i else i
def sgn (i : Int) : Int := if i < 0 then 1 else 0
theorem abs_nn (i : Int) : 0 ≤ absI i := by unfold absI; split <;> omega
theorem sgn_01 (i : Int) : sgn i = 0 ∨ sgn i = 1 := by unfold sgn; split <;> simp
theorem ssb : (("num" : Str) == "num") = true ∧ (("num" : Str) == "inf") = false ∧ (("num" : Str) == "nan") = false ∧ (("num" : Str) == "even") = false ∧ (("num" : Str) == "away") = false ∧ (("num" : Str) == "nought") = false ∧ (("num" : Str) == "up") = false ∧ (("num" : Str) == "down") = false ∧ (("num" : Str) == "inexact") = false ∧ (("num" : Str) == "over") = false ∧ (("num" : Str) == "under") = false ∧ (("inf" : Str) == "num") = false ∧ (("inf" : Str) == "inf") = true ∧ (("inf" : Str) == "nan") = false ∧ (("inf" : Str) == "even") = false ∧ (("inf" : Str) == "away") = false ∧ (("inf" : Str) == "nought") = false ∧ (("inf" : Str) == "up") = false ∧ (("inf" : Str) == "down") = false ∧ (("inf" : Str) == "inexact") = false ∧ (("inf" : Str) == "over") = false ∧ (("inf" : Str) == "under") = false ∧ (("nan" : Str) == "num") = false ∧ (("nan" : Str) == "inf") = false ∧ (("nan" : Str) == "nan") = true ∧ (("nan" : Str) == "even") = false ∧ (("nan" : Str) == "away") = false ∧ (("nan" : Str) == "nought") = false ∧ (("nan" : Str) == "up") = false ∧ (("nan" : Str) == "down") = false ∧ (("nan" : Str) == "inexact") = false ∧ (("nan" : Str) == "over") = false ∧ (("nan" : Str) == "under") = false ∧ (("even" : Str) == "num") = false ∧ (("even" : Str) == "inf") = false ∧ (("even" : Str) == "nan") = false ∧ (("even" : Str) == "even") = true ∧ (("even" : Str) == "away") = false ∧ (("even" : Str) == "nought") = false ∧ (("even" : Str) == "up") = false ∧ (("even" : Str) == "down") = false ∧ (("even" : Str) == "inexact") = false ∧ (("even" : Str) == "over") = false ∧ (("even" : Str) == "under") = false ∧ (("away" : Str) == "num") = false ∧ (("away" : Str) == "inf") = false ∧ (("away" : Str) == "nan") = false ∧ (("away" : Str) == "even") = false ∧ (("away" : Str) == "away") = true ∧ (("away" : Str) == "nought") = false ∧ (("away" : Str) == "up") = false ∧ (("away" : Str) == "down") = false ∧ (("away" : Str) == "inexact") = false ∧ (("away" : Str) == "over") = false ∧ (("away" : Str) == "under") = false ∧ (("nought" : Str) == "num") = false ∧ (("nought" : Str) == "inf") = false ∧ (("nought" : Str) == "nan") = false ∧ (("nought" : Str) == "even") = false ∧ (("nought" : Str) == "away") = false ∧ (("nought" : Str) == "nought") = true ∧ (("nought" : Str) == "up") = false ∧ (("nought" : Str) == "down") = false ∧ (("nought" : Str) == "inexact") = false ∧ (("nought" : Str) == "over") = false ∧ (("nought" : Str) == "under") = false ∧ (("up" : Str) == "num") = false ∧ (("up" : Str) == "inf") = false ∧ (("up" : Str) == "nan") = false ∧ (("up" : Str) == "even") = false ∧ (("up" : Str) == "away") = false ∧ (("up" : Str) == "nought") = false ∧ (("up" : Str) == "up") = true ∧ (("up" : Str) == "down") = false ∧ (("up" : Str) == "inexact") = false ∧ (("up" : Str) == "over") = false ∧ (("up" : Str) == "under") = false ∧ (("down" : Str) == "num") = false ∧ (("down" : Str) == "inf") = false ∧ (("down" : Str) == "nan") = false ∧ (("down" : Str) == "even") = false ∧ (("down" : Str) == "away") = false ∧ (("down" : Str) == "nought") = false ∧ (("down" : Str) == "up") = false ∧ (("down" : Str) == "down") = true ∧ (("down" : Str) == "inexact") = false ∧ (("down" : Str) == "over") = false ∧ (("down" : Str) == "under") = false ∧ (("inexact" : Str) == "num") = false ∧ (("inexact" : Str) == "inf") = false ∧ (("inexact" : Str) == "nan") = false ∧ (("inexact" : Str) == "even") = false ∧ (("inexact" : Str) == "away") = false ∧ (("inexact" : Str) == "nought") = false ∧ (("inexact" : Str) == "up") = false ∧ (("inexact" : Str) == "down") = false ∧ (("inexact" : Str) == "inexact") = true ∧ (("inexact" : Str) == "over") = false ∧ (("inexact" : Str) == "under") = false ∧ (("over" : Str) == "num") = false ∧ (("over" : Str) == "inf") = false ∧ (("over" : Str) == "nan") = false ∧ (("over" : Str) == "even") = false ∧ (("over" : Str) == "away") = false ∧ (("over" : Str) == "nought") = false ∧ (("over" : Str) == "up") = false ∧ (("over" : Str) == "down") = false ∧ (("over" : Str) == "inexact") = false ∧ (("over" : Str) == "over") = true ∧ (("over" : Str) == "under") = false ∧ (("under" : Str) == "num") = false ∧ (("under" : Str) == "inf") = false ∧ (("under" : Str) == "nan") = false ∧ (("under" : Str) == "even") = false ∧ (("under" : Str) == "away") = false ∧ (("under" : Str) == "nought") = false ∧ (("under" : Str) == "up") = false ∧ (("under" : Str) == "down") = false ∧ (("under" : Str) == "inexact") = false ∧ (("under" : Str) == "over") = false ∧ (("under" : Str) == "under") = true := by
  (repeat' refine And.intro ?_ ?_) <;> decide +kernel
theorem sse : (("num" : Str) = "inf") = False ∧ (("num" : Str) = "nan") = False ∧ (("num" : Str) = "even") = False ∧ (("num" : Str) = "away") = False ∧ (("num" : Str) = "nought") = False ∧ (("num" : Str) = "up") = False ∧ (("num" : Str) = "down") = False ∧ (("num" : Str) = "inexact") = False ∧ (("num" : Str) = "over") = False ∧ (("num" : Str) = "under") = False ∧ (("inf" : Str) = "num") = False ∧ (("inf" : Str) = "nan") = False ∧ (("inf" : Str) = "even") = False ∧ (("inf" : Str) = "away") = False ∧ (("inf" : Str) = "nought") = False ∧ (("inf" : Str) = "up") = False ∧ (("inf" : Str) = "down") = False ∧ (("inf" : Str) = "inexact") = False ∧ (("inf" : Str) = "over") = False ∧ (("inf" : Str) = "under") = False ∧ (("nan" : Str) = "num") = False ∧ (("nan" : Str) = "inf") = False ∧ (("nan" : Str) = "even") = False ∧ (("nan" : Str) = "away") = False ∧ (("nan" : Str) = "nought") = False ∧ (("nan" : Str) = "up") = False ∧ (("nan" : Str) = "down") = False ∧ (("nan" : Str) = "inexact") = False ∧ (("nan" : Str) = "over") = False ∧ (("nan" : Str) = "under") = False ∧ (("even" : Str) = "num") = False ∧ (("even" : Str) = "inf") = False ∧ (("even" : Str) = "nan") = False ∧ (("even" : Str) = "away") = False ∧ (("even" : Str) = "nought") = False ∧ (("even" : Str) = "up") = False ∧ (("even" : Str) = "down") = False ∧ (("even" : Str) = "inexact") = False ∧ (("even" : Str) = "over") = False ∧ (("even" : Str) = "under") = False ∧ (("away" : Str) = "num") = False ∧ (("away" : Str) = "inf") = False ∧ (("away" : Str) = "nan") = False ∧ (("away" : Str) = "even") = False ∧ (("away" : Str) = "nought") = False ∧ (("away" : Str) = "up") = False ∧ (("away" : Str) = "down") = False ∧ (("away" : Str) = "inexact") = False ∧ (("away" : Str) = "over") = False ∧ (("away" : Str) = "under") = False ∧ (("nought" : Str) = "num") = False ∧ (("nought" : Str) = "inf") = False ∧ (("nought" : Str) = "nan") = False ∧ (("nought" : Str) = "even") = False ∧ (("nought" : Str) = "away") = False ∧ (("nought" : Str) = "up") = False ∧ (("nought" : Str) = "down") = False ∧ (("nought" : Str) = "inexact") = False ∧ (("nought" : Str) = "over") = False ∧ (("nought" : Str) = "under") = False ∧ (("up" : Str) = "num") = False ∧ (("up" : Str) = "inf") = False ∧ (("up" : Str) = "nan") = False ∧ (("up" : Str) = "even") = False ∧ (("up" : Str) = "away") = False ∧ (("up" : Str) = "nought") = False ∧ (("up" : Str) = "down") = False ∧ (("up" : Str) = "inexact") = False ∧ (("up" : Str) = "over") = False ∧ (("up" : Str) = "under") = False ∧ (("down" : Str) = "num") = False ∧ (("down" : Str) = "inf") = False ∧ (("down" : Str) = "nan") = False ∧ (("down" : Str) = "even") = False ∧ (("down" : Str) = "away") = False ∧ (("down" : Str) = "nought") = False ∧ (("down" : Str) = "up") = False ∧ (("down" : Str) = "inexact") = False ∧ (("down" : Str) = "over") = False ∧ (("down" : Str) = "under") = False ∧ (("inexact" : Str) = "num") = False ∧ (("inexact" : Str) = "inf") = False ∧ (("inexact" : Str) = "nan") = False ∧ (("inexact" : Str) = "even") = False ∧ (("inexact" : Str) = "away") = False ∧ (("inexact" : Str) = "nought") = False ∧ (("inexact" : Str) = "up") = False ∧ (("inexact" : Str) = "down") = False ∧ (("inexact" : Str) = "over") = False ∧ (("inexact" : Str) = "under") = False ∧ (("over" : Str) = "num") = False ∧ (("over" : Str) = "inf") = False ∧ (("over" : Str) = "nan") = False ∧ (("over" : Str) = "even") = False ∧ (("over" : Str) = "away") = False ∧ (("over" : Str) = "nought") = False ∧ (("over" : Str) = "up") = False ∧ (("over" : Str) = "down") = False ∧ (("over" : Str) = "inexact") = False ∧ (("over" : Str) = "under") = False ∧ (("under" : Str) = "num") = False ∧ (("under" : Str) = "inf") = False ∧ (("under" : Str) = "nan") = False ∧ (("under" : Str) = "even") = False ∧ (("under" : Str) = "away") = False ∧ (("under" : Str) = "nought") = False ∧ (("under" : Str) = "up") = False ∧ (("under" : Str) = "down") = False ∧ (("under" : Str) = "inexact") = False ∧ (("under" : Str) = "over") = False := by
  (repeat' refine And.intro ?_ ?_) <;> exact eq_false (by decide +kernel)
/-- a size that isn't 0, rounded -/
noncomputable def rndS (b l h : Int) (r : Rule) (s t u : Int) : Fl × List Str :=
  let c := cm (hf b) (wh l t) (pt l u)
  let z := pt l u * 2 ^ c.2
  rsz b l h r s c.1 c.2 (cod (wh l t - c.1 * z) z) (decide (wh l t < pt l u * hf b))
noncomputable def rnd (b l h : Int) (r : Rule) (p : Int × Int) : Fl × List Str :=
  if p.1 = 0 then (.num 0 0 l, []) else
    let z := rndS b l h r (sgn p.1) (absI p.1) p.2
    (if sgn p.1 = 1 then z.1.neg else z.1, z.2)
def resD (z : Fl × List Str) : D := .tup [z.1.d, .tup (z.2.map .str)]
/-! ### by places -/
theorem pAt_eq (H : Nat) (l : Int) (i : Nat) : pAt H l i = .num 0 (mOf H i) (l + (kOf H i : Nat)) := by
  unfold pAt mOf kOf
  by_cases h : i < H
  · rw [if_pos h, if_pos h, if_pos h]
    simp
  · rw [if_neg h, if_neg h, if_neg h]
    simp
/-- so many nums of sign 0 -/
def nN (b l h : Int) : Nat := hf b + (h + 1 - l).toNat * hf b
theorem k_lt {b l h : Int} (o : okB b l h) {m k : Nat} (hm : m < 2 * hf b) (hk : 0 < k → hf b ≤ m) : h < l + (k : Nat) ↔ nN b l h ≤ m + k * hf b := by
  obtain ⟨e1, e2, e3⟩ := hf_eq o
  obtain ⟨o1, o2, o3, o4, o5⟩ := o
  unfold nN
  have hK : ((h + 1 - l).toNat : Int) = h + 1 - l := by omega
  constructor
  · intro hh
    have h1 : (h + 1 - l).toNat ≤ k := by omega
    have h2 : (h + 1 - l).toNat * hf b ≤ k * hf b := Nat.mul_le_mul_right _ h1
    have := hk (by omega)
    omega
  · intro hh
    refine Int.lt_of_not_ge fun hn => ?_
    have h1 : k + 1 ≤ (h + 1 - l).toNat := by omega
    have h2 : (k + 1) * hf b ≤ (h + 1 - l).toNat * hf b := Nat.mul_le_mul_right _ h1
    rw [Nat.succ_mul] at h2
    omega
theorem nN_Np (b l h : Int) : Np b l h = nN b l h + 1 := rfl
theorem pA_lt {b l h : Int} {i : Nat} (hi : i < nN b l h) : pA b l h i = pAt (hf b) l i := by
  unfold pA
  rw [if_pos (by rw [nN_Np]; omega)]
theorem pA_inf {b l h : Int} : pA b l h (nN b l h) = .inf 0 := by
  unfold pA
  rw [if_neg (by rw [nN_Np]; omega)]
theorem pA_last {b l h : Int} (o : okB b l h) : pA b l h (nN b l h - 1) = .num 0 (2 * hf b - 1) h := by
  obtain ⟨e1, e2, e3⟩ := hf_eq o
  obtain ⟨o1, o2, o3, o4, o5⟩ := o
  have hN : nN b l h - 1 = (2 * hf b - 1) + (h - l).toNat * hf b := by
    unfold nN
    have : (h + 1 - l).toNat = (h - l).toNat + 1 := by omega
    rw [this, Nat.succ_mul]
    omega
  rw [pA_lt (by unfold nN; omega), pAt_eq, hN]
  obtain ⟨h1, h2⟩ := mk_at (H := hf b) (m := 2 * hf b - 1) (k := (h - l).toNat) (by omega) (by omega)
  rw [h1, h2]
  simp only [Fl.num.injEq, true_and]
  omega
/-- a size, rounded, by its place -/
theorem rsz_at {b l h : Int} (o : okB b l h) (r : Rule) (s : Int) {m k : Nat} (hm : m < 2 * hf b) (hk : 0 < k → hf b ≤ m) (code : Int) (small : Bool) :
    rsz b l h r s m k code small = (let j := m + k * hf b + (if r.ups s m code = true then 1 else 0)
      if nN b l h ≤ j then (if r.toinf s then pA b l h (nN b l h) else pA b l h (nN b l h - 1), fIO) else (pA b l h j, flg code small)) := by
  obtain ⟨e1, e2, e3⟩ := hf_eq o
  have key : ∀ m' k' : Nat, m' < 2 * hf b → (0 < k' → hf b ≤ m') → (if h < l + (k' : Nat) then ((if r.toinf s then .inf 0 else .num 0 (2 * hf b - 1) h : Fl), fIO)
      else (Fl.num 0 m' (l + (k' : Nat)), flg code small)) =
      (if nN b l h ≤ m' + k' * hf b then (if r.toinf s then pA b l h (nN b l h) else pA b l h (nN b l h - 1), fIO) else (pA b l h (m' + k' * hf b), flg code small)) := fun m' k' h1 h2 => by
    have := k_lt o h1 h2
    by_cases hc : h < l + (k' : Nat)
    · rw [if_pos hc, if_pos (this.mp hc), pA_inf, pA_last o]
    · have hc2 := fun z => hc (this.mpr z)
      rw [if_neg hc, if_neg hc2, pA_lt (by omega), pAt_eq]
      obtain ⟨h3, h4⟩ := mk_at (H := hf b) h1 h2
      rw [h3, h4]
  unfold rsz
  by_cases hg : r.ups s m code = true
  · by_cases hc : m + 1 = 2 * hf b
    · have := key (hf b) (k + 1) (by omega) (fun _ => Nat.le_refl _)
      simp only [hg, hc, if_true, and_self]
      rw [this]
      have e : hf b + (k + 1) * hf b = m + k * hf b + 1 := by rw [Nat.succ_mul]; omega
      rw [e]
    · have := key (m + 1) k (by omega) (fun h0 => by have := hk h0; omega)
      simp only [hg, hc, if_true, and_false, if_false]
      rw [this]
      have e : m + 1 + k * hf b = m + k * hf b + 1 := by omega
      rw [e]
  · have := key m k hm hk
    simp only [hg, if_false, false_and, Bool.false_eq_true, Nat.add_zero]
    exact this
end Fm
/-! All nums of sign 0, and what they are worth -/
namespace Fm
open PySem Sw
def upL (b l h : Int) : List Fl := (List.range (nN b l h)).map fun i => pAt (hf b) l i
def rowF (b l : Int) (p : Nat) : List Fl := (List.range (hf b)).map fun j : Nat => Fl.num 0 (hf b + (j : Nat)) (l + p)
def smF (b l : Int) : List Fl := (List.range (hf b)).map fun i : Nat => Fl.num 0 i l
theorem row_len (b l : Int) (p : Nat) : (rowF b l p).length = hf b := by simp [rowF]
theorem rows_len2 (b l : Int) (k : Nat) : ((List.range k).flatMap (rowF b l)).length = k * hf b := by
  rw [List.length_flatMap]
  simp [row_len, List.map_const', List.sum_replicate_nat]
theorem upL_len (b l h : Int) : (upL b l h).length = nN b l h := by simp [upL]
theorem upL_eq (b l h : Int) : smF b l ++ (List.range (h + 1 - l).toNat).flatMap (rowF b l) = upL b l h := by
  have hl : (smF b l).length = hf b := by simp [smF]
  have hr := rows_len2 b l (h + 1 - l).toNat
  apply List.ext_getElem?
  intro i
  by_cases hi : i < nN b l h
  · have e : (upL b l h)[i]? = some (pAt (hf b) l i) := by
      unfold upL
      rw [List.getElem?_map, List.getElem?_range hi]
      rfl
    rw [e]
    unfold pAt
    by_cases h1 : i < hf b
    · rw [List.getElem?_append_left (by omega), if_pos h1]
      unfold smF
      rw [List.getElem?_map, List.getElem?_range h1]
      rfl
    · rw [List.getElem?_append_right (by omega), if_neg h1, hl]
      unfold nN at hi
      exact flat_get (fun p j => Fl.num 0 (hf b + (j : Nat)) (l + p)) (hf b) _ (i - hf b) (by omega)
  · rw [List.getElem?_eq_none (by rw [List.length_append, hl, hr]; unfold nN at hi; omega), List.getElem?_eq_none (by rw [upL_len]; omega)]
theorem nN_le {b l h : Int} (o : okB b l h) : nN b l h ≤ 5500 ∧ 2 * hf b ≤ nN b l h := by
  obtain ⟨e1, e2, e3⟩ := hf_eq o
  obtain ⟨o1, o2, o3, o4, o5⟩ := o
  unfold nN
  have h1 : (h + 1 - l).toNat * hf b ≤ 41 * 128 := Nat.mul_le_mul (by omega) e3
  have h2 : 1 * hf b ≤ (h + 1 - l).toNat * hf b := Nat.mul_le_mul_right _ (by omega)
  omega
/-! ### worths -/
def wI (b l h : Int) (i : Nat) : Int × Int := if i < nN b l h then sca (mOf (hf b) i : Nat) (l + (kOf (hf b) i : Nat)) else sca (two b) h
theorem k_le {b l h : Int} (o : okB b l h) {i : Nat} (hi : i < nN b l h) : l + (kOf (hf b) i : Nat) ≤ h := by
  have hH : 0 < hf b := by have := (hf_eq o).2.1; omega
  have e := mk_eq hH i
  have := (k_lt o (mOf_lt hH i) (mOf_ge hH i))
  rw [← e] at this
  exact Int.not_lt.mp fun hh => by
    have := this.mp hh
    omega
theorem two_cast (k : Nat) : two (k : Int) = 2 ^ k := by
  unfold two
  rw [Int.toNat_natCast]
theorem siz_nN {b l h : Int} (o : okB b l h) : (siz (hf b) (nN b l h) : Int) = two b * two (h - l) := by
  obtain ⟨e1, e2, e3⟩ := hf_eq o
  have o4 := o.2.2.2.1
  have o1 := o.1
  have e : nN b l h = hf b + (h + 1 - l).toNat * hf b := rfl
  rw [e, siz_at (by omega) (fun _ => Nat.le_refl _), two_b (by omega), ← e1]
  have e4 : two (h - l) = 2 ^ (h - l).toNat := rfl
  have e5 : (h + 1 - l).toNat = (h - l).toNat + 1 := by omega
  rw [e4, e5, Int.natCast_mul, Nat.pow_succ, Int.natCast_mul]
  have e6 : ((2 ^ (h - l).toNat : Nat) : Int) = 2 ^ (h - l).toNat := by norm_cast
  rw [e6, Int.mul_comm ((2 : Int) ^ (h - l).toNat), ← Int.mul_assoc, Int.mul_comm (hf b : Int) ((2 : Nat) : Int)]
  rfl
theorem fra_low {a b : Int} (hb : 0 < b) : Int.gcd (fra a b).1 (fra a b).2 = 1 := by
  unfold fra
  rw [if_pos hb]
  have := gcd_pos (a := a) (b := b) (by omega)
  exact Int.gcd_ediv_gcd_ediv_gcd (by omega)
theorem fra_nn {a b : Int} (hb : 0 < b) (ha : 0 ≤ a) : 0 ≤ (fra a b).1 := by
  unfold fra
  rw [if_pos hb]
  exact Int.ediv_nonneg ha (by omega)
theorem fra_val {a b : Int} (hb : 0 < b) : 0 < (fra a b).2 ∧ (fra a b).2 ≤ b ∧ (fra a b).1.natAbs ≤ a.natAbs ∧ (fra a b).1 * b = a * (fra a b).2 := by
  have hg := gcd_pos (a := a) (b := b) (by omega)
  obtain ⟨x, hx⟩ := Int.gcd_dvd_left (a := a) (b := b)
  obtain ⟨y, hy⟩ := Int.gcd_dvd_right (a := a) (b := b)
  unfold fra
  rw [if_pos hb]
  generalize (Int.gcd a b : Int) = g at *
  have e1 : a / g = x := by rw [hx]; exact Int.mul_ediv_cancel_left _ (by omega)
  have e2 : b / g = y := by rw [hy]; exact Int.mul_ediv_cancel_left _ (by omega)
  simp only [e1, e2]
  have hy0 : 0 < y := by
    refine Int.lt_of_not_ge fun hn => ?_
    have : g * y ≤ 0 := Int.mul_nonpos_of_nonneg_of_nonpos (by omega) hn
    omega
  have hy1 : y ≤ b := by
    have : 1 * y ≤ g * y := Int.mul_le_mul_of_nonneg_right (by omega) (by omega)
    omega
  have hx1 : x.natAbs ≤ a.natAbs := by
    rw [hx, Int.natAbs_mul]
    have : 1 * x.natAbs ≤ g.natAbs * x.natAbs := Nat.mul_le_mul_right _ (by omega)
    omega
  refine ⟨hy0, hy1, hx1, ?_⟩
  rw [hx, hy]
  grind
/-- fractions in least terms that are worth the same are the same -/
theorem fra_uniq {p q : Int × Int} (hp : 0 < p.2) (hq : 0 < q.2) (gp : Int.gcd p.1 p.2 = 1) (gq : Int.gcd q.1 q.2 = 1) (e : p.1 * q.2 = q.1 * p.2) : p = q := by
  have d1 : p.2.natAbs ∣ q.2.natAbs := by
    have h : p.2.natAbs ∣ p.1.natAbs * q.2.natAbs := by
      rw [← Int.natAbs_mul, e, Int.natAbs_mul]
      exact Nat.dvd_mul_left _ _
    refine Nat.Coprime.dvd_of_dvd_mul_left ?_ h
    have : Nat.gcd p.1.natAbs p.2.natAbs = 1 := gp
    rw [Nat.gcd_comm] at this
    exact this
  have d2 : q.2.natAbs ∣ p.2.natAbs := by
    have h : q.2.natAbs ∣ q.1.natAbs * p.2.natAbs := by
      rw [← Int.natAbs_mul, ← e, Int.natAbs_mul]
      exact Nat.dvd_mul_left _ _
    refine Nat.Coprime.dvd_of_dvd_mul_left ?_ h
    have : Nat.gcd q.1.natAbs q.2.natAbs = 1 := gq
    rw [Nat.gcd_comm] at this
    exact this
  have e2 : p.2 = q.2 := by
    have := Nat.dvd_antisymm d1 d2
    omega
  have e1 : p.1 = q.1 := by
    rw [e2] at e
    exact Int.eq_of_mul_eq_mul_right (by omega) e
  exact Prod.ext e1 e2
theorem sca_key2 {m e : Int} (h0 : 0 ≤ m) (h1 : m ≤ 256) (h2 : -20 ≤ e) (h3 : e ≤ 20) : 0 < (sca m e).2 ∧ (sca m e).2 ≤ 2 ^ 20 ∧ (sca m e).1.natAbs ≤ 2 ^ 40 ∧ (sca m e).1 * two 20 = m * two (e + 20) * (sca m e).2 ∧ Int.gcd (sca m e).1 (sca m e).2 = 1 ∧ 0 ≤ (sca m e).1 := by
  unfold sca
  by_cases h : 0 ≤ e
  · rw [if_pos h]
    have ht := two_le (p := e) (q := 20) h3
    have ht2 : two 20 = 2 ^ 20 := rfl
    have hp := two_pos e
    refine ⟨show (0 : Int) < 1 by decide, show (1 : Int) ≤ 2 ^ 20 by decide, ?_, ?_, by simp, Int.mul_nonneg h0 (by omega)⟩
    · show (m * two e).natAbs ≤ 2 ^ 40
      rw [Int.natAbs_mul]
      have : m.natAbs * (two e).natAbs ≤ 256 * 2 ^ 20 := Nat.mul_le_mul (by omega) (by omega)
      omega
    · rw [← two_add h (by decide)]
      simp only [Int.mul_one, Int.mul_assoc]
  · rw [if_neg h]
    have ht := two_le (p := 0 - e) (q := 20) (by omega)
    have ht2 : two 20 = 2 ^ 20 := rfl
    have hp := two_pos (0 - e)
    obtain ⟨a1, a2, a3, a4⟩ := fra_pos (a := m) hp (by omega) (by omega)
    refine ⟨a1, a2, a3, ?_, ?_, ?_⟩
    · have e1 : two 20 = two (0 - e) * two (e + 20) := by
        rw [two_add (by omega) (by omega)]
        congr 1
        omega
      rw [e1, ← Int.mul_assoc, a4, Int.mul_assoc, Int.mul_comm _ (two (e + 20)), ← Int.mul_assoc]
    · exact fra_low hp
    · exact fra_nn hp h0
theorem lt_mul {x y c : Int} (h : 0 < c) : x * c < y * c ↔ x < y := ⟨fun k => Int.lt_of_mul_lt_mul_right k (Int.le_of_lt h), fun k => Int.mul_lt_mul_of_pos_right k h⟩
theorem eq_mul {x y c : Int} (h : 0 < c) : x * c = y * c ↔ x = y := ⟨fun k => Int.eq_of_mul_eq_mul_right (by omega) k, fun k => by rw [k]⟩
/-- w is worth z sizes of the least power -/
structure Wor (l : Int) (w : Int × Int) (z : Int) : Prop where
  pos : 0 < w.2
  le : w.2 ≤ 2 ^ 20
  top : w.1.natAbs ≤ 2 ^ 40
  key : w.1 * two 20 = z * two (l + 20) * w.2
  low : Int.gcd w.1 w.2 = 1
  nn : 0 ≤ w.1
theorem wI_wor {b l h : Int} (o : okB b l h) {i : Nat} (hi : i ≤ nN b l h) : Wor l (wI b l h i) (siz (hf b) i : Nat) := by
  obtain ⟨e1, e2, e3⟩ := hf_eq o
  have o' := o
  obtain ⟨o1, o2, o3, o4, o5⟩ := o
  unfold wI
  by_cases hc : i < nN b l h
  · rw [if_pos hc]
    have hm := mOf_lt (H := hf b) (by omega) i
    have hk := k_le o' hc
    obtain ⟨a1, a2, a3, a4, a5, a6⟩ := sca_key2 (m := (mOf (hf b) i : Nat)) (e := l + (kOf (hf b) i : Nat)) (by omega) (by omega) (by omega) (by omega)
    refine ⟨a1, a2, a3, ?_, a5, a6⟩
    rw [a4]
    have e : two (l + (kOf (hf b) i : Nat) + 20) = 2 ^ (kOf (hf b) i) * two (l + 20) := by
      rw [← two_cast, two_add (by omega) (by omega)]
      congr 1
      omega
    have e4 : ((siz (hf b) i : Nat) : Int) = (mOf (hf b) i : Nat) * 2 ^ (kOf (hf b) i) := by
      unfold siz
      norm_cast
    rw [e, e4]
    grind
  · rw [if_neg hc]
    have e : i = nN b l h := by omega
    subst e
    have tb := two_b (b := b) (by omega)
    have tp := two_pos b
    obtain ⟨a1, a2, a3, a4, a5, a6⟩ := sca_key2 (m := two b) (e := h) (by omega) (by omega) (by omega) (by omega)
    refine ⟨a1, a2, a3, ?_, a5, a6⟩
    have e : two (h + 20) = two (h - l) * two (l + 20) := by
      rw [two_add (by omega) (by omega)]
      congr 1
      omega
    rw [a4, siz_nN o', e]
    grind
theorem wt_eq {l t u : Int} (hl : -20 ≤ l) (hl2 : l ≤ 20) : wh l t * (two (l + 20) * u) = t * two 20 * pt l u := by
  unfold wh pt
  by_cases h : l < 0
  · rw [if_pos h, if_pos h]
    have e : two 20 = two (0 - l) * two (l + 20) := by
      rw [two_add (by omega) (by omega)]
      congr 1
      omega
    rw [e]
    grind
  · rw [if_neg h, if_neg h]
    have e : two (l + 20) = two l * two 20 := by
      rw [two_add (by omega) (by decide)]
    rw [e]
    grind
section
variable {l t u : Int} (hl : -20 ≤ l) (hl2 : l ≤ 20) (hu : 0 < u)
include hl hl2 hu
theorem less_w {w : Int × Int} {z : Int} (W : Wor l w z) : (t * w.2 < w.1 * u ↔ wh l t < z * pt l u) ∧ (w.1 * u < t * w.2 ↔ z * pt l u < wh l t) := by
  have e0 := wt_eq (t := t) (u := u) hl hl2
  have key := W.key
  have hX : 0 < two (l + 20) * u := Int.mul_pos (two_pos _) hu
  have hP := pt_pos (l := l) hu
  have h20 := two_pos 20
  have hw := W.pos
  have k2 : w.1 * u * two 20 = z * (two (l + 20) * u) * w.2 := by grind
  have k1 : (t * w.2) * two 20 = (t * two 20) * w.2 := by grind
  generalize two (l + 20) * u = X at *
  have k3 : z * pt l u * X = z * X * pt l u := by grind
  rw [← lt_mul h20 (x := t * w.2), ← lt_mul h20 (y := t * w.2), k1, k2, lt_mul hw, lt_mul hw, ← lt_mul hX (x := wh l t), ← lt_mul hX (y := wh l t), e0, k3, lt_mul hP, lt_mul hP]
  exact ⟨Iff.rfl, Iff.rfl⟩
/-- which of two neighbours is nearer -/
theorem mid_w {v w : Int × Int} {y z : Int} (V : Wor l v y) (W : Wor l w z) :
    ((w.1 * u + (0 - t) * w.2) * (u * v.2) < (t * v.2 + (0 - v.1) * u) * (w.2 * u) ↔ (y + z) * pt l u < 2 * wh l t) ∧ ((t * v.2 + (0 - v.1) * u) * (w.2 * u) = (w.1 * u + (0 - t) * w.2) * (u * v.2) ↔ (y + z) * pt l u = 2 * wh l t) := by
  have e0 := wt_eq (t := t) (u := u) hl hl2
  have kv := V.key
  have kw := W.key
  have hX : 0 < two (l + 20) * u := Int.mul_pos (two_pos _) hu
  have hP := pt_pos (l := l) hu
  have h20 := two_pos 20
  have hq : 0 < w.2 * u * v.2 := Int.mul_pos (Int.mul_pos W.pos hu) V.pos
  have k1 : (w.1 * u + (0 - t) * w.2) * (u * v.2) * two 20 = (z * (two (l + 20) * u) - t * two 20) * (w.2 * u * v.2) := by grind
  have k2 : (t * v.2 + (0 - v.1) * u) * (w.2 * u) * two 20 = (t * two 20 - y * (two (l + 20) * u)) * (w.2 * u * v.2) := by grind
  generalize two (l + 20) * u = X at *
  have k3 : (y + z) * pt l u * X = (y + z) * X * pt l u := by grind
  have k4 : 2 * wh l t * X = 2 * (t * two 20) * pt l u := by grind
  refine ⟨?_, ?_⟩
  · rw [← lt_mul h20, k1, k2, lt_mul hq, ← lt_mul hX (y := 2 * wh l t), k3, k4, lt_mul hP, Int.add_mul]
    generalize z * X = a
    generalize y * X = c
    generalize t * two 20 = d
    omega
  · rw [← eq_mul h20, k1, k2, eq_mul hq, ← eq_mul hX (y := 2 * wh l t), k3, k4, eq_mul hP, Int.add_mul]
    generalize z * X = a
    generalize y * X = c
    generalize t * two 20 = d
    omega
end
end Fm
namespace Fm
open PySem Sw
/-- what a num is worth -/
def vF : Fl → Int × Int
  | .num s m e => negF s (sca m e)
  | _ => (0, 1)
theorem vF0 (m e : Int) : vF (.num 0 m e) = sca m e := rfl
theorem vF1 (m e : Int) : vF (.num 1 m e) = (0 - (sca m e).1, (sca m e).2) := rfl
theorem vF_ok {b l h : Int} (o : okB b l h) {s m e : Int} (hx : (Fl.num s m e).ok b l h) : 0 < (vF (.num s m e)).2 ∧ (vF (.num s m e)).2 ≤ 2 ^ 20 ∧ (vF (.num s m e)).1.natAbs ≤ 2 ^ 40 ∧ Int.gcd (vF (.num s m e)).1 (vF (.num s m e)).2 = 1 := by
  obtain ⟨h0, h1, h2, h3, hs⟩ := num_rng o hx
  obtain ⟨a1, a2, a3, a4, a5, a6⟩ := sca_key2 h0 (by omega) h2 h3
  rcases hs with rfl | rfl
  · rw [vF0]
    exact ⟨a1, a2, a3, a5⟩
  · rw [vF1]
    refine ⟨a1, a2, by simp only; omega, ?_⟩
    show Int.gcd (0 - (sca m e).1) (sca m e).2 = 1
    rw [Int.zero_sub, Int.neg_gcd]
    exact a5
theorem abs_vF {s m e : Int} (hs : s = 0 ∨ s = 1) (h : 0 ≤ (sca m e).1) : absI (vF (.num s m e)).1 = (sca m e).1 := by
  unfold absI
  rcases hs with rfl | rfl
  · rw [vF0, if_neg (by omega)]
  · rw [vF1]
    show (if 0 - (sca m e).1 < 0 then -(0 - (sca m e).1) else 0 - (sca m e).1) = _
    split <;> omega
theorem sca_pos {m e : Int} (h0 : 0 < m) (h1 : m ≤ 255) (h2 : -20 ≤ e) (h3 : e ≤ 20) : 0 < (sca m e).1 := by
  obtain ⟨a1, a2, a3, a4, a5, a6⟩ := sca_key2 (m := m) (e := e) (by omega) (by omega) h2 h3
  have := two_pos 20
  have : 0 < m * two (e + 20) * (sca m e).2 := Int.mul_pos (Int.mul_pos h0 (two_pos _)) a1
  rw [← a4] at this
  refine Int.lt_of_not_ge fun hn => ?_
  have : (sca m e).1 * two 20 ≤ 0 := Int.mul_nonpos_of_nonpos_of_nonneg hn (by omega)
  omega
/-- what is a float's worth is rounded to it -/
theorem rnd_self {b l h : Int} (o : okB b l h) (r : Rule) {s m e : Int} (hx : (Fl.num s m e).ok b l h) (h0 : 0 < m) : rnd b l h r (vF (.num s m e)) = (.num s m e, []) := by
  obtain ⟨g0, g1, g2, g3, hs⟩ := num_rng o hx
  obtain ⟨e1, e2, e3⟩ := hf_eq o
  have o3 := o.2.2.1
  have o4 := o.2.2.2.1
  have o5 := o.2.2.2.2
  obtain ⟨_, ⟨h6, h7⟩, h8, h9⟩ := hx
  have hp := sca_pos h0 g1 g2 g3
  obtain ⟨a1, a2, a3, a4, a5, a6⟩ := sca_key2 (m := m) (e := e) (by omega) (by omega) g2 g3
  obtain ⟨M, hM⟩ := Int.eq_ofNat_of_zero_le (show 0 ≤ m by omega)
  obtain ⟨k, hk⟩ := Int.eq_ofNat_of_zero_le (show 0 ≤ e - l by omega)
  have hP := pt_pos (l := l) a1
  have hW : wh l (sca m e).1 = m * (pt l (sca m e).2 * 2 ^ k) := by
    have W : Wor l (sca m e) (m * 2 ^ k) := by
      refine ⟨a1, a2, a3, ?_, a5, a6⟩
      rw [a4]
      have e4 : two (e + 20) = 2 ^ k * two (l + 20) := by
        rw [← two_cast, ← hk, two_add (by omega) (by omega)]
        congr 1
        omega
      rw [e4]
      grind
    obtain ⟨c1, c2⟩ := less_w (t := (sca m e).1) o.2.2.1 (by omega) a1 W
    have d1 : ¬ wh l (sca m e).1 < m * 2 ^ k * pt l (sca m e).2 := fun z => Int.lt_irrefl _ (c1.mpr z)
    have d2 : ¬ m * 2 ^ k * pt l (sca m e).2 < wh l (sca m e).1 := fun z => Int.lt_irrefl _ (c2.mpr z)
    have e5 : m * (pt l (sca m e).2 * 2 ^ k) = m * 2 ^ k * pt l (sca m e).2 := by grind
    omega
  have hz : 0 < pt l (sca m e).2 * 2 ^ k := Int.mul_pos hP (p2_pos k)
  have c : Cut (hf b) (wh l (sca m e).1) (pt l (sca m e).2) M k := by
    refine ⟨by rw [hW, hM]; omega, ?_, by omega, fun hk0 => ?_⟩
    · rw [hW, ← hM]
      have : (m + 1) * (pt l (sca m e).2 * 2 ^ k) = m * (pt l (sca m e).2 * 2 ^ k) + pt l (sca m e).2 * 2 ^ k := by grind
      omega
    · have hne : ¬ e = l := by omega
      rw [if_neg hne] at h8
      omega
  have hc := cm_eq (wh_nn a6) hP c
  have v1 : (vF (.num s m e)).1 ≠ 0 := by
    rcases hs with rfl | rfl
    · rw [vF0]; omega
    · rw [vF1]; simp only; omega
  have v2 : (vF (.num s m e)).2 = (sca m e).2 := by rcases hs with rfl | rfl <;> rfl
  have v3 : sgn (vF (.num s m e)).1 = s := by
    unfold sgn
    rcases hs with rfl | rfl
    · rw [vF0, if_neg (by omega)]
    · rw [vF1, if_pos (by simp only; omega)]
  have code : cod (wh l (sca m e).1 - M * (pt l (sca m e).2 * 2 ^ k)) (pt l (sca m e).2 * 2 ^ k) = 0 := by
    unfold cod
    rw [if_pos (by rw [hW, hM]; omega)]
  have hle : ¬ h < l + (k : Int) := by omega
  have hle2 : ¬ h < e := by omega
  have ek : l + (k : Int) = e := by omega
  unfold rnd rndS
  rw [if_neg v1, abs_vF hs a6, v2, v3, hc]
  simp only [code]
  unfold rsz Rule.ups
  simp only [if_true, Bool.false_eq_true, if_false, false_and, hle, hle2, ek, flg, ← hM]
  rcases hs with rfl | rfl
  · rw [if_neg (by decide)]
  · rw [if_pos rfl]
    simp [Fl.neg]
end Fm
/-! Rounded fractions hang together: between neighbours, turned round, in order -/
namespace Fm
open PySem Sw
def sg (s : Int) (x : Fl) : Fl := if s = 1 then x.neg else x
def plc (n : Nat) (r : Rule) (s : Int) (j : Nat) : Nat := if n ≤ j then (if r.toinf s then n else n - 1) else j
def stp (r : Rule) (s m code : Int) : Nat := if r.ups s m code = true then 1 else 0
theorem rnd_at {b l h : Int} (o : okB b l h) {p : Int × Int} (hp : 0 < p.2) (h0 : p.1 ≠ 0) : ∃ m k small, Cut (hf b) (wh l (absI p.1)) (pt l p.2) m k ∧ ∀ r, rnd b l h r p =
    (sg (sgn p.1) (pA b l h (plc (nN b l h) r (sgn p.1) (m + k * hf b + stp r (sgn p.1) m (cod (wh l (absI p.1) - m * (pt l p.2 * 2 ^ k)) (pt l p.2 * 2 ^ k))))),
      if nN b l h ≤ m + k * hf b + stp r (sgn p.1) m (cod (wh l (absI p.1) - m * (pt l p.2 * 2 ^ k)) (pt l p.2 * 2 ^ k)) then fIO else flg (cod (wh l (absI p.1) - m * (pt l p.2 * 2 ^ k)) (pt l p.2 * 2 ^ k)) small) := by
  have hH := (hf_eq o).2.1
  have c := cm_cut (H := hf b) (by omega) (wh_nn (l := l) (abs_nn p.1)) (pt_pos (l := l) hp)
  refine ⟨_, _, decide (wh l (absI p.1) < pt l p.2 * hf b), c, fun r => ?_⟩
  unfold rnd rndS
  rw [if_neg h0]
  simp only [rsz_at o r (sgn p.1) c.lt c.ge]
  unfold sg plc stp
  by_cases hn : nN b l h ≤ (cm (hf b) (wh l (absI p.1)) (pt l p.2)).1 + (cm (hf b) (wh l (absI p.1)) (pt l p.2)).2 * hf b + (if r.ups (sgn p.1) ((cm (hf b) (wh l (absI p.1)) (pt l p.2)).1 : Nat) (cod (wh l (absI p.1) - (cm (hf b) (wh l (absI p.1)) (pt l p.2)).1 * (pt l p.2 * 2 ^ (cm (hf b) (wh l (absI p.1)) (pt l p.2)).2)) (pt l p.2 * 2 ^ (cm (hf b) (wh l (absI p.1)) (pt l p.2)).2)) = true then 1 else 0)
  · simp only [hn, if_true]
    by_cases ht : r.toinf (sgn p.1) = true
    · simp only [ht, if_true]
    · simp only [ht, if_false]
      rfl
  · simp only [hn, if_false]
theorem ups_toinf {r : Rule} {s m code : Int} (h : r.ups s m code = true) : r.toinf s = true := by
  unfold Rule.ups at h
  split at h
  · cases h
  · cases r
    · rfl
    · rfl
    · exact h
    · exact h
    · exact h
def inw (s : Int) : Rule := if s = 0 then .down else .up
theorem inw_no {s : Int} : (∀ m code, (inw s).ups s m code = false) ∧ (inw s).toinf s = false := by
  unfold inw
  by_cases h : s = 0
  · subst h
    exact ⟨fun m code => by unfold Rule.ups; split <;> rfl, rfl⟩
  · rw [if_neg h]
    refine ⟨fun m code => ?_, decide_eq_false h⟩
    unfold Rule.ups
    split
    · rfl
    · exact decide_eq_false h
theorem nou_no {s : Int} : (∀ m code, Rule.nought.ups s m code = false) ∧ Rule.nought.toinf s = false :=
  ⟨fun m code => by unfold Rule.ups; split <;> rfl, rfl⟩
theorem sg_ok {b l h : Int} {s : Int} {x : Fl} (hx : x.ok b l h) : (sg s x).ok b l h := by
  unfold sg
  split
  · exact neg_ok x hx
  · exact hx
/-- either a float's own worth, or between two neighbours -/
theorem rnd_snd {b l h : Int} (o : okB b l h) {p : Int × Int} (hp : 0 < p.2) (hg : Int.gcd p.1 p.2 = 1) :
    (∃ s m e, (Fl.num s m e).ok b l h ∧ vF (.num s m e) = p ∧ ∀ r, rnd b l h r p = (.num s m e, [])) ∨
    (p.1 ≠ 0 ∧ ∃ i, i < nN b l h ∧ ∃ (g : Rule → Bool) (F : Rule → List Str), (∀ r, rnd b l h r p = (sg (sgn p.1) (pA b l h (if g r = true then i + 1 else i)), F r)) ∧
      (∀ r, F r = fIO ∨ F r = [("inexact" : Str), "under"] ∨ F r = [("inexact" : Str)]) ∧ g .nought = false ∧ g .up = decide (sgn p.1 = 0) ∧ g .down = !decide (sgn p.1 = 0) ∧ F .nought = F (inw (sgn p.1))) := by
  by_cases h0 : p.1 = 0
  · refine .inl ⟨0, 0, l, ⟨.inl rfl, ⟨Int.le_refl _, o.2.2.2.1⟩, by rw [if_pos rfl]; exact Int.le_refl _, by have := two_pos (b - 1); omega⟩, ?_, fun r => ?_⟩
    · obtain ⟨a1, a2, a3, a4, a5, a6⟩ := sca_key2 (m := 0) (e := l) (by decide) (by decide) o.2.2.1 (by have := o.2.2.2; omega)
      refine fra_uniq a1 hp a5 hg ?_
      show (sca 0 l).1 * p.2 = p.1 * (sca 0 l).2
      have t20 := two_pos 20
      have : (sca 0 l).1 * two 20 = 0 := by rw [a4]; simp
      have h1 : (sca 0 l).1 = 0 := by
        rcases Int.mul_eq_zero.mp this with z | z
        · exact z
        · omega
      rw [h1, h0]
      simp
    · unfold rnd
      rw [if_pos h0]
  · obtain ⟨m, k, small, c, hr⟩ := rnd_at o hp h0
    generalize hcode : cod (wh l (absI p.1) - m * (pt l p.2 * 2 ^ k)) (pt l p.2 * 2 ^ k) = code at hr
    have hs := sgn_01 p.1
    by_cases hE : code = 0 ∧ m + k * hf b < nN b l h
    · obtain ⟨hc, hi⟩ := hE
      left
      have W := wI_wor o (show m + k * hf b ≤ nN b l h by omega)
      have hu0 : wh l (absI p.1) = m * (pt l p.2 * 2 ^ k) := by
        unfold cod at hcode
        by_cases hz : wh l (absI p.1) - m * (pt l p.2 * 2 ^ k) = 0
        · omega
        · rw [if_neg hz] at hcode
          exfalso
          by_cases h1 : 2 * (wh l (absI p.1) - m * (pt l p.2 * 2 ^ k)) < pt l p.2 * 2 ^ k
          · rw [if_pos h1] at hcode; omega
          · rw [if_neg h1] at hcode
            by_cases h2 : 2 * (wh l (absI p.1) - m * (pt l p.2 * 2 ^ k)) = pt l p.2 * 2 ^ k
            · rw [if_pos h2] at hcode; omega
            · rw [if_neg h2] at hcode; omega
      have hw : wI b l h (m + k * hf b) = (absI p.1, p.2) := by
        have g : Int.gcd (absI p.1) p.2 = 1 := by
          have := hg
          unfold absI
          split
          · rw [Int.neg_gcd]; exact this
          · exact this
        obtain ⟨h1, h2⟩ := less_w (t := absI p.1) o.2.2.1 (by have := o.2.2.2; omega) hp W
        have he : ((siz (hf b) (m + k * hf b) : Nat) : Int) * pt l p.2 = wh l (absI p.1) := by
          rw [siz_at c.lt c.ge, hu0]
          have e : ((m * 2 ^ k : Nat) : Int) = (m : Int) * 2 ^ k := by norm_cast
          rw [e, Int.mul_assoc, Int.mul_comm (pt l p.2)]
        refine fra_uniq W.pos hp W.low g ?_
        have a1 : ¬ absI p.1 * (wI b l h (m + k * hf b)).2 < (wI b l h (m + k * hf b)).1 * p.2 := fun z => by have := h1.mp z; omega
        have a2 : ¬ (wI b l h (m + k * hf b)).1 * p.2 < absI p.1 * (wI b l h (m + k * hf b)).2 := fun z => by have := h2.mp z; omega
        show (wI b l h (m + k * hf b)).1 * p.2 = absI p.1 * (wI b l h (m + k * hf b)).2
        omega
      have hpa : pA b l h (m + k * hf b) = .num 0 (mOf (hf b) (m + k * hf b) : Nat) (l + (kOf (hf b) (m + k * hf b) : Nat)) := by rw [pA_lt hi, pAt_eq]
      have hok := (pA_ok o (i := m + k * hf b)).1
      unfold wI at hw
      rw [if_pos hi] at hw
      generalize ((mOf (hf b) (m + k * hf b) : Nat) : Int) = M at *
      generalize l + ((kOf (hf b) (m + k * hf b) : Nat) : Int) = e at *
      have hu1 : ∀ r : Rule, stp r (sgn p.1) m code = 0 := fun r => by unfold stp Rule.ups; rw [if_pos hc]; rfl
      have hpl : ∀ r : Rule, plc (nN b l h) r (sgn p.1) (m + k * hf b) = m + k * hf b := fun r => if_neg (by omega)
      rw [hpa] at hok
      refine ⟨sgn p.1, M, e, ?_, ?_, fun r => ?_⟩
      · rcases hs with e0 | e0
        · rw [e0]; exact hok
        · rw [e0]; exact neg_ok _ hok
      · rcases hs with e0 | e0
        · rw [e0, vF0, hw]
          have := e0
          unfold sgn at this
          unfold absI
          by_cases hn : p.1 < 0
          · rw [if_pos hn] at this; omega
          · rw [if_neg hn]
        · rw [e0, vF1, hw]
          have := e0
          unfold sgn at this
          unfold absI
          by_cases hn : p.1 < 0
          · rw [if_pos hn]
            show (0 - -p.1, p.2) = p
            have : 0 - -p.1 = p.1 := by omega
            rw [this]
          · rw [if_neg hn] at this; omega
      · rw [hr r, hu1, Nat.add_zero, hpl, hpa, if_neg (by omega), hc]
        rcases hs with e0 | e0
        · rw [e0]; rfl
        · rw [e0]; rfl
    · right
      have hnp : 0 < nN b l h := by have := (nN_le o).2; have := (hf_eq o).2.1; omega
      refine ⟨h0, min (m + k * hf b) (nN b l h - 1), by omega, fun r => if nN b l h ≤ m + k * hf b then r.toinf (sgn p.1) else r.ups (sgn p.1) m code, fun r => if nN b l h ≤ m + k * hf b + stp r (sgn p.1) m code then fIO else flg code small, fun r => ?_, fun r => ?_, ?_, ?_, ?_, ?_⟩
      · rw [hr r]
        congr 2
        congr 1
        unfold plc stp
        by_cases hn : nN b l h ≤ m + k * hf b
        · rw [if_pos (by omega)]
          simp only [hn, if_true]
          by_cases ht : r.toinf (sgn p.1) = true
          · rw [if_pos ht, if_pos ht]; omega
          · rw [if_neg ht, if_neg ht]; omega
        · simp only [hn, if_false]
          by_cases hu : r.ups (sgn p.1) m code = true
          · rw [if_pos hu, if_pos hu]
            by_cases hn2 : nN b l h ≤ m + k * hf b + 1
            · rw [if_pos hn2, if_pos (ups_toinf hu)]; omega
            · rw [if_neg hn2]; omega
          · rw [if_neg hu, if_neg hu, Nat.add_zero, if_neg hn]; omega
      · simp only []
        by_cases hn : nN b l h ≤ m + k * hf b + stp r (sgn p.1) m code
        · rw [if_pos hn]; exact .inl rfl
        · rw [if_neg hn]
          have hc : code ≠ 0 := fun z => hE ⟨z, by omega⟩
          unfold flg
          rw [if_neg hc]
          cases small
          · exact .inr (.inr rfl)
          · exact .inr (.inl rfl)
      · simp only [nou_no.1, nou_no.2]
        split <;> rfl
      · simp only []
        by_cases hn : nN b l h ≤ m + k * hf b
        · rw [if_pos hn]; rfl
        · rw [if_neg hn]
          have hc : code ≠ 0 := fun z => hE ⟨z, by omega⟩
          unfold Rule.ups
          rw [if_neg hc]
      · simp only []
        by_cases hn : nN b l h ≤ m + k * hf b
        · rw [if_pos hn]; rfl
        · rw [if_neg hn]
          have hc : code ≠ 0 := fun z => hE ⟨z, by omega⟩
          unfold Rule.ups
          rw [if_neg hc]
      · simp only [stp, nou_no.1, inw_no.1]
/-! ### turned round -/
def Rule.swap : Rule → Rule
  | .up => .down
  | .down => .up
  | r => r
theorem swap_ups {r : Rule} {s m code : Int} (hs : s = 0 ∨ s = 1) : r.swap.ups (1 - s) m code = r.ups s m code ∧ r.swap.toinf (1 - s) = r.toinf s := by
  rcases hs with rfl | rfl
  · refine ⟨?_, ?_⟩
    · unfold Rule.ups
      split
      · rfl
      · cases r <;> rfl
    · cases r <;> rfl
  · refine ⟨?_, ?_⟩
    · unfold Rule.ups
      split
      · rfl
      · cases r <;> rfl
    · cases r <;> rfl
theorem rnd_neg (b l h : Int) (r : Rule) {p : Int × Int} (h0 : p.1 ≠ 0) : rnd b l h r.swap (0 - p.1, p.2) = ((rnd b l h r p).1.neg, (rnd b l h r p).2) := by
  have e1 : sgn (0 - p.1) = 1 - sgn p.1 := by unfold sgn; split <;> split <;> omega
  have e2 : absI (0 - p.1) = absI p.1 := by unfold absI; split <;> split <;> omega
  have hs := sgn_01 p.1
  have ht : r.swap.toinf (1 - sgn p.1) = r.toinf (sgn p.1) := (swap_ups (m := 0) (code := 0) hs).2
  have e3 : rndS b l h r.swap (1 - sgn p.1) (absI p.1) p.2 = rndS b l h r (sgn p.1) (absI p.1) p.2 := by
    unfold rndS rsz
    simp only [(swap_ups hs).1, ht]
  unfold rnd
  simp only []
  rw [if_neg (show ¬ 0 - p.1 = 0 by omega), if_neg h0, e1, e2, e3]
  rcases hs with e0 | e0
  · rw [e0]
    simp
  · rw [e0]
    simp [neg_neg]
/-! ### in order -/
theorem ups_mono {r : Rule} {s m c c' : Int} (h0 : 0 ≤ c) (h : c ≤ c') (h3 : c' ≤ 3) (hu : r.ups s m c = true) : r.ups s m c' = true := by
  have hc : c ≠ 0 := fun e => by subst e; unfold Rule.ups at hu; rw [if_pos rfl] at hu; cases hu
  unfold Rule.ups at hu ⊢
  rw [if_neg hc] at hu
  rw [if_neg (by omega)]
  cases r
  · simp only [Bool.or_eq_true, Bool.and_eq_true, decide_eq_true_eq] at hu ⊢
    omega
  · simp only [Bool.or_eq_true, decide_eq_true_eq] at hu ⊢
    omega
  · exact hu
  · exact hu
  · exact hu
theorem cod_rng (left z : Int) : 0 ≤ cod left z ∧ cod left z ≤ 3 := by
  unfold cod
  split
  · omega
  · split
    · omega
    · split <;> omega
theorem cod_mono {x z x' z' : Int} (hx : 0 ≤ x) (hx' : 0 ≤ x') (hz : 0 < z) (hz' : 0 < z') (h : x * z' ≤ x' * z) : cod x z ≤ cod x' z' := by
  have k1 : 2 * x' < z' → 2 * x < z := fun k => by
    refine Int.lt_of_not_ge fun hn => ?_
    have a1 : 2 * x' * z < z' * z := Int.mul_lt_mul_of_pos_right k hz
    have a2 : z * z' ≤ 2 * x * z' := Int.mul_le_mul_of_nonneg_right hn (Int.le_of_lt hz')
    have a3 : 2 * x * z' = 2 * (x * z') := Int.mul_assoc ..
    have a4 : 2 * x' * z = 2 * (x' * z) := Int.mul_assoc ..
    have a5 : z' * z = z * z' := Int.mul_comm ..
    omega
  have k2 : 2 * x' = z' → 2 * x ≤ z := fun k => by
    refine Int.le_of_not_gt fun hn => ?_
    have a2 : z * z' < 2 * x * z' := Int.mul_lt_mul_of_pos_right hn hz'
    have a1 : 2 * x' * z = z' * z := by rw [k]
    have a3 : 2 * x * z' = 2 * (x * z') := Int.mul_assoc ..
    have a4 : 2 * x' * z = 2 * (x' * z) := Int.mul_assoc ..
    have a5 : z' * z = z * z' := Int.mul_comm ..
    omega
  have k3 : x' = 0 → x = 0 := fun k => by
    subst k
    rw [Int.zero_mul] at h
    refine Int.le_antisymm (Int.le_of_not_gt fun hn => ?_) hx
    have := Int.mul_pos hn hz'
    omega
  unfold cod
  by_cases a : x = 0
  · rw [if_pos a]
    exact (cod_rng x' z').1
  · have a' : x' ≠ 0 := fun k => a (k3 k)
    rw [if_neg a, if_neg a']
    by_cases c1 : 2 * x' < z'
    · rw [if_pos (k1 c1), if_pos c1]
      exact Int.le_refl _
    · rw [if_neg c1]
      by_cases c2 : 2 * x' = z'
      · rw [if_pos c2]
        have := k2 c2
        by_cases d1 : 2 * x < z
        · rw [if_pos d1]; omega
        · rw [if_neg d1, if_pos (by omega)]; omega
      · rw [if_neg c2]
        split
        · omega
        · split <;> omega
theorem key_pA {b l h : Int} (o : okB b l h) (i : Nat) : keyI (pA b l h i) = if i < nN b l h then (siz (hf b) i : Int) * two (l + 20) else two 80 := by
  by_cases hi : i < nN b l h
  · rw [if_pos hi, pA_lt hi, pAt_eq]
    show (1 - 2 * 0) * (((mOf (hf b) i : Nat) : Int) * two (l + (kOf (hf b) i : Nat) + 20)) = _
    have e : two (l + (kOf (hf b) i : Nat) + 20) = 2 ^ (kOf (hf b) i) * two (l + 20) := by
      rw [← two_cast, two_add (by omega) (by have := o.2.2.1; omega)]
      congr 1
      omega
    have e2 : ((siz (hf b) i : Nat) : Int) = (mOf (hf b) i : Nat) * 2 ^ kOf (hf b) i := by unfold siz; norm_cast
    rw [e, e2]
    grind
  · rw [if_neg hi]
    unfold pA
    rw [nN_Np, if_neg (by omega)]
    rfl
theorem key_mono {b l h : Int} (o : okB b l h) {i j : Nat} (hij : i ≤ j) : keyI (pA b l h i) ≤ keyI (pA b l h j) := by
  have hH := (hf_eq o).2.1
  by_cases hj : j < nN b l h
  · rw [key_pA o, key_pA o, if_pos hj, if_pos (by omega)]
    have := siz_le (H := hf b) (by omega) hij
    exact Int.mul_le_mul_of_nonneg_right (by exact_mod_cast this) (Int.le_of_lt (two_pos _))
  · rw [key_pA o j, if_neg hj]
    have ok := (pA_ok o (i := i)).1
    by_cases hi : i < nN b l h
    · rw [pA_lt hi, pAt_eq] at ok ⊢
      obtain ⟨g0, g1, g2, g3, gs⟩ := num_rng o ok
      show (1 - 2 * 0) * (_ * two _) ≤ _
      have h1 := two_le (p := l + (kOf (hf b) i : Nat) + 20) (q := 40) (by omega)
      have h2 := two_pos (l + (kOf (hf b) i : Nat) + 20)
      have e80 : two 80 = 2 ^ 80 := rfl
      have e40 : two 40 = 2 ^ 40 := rfl
      generalize ((mOf (hf b) i : Nat) : Int) = M at *
      generalize two (l + (kOf (hf b) i : Nat) + 20) = T at *
      have : M * T ≤ 255 * 2 ^ 40 := Int.mul_le_mul g1 (by omega) (by omega) (by decide)
      omega
    · rw [key_pA o i, if_neg hi]
      exact Int.le_refl _
theorem key_nn {b l h : Int} (o : okB b l h) (i : Nat) : 0 ≤ keyI (pA b l h i) := by
  have := key_mono o (Nat.zero_le i)
  have e : keyI (pA b l h 0) = 0 := by
    have := (nN_le o).2
    have := (hf_eq o).2.1
    rw [key_pA o, if_pos (by omega)]
    unfold siz mOf
    rw [if_pos (by omega)]
    simp
  omega
theorem key_neg (x : Fl) : keyI x.neg = 0 - keyI x := by
  cases x with
  | nan => rfl
  | inf s =>
    show (1 - 2 * (1 - s)) * two 80 = 0 - (1 - 2 * s) * two 80
    grind
  | num s m e =>
    show (1 - 2 * (1 - s)) * (m * two (e + 20)) = 0 - (1 - 2 * s) * (m * two (e + 20))
    grind
theorem plc_mono {n : Nat} {r : Rule} {s : Int} {i j : Nat} (h : i ≤ j) : plc n r s i ≤ plc n r s j := by
  unfold plc
  by_cases h1 : n ≤ i
  · rw [if_pos h1, if_pos (show n ≤ j by omega)]
    exact Nat.le_refl _
  · rw [if_neg h1]
    by_cases h2 : n ≤ j
    · rw [if_pos h2]
      split <;> omega
    · rw [if_neg h2]
      exact h
theorem wh_le {l t u t' u' : Int} (h : t * u' ≤ t' * u) : wh l t * pt l u' ≤ wh l t' * pt l u := by
  unfold wh pt
  by_cases hl : l < 0
  · simp only [if_pos hl]
    have := Int.mul_le_mul_of_nonneg_right h (Int.le_of_lt (two_pos (0 - l)))
    have e1 : t * two (0 - l) * u' = t * u' * two (0 - l) := Int.mul_right_comm ..
    have e2 : t' * two (0 - l) * u = t' * u * two (0 - l) := Int.mul_right_comm ..
    omega
  · simp only [if_neg hl]
    have := Int.mul_le_mul_of_nonneg_right h (Int.le_of_lt (two_pos l))
    have e1 : t * (u' * two l) = t * u' * two l := (Int.mul_assoc ..).symm
    have e2 : t' * (u * two l) = t' * u * two l := (Int.mul_assoc ..).symm
    omega
theorem cut_mono {H : Nat} {W P W' P' : Int} {m k m' k' : Nat} (hP : 0 < P) (hP' : 0 < P') (c : Cut H W P m k) (c' : Cut H W' P' m' k') (h : W * P' ≤ W' * P) {r : Rule} {s : Int} :
    m + k * H + stp r s m (cod (W - m * (P * 2 ^ k)) (P * 2 ^ k)) ≤ m' + k' * H + stp r s m' (cod (W' - m' * (P' * 2 ^ k')) (P' * 2 ^ k')) := by
  have h1 : m + k * H ≤ m' + k' * H := by
    have a := (c.le_iff hP (m + k * H)).mpr (Nat.le_refl _)
    refine (c'.le_iff hP' (m + k * H)).mp ?_
    refine Int.le_of_not_gt fun hn => ?_
    have a1 := Int.mul_lt_mul_of_pos_right hn hP
    have a2 := Int.mul_le_mul_of_nonneg_right a (Int.le_of_lt hP')
    have e : (siz H (m + k * H) : Int) * P' * P = (siz H (m + k * H) : Int) * P * P' := Int.mul_right_comm ..
    omega
  have hs : ∀ r s m code, stp r s m code ≤ 1 := fun r s m code => by unfold stp; split <;> omega
  by_cases he : m + k * H < m' + k' * H
  · have := hs r s m (cod (W - m * (P * 2 ^ k)) (P * 2 ^ k))
    omega
  · have he2 : m + k * H = m' + k' * H := by omega
    have hm : m = m' ∧ k = k' := by
      have e1 := mk_at c.lt c.ge
      have e2 := mk_at c'.lt c'.ge
      rw [he2] at e1
      exact ⟨e1.1.symm.trans e2.1, e1.2.symm.trans e2.2⟩
    obtain ⟨rfl, rfl⟩ := hm
    refine Nat.add_le_add_left ?_ _
    have zp : 0 < P * 2 ^ k := Int.mul_pos hP (p2_pos k)
    have zp' : 0 < P' * 2 ^ k := Int.mul_pos hP' (p2_pos k)
    have x0 : 0 ≤ W - m * (P * 2 ^ k) := by have := c.lo; omega
    have x1 : 0 ≤ W' - m * (P' * 2 ^ k) := by have := c'.lo; omega
    have hx : (W - m * (P * 2 ^ k)) * (P' * 2 ^ k) ≤ (W' - m * (P' * 2 ^ k)) * (P * 2 ^ k) := by
      have := Int.mul_le_mul_of_nonneg_right h (Int.le_of_lt (p2_pos k))
      have e1 : (W - m * (P * 2 ^ k)) * (P' * 2 ^ k) = W * P' * 2 ^ k - m * (P * 2 ^ k) * (P' * 2 ^ k) := by grind
      have e2 : (W' - m * (P' * 2 ^ k)) * (P * 2 ^ k) = W' * P * 2 ^ k - m * (P * 2 ^ k) * (P' * 2 ^ k) := by grind
      omega
    have cm := cod_mono x0 x1 zp zp' hx
    unfold stp
    by_cases hu : r.ups s m (cod (W - m * (P * 2 ^ k)) (P * 2 ^ k)) = true
    · rw [if_pos hu, if_pos (ups_mono (cod_rng _ _).1 cm (cod_rng _ _).2 hu)]
      exact Nat.le_refl _
    · rw [if_neg hu]
      exact Nat.zero_le _
theorem key_sg {s : Int} (hs : s = 0 ∨ s = 1) (x : Fl) : keyI (sg s x) = (1 - 2 * s) * keyI x := by
  rcases hs with rfl | rfl
  · unfold sg
    rw [if_neg (by decide)]
    simp
  · unfold sg
    rw [if_pos rfl, key_neg]
    omega
theorem rnd_mono {b l h : Int} (o : okB b l h) (r : Rule) {p q : Int × Int} (hp : 0 < p.2) (hq : 0 < q.2) (hle : p.1 * q.2 ≤ q.1 * p.2) : keyI (rnd b l h r p).1 ≤ keyI (rnd b l h r q).1 := by
  have zero : ∀ {x : Int × Int}, x.1 = 0 → keyI (rnd b l h r x).1 = 0 := fun {x} hx => by
    unfold rnd
    rw [if_pos hx]
    show (1 - 2 * 0) * (0 * _) = (0 : Int)
    simp
  have form : ∀ {x : Int × Int}, 0 < x.2 → x.1 ≠ 0 → ∃ z : Int, 0 ≤ z ∧ keyI (rnd b l h r x).1 = (1 - 2 * sgn x.1) * z := fun {x} h1 h2 => by
    obtain ⟨m, k, small, c, hr⟩ := rnd_at o h1 h2
    rw [hr r]
    exact ⟨_, key_nn o _, key_sg (sgn_01 _) _⟩
  have sgp : ∀ {x : Int}, 0 < x → sgn x = 0 := fun {x} h => by unfold sgn; rw [if_neg (by omega)]
  have sgm : ∀ {x : Int}, x < 0 → sgn x = 1 := fun {x} h => by unfold sgn; rw [if_pos h]
  rcases Int.lt_trichotomy p.1 0 with hp1 | hp1 | hp1
  · rcases Int.lt_trichotomy q.1 0 with hq1 | hq1 | hq1
    · obtain ⟨m, k, small, c, hr⟩ := rnd_at o hp (by omega)
      obtain ⟨m', k', small', c', hr'⟩ := rnd_at o hq (by omega)
      rw [hr r, hr' r, key_sg (sgn_01 _), key_sg (sgn_01 _), sgm hp1, sgm hq1]
      have e1 : absI p.1 = -p.1 := by unfold absI; rw [if_pos hp1]
      have e2 : absI q.1 = -q.1 := by unfold absI; rw [if_pos hq1]
      have hc := cut_mono (pt_pos (l := l) hq) (pt_pos (l := l) hp) c' c (wh_le (by rw [e1, e2, Int.neg_mul, Int.neg_mul]; omega)) (r := r) (s := 1)
      have := key_mono o (plc_mono (n := nN b l h) (r := r) (s := 1) hc)
      omega
    · rw [zero hq1]
      obtain ⟨z, h0, e⟩ := form hp (by omega)
      rw [e, sgm hp1]
      omega
    · obtain ⟨z, h0, e⟩ := form hp (by omega)
      obtain ⟨z', h0', e'⟩ := form hq (by omega)
      rw [e, e', sgm hp1, sgp hq1]
      omega
  · rw [zero hp1]
    have hq1 : 0 ≤ q.1 := by
      rw [hp1, Int.zero_mul] at hle
      refine Int.le_of_not_gt fun hn => ?_
      have := Int.mul_neg_of_neg_of_pos hn hp
      omega
    by_cases hq0 : q.1 = 0
    · rw [zero hq0]
      exact Int.le_refl _
    · obtain ⟨z', h0', e'⟩ := form hq hq0
      rw [e', sgp (by omega)]
      omega
  · have hq1 : 0 < q.1 := by
      have := Int.mul_pos hp1 hq
      refine Int.lt_of_not_ge fun hn => ?_
      have := Int.mul_nonpos_of_nonpos_of_nonneg hn (Int.le_of_lt hp)
      omega
    obtain ⟨m, k, small, c, hr⟩ := rnd_at o hp (by omega)
    obtain ⟨m', k', small', c', hr'⟩ := rnd_at o hq (by omega)
    rw [hr r, hr' r, key_sg (sgn_01 _), key_sg (sgn_01 _), sgp hp1, sgp hq1]
    have e1 : absI p.1 = p.1 := by unfold absI; rw [if_neg (by omega)]
    have e2 : absI q.1 = q.1 := by unfold absI; rw [if_neg (by omega)]
    have hc := cut_mono (pt_pos (l := l) hp) (pt_pos (l := l) hq) c c' (wh_le (by rw [e1, e2]; exact hle)) (r := r) (s := 0)
    have := key_mono o (plc_mono (n := nN b l h) (r := r) (s := 0) hc)
    omega
theorem rnd_less {b l h : Int} (o : okB b l h) (r : Rule) {p q : Int × Int} (hp : 0 < p.2) (hq : 0 < q.2) (hle : p.1 * q.2 ≤ q.1 * p.2) : lessB (rnd b l h r q).1 (rnd b l h r p).1 = false := by
  have := rnd_mono o r hp hq hle
  unfold lessB
  rw [decide_eq_false (show ¬ keyI (rnd b l h r q).1 < keyI (rnd b l h r p).1 by omega)]
  simp
end Fm
/-! The whole root of a number, by halving -/
namespace Fm
open PySem Sw
def bis (N : Int) : Nat → Int × Int → Int × Int
  | 0, p => p
  | k + 1, p => if ((bis N k p).1 + (bis N k p).2) / 2 * (((bis N k p).1 + (bis N k p).2) / 2) ≤ N then (((bis N k p).1 + (bis N k p).2) / 2, (bis N k p).2) else ((bis N k p).1, ((bis N k p).1 + (bis N k p).2) / 2)
theorem bis_inv {N : Int} (h0 : 0 ≤ N) {j : Nat} (hN : N < 2 ^ j * 2 ^ j) : ∀ k, k ≤ j → 0 ≤ (bis N k (0, 2 ^ j)).1 ∧ (bis N k (0, 2 ^ j)).2 - (bis N k (0, 2 ^ j)).1 = 2 ^ (j - k) ∧
    (bis N k (0, 2 ^ j)).1 * (bis N k (0, 2 ^ j)).1 ≤ N ∧ N < (bis N k (0, 2 ^ j)).2 * (bis N k (0, 2 ^ j)).2 ∧ (bis N k (0, 2 ^ j)).2 ≤ 2 ^ j
  | 0, _ => ⟨Int.le_refl _, by simp [bis], by simpa [bis] using h0, hN, Int.le_refl _⟩
  | k + 1, hk => by
    obtain ⟨a1, a2, a3, a4, a5⟩ := bis_inv h0 hN k (by omega)
    have e : (2 : Int) ^ (j - k) = 2 ^ (j - (k + 1)) * 2 := by
      rw [← Int.pow_succ]
      congr 1
      omega
    have p0 : (0 : Int) < 2 ^ (j - (k + 1)) := Int.pow_pos (by decide)
    unfold bis
    generalize bis N k (0, 2 ^ j) = q at *
    have hm : (q.1 + q.2) / 2 = q.1 + 2 ^ (j - (k + 1)) := by omega
    by_cases c : (q.1 + q.2) / 2 * ((q.1 + q.2) / 2) ≤ N
    · rw [if_pos c]
      exact ⟨by simp only; omega, by simp only; omega, c, a4, a5⟩
    · rw [if_neg c]
      exact ⟨a1, by simp only; omega, a3, by simp only; omega, by simp only; omega⟩
/-- the greatest number whose square is no more -/
def IsRt (N w : Int) : Prop := 0 ≤ w ∧ w * w ≤ N ∧ N < (w + 1) * (w + 1)
theorem isRt_uniq {N w v : Int} (h : IsRt N w) (k : IsRt N v) : w = v := by
  obtain ⟨h1, h2, h3⟩ := h
  obtain ⟨k1, k2, k3⟩ := k
  have a1 : w < v + 1 := by
    refine Int.lt_of_not_ge fun hn => ?_
    have := Int.mul_le_mul hn hn (by omega) h1
    omega
  have a2 : v < w + 1 := by
    refine Int.lt_of_not_ge fun hn => ?_
    have := Int.mul_le_mul hn hn (by omega) k1
    omega
  omega
theorem rt_ex {N : Int} (h0 : 0 ≤ N) : ∃ w, IsRt N w := by
  have hj : N < 2 ^ N.natAbs * 2 ^ N.natAbs := by
    have h1 : N.natAbs < 2 ^ N.natAbs := Nat.lt_two_pow_self
    have h2 : ((2 ^ N.natAbs : Nat) : Int) = 2 ^ N.natAbs := by norm_cast
    have h3 : (N.natAbs : Int) < ((2 ^ N.natAbs : Nat) : Int) := by exact_mod_cast h1
    rw [h2] at h3
    have h4 : (2 : Int) ^ N.natAbs * 1 ≤ 2 ^ N.natAbs * 2 ^ N.natAbs := Int.mul_le_mul_of_nonneg_left (by omega) (by omega)
    omega
  obtain ⟨a1, a2, a3, a4, a5⟩ := bis_inv h0 hj N.natAbs (Nat.le_refl _)
  rw [Nat.sub_self] at a2
  have e : (bis N N.natAbs (0, 2 ^ N.natAbs)).2 = (bis N N.natAbs (0, 2 ^ N.natAbs)).1 + 1 := by omega
  exact ⟨_, a1, a3, by rw [← e]; exact a4⟩
noncomputable def frt (N : Int) : Int := open Classical in if h : ∃ w, IsRt N w then Classical.choose h else 0
theorem frt_is {N : Int} (h0 : 0 ≤ N) : IsRt N (frt N) := by
  unfold frt
  rw [dif_pos (rt_ex h0)]
  exact Classical.choose_spec (rt_ex h0)
/-- what is rounded for a root: the root itself, or what lies by it -/
noncomputable def rtQ (p : Int × Int) : Int × Int :=
  if frt (p.1 * two 40 * two 40 / p.2) * frt (p.1 * two 40 * two 40 / p.2) * p.2 = p.1 * two 40 * two 40 then fra (frt (p.1 * two 40 * two 40 / p.2)) (two 40) else fra (2 * frt (p.1 * two 40 * two 40 / p.2) + 1) (2 * two 40)
noncomputable def rootF (b l h : Int) (r : Rule) : Fl → Fl × List Str
  | .num s m e => if m = 0 then (.num s m e, []) else if s = 1 then (.nan, ["wrong"]) else rnd b l h r (rtQ (vF (.num s m e)))
  | .inf s => if s = 0 then (.inf s, []) else (.nan, ["wrong"])
  | .nan => (.nan, [])
end Fm
namespace Fm
open PySem Sw
/-! ### the deeds, plainly -/
def plusQ (p q : Int × Int) : Int × Int := fra (p.1 * q.2 + q.1 * p.2) (p.2 * q.2)
def timesQ (p q : Int × Int) : Int × Int := fra (p.1 * q.1) (p.2 * q.2)
def Fl.isZ : Fl → Bool
  | .num _ m _ => decide (m = 0)
  | _ => false
def Fl.sg : Fl → Int
  | .num s _ _ => s
  | .inf s => s
  | .nan => 0
def wrongF : Fl × List Str := (.nan, ["wrong"])
def zeroF (l : Int) (r : Rule) : Fl × List Str := (.num (if r = .down then 1 else 0) 0 l, [])
noncomputable def rndZ (b l h : Int) (r : Rule) (q : Int × Int) : Fl × List Str := if q.1 = 0 then zeroF l r else rnd b l h r q
noncomputable def plusF (b l h : Int) (r : Rule) : Fl → Fl → Fl × List Str
  | .inf s, .inf t => if s = t then (.inf s, []) else wrongF
  | .inf s, _ => (.inf s, [])
  | _, .inf s => (.inf s, [])
  | .num s m e, .num t k f => if m = 0 ∧ k = 0 ∧ s = t then (.num s m e, []) else rndZ b l h r (plusQ (vF (.num s m e)) (vF (.num t k f)))
  | _, _ => (.nan, [])
noncomputable def timesF (b l h : Int) (r : Rule) : Fl → Fl → Fl × List Str
  | .num s m e, .num t k f => if m = 0 ∨ k = 0 then (.num ((s + t) % 2) 0 l, []) else rnd b l h r (timesQ (vF (.num s m e)) (vF (.num t k f)))
  | x, y => if x.isZ = true ∨ y.isZ = true then wrongF else (.inf ((x.sg + y.sg) % 2), [])
noncomputable def overF (b l h : Int) (r : Rule) : Fl → Fl → Fl × List Str
  | .inf s, .inf t => wrongF
  | .inf s, y => (.inf ((s + y.sg) % 2), [])
  | x, .inf t => (.num ((x.sg + t) % 2) 0 l, [])
  | .num s m e, .num t k f => if k = 0 then (if m = 0 then wrongF else (.inf ((s + t) % 2), ["nought"])) else if m = 0 then (.num ((s + t) % 2) 0 l, [])
      else rnd b l h r (timesQ (vF (.num s m e)) (fra (vF (.num t k f)).2 (vF (.num t k f)).1))
  | _, _ => (.nan, [])
noncomputable def fusedF (b l h : Int) (r : Rule) (x y z : Fl) : Fl × List Str := match x, y with
  | .num s m e, .num t k f => (match z with
    | .inf u => (.inf u, [])
    | _ => if m = 0 ∨ k = 0 then plusF b l h r (.num ((s + t) % 2) 0 l) z else rndZ b l h r (plusQ (timesQ (vF (.num s m e)) (vF (.num t k f))) (vF z)))
  | _, _ => (match timesF b l h r x y with
    | (.nan, w) => (.nan, w)
    | (w, _) => plusF b l h r w z)
theorem plusF_nn (b l h : Int) (r : Rule) (s m e t k f : Int) : plusF b l h r (.num s m e) (.num t k f) = if m = 0 ∧ k = 0 ∧ s = t then (.num s m e, []) else rndZ b l h r (plusQ (vF (.num s m e)) (vF (.num t k f))) := rfl
theorem timesF_nn (b l h : Int) (r : Rule) (s m e t k f : Int) : timesF b l h r (.num s m e) (.num t k f) = if m = 0 ∨ k = 0 then (.num ((s + t) % 2) 0 l, []) else rnd b l h r (timesQ (vF (.num s m e)) (vF (.num t k f))) := rfl
theorem timesF_ii (b l h : Int) (r : Rule) (s t : Int) : timesF b l h r (.inf s) (.inf t) = (.inf ((s + t) % 2), []) := rfl
theorem timesF_in (b l h : Int) (r : Rule) (s t k f : Int) : timesF b l h r (.inf s) (.num t k f) = if k = 0 then wrongF else (.inf ((s + t) % 2), []) := by
  by_cases hk : k = 0 <;> simp [timesF, Fl.isZ, Fl.sg, hk]
theorem timesF_ni (b l h : Int) (r : Rule) (s t k f : Int) : timesF b l h r (.num t k f) (.inf s) = if k = 0 then wrongF else (.inf ((t + s) % 2), []) := by
  by_cases hk : k = 0 <;> simp [timesF, Fl.isZ, Fl.sg, hk]
theorem overF_nn (b l h : Int) (r : Rule) (s m e t k f : Int) : overF b l h r (.num s m e) (.num t k f) = if k = 0 then (if m = 0 then wrongF else (.inf ((s + t) % 2), ["nought"])) else if m = 0 then (.num ((s + t) % 2) 0 l, [])
      else rnd b l h r (timesQ (vF (.num s m e)) (fra (vF (.num t k f)).2 (vF (.num t k f)).1)) := rfl
theorem overF_ii (b l h : Int) (r : Rule) (s t : Int) : overF b l h r (.inf s) (.inf t) = wrongF := rfl
theorem overF_in (b l h : Int) (r : Rule) (s t k f : Int) : overF b l h r (.inf s) (.num t k f) = (.inf ((s + t) % 2), []) := rfl
theorem overF_ni (b l h : Int) (r : Rule) (s t k f : Int) : overF b l h r (.num t k f) (.inf s) = (.num ((t + s) % 2) 0 l, []) := rfl
theorem fusedF_nn (b l h : Int) (r : Rule) (s m e t k f u v g : Int) : fusedF b l h r (.num s m e) (.num t k f) (.num u v g) = if m = 0 ∨ k = 0 then plusF b l h r (.num ((s + t) % 2) 0 l) (.num u v g) else rndZ b l h r (plusQ (timesQ (vF (.num s m e)) (vF (.num t k f))) (vF (.num u v g))) := rfl
end Fm
/-! The deeds hang together -/
namespace Fm
open PySem Sw
theorem plusQ_comm (p q : Int × Int) : plusQ p q = plusQ q p := by
  unfold plusQ
  rw [Int.add_comm, Int.mul_comm p.2]
theorem timesQ_comm (p q : Int × Int) : timesQ p q = timesQ q p := by
  unfold timesQ
  rw [Int.mul_comm, Int.mul_comm p.2]
theorem zero_e {b l h : Int} {s e : Int} (hx : (Fl.num s 0 e).ok b l h) : e = l := by
  have h1 := hx.2.2.1
  refine Decidable.byContradiction fun c => ?_
  rw [if_neg c] at h1
  have := two_pos (b - 1)
  omega
theorem plusF_comm {b l h : Int} (r : Rule) {x y : Fl} (hx : x.ok b l h) (hy : y.ok b l h) : plusF b l h r x y = plusF b l h r y x := by
  cases x with
  | nan => cases y <;> rfl
  | inf s =>
    cases y with
    | nan => rfl
    | inf t =>
      show (if s = t then ((.inf s, []) : Fl × List Str) else wrongF) = if t = s then (.inf t, []) else wrongF
      by_cases c : s = t
      · subst c; rfl
      · rw [if_neg c, if_neg fun z => c z.symm]
    | num t k f => rfl
  | num s m e =>
    cases y with
    | nan => rfl
    | inf t => rfl
    | num t k f =>
      rw [plusF_nn, plusF_nn, plusQ_comm]
      by_cases c : m = 0 ∧ k = 0 ∧ s = t
      · obtain ⟨rfl, rfl, rfl⟩ := c
        rw [if_pos ⟨rfl, rfl, rfl⟩, if_pos ⟨rfl, rfl, rfl⟩, zero_e hx, zero_e hy]
      · rw [if_neg c, if_neg fun z => c ⟨z.2.1, z.1, z.2.2.symm⟩]
theorem timesF_comm {b l h : Int} (r : Rule) (x y : Fl) : timesF b l h r x y = timesF b l h r y x := by
  cases x with
  | nan => cases y <;> simp [timesF, Fl.isZ, Fl.sg, Int.add_comm, or_comm]
  | inf s =>
    cases y with
    | nan => simp [timesF, Fl.isZ, Fl.sg]
    | inf t => rw [timesF_ii, timesF_ii, Int.add_comm]
    | num t k f => rw [timesF_in, timesF_ni, Int.add_comm]
  | num s m e =>
    cases y with
    | nan => simp [timesF, Fl.isZ, Fl.sg]
    | inf t => rw [timesF_in, timesF_ni, Int.add_comm]
    | num t k f =>
      rw [timesF_nn, timesF_nn, timesQ_comm, Int.add_comm]
      by_cases c : m = 0 ∨ k = 0
      · rw [if_pos c, if_pos c.symm]
      · rw [if_neg c, if_neg fun z => c z.symm]
theorem vF_neg {b l h : Int} (o : okB b l h) {s m e : Int} (hx : (Fl.num s m e).ok b l h) : vF (.num (1 - s) m e) = (0 - (vF (.num s m e)).1, (vF (.num s m e)).2) := by
  rcases hx.1 with rfl | rfl
  · rfl
  · show vF (.num (1 - 1) m e) = _
    have e1 : (1 : Int) - 1 = 0 := rfl
    rw [e1, vF0, vF1]
    have e2 : 0 - (0 - (sca m e).1) = (sca m e).1 := by omega
    simp only [e2]
theorem fra_neg {a c : Int} (hc : 0 < c) : fra (0 - a) c = (0 - (fra a c).1, (fra a c).2) := by
  unfold fra
  have g : Int.gcd (0 - a) c = Int.gcd a c := by rw [Int.zero_sub, Int.neg_gcd]
  rw [if_pos hc, if_pos hc, g]
  have d : (0 - a) / (Int.gcd a c : Int) = 0 - a / (Int.gcd a c : Int) := by rw [Int.zero_sub, Int.neg_ediv_of_dvd (Int.gcd_dvd_left ..), Int.zero_sub]
  rw [d]
theorem plusQ_neg {p q : Int × Int} (hp : 0 < p.2) (hq : 0 < q.2) : plusQ (0 - p.1, p.2) (0 - q.1, q.2) = (0 - (plusQ p q).1, (plusQ p q).2) := by
  have e : (0 - p.1) * q.2 + (0 - q.1) * p.2 = 0 - (p.1 * q.2 + q.1 * p.2) := by grind
  unfold plusQ
  simp only [e]
  exact fra_neg (Int.mul_pos hp hq)
theorem timesQ_neg {p q : Int × Int} (hp : 0 < p.2) (hq : 0 < q.2) : timesQ (0 - p.1, p.2) q = (0 - (timesQ p q).1, (timesQ p q).2) := by
  have e : (0 - p.1) * q.1 = 0 - p.1 * q.1 := by grind
  unfold timesQ
  simp only [e]
  exact fra_neg (Int.mul_pos hp hq)
theorem plusF_turn {b l h : Int} (o : okB b l h) (r : Rule) {x y : Fl} (hx : x.ok b l h) (hy : y.ok b l h) (nx : x ≠ .nan) (ny : y ≠ .nan) (nz : (plusF b l h r x y).1.isZ = false) : plusF b l h r.swap x.neg y.neg = ((plusF b l h r x y).1.neg, (plusF b l h r x y).2) := by
  cases x with
  | nan => exact absurd rfl nx
  | inf s =>
    cases y with
    | nan => exact absurd rfl ny
    | inf t =>
      show (if 1 - s = 1 - t then ((.inf (1 - s), []) : Fl × List Str) else wrongF) = ((if s = t then ((.inf s, []) : Fl × List Str) else wrongF).1.neg, (if s = t then ((.inf s, []) : Fl × List Str) else wrongF).2)
      by_cases c : s = t
      · subst c
        rw [if_pos rfl, if_pos rfl]
        rfl
      · rw [if_neg c, if_neg (by omega)]
        rfl
    | num t k f => rfl
  | num s m e =>
    cases y with
    | nan => exact absurd rfl ny
    | inf t => rfl
    | num t k f =>
      have p1 := (vF_ok o hx).1
      have q1 := (vF_ok o hy).1
      show plusF b l h r.swap (.num (1 - s) m e) (.num (1 - t) k f) = _
      rw [plusF_nn] at nz ⊢
      rw [plusF_nn, vF_neg o hx, vF_neg o hy, plusQ_neg p1 q1]
      by_cases c : m = 0 ∧ k = 0 ∧ s = t
      · rw [if_pos c] at nz
        obtain ⟨rfl, _, _⟩ := c
        simp [Fl.isZ] at nz
      · rw [if_neg c] at nz
        rw [if_neg c, if_neg (by omega)]
        generalize plusQ (vF (.num s m e)) (vF (.num t k f)) = q at *
        unfold rndZ at nz ⊢
        by_cases hq : q.1 = 0
        · rw [if_pos hq] at nz
          simp [zeroF, Fl.isZ] at nz
        · rw [if_neg hq, if_neg (show ¬ (0 - q.1 = 0) by omega)]
          exact rnd_neg b l h r hq
theorem timesQ_ne {b l h : Int} (o : okB b l h) {s m e t k f : Int} (hx : (Fl.num s m e).ok b l h) (hy : (Fl.num t k f).ok b l h) (hm : m ≠ 0) (hk : k ≠ 0) : (timesQ (vF (.num s m e)) (vF (.num t k f))).1 ≠ 0 := by
  have ne : ∀ {s m e : Int}, (Fl.num s m e).ok b l h → m ≠ 0 → (vF (.num s m e)).1 ≠ 0 := fun {s m e} hx hm => by
    obtain ⟨g0, g1, g2, g3, gs⟩ := num_rng o hx
    have := sca_pos (m := m) (e := e) (by omega) g1 g2 g3
    rcases gs with rfl | rfl
    · rw [vF0]; omega
    · rw [vF1]; simp only; omega
  have a := ne hx hm
  have c := ne hy hk
  have p1 := (vF_ok o hx).1
  have q1 := (vF_ok o hy).1
  obtain ⟨b1, b2, b3, b4⟩ := fra_val (a := (vF (.num s m e)).1 * (vF (.num t k f)).1) (Int.mul_pos p1 q1)
  intro z
  have z2 : (fra ((vF (.num s m e)).1 * (vF (.num t k f)).1) ((vF (.num s m e)).2 * (vF (.num t k f)).2)).1 = 0 := z
  rw [z2, Int.zero_mul] at b4
  have := Int.mul_ne_zero (Int.mul_ne_zero a c) (show (fra ((vF (.num s m e)).1 * (vF (.num t k f)).1) ((vF (.num s m e)).2 * (vF (.num t k f)).2)).2 ≠ 0 by omega)
  exact this b4.symm
theorem timesF_turn {b l h : Int} (o : okB b l h) (r : Rule) {x y : Fl} (hx : x.ok b l h) (hy : y.ok b l h) (nx : x ≠ .nan) (ny : y ≠ .nan) : timesF b l h r.swap x.neg y = ((timesF b l h r x y).1.neg, (timesF b l h r x y).2) := by
  have par : ∀ {s t : Int}, (s = 0 ∨ s = 1) → (t = 0 ∨ t = 1) → (1 - s + t) % 2 = 1 - (s + t) % 2 := fun {s t} h1 h2 => by omega
  cases x with
  | nan => exact absurd rfl nx
  | inf s =>
    cases y with
    | nan => exact absurd rfl ny
    | inf t =>
      show timesF b l h r.swap (.inf (1 - s)) (.inf t) = _
      rw [timesF_ii, timesF_ii, par hx hy]
      rfl
    | num t k f =>
      show timesF b l h r.swap (.inf (1 - s)) (.num t k f) = _
      rw [timesF_in, timesF_in, par hx hy.1]
      by_cases c : k = 0
      · rw [if_pos c, if_pos c]; rfl
      · rw [if_neg c, if_neg c]; rfl
  | num s m e =>
    cases y with
    | nan => exact absurd rfl ny
    | inf t =>
      show timesF b l h r.swap (.num (1 - s) m e) (.inf t) = _
      rw [timesF_ni, timesF_ni, par hx.1 hy]
      by_cases c : m = 0
      · rw [if_pos c, if_pos c]; rfl
      · rw [if_neg c, if_neg c]; rfl
    | num t k f =>
      have p1 := (vF_ok o hx).1
      have q1 := (vF_ok o hy).1
      show timesF b l h r.swap (.num (1 - s) m e) (.num t k f) = _
      rw [timesF_nn, timesF_nn, par hx.1 hy.1, vF_neg o hx, timesQ_neg p1 q1]
      by_cases c : m = 0 ∨ k = 0
      · rw [if_pos c, if_pos c]; rfl
      · have hq := timesQ_ne o hx hy (fun z => c (.inl z)) (fun z => c (.inr z))
        rw [if_neg c, if_neg c]
        exact rnd_neg b l h r hq
end Fm
/-! A unit, a zero, the order, what is exact -/
namespace Fm
open PySem Sw
theorem fra_low_eq {p : Int × Int} (hp : 0 < p.2) (hg : Int.gcd p.1 p.2 = 1) : fra p.1 p.2 = p := by
  unfold fra
  rw [if_pos hp, hg]
  simp
theorem timesQ_one {p : Int × Int} (hp : 0 < p.2) (hg : Int.gcd p.1 p.2 = 1) : timesQ p (1, 1) = p := by
  unfold timesQ
  simp only [Int.mul_one]
  exact fra_low_eq hp hg
theorem plusQ_zero {p : Int × Int} (hp : 0 < p.2) (hg : Int.gcd p.1 p.2 = 1) : plusQ p (0, 1) = p := by
  unfold plusQ
  simp only [Int.mul_one, Int.zero_mul, Int.add_zero]
  exact fra_low_eq hp hg
/-- the unit: worth 1 -/
theorem unit_worth {b l h : Int} (o : okB b l h) : vF (.num 0 (two (b - 1)) (1 - b)) = (1, 1) := by
  rw [vF0]
  unfold sca
  have hb := o.1
  rw [if_neg (by omega)]
  have e : (0 : Int) - (1 - b) = b - 1 := by omega
  rw [e]
  have p := two_pos (b - 1)
  unfold fra
  rw [if_pos p]
  have g : ((Int.gcd (two (b - 1)) (two (b - 1)) : Nat) : Int) = two (b - 1) := by
    rw [Int.gcd_self]
    omega
  rw [g, Int.ediv_self (by omega)]
theorem zero_worth {b l h : Int} (o : okB b l h) {s : Int} (hs : s = 0 ∨ s = 1) : vF (.num s 0 l) = (0, 1) := by
  have hok : (Fl.num s 0 l).ok b l h := ⟨hs, ⟨Int.le_refl _, o.2.2.2.1⟩, by rw [if_pos rfl]; exact Int.le_refl _, by have := two_pos (b - 1); omega⟩
  have V := vF_ok o hok
  have z : (vF (.num s 0 l)).1 = 0 := by
    obtain ⟨a1, a2, a3, a4, a5, a6⟩ := sca_key2 (m := 0) (e := l) (by decide) (by decide) o.2.2.1 (by have := o.2.2.2; omega)
    have t20 := two_pos 20
    have : (sca 0 l).1 * two 20 = 0 := by rw [a4]; simp
    have h1 : (sca 0 l).1 = 0 := by
      rcases Int.mul_eq_zero.mp this with z | z
      · exact z
      · omega
    rcases hs with rfl | rfl
    · rw [vF0]; exact h1
    · rw [vF1]; simp only; omega
  refine fra_uniq V.1 (by decide) V.2.2.2 (by decide) ?_
  simp only
  rw [z]
  omega
theorem fused_unit {b l h : Int} (o : okB b l h) (r : Rule) {x z : Fl} (hx : x.ok b l h) (nx : x ≠ .nan) (nz : z ≠ .nan) (hz : z.ok b l h) : fusedF b l h r x (.num 0 (two (b - 1)) (1 - b)) z = plusF b l h r x z := by
  have t0 : ¬ two (b - 1) = 0 := by have := two_pos (b - 1); omega
  cases x with
  | nan => exact absurd rfl nx
  | inf s =>
    have e : (s + 0) % 2 = s := by rcases (show s = 0 ∨ s = 1 from hx) with rfl | rfl <;> rfl
    show (match timesF b l h r (.inf s) (.num 0 (two (b - 1)) (1 - b)) with
      | (Fl.nan, w) => ((Fl.nan, w) : Fl × List Str)
      | (w, _) => plusF b l h r w z) = _
    rw [timesF_in, if_neg t0, e]
  | num s m e =>
    cases z with
    | nan => exact absurd rfl nz
    | inf u => rfl
    | num u v g =>
      rw [fusedF_nn, unit_worth o]
      have V := vF_ok o hx
      by_cases hm : m = 0
      · subst hm
        have e1 : (s + 0) % 2 = s := by rcases hx.1 with rfl | rfl <;> rfl
        rw [if_pos (.inl rfl), e1, zero_e hx]
      · rw [if_neg (by rintro (q | q); exact hm q; exact t0 q), timesQ_one V.1 V.2.2.2, plusF_nn, if_neg fun q => hm q.1]
theorem over_unit {b l h : Int} (o : okB b l h) (r : Rule) {x : Fl} (hx : x.ok b l h) (nx : x ≠ .nan) : overF b l h r x (.num 0 (two (b - 1)) (1 - b)) = timesF b l h r x (.num 0 (two (b - 1)) (1 - b)) := by
  have t0 : ¬ two (b - 1) = 0 := by have := two_pos (b - 1); omega
  cases x with
  | nan => exact absurd rfl nx
  | inf s => rw [overF_in, timesF_in, if_neg t0]
  | num s m e =>
    rw [overF_nn, timesF_nn, if_neg t0, unit_worth o]
    by_cases hm : m = 0
    · rw [if_pos hm, if_pos (.inl hm)]
    · rw [if_neg hm, if_neg (by rintro (q | q); exact hm q; exact t0 q)]
      rfl
theorem timesQ_low {p q : Int × Int} (hp : 0 < p.2) (hq : 0 < q.2) : 0 < (timesQ p q).2 ∧ Int.gcd (timesQ p q).1 (timesQ p q).2 = 1 := ⟨(fra_val (Int.mul_pos hp hq)).1, fra_low (Int.mul_pos hp hq)⟩
/-- a product and nothing more: the product, where that isn't 0 -/
theorem fused_zero {b l h : Int} (o : okB b l h) (r : Rule) {x y : Fl} (hx : x.ok b l h) (hy : y.ok b l h) (nx : x ≠ .nan) (ny : y ≠ .nan) {u : Int} (hu : u = 0 ∨ u = 1) (nz : (timesF b l h r x y).1.isZ = false) : fusedF b l h r x y (.num u 0 l) = timesF b l h r x y := by
  have inf_case : ∀ (w : Fl × List Str), w = wrongF ∨ (∃ v, w = (.inf v, [])) → (match w with
      | (Fl.nan, w) => ((Fl.nan, w) : Fl × List Str)
      | (w, _) => plusF b l h r w (.num u 0 l)) = w := fun w hw => by
    rcases hw with rfl | ⟨v, rfl⟩
    · rfl
    · rfl
  cases x with
  | nan => exact absurd rfl nx
  | inf s =>
    refine inf_case _ ?_
    cases y with
    | nan => exact absurd rfl ny
    | inf t => exact .inr ⟨_, timesF_ii b l h r s t⟩
    | num t k f =>
      rw [timesF_in]
      by_cases c : k = 0
      · rw [if_pos c]; exact .inl rfl
      · rw [if_neg c]; exact .inr ⟨_, rfl⟩
  | num s m e =>
    cases y with
    | nan => exact absurd rfl ny
    | inf t =>
      refine inf_case _ ?_
      rw [timesF_ni]
      by_cases c : m = 0
      · rw [if_pos c]; exact .inl rfl
      · rw [if_neg c]; exact .inr ⟨_, rfl⟩
    | num t k f =>
      rw [timesF_nn] at nz
      rw [fusedF_nn, timesF_nn]
      by_cases c : m = 0 ∨ k = 0
      · rw [if_pos c] at nz
        simp [Fl.isZ] at nz
      · rw [if_neg c] at nz
        rw [if_neg c, if_neg c, zero_worth o hu]
        have hq := timesQ_ne o hx hy (fun z => c (.inl z)) (fun z => c (.inr z))
        have L := timesQ_low (vF_ok o hx).1 (vF_ok o hy).1
        rw [plusQ_zero L.1 L.2]
        unfold rndZ
        rw [if_neg hq]
end Fm
/-! Sums in order; what is exact comes back -/
namespace Fm
open PySem Sw
theorem vF_key {b l h : Int} (o : okB b l h) {s m e : Int} (hx : (Fl.num s m e).ok b l h) : (vF (.num s m e)).1 * two 20 = keyI (.num s m e) * (vF (.num s m e)).2 := by
  obtain ⟨g0, g1, g2, g3, gs⟩ := num_rng o hx
  obtain ⟨a1, a2, a3, a4, a5, a6⟩ := sca_key2 (m := m) (e := e) g0 (by omega) g2 g3
  exact (neg_key gs ⟨a1, a2, a3, a4⟩).2.2.2
theorem fra_le {a c a' c' : Int} (hc : 0 < c) (hc' : 0 < c') (hle : a * c' ≤ a' * c) : (fra a c).1 * (fra a' c').2 ≤ (fra a' c').1 * (fra a c).2 := by
  obtain ⟨p1, p2, p3, p4⟩ := fra_val (a := a) hc
  obtain ⟨q1, q2, q3, q4⟩ := fra_val (a := a') hc'
  generalize fra a c = P at *
  generalize fra a' c' = Q at *
  have hcc : 0 < c * c' := Int.mul_pos hc hc'
  refine Int.le_of_mul_le_mul_right (a := c * c') ?_ hcc
  have e1 : P.1 * Q.2 * (c * c') = (a * c') * (P.2 * Q.2) := by
    have : P.1 * Q.2 * (c * c') = (P.1 * c) * (Q.2 * c') := by grind
    rw [this, p4]
    grind
  have e2 : Q.1 * P.2 * (c * c') = (a' * c) * (P.2 * Q.2) := by
    have : Q.1 * P.2 * (c * c') = (Q.1 * c') * (P.2 * c) := by grind
    rw [this, q4]
    grind
  rw [e1, e2]
  exact Int.mul_le_mul_of_nonneg_right hle (Int.le_of_lt (Int.mul_pos p1 q1))
theorem plusQ_le {p q z : Int × Int} (hp : 0 < p.2) (hq : 0 < q.2) (hz : 0 < z.2) (hle : p.1 * q.2 ≤ q.1 * p.2) : (plusQ p z).1 * (plusQ q z).2 ≤ (plusQ q z).1 * (plusQ p z).2 := by
  unfold plusQ
  refine fra_le (Int.mul_pos hp hz) (Int.mul_pos hq hz) ?_
  have h1 := Int.mul_le_mul_of_nonneg_right hle (Int.le_of_lt (Int.mul_pos hz hz))
  have e1 : (p.1 * z.2 + z.1 * p.2) * (q.2 * z.2) = p.1 * q.2 * (z.2 * z.2) + z.1 * z.2 * p.2 * q.2 := by grind
  have e2 : (q.1 * z.2 + z.1 * q.2) * (p.2 * z.2) = q.1 * p.2 * (z.2 * z.2) + z.1 * z.2 * p.2 * q.2 := by grind
  omega
theorem key_rnd {b l h : Int} (o : okB b l h) (r : Rule) {p : Int × Int} (hp : 0 < p.2) : (-(two 80) ≤ keyI (rnd b l h r p).1 ∧ keyI (rnd b l h r p).1 ≤ two 80) ∧ (p.1 = 0 → keyI (rnd b l h r p).1 = 0) := by
  have t80 := two_pos 80
  by_cases h0 : p.1 = 0
  · have z : keyI (rnd b l h r p).1 = 0 := by
      unfold rnd
      rw [if_pos h0]
      show (1 - 2 * 0) * (0 * _) = (0 : Int)
      simp
    rw [z]
    exact ⟨⟨by omega, by omega⟩, fun _ => rfl⟩
  · obtain ⟨m, k, small, c, hr⟩ := rnd_at o hp h0
    have hs := sgn_01 p.1
    have top : ∀ i, keyI (pA b l h i) ≤ two 80 := fun i => by
      have h1 := key_mono o (Nat.le_max_left i (nN b l h))
      rw [key_pA o (max i (nN b l h)), if_neg (by omega)] at h1
      exact h1
    have nn : ∀ i, 0 ≤ keyI (pA b l h i) := fun i => key_nn o i
    refine ⟨?_, fun z => absurd z h0⟩
    rw [hr r, key_sg hs]
    have h1 := top (plc (nN b l h) r (sgn p.1) (m + k * hf b + stp r (sgn p.1) m (cod (wh l (absI p.1) - m * (pt l p.2 * 2 ^ k)) (pt l p.2 * 2 ^ k))))
    have h2 := nn (plc (nN b l h) r (sgn p.1) (m + k * hf b + stp r (sgn p.1) m (cod (wh l (absI p.1) - m * (pt l p.2 * 2 ^ k)) (pt l p.2 * 2 ^ k))))
    rcases hs with e | e <;> rw [e] at h1 h2 ⊢ <;> constructor <;> omega
theorem key_plus {b l h : Int} (o : okB b l h) (r : Rule) {s m e u v g : Int} (hx : (Fl.num s m e).ok b l h) (hz : (Fl.num u v g).ok b l h) : keyI (plusF b l h r (.num s m e) (.num u v g)).1 = keyI (rnd b l h r (plusQ (vF (.num s m e)) (vF (.num u v g)))).1 := by
  have p1 := (vF_ok o hx).1
  have q1 := (vF_ok o hz).1
  have pq : 0 < (plusQ (vF (.num s m e)) (vF (.num u v g))).2 := (fra_val (Int.mul_pos p1 q1)).1
  have kz := (key_rnd o r pq).2
  rw [plusF_nn]
  by_cases c : m = 0 ∧ v = 0 ∧ s = u
  · obtain ⟨rfl, rfl, rfl⟩ := c
    rw [if_pos ⟨rfl, rfl, rfl⟩]
    have hz0 : (plusQ (vF (.num s 0 e)) (vF (.num s 0 g))).1 = 0 := by
      rw [zero_e hx, zero_e hz, zero_worth o hx.1]
      rfl
    rw [kz hz0]
    show (1 - 2 * s) * (0 * _) = (0 : Int)
    simp
  · rw [if_neg c]
    unfold rndZ
    by_cases hq : (plusQ (vF (.num s m e)) (vF (.num u v g))).1 = 0
    · rw [if_pos hq, kz hq]
      show (1 - 2 * _) * (0 * _) = (0 : Int)
      simp
    · rw [if_neg hq]
theorem less_no {x y : Fl} (h : x ≠ .nan → y ≠ .nan → keyI y ≤ keyI x) : lessB x y = false := by
  unfold lessB
  by_cases hx : x = .nan
  · simp [hx]
  · by_cases hy : y = .nan
    · simp [hy]
    · rw [decide_eq_false (show ¬ keyI x < keyI y from Int.not_lt.mpr (h hx hy))]
      simp
theorem plusF_mono {b l h : Int} (o : okB b l h) (r : Rule) {x y z : Fl} (hx : x.ok b l h) (hy : y.ok b l h) (hz : z.ok b l h) (nx : x ≠ .nan) (ny : y ≠ .nan) (nz : z ≠ .nan) (hlt : keyI x < keyI y) :
    lessB (plusF b l h r y z).1 (plusF b l h r x z).1 = false := by
  have t80 : two 80 = 2 ^ 80 := rfl
  have t40 : two 40 = 2 ^ 40 := rfl
  have small : ∀ {s m e : Int}, (Fl.num s m e).ok b l h → -(2 ^ 60) ≤ keyI (.num s m e) ∧ keyI (.num s m e) ≤ 2 ^ 60 := fun {s m e} hx => by
    obtain ⟨g0, g1, g2, g3, gs⟩ := num_rng o hx
    have h1 := two_le (p := e + 20) (q := 40) (by omega)
    have h2 := two_pos (e + 20)
    have h3 : m * two (e + 20) ≤ 255 * 2 ^ 40 := Int.mul_le_mul g1 (by omega) (by omega) (by decide)
    have h4 : 0 ≤ m * two (e + 20) := Int.mul_nonneg g0 (by omega)
    show -(2 ^ 60) ≤ (1 - 2 * s) * (m * two (e + 20)) ∧ (1 - 2 * s) * (m * two (e + 20)) ≤ 2 ^ 60
    rcases gs with rfl | rfl <;> constructor <;> omega
  cases z with
  | nan => exact absurd rfl nz
  | inf u =>
    have one : ∀ {x : Fl}, x ≠ .nan → (plusF b l h r x (.inf u)).1 = .inf u ∨ (plusF b l h r x (.inf u)).1 = .nan := fun {x} nx => by
      cases x with
      | nan => exact absurd rfl nx
      | inf s =>
        show (if s = u then ((.inf s, []) : Fl × List Str) else wrongF).1 = _ ∨ (if s = u then ((.inf s, []) : Fl × List Str) else wrongF).1 = _
        by_cases c : s = u
        · rw [if_pos c, c]; exact .inl rfl
        · rw [if_neg c]; exact .inr rfl
      | num s m e => exact .inl rfl
    refine less_no fun h1 h2 => ?_
    rw [(one nx).resolve_right h2, (one ny).resolve_right h1]
    exact Int.le_refl _
  | num u v g =>
    refine less_no fun h1 h2 => ?_
    cases x with
    | nan => exact absurd rfl nx
    | inf s =>
      cases y with
      | nan => exact absurd rfl ny
      | inf t => exact Int.le_of_lt hlt
      | num t k f =>
        have hb := small hy
        have hs : s = 1 := by
          rcases (show s = 0 ∨ s = 1 from hx) with rfl | rfl
          · have : keyI (.inf 0) = (1 - 2 * 0) * two 80 := rfl
            omega
          · rfl
        subst hs
        have K := (key_rnd o r (p := plusQ (vF (.num t k f)) (vF (.num u v g))) (fra_val (Int.mul_pos (vF_ok o hy).1 (vF_ok o hz).1)).1).1.1
        rw [key_plus o r hy hz]
        show (1 - 2 * 1) * two 80 ≤ _
        omega
    | num s m e =>
      cases y with
      | nan => exact absurd rfl ny
      | inf t =>
        have hb := small hx
        have ht : t = 0 := by
          rcases (show t = 0 ∨ t = 1 from hy) with rfl | rfl
          · rfl
          · have : keyI (.inf 1) = (1 - 2 * 1) * two 80 := rfl
            omega
        subst ht
        have K := (key_rnd o r (p := plusQ (vF (.num s m e)) (vF (.num u v g))) (fra_val (Int.mul_pos (vF_ok o hx).1 (vF_ok o hz).1)).1).1.2
        rw [key_plus o r hx hz]
        show _ ≤ (1 - 2 * 0) * two 80
        omega
      | num t k f =>
        have p1 := (vF_ok o hx).1
        have q1 := (vF_ok o hy).1
        have z1 := (vF_ok o hz).1
        rw [key_plus o r hx hz, key_plus o r hy hz]
        have hv : (vF (.num s m e)).1 * (vF (.num t k f)).2 ≤ (vF (.num t k f)).1 * (vF (.num s m e)).2 := Int.le_of_lt ((key_cmp p1 q1 (vF_key o hx) (vF_key o hy)).mpr hlt)
        exact rnd_mono o r (fra_val (Int.mul_pos p1 z1)).1 (fra_val (Int.mul_pos q1 z1)).1 (plusQ_le p1 q1 z1 hv)
end Fm
/-! An exact square's root, an exact quotient's product, a root's two sides -/
namespace Fm
open PySem Sw
/-- rounded without a flag: the worth itself -/
theorem rnd_exact {b l h : Int} (o : okB b l h) (r : Rule) {p : Int × Int} (hp : 0 < p.2) (hg : Int.gcd p.1 p.2 = 1) (hf : (rnd b l h r p).2 = []) : ∃ s m e, (Fl.num s m e).ok b l h ∧ vF (.num s m e) = p ∧ rnd b l h r p = (.num s m e, []) := by
  rcases rnd_snd o hp hg with ⟨s, m, e, h1, h2, h3⟩ | ⟨h0, i, hi, g, F, hR, hF, _⟩
  · exact ⟨s, m, e, h1, h2, h3 r⟩
  · rw [hR r] at hf
    have hf : F r = [] := hf
    rcases hF r with e | e | e <;> rw [e] at hf <;> cases hf
theorem vF_ne {b l h : Int} (o : okB b l h) {s m e : Int} (hx : (Fl.num s m e).ok b l h) (hm : m ≠ 0) : (vF (.num s m e)).1 ≠ 0 := by
  obtain ⟨g0, g1, g2, g3, gs⟩ := num_rng o hx
  have := sca_pos (m := m) (e := e) (by omega) g1 g2 g3
  rcases gs with rfl | rfl
  · rw [vF0]; omega
  · rw [vF1]; simp only; omega
theorem m_ne {b l h : Int} (o : okB b l h) {s m e : Int} (hx : (Fl.num s m e).ok b l h) (hv : (vF (.num s m e)).1 ≠ 0) : m ≠ 0 := fun z => by
  subst z
  rw [zero_e hx, zero_worth o hx.1] at hv
  exact hv rfl
/-- under a worth stands a part of 2 ^ 20 -/
theorem und_dvd {b l h : Int} (o : okB b l h) {s m e : Int} (hx : (Fl.num s m e).ok b l h) : (vF (.num s m e)).2 ∣ two 20 := by
  have h1 := vF_key o hx
  have h2 := (vF_ok o hx).2.2.2
  have h3 : (vF (.num s m e)).2 ∣ (vF (.num s m e)).1 * two 20 := ⟨keyI (.num s m e), by rw [h1, Int.mul_comm]⟩
  have c : Nat.Coprime (vF (.num s m e)).2.natAbs (vF (.num s m e)).1.natAbs := by
    rw [Int.gcd_comm] at h2
    exact h2
  have h4 := Int.natAbs_dvd_natAbs.mpr h3
  rw [Int.natAbs_mul] at h4
  exact Int.natAbs_dvd_natAbs.mp (c.dvd_of_dvd_mul_left h4)
theorem sq_low {p : Int × Int} (hp : 0 < p.2) (hg : Int.gcd p.1 p.2 = 1) : timesQ p p = (p.1 * p.1, p.2 * p.2) := by
  have g : Int.gcd (p.1 * p.1) (p.2 * p.2) = 1 := by
    have h1 : Nat.Coprime p.1.natAbs p.2.natAbs := hg
    show Nat.gcd (p.1 * p.1).natAbs (p.2 * p.2).natAbs = 1
    rw [Int.natAbs_mul, Int.natAbs_mul]
    exact Nat.Coprime.mul_left (Nat.Coprime.mul_right h1 h1) (Nat.Coprime.mul_right h1 h1)
  exact fra_low_eq (p := (p.1 * p.1, p.2 * p.2)) (Int.mul_pos hp hp) g
/-- the root of an exact square -/
theorem rtQ_sq {p : Int × Int} (h0 : 0 ≤ p.1) (hp : 0 < p.2) (hg : Int.gcd p.1 p.2 = 1) (hd : p.2 ∣ two 20) : rtQ (p.1 * p.1, p.2 * p.2) = p := by
  obtain ⟨d, hd⟩ := hd
  have t20 := two_pos 20
  have d0 : 0 < d := by
    refine Int.lt_of_not_ge fun hn => ?_
    have := Int.mul_nonpos_of_nonneg_of_nonpos (Int.le_of_lt hp) hn
    omega
  have t40 : two 40 = p.2 * (d * two 20) := by
    have : two 40 = two 20 * two 20 := rfl
    rw [this]
    conv => lhs; lhs; rw [hd]
    rw [Int.mul_assoc]
  generalize hD : d * two 20 = D at *
  have D0 : 0 < D := by rw [← hD]; exact Int.mul_pos d0 t20
  have hT : p.1 * p.1 * two 40 * two 40 = p.1 * D * (p.1 * D) * (p.2 * p.2) := by rw [t40]; grind
  have hN : p.1 * p.1 * two 40 * two 40 / (p.2 * p.2) = p.1 * D * (p.1 * D) := by
    rw [hT]
    exact Int.mul_ediv_cancel _ (by have := Int.mul_pos hp hp; omega)
  have w0 : 0 ≤ p.1 * D := Int.mul_nonneg h0 (Int.le_of_lt D0)
  have hw : frt (p.1 * p.1 * two 40 * two 40 / (p.2 * p.2)) = p.1 * D := by
    rw [hN]
    refine isRt_uniq (frt_is (Int.mul_nonneg w0 w0)) ⟨w0, Int.le_refl _, ?_⟩
    have : (p.1 * D + 1) * (p.1 * D + 1) = p.1 * D * (p.1 * D) + 2 * (p.1 * D) + 1 := by grind
    omega
  unfold rtQ
  simp only [hw]
  rw [if_pos (by rw [hT])]
  have p40 := two_pos 40
  obtain ⟨b1, b2, b3, b4⟩ := fra_val (a := p.1 * D) p40
  refine fra_uniq b1 hp (fra_low p40) hg ?_
  have e1 : (fra (p.1 * D) (two 40)).1 * p.2 * D = p.1 * (fra (p.1 * D) (two 40)).2 * D := by
    have : (fra (p.1 * D) (two 40)).1 * p.2 * D = (fra (p.1 * D) (two 40)).1 * two 40 := by rw [t40]; grind
    rw [this, b4]
    grind
  exact Int.eq_of_mul_eq_mul_right (by omega) e1
theorem square_root {b l h : Int} (o : okB b l h) (r : Rule) {s m e s' m' e' : Int} (hx : (Fl.num s m e).ok b l h) (hq : timesF b l h r (.num s m e) (.num s m e) = (.num s' m' e', [])) (hm' : 0 < m') : rootF b l h r (.num s' m' e') = (.num 0 m e, []) := by
  rw [timesF_nn] at hq
  have V := vF_ok o hx
  by_cases c : m = 0 ∨ m = 0
  · rw [if_pos c] at hq
    have := congrArg (fun z : Fl × List Str => z.1) hq
    simp only [Fl.num.injEq] at this
    omega
  · rw [if_neg c, sq_low V.1 V.2.2.2] at hq
    have hm : m ≠ 0 := fun z => c (.inl z)
    have g2 : Int.gcd (vF (.num s m e)).1 (vF (.num s m e)).2 = 1 := V.2.2.2
    have L := timesQ_low V.1 V.1
    rw [sq_low V.1 g2] at L
    obtain ⟨s2, m2, e2, k1, k2, k3⟩ := rnd_exact o r L.1 L.2 (by rw [hq])
    rw [hq] at k3
    have k4 := congrArg (fun z : Fl × List Str => z.1) k3
    simp only [Fl.num.injEq] at k4
    obtain ⟨rfl, rfl, rfl⟩ := k4
    have v0 := vF_ne o hx hm
    have sqp : 0 < (vF (.num s m e)).1 * (vF (.num s m e)).1 := by
      rcases Int.lt_trichotomy (vF (.num s m e)).1 0 with z | z | z
      · exact Int.mul_pos_of_neg_of_neg z z
      · exact absurd z v0
      · exact Int.mul_pos z z
    have hs0 : s' = 0 := by
      rcases k1.1 with z | z
      · exact z
      · subst z
        obtain ⟨g0, g1, g2, g3, gs⟩ := num_rng o k1
        have := sca_pos (m := m') (e := e') hm' g1 g2 g3
        rw [vF1] at k2
        have k5 := congrArg Prod.fst k2
        simp only at k5
        omega
    subst hs0
    have er : rootF b l h r (.num 0 m' e') = rnd b l h r (rtQ (vF (.num 0 m' e'))) := by
      show (if m' = 0 then ((.num 0 m' e', []) : Fl × List Str) else if (0 : Int) = 1 then (Fl.nan, ["wrong"]) else rnd b l h r (rtQ (vF (.num 0 m' e')))) = _
      rw [if_neg (by omega), if_neg (by decide)]
    have hx0 : (Fl.num 0 m e).ok b l h := ⟨.inl rfl, hx.2⟩
    have V0 := vF_ok o hx0
    have pos0 := num_rng o hx
    have hpos : 0 ≤ (vF (.num 0 m e)).1 := by
      rw [vF0]
      exact Int.le_of_lt (sca_pos (by omega) pos0.2.1 pos0.2.2.1 pos0.2.2.2.1)
    have sq0 : ((vF (.num s m e)).1 * (vF (.num s m e)).1, (vF (.num s m e)).2 * (vF (.num s m e)).2) = ((vF (.num 0 m e)).1 * (vF (.num 0 m e)).1, (vF (.num 0 m e)).2 * (vF (.num 0 m e)).2) := by
      rcases hx.1 with z | z
      · rw [z]
      · rw [z, vF1, vF0]
        simp only
        congr 1
        grind
    rw [er, k2, sq0, rtQ_sq hpos V0.1 V0.2.2.2 (und_dvd o hx0)]
    exact rnd_self o r hx0 (by omega)
theorem inv_low {a c : Int} (h0 : a ≠ 0) (hc : 0 < c) : 0 < (fra c a).2 ∧ Int.gcd (fra c a).1 (fra c a).2 = 1 ∧ (fra c a).1 * a = c * (fra c a).2 := by
  by_cases hp : 0 < a
  · obtain ⟨b1, b2, b3, b4⟩ := fra_val (a := c) hp
    exact ⟨b1, fra_low hp, b4⟩
  · have e : fra c a = fra (0 - c) (0 - a) := by
      have g : Int.gcd (0 - c) (0 - a) = Int.gcd c a := by rw [Int.zero_sub, Int.zero_sub, Int.neg_gcd, Int.gcd_neg]
      have d1 : (0 - c) / (Int.gcd c a : Int) = 0 - c / (Int.gcd c a : Int) := by rw [Int.zero_sub, Int.neg_ediv_of_dvd (Int.gcd_dvd_left ..), Int.zero_sub]
      have d2 : (0 - a) / (Int.gcd c a : Int) = 0 - a / (Int.gcd c a : Int) := by rw [Int.zero_sub, Int.neg_ediv_of_dvd (Int.gcd_dvd_right ..), Int.zero_sub]
      unfold fra
      rw [if_neg hp, if_pos (by omega), g, d1, d2]
    rw [e]
    obtain ⟨b1, b2, b3, b4⟩ := fra_val (a := 0 - c) (show 0 < 0 - a by omega)
    refine ⟨b1, fra_low (by omega), ?_⟩
    have : (fra (0 - c) (0 - a)).1 * (0 - a) = 0 - (fra (0 - c) (0 - a)).1 * a := by grind
    have : (0 - c) * (fra (0 - c) (0 - a)).2 = 0 - c * (fra (0 - c) (0 - a)).2 := by grind
    omega
/-- an exact quotient, times what it was divided by -/
theorem quotient_back {b l h : Int} (o : okB b l h) (r : Rule) {s m e t k f s' m' e' : Int} (hx : (Fl.num s m e).ok b l h) (hy : (Fl.num t k f).ok b l h) (hm : 0 < m) (hq : overF b l h r (.num s m e) (.num t k f) = (.num s' m' e', [])) : timesF b l h r (.num s' m' e') (.num t k f) = (.num s m e, []) := by
  rw [overF_nn] at hq
  by_cases hk : k = 0
  · rw [if_pos hk, if_neg (by omega)] at hq
    cases hq
  · rw [if_neg hk, if_neg (by omega)] at hq
    have V := vF_ok o hx
    have U := vF_ok o hy
    have u0 := vF_ne o hy hk
    have v0 := vF_ne o hx (by omega)
    obtain ⟨i1, i2, i3⟩ := inv_low u0 U.1
    have L := timesQ_low V.1 i1
    obtain ⟨s2, m2, e2, k1, k2, k3⟩ := rnd_exact o r L.1 L.2 (by rw [hq])
    rw [hq] at k3
    have k4 := congrArg (fun z : Fl × List Str => z.1) k3
    simp only [Fl.num.injEq] at k4
    obtain ⟨rfl, rfl, rfl⟩ := k4
    have W := vF_ok o k1
    -- the quotient's worth
    obtain ⟨b1, b2, b3, b4⟩ := fra_val (a := (vF (.num s m e)).1 * (fra (vF (.num t k f)).2 (vF (.num t k f)).1).1) (Int.mul_pos V.1 i1)
    have eW : fra ((vF (.num s m e)).1 * (fra (vF (.num t k f)).2 (vF (.num t k f)).1).1) ((vF (.num s m e)).2 * (fra (vF (.num t k f)).2 (vF (.num t k f)).1).2) = vF (.num s' m' e') := k2.symm
    rw [eW] at b4
    generalize hw : vF (.num s' m' e') = w at *
    generalize fra (vF (.num t k f)).2 (vF (.num t k f)).1 = q at *
    have back : timesQ w (vF (.num t k f)) = vF (.num s m e) := by
      have L2 := timesQ_low W.1 U.1
      obtain ⟨c1, c2, c3, c4⟩ := fra_val (a := w.1 * (vF (.num t k f)).1) (Int.mul_pos W.1 U.1)
      refine fra_uniq L2.1 V.1 L2.2 V.2.2.2 ?_
      show (fra (w.1 * (vF (.num t k f)).1) (w.2 * (vF (.num t k f)).2)).1 * _ = _ * (fra (w.1 * (vF (.num t k f)).1) (w.2 * (vF (.num t k f)).2)).2
      generalize fra (w.1 * (vF (.num t k f)).1) (w.2 * (vF (.num t k f)).2) = z at *
      generalize vF (.num s m e) = p at *
      generalize vF (.num t k f) = y at *
      have hpos : 0 < w.2 * y.2 * q.2 := Int.mul_pos (Int.mul_pos W.1 U.1) i1
      refine Int.eq_of_mul_eq_mul_right (show w.2 * y.2 * q.2 ≠ 0 by omega) ?_
      have e1 : z.1 * p.2 * (w.2 * y.2 * q.2) = (z.1 * (w.2 * y.2)) * (p.2 * q.2) := by grind
      have e2 : p.1 * z.2 * (w.2 * y.2 * q.2) = z.2 * (p.1 * w.2) * (y.2 * q.2) := by grind
      have e3 : z.2 * (p.1 * w.2) * (y.2 * q.2) = z.2 * (p.1 * w.2) * (q.1 * y.1) := by rw [i3]
      have e4 : z.2 * (p.1 * w.2) * (q.1 * y.1) = z.2 * y.1 * (p.1 * q.1 * w.2) := by grind
      rw [e1, c4, e2, e3, e4, ← b4]
      grind
    have hm' : m' ≠ 0 := by
      refine fun z => ?_
      subst z
      have k5 := k1
      have : (0 : Int) * ((vF (.num s m e)).2 * q.2) = (vF (.num s m e)).1 * q.1 * w.2 := by
        have wz : w = (0, 1) := by
          rw [← hw, zero_e k1]
          exact zero_worth o k1.1
        rw [wz] at b4
        rw [wz]
        exact b4
      rw [Int.zero_mul] at this
      have q0 : q.1 ≠ 0 := fun z => by
        rw [z, Int.zero_mul] at i3
        have := Int.mul_pos U.1 i1
        omega
      exact Int.mul_ne_zero (Int.mul_ne_zero v0 q0) (by have := W.1; omega) this.symm
    rw [timesF_nn, if_neg (by rintro (z | z); exact hm' z; exact hk z), hw, back]
    exact rnd_self o r hx hm
/-- a root's two sides: one float, or neighbours -/
theorem root_sides {b l h : Int} (o : okB b l h) {q : Int × Int} (hp : 0 < q.2) (hg : Int.gcd q.1 q.2 = 1) (h0 : 0 < q.1) :
    (rnd b l h .down q).1 = (rnd b l h .up q).1 ∨ (upF b l h (rnd b l h .down q).1 = (rnd b l h .up q).1 ∧ (upF b l h (rnd b l h .up q).1.neg).neg = (rnd b l h .down q).1) := by
  have hs : sgn q.1 = 0 := by unfold sgn; rw [if_neg (by omega)]
  rcases rnd_snd o hp hg with ⟨s, m, e, h1, h2, h3⟩ | ⟨h0, i, hi, g, F, hR, hF, g1, g2, g3, g4⟩
  · left
    rw [h3, h3]
  · right
    have d1 : g .down = false := by rw [g3, hs]; rfl
    have d2 : g .up = true := by rw [g2, hs]; rfl
    rw [hR, hR, d1, d2, hs]
    refine ⟨?_, ?_⟩
    · show upF b l h (pA b l h i) = pA b l h (i + 1)
      exact u1 o (by rw [nN_Np]; omega)
    · show (upF b l h (pA b l h (i + 1)).neg).neg = pA b l h i
      rw [u3 o (by rw [nN_Np]; omega)]
      exact neg_neg _
theorem rtQ_low (p : Int × Int) (hp : 0 < p.1) (hu : 0 < p.2) (ht : p.2 ≤ p.1 * two 40 * two 40) : 0 < (rtQ p).2 ∧ Int.gcd (rtQ p).1 (rtQ p).2 = 1 ∧ 0 < (rtQ p).1 := by
  have p40 := two_pos 40
  have N0 : 0 ≤ p.1 * two 40 * two 40 / p.2 := Int.ediv_nonneg (Int.mul_nonneg (Int.mul_nonneg (by omega) (by omega)) (by omega)) (by omega)
  have N1 : 1 ≤ p.1 * two 40 * two 40 / p.2 := (Int.le_ediv_iff_mul_le hu).mpr (by omega)
  have hw := frt_is N0
  have pos : ∀ {a c : Int}, 0 < a → 0 < c → 0 < (fra a c).2 ∧ Int.gcd (fra a c).1 (fra a c).2 = 1 ∧ 0 < (fra a c).1 := fun {a c} ha hc => by
    obtain ⟨b1, b2, b3, b4⟩ := fra_val (a := a) hc
    refine ⟨b1, fra_low hc, ?_⟩
    have h1 := Int.mul_pos ha b1
    rw [← b4] at h1
    refine Int.lt_of_not_ge fun hn => ?_
    have := Int.mul_nonpos_of_nonpos_of_nonneg hn (Int.le_of_lt hc)
    omega
  have wp : 0 < frt (p.1 * two 40 * two 40 / p.2) := by
    refine Int.lt_of_not_ge fun hn => ?_
    have z : frt (p.1 * two 40 * two 40 / p.2) = 0 := Int.le_antisymm hn hw.1
    have := hw.2.2
    rw [z] at this
    omega
  unfold rtQ
  split
  · exact pos wp p40
  · exact pos (by omega) (by omega)
end Fm
/-! The place at or below a fraction, by counting sizes -/
namespace Fm
open PySem Sw
theorem cut_below {H m k : Nat} {W P : Int} (hP : 0 < P) (c : Cut H W P m k) (hH : 0 < H) (j : Nat) : (siz H j : Int) * P ≤ W ↔ j ≤ m + k * H := by
  have e0 := siz_at c.lt c.ge
  have e1 := siz_next c.lt c.ge
  have lo := c.lo
  have hi := c.hi
  constructor
  · intro h
    refine Nat.le_of_not_lt fun hn => ?_
    have h1 : siz H (m + k * H + 1) ≤ siz H j := by
      rcases Nat.lt_or_eq_of_le (show m + k * H + 1 ≤ j from hn) with z | z
      · exact Nat.le_of_lt (siz_mono hH z)
      · rw [z]; exact Nat.le_refl _
    rw [e1] at h1
    have h2 : (((m + 1) * 2 ^ k : Nat) : Int) * P ≤ (siz H j : Int) * P := Int.mul_le_mul_of_nonneg_right (by exact_mod_cast h1) (Int.le_of_lt hP)
    have h3 : (((m + 1) * 2 ^ k : Nat) : Int) * P = ((m : Int) + 1) * (P * 2 ^ k) := by
      push_cast
      rw [Int.mul_assoc, Int.mul_comm (2 ^ k) P]
    omega
  · intro h
    have h1 : siz H j ≤ siz H (m + k * H) := by
      rcases Nat.lt_or_eq_of_le h with z | z
      · exact Nat.le_of_lt (siz_mono hH z)
      · rw [z]; exact Nat.le_refl _
    rw [e0] at h1
    have h2 : (siz H j : Int) * P ≤ ((m * 2 ^ k : Nat) : Int) * P := Int.mul_le_mul_of_nonneg_right (by exact_mod_cast h1) (Int.le_of_lt hP)
    have h3 : ((m * 2 ^ k : Nat) : Int) * P = (m : Int) * (P * 2 ^ k) := by
      push_cast
      rw [Int.mul_assoc, Int.mul_comm (2 ^ k) P]
    omega
theorem cnt_le (j0 : Nat) : ∀ N : Nat, ((List.range (N + 1)).filter fun j => decide (j ≤ j0)).length = min j0 N + 1
  | 0 => by simp
  | N + 1 => by
    rw [List.range_succ, List.filter_append, List.length_append, cnt_le j0 N]
    by_cases h : N + 1 ≤ j0
    · simp [h]
      omega
    · simp [h]
      omega
/-- what is told of a float: its size, its number, its power -/
def sizD (l : Int) : Fl → D
  | .num _ m e => .tup [.int (m * two (e - l)), .int m, .int e]
  | _ => .non
theorem sizD_at {b l h : Int} (o : okB b l h) (i : Nat) : sizD l (pAt (hf b) l i) = .tup [.int (siz (hf b) i), .int (mOf (hf b) i), .int (l + (kOf (hf b) i : Nat))] := by
  rw [pAt_eq]
  unfold sizD
  have e : (mOf (hf b) i : Int) * two (l + (kOf (hf b) i : Nat) - l) = (siz (hf b) i : Nat) := by
    rw [show l + (kOf (hf b) i : Nat) - l = ((kOf (hf b) i : Nat) : Int) by omega]
    unfold two siz
    rw [Int.toNat_natCast]
    push_cast
    rfl
  simp only [e]
theorem siz_top {b l h : Int} (o : okB b l h) : (siz (hf b) (nN b l h) : Int) = two (b + h - l) := by
  rw [siz_nN o, two_add (by have := o.1; omega) (by have := o.2.2.2.1; omega)]
  congr 1
  omega
/-- against a power of two, by the common scale -/
theorem big_iff {l e t u : Int} (l1 : -20 ≤ l) (l2 : l ≤ 20) (he : l ≤ e) : two (20 + e) * u ≤ t * two 20 ↔ two (e - l) * pt l u ≤ wh l t := by
  unfold pt wh
  by_cases hl : l < 0
  · rw [if_pos hl, if_pos hl]
    have p1 := two_pos (20 + l)
    have a1 : two (20 + e) = two (e - l) * two (20 + l) := by
      rw [two_add (by omega) (by omega)]
      congr 1
      omega
    have a2 : two 20 = two (0 - l) * two (20 + l) := by
      rw [two_add (by omega) (by omega)]
      congr 1
      omega
    have b1 : two (20 + e) * u = two (e - l) * u * two (20 + l) := by rw [a1, Int.mul_right_comm]
    have b2 : t * two 20 = t * two (0 - l) * two (20 + l) := by rw [a2, Int.mul_assoc]
    rw [b1, b2]
    exact ⟨fun h => Int.le_of_mul_le_mul_right h p1, fun h => Int.mul_le_mul_of_nonneg_right h (Int.le_of_lt p1)⟩
  · rw [if_neg hl, if_neg hl]
    have p1 := two_pos 20
    have a1 : two (20 + e) = two (e - l) * two l * two 20 := by
      rw [two_add (by omega) (by omega), two_add (by omega) (by omega)]
      congr 1
      omega
    have b1 : two (20 + e) * u = two (e - l) * (u * two l) * two 20 := by rw [a1]; grind
    rw [b1]
    exact ⟨fun h => Int.le_of_mul_le_mul_right h p1, fun h => Int.mul_le_mul_of_nonneg_right h (Int.le_of_lt p1)⟩
theorem rnd_at2 {b l h : Int} (o : okB b l h) {p : Int × Int} (hp : 0 < p.2) (h0 : p.1 ≠ 0) : ∃ m k, Cut (hf b) (wh l (absI p.1)) (pt l p.2) m k ∧ ∀ r, rnd b l h r p =
    (sg (sgn p.1) (pA b l h (plc (nN b l h) r (sgn p.1) (m + k * hf b + stp r (sgn p.1) m (cod (wh l (absI p.1) - m * (pt l p.2 * 2 ^ k)) (pt l p.2 * 2 ^ k))))),
      if nN b l h ≤ m + k * hf b + stp r (sgn p.1) m (cod (wh l (absI p.1) - m * (pt l p.2 * 2 ^ k)) (pt l p.2 * 2 ^ k)) then fIO else flg (cod (wh l (absI p.1) - m * (pt l p.2 * 2 ^ k)) (pt l p.2 * 2 ^ k)) (decide (wh l (absI p.1) < pt l p.2 * hf b))) := by
  have hH := (hf_eq o).2.1
  have c := cm_cut (H := hf b) (by omega) (wh_nn (l := l) (abs_nn p.1)) (pt_pos (l := l) hp)
  refine ⟨_, _, c, fun r => ?_⟩
  unfold rnd rndS
  rw [if_neg h0]
  simp only [rsz_at o r (sgn p.1) c.lt c.ge]
  unfold sg plc stp
  generalize (cm (hf b) (wh l (absI p.1)) (pt l p.2)) = mk
  by_cases hn : nN b l h ≤ mk.1 + mk.2 * hf b + (if r.ups (sgn p.1) ((mk.1 : Nat) : Int) (cod (wh l (absI p.1) - (mk.1 : Nat) * (pt l p.2 * 2 ^ mk.2)) (pt l p.2 * 2 ^ mk.2)) = true then 1 else 0)
  · simp only [hn, if_true]
    by_cases ht : r.toinf (sgn p.1) = true
    · simp only [ht, if_true]
    · simp only [ht, if_false]
      rfl
  · simp only [hn, if_false]
/-- what is told, and the flags -/
theorem sg_num {s m e : Int} (hs : s = 0 ∨ s = 1) : sg s (.num 0 m e) = .num s m e := by
  unfold sg
  rcases hs with rfl | rfl
  · rfl
  · rfl
theorem sg_inf {s : Int} (hs : s = 0 ∨ s = 1) : sg s (.inf 0) = .inf s := by
  unfold sg
  rcases hs with rfl | rfl
  · rfl
  · rfl
end Fm
namespace K07
open Sw
def f_is_number : Nat := 0
def f_need_format : Nat := 1
def f_need_rule : Nat := 2
def f_is_float : Nat := 3
def f_need_floats : Nat := 4
def f_two_to : Nat := 5
def f_divisor : Nat := 6
def f_fraction : Nat := 7
def f_scaled : Nat := 8
def f_value_of : Nat := 9
def f_negated : Nat := 10
def f_cut_off : Nat := 11
def f_goes_up : Nat := 12
def f_rounded_size : Nat := 13
def f_rounded_by : Nat := 14
def f_moved : Nat := 15
def f__law_start : Nat := 16
def f__law_drawn : Nat := 17
def f__law_same : Nat := 18
def f__law_kind : Nat := 19
def f__law_form : Nat := 20
def f__law_two : Nat := 21
def f__law_num : Nat := 22
def f__law_float : Nat := 23
def f__law_rule : Nat := 24
def f__law_short : Nat := 25
def f__law_worth : Nat := 26
def f__law_sizes : Nat := 27
def f__law_nearest : Nat := 28
def f__law_rounded : Nat := 29
def f__law_plus : Nat := 30
def f_law : Nat := 31
def ksl : List PySem.Str := ["BadFormat", "BadRule", "BadFloat"]
def g_LEAST_BITS : Nat := 0
def g_MOST_BITS : Nat := 1
def g_MOST_POWER : Nat := 2
def g_NUM : Nat := 3
def g_INF : Nat := 4
def g_NAN : Nat := 5
def g_RULES : Nat := 6
def g_INEXACT : Nat := 7
def g_OVER : Nat := 8
def g_UNDER : Nat := 9
/-- is_number(thing, low, high): 0 thing, 1 low, 2 high -/
def ir_is_number : DI := ⟨3, 3, (.cons (.ret (.and (.isi (.var 0) ["int"]) (.and (.not (.isi (.var 0) ["bool"])) (.chain .le .le (.var 1) (.var 0) (.var 2)))))
  .nil), []⟩
/-- need_format(form): 0 form -/
def ir_need_format : DI := ⟨1, 1, (.cons (.ife (.or (.not (.isi (.var 0) ["tuple"])) (.or (.cmp .ne (.bi .len (.cons (.var 0) .nil)) (.int 3)) (.not (.call f_is_number (.cons (.idx (.var 0) (.int 0)) (.cons (.glob g_LEAST_BITS) (.cons (.glob g_MOST_BITS) .nil))))))) (.cons (.rse 0 .nil)
  .nil) .nil)
  (.cons (.ife (.or (.not (.call f_is_number (.cons (.idx (.var 0) (.int 1)) (.cons (.neg (.glob g_MOST_POWER)) (.cons (.glob g_MOST_POWER) .nil))))) (.not (.call f_is_number (.cons (.idx (.var 0) (.int 2)) (.cons (.idx (.var 0) (.int 1)) (.cons (.glob g_MOST_POWER) .nil)))))) (.cons (.rse 0 .nil)
  .nil) .nil)
  .nil)), []⟩
/-- need_rule(rule): 0 rule -/
def ir_need_rule : DI := ⟨1, 1, (.cons (.ife (.or (.not (.isi (.var 0) ["str"])) (.cmp .nin (.var 0) (.glob g_RULES))) (.cons (.rse 1 .nil)
  .nil) .nil)
  .nil), []⟩
/-- is_float(form, told): 0 form, 1 told, 2 bits, 3 low, 4 high, 5 half -/
def ir_is_float : DI := ⟨2, 6, (.cons (.asg (.tp [2, 3, 4]) (.var 0))
  (.cons (.ife (.or (.not (.isi (.var 1) ["tuple"])) (.or (.cmp .eq (.var 1) (.tup .nil)) (.not (.isi (.idx (.var 1) (.int 0)) ["str"])))) (.cons (.ret (.bl false))
  .nil) .nil)
  (.cons (.ife (.cmp .inn (.idx (.var 1) (.int 0)) (.tup (.cons (.glob g_INF) (.cons (.idx (.glob g_NAN) (.int 0)) .nil)))) (.cons (.ret (.or (.cmp .eq (.var 1) (.glob g_NAN)) (.and (.cmp .eq (.idx (.var 1) (.int 0)) (.glob g_INF)) (.and (.cmp .eq (.bi .len (.cons (.var 1) .nil)) (.int 2)) (.call f_is_number (.cons (.idx (.var 1) (.int 1)) (.cons (.int 0) (.cons (.int 1) .nil))))))))
  .nil) .nil)
  (.cons (.ife (.or (.cmp .ne (.idx (.var 1) (.int 0)) (.glob g_NUM)) (.or (.cmp .ne (.bi .len (.cons (.var 1) .nil)) (.int 4)) (.or (.not (.call f_is_number (.cons (.idx (.var 1) (.int 1)) (.cons (.int 0) (.cons (.int 1) .nil))))) (.not (.call f_is_number (.cons (.idx (.var 1) (.int 3)) (.cons (.var 3) (.cons (.var 4) .nil)))))))) (.cons (.ret (.bl false))
  .nil) .nil)
  (.cons (.asg (.nm 5) (.call f_two_to (.cons (.bin .sub (.var 2) (.int 1)) .nil)))
  (.cons (.ret (.call f_is_number (.cons (.idx (.var 1) (.int 2)) (.cons (.ife (.cmp .eq (.idx (.var 1) (.int 3)) (.var 3)) (.int 0) (.var 5)) (.cons (.bin .sub (.bin .mul (.int 2) (.var 5)) (.int 1)) .nil)))))
  .nil)))))), []⟩
/-- need_floats(form, floats): 0 form, 1 floats, 2 number, 3 told -/
def ir_need_floats : DI := ⟨2, 4, (.cons (.forr (.tp [2, 3]) (.enm (.var 1)) (.cons (.ife (.not (.call f_is_float (.cons (.var 0) (.cons (.var 3) .nil)))) (.cons (.rse 2 (.cons (.var 2) .nil))
  .nil) .nil)
  .nil))
  .nil), []⟩
/-- two_to(power): 0 power, 1 found, 2 turn -/
def ir_two_to : DI := ⟨1, 3, (.cons (.asg (.nm 1) (.int 1))
  (.cons (.forr (.nm 2) (.rng1 (.var 0)) (.cons (.aug .mul 1 (.int 2))
  .nil))
  (.cons (.ret (.var 1))
  .nil))), []⟩
/-- divisor(one, other): 0 one, 1 other -/
def ir_divisor : DI := ⟨2, 2, (.cons (.whil (.cmp .ne (.var 1) (.int 0)) (.cons (.par 0 1 (.var 1) (.bin .mod (.var 0) (.var 1)))
  .nil))
  (.cons (.ret (.bi .abs (.cons (.var 0) .nil)))
  .nil)), []⟩
/-- fraction(top, under): 0 top, 1 under, 2 shared -/
def ir_fraction : DI := ⟨2, 3, (.cons (.asg (.nm 2) (.call f_divisor (.cons (.var 0) (.cons (.var 1) .nil))))
  (.cons (.ret (.ife (.cmp .gt (.var 1) (.int 0)) (.tup (.cons (.bin .fdiv (.var 0) (.var 2)) (.cons (.bin .fdiv (.var 1) (.var 2)) .nil))) (.tup (.cons (.bin .sub (.int 0) (.bin .fdiv (.var 0) (.var 2))) (.cons (.bin .sub (.int 0) (.bin .fdiv (.var 1) (.var 2))) .nil)))))
  .nil)), []⟩
/-- scaled(many, power): 0 many, 1 power -/
def ir_scaled : DI := ⟨2, 2, (.cons (.ret (.ife (.cmp .ge (.var 1) (.int 0)) (.tup (.cons (.bin .mul (.var 0) (.call f_two_to (.cons (.var 1) .nil))) (.cons (.int 1) .nil))) (.call f_fraction (.cons (.var 0) (.cons (.call f_two_to (.cons (.bin .sub (.int 0) (.var 1)) .nil)) .nil)))))
  .nil), []⟩
/-- value_of(told): 0 told, 1 found -/
def ir_value_of : DI := ⟨1, 2, (.cons (.ife (.cmp .ne (.idx (.var 0) (.int 0)) (.glob g_NUM)) (.cons (.ret .non)
  .nil) .nil)
  (.cons (.asg (.nm 1) (.call f_scaled (.cons (.idx (.var 0) (.int 2)) (.cons (.idx (.var 0) (.int 3)) .nil))))
  (.cons (.ret (.ife (.cmp .eq (.idx (.var 0) (.int 1)) (.int 1)) (.tup (.cons (.bin .sub (.int 0) (.idx (.var 1) (.int 0))) (.cons (.idx (.var 1) (.int 1)) .nil))) (.var 1)))
  .nil))), []⟩
/-- negated(told): 0 told -/
def ir_negated : DI := ⟨1, 1, (.cons (.ife (.cmp .eq (.var 0) (.glob g_NAN)) (.cons (.ret (.var 0))
  .nil) .nil)
  (.cons (.ret (.bin .add (.tup (.cons (.idx (.var 0) (.int 0)) (.cons (.bin .sub (.int 1) (.idx (.var 0) (.int 1))) .nil))) (.slc (.var 0) (.cons (.int 2) .nil) .nil)))
  .nil)), []⟩
/-- cut_off(form, top, under): 0 form, 1 top, 2 under, 3 bits, 4 low, 5 high, 6 power, 7 whole, 8 part, 9 many, 10 left -/
def ir_cut_off : DI := ⟨3, 11, (.cons (.asg (.tp [3, 4, 5]) (.var 0))
  (.cons (.asg (.nm 6) (.var 4))
  (.cons (.asg (.nm 7) (.ife (.cmp .lt (.var 4) (.int 0)) (.bin .mul (.var 1) (.call f_two_to (.cons (.bin .sub (.int 0) (.var 4)) .nil))) (.var 1)))
  (.cons (.asg (.nm 8) (.ife (.cmp .lt (.var 4) (.int 0)) (.var 2) (.bin .mul (.var 2) (.call f_two_to (.cons (.var 4) .nil)))))
  (.cons (.asg (.nm 9) (.bin .fdiv (.var 7) (.var 8)))
  (.cons (.whil (.cmp .ge (.var 9) (.call f_two_to (.cons (.var 3) .nil))) (.cons (.aug .add 6 (.int 1))
  (.cons (.aug .mul 8 (.int 2))
  (.cons (.asg (.nm 9) (.bin .fdiv (.var 7) (.var 8)))
  .nil))))
  (.cons (.asg (.nm 10) (.bin .sub (.var 7) (.bin .mul (.var 9) (.var 8))))
  (.cons (.ife (.cmp .eq (.var 10) (.int 0)) (.cons (.ret (.tup (.cons (.var 9) (.cons (.var 6) (.cons (.int 0) .nil)))))
  .nil) .nil)
  (.cons (.ret (.tup (.cons (.var 9) (.cons (.var 6) (.cons (.ife (.cmp .lt (.bin .mul (.int 2) (.var 10)) (.var 8)) (.int 1) (.ife (.cmp .eq (.bin .mul (.int 2) (.var 10)) (.var 8)) (.int 2) (.int 3))) .nil)))))
  .nil))))))))), []⟩
/-- goes_up(rule, sign, many, left): 0 rule, 1 sign, 2 many, 3 left -/
def ir_goes_up : DI := ⟨4, 4, (.cons (.ife (.or (.cmp .eq (.var 3) (.int 0)) (.cmp .eq (.var 0) (.str "nought"))) (.cons (.ret (.bl false))
  .nil) .nil)
  (.cons (.ife (.cmp .inn (.var 0) (.tup (.cons (.str "up") (.cons (.str "down") .nil)))) (.cons (.ret (.cmp .eq (.cmp .eq (.var 0) (.str "up")) (.cmp .eq (.var 1) (.int 0))))
  .nil) .nil)
  (.cons (.ret (.or (.cmp .eq (.var 3) (.int 3)) (.and (.cmp .eq (.var 3) (.int 2)) (.or (.cmp .eq (.var 0) (.str "away")) (.cmp .eq (.bin .mod (.var 2) (.int 2)) (.int 1))))))
  .nil))), []⟩
/-- rounded_size(form, top, under, rule, sign): 0 form, 1 top, 2 under, 3 rule, 4 sign, 5 bits, 6 low, 7 high, 8 many, 9 power, 10 left, 11 is_small, 12 flags, 13 is_inf -/
def ir_rounded_size : DI := ⟨5, 14, (.cons (.asg (.tp [5, 6, 7]) (.var 0))
  (.cons (.asg (.tp [8, 9, 10]) (.call f_cut_off (.cons (.var 0) (.cons (.var 1) (.cons (.var 2) .nil)))))
  (.cons (.asg (.nm 11) (.ife (.cmp .ge (.bin .add (.bin .sub (.var 5) (.int 1)) (.var 6)) (.int 0)) (.cmp .lt (.var 1) (.bin .mul (.var 2) (.call f_two_to (.cons (.bin .add (.bin .sub (.var 5) (.int 1)) (.var 6)) .nil)))) (.cmp .lt (.bin .mul (.var 1) (.call f_two_to (.cons (.bin .sub (.bin .sub (.int 1) (.var 5)) (.var 6)) .nil))) (.var 2))))
  (.cons (.ife (.call f_goes_up (.cons (.var 3) (.cons (.var 4) (.cons (.var 8) (.cons (.var 10) .nil))))) (.cons (.aug .add 8 (.int 1))
  (.cons (.ife (.cmp .eq (.var 8) (.call f_two_to (.cons (.var 5) .nil))) (.cons (.par 8 9 (.call f_two_to (.cons (.bin .sub (.var 5) (.int 1)) .nil)) (.bin .add (.var 9) (.int 1)))
  .nil) .nil)
  .nil)) .nil)
  (.cons (.asg (.nm 12) (.newl .nil))
  (.cons (.ife (.cmp .gt (.var 9) (.var 7)) (.cons (.asg (.nm 13) (.or (.cmp .inn (.var 3) (.tup (.cons (.str "even") (.cons (.str "away") .nil)))) (.and (.cmp .eq (.cmp .eq (.var 3) (.str "up")) (.cmp .eq (.var 4) (.int 0))) (.cmp .inn (.var 3) (.tup (.cons (.str "up") (.cons (.str "down") .nil)))))))
  (.cons (.ret (.tup (.cons (.ife (.var 13) (.tup (.cons (.glob g_INF) (.cons (.int 0) .nil))) (.tup (.cons (.glob g_NUM) (.cons (.int 0) (.cons (.bin .sub (.call f_two_to (.cons (.var 5) .nil)) (.int 1)) (.cons (.var 7) .nil)))))) (.cons (.tup (.cons (.glob g_INEXACT) (.cons (.glob g_OVER) .nil))) .nil))))
  .nil)) .nil)
  (.cons (.ife (.cmp .ne (.var 10) (.int 0)) (.cons (.app 12 (.glob g_INEXACT))
  (.cons (.ife (.var 11) (.cons (.app 12 (.glob g_UNDER))
  .nil) .nil)
  .nil)) .nil)
  (.cons (.ret (.tup (.cons (.tup (.cons (.glob g_NUM) (.cons (.int 0) (.cons (.var 8) (.cons (.var 9) .nil))))) (.cons (.bi .tuple (.cons (.var 12) .nil)) .nil))))
  .nil)))))))), []⟩
/-- rounded_by(form, told, rule): 0 form, 1 told, 2 rule, 3 top, 4 under, 5 sign, 6 found, 7 flags -/
def ir_rounded_by : DI := ⟨3, 8, (.cons (.asg (.tp [3, 4]) (.var 1))
  (.cons (.ife (.cmp .eq (.var 3) (.int 0)) (.cons (.ret (.tup (.cons (.tup (.cons (.glob g_NUM) (.cons (.int 0) (.cons (.int 0) (.cons (.idx (.var 0) (.int 1)) .nil))))) (.cons (.tup .nil) .nil))))
  .nil) .nil)
  (.cons (.asg (.nm 5) (.bi .int (.cons (.cmp .lt (.var 3) (.int 0)) .nil)))
  (.cons (.asg (.tp [6, 7]) (.call f_rounded_size (.cons (.var 0) (.cons (.bi .abs (.cons (.var 3) .nil)) (.cons (.var 4) (.cons (.var 2) (.cons (.var 5) .nil)))))))
  (.cons (.ret (.tup (.cons (.ife (.cmp .eq (.var 5) (.int 1)) (.call f_negated (.cons (.var 6) .nil)) (.var 6)) (.cons (.var 7) .nil))))
  .nil))))), []⟩
/-- moved(form, other, told, rule): 0 form, 1 other, 2 told, 3 rule -/
def ir_moved : DI := ⟨4, 4, (.cons (.exp (.call f_need_format (.cons (.var 0) .nil)))
  (.cons (.exp (.call f_need_format (.cons (.var 1) .nil)))
  (.cons (.exp (.call f_need_floats (.cons (.var 0) (.cons (.lst (.cons (.var 2) .nil)) .nil))))
  (.cons (.exp (.call f_need_rule (.cons (.var 3) .nil)))
  (.cons (.ife (.cmp .ne (.idx (.var 2) (.int 0)) (.glob g_NUM)) (.cons (.ret (.tup (.cons (.var 2) (.cons (.tup .nil) .nil))))
  .nil) .nil)
  (.cons (.ife (.cmp .eq (.idx (.var 2) (.int 2)) (.int 0)) (.cons (.ret (.tup (.cons (.tup (.cons (.glob g_NUM) (.cons (.idx (.var 2) (.int 1)) (.cons (.int 0) (.cons (.idx (.var 1) (.int 1)) .nil))))) (.cons (.tup .nil) .nil))))
  .nil) .nil)
  (.cons (.ret (.call f_rounded_by (.cons (.var 1) (.cons (.call f_value_of (.cons (.var 2) .nil)) (.cons (.var 3) .nil)))))
  .nil))))))), []⟩
/-- _law_start(_law_script): 0 _law_script, 1 _law_mixed, 2 _law_cell -/
def ir__law_start : DI := ⟨1, 3, (.cons (.asg (.nm 1) (.int 1))
  (.cons (.forr (.nm 2) (.val (.var 0)) (.cons (.asg (.nm 1) (.bin .mod (.bin .add (.bin .add (.bin .mul (.var 1) (.int 48271)) (.var 2)) (.int 7)) (.int 2147483647)))
  .nil))
  (.cons (.ret (.newl (.cons (.var 0) (.cons (.int 0) (.cons (.var 1) (.cons (.int 0) .nil))))))
  .nil))), []⟩
/-- _law_drawn(_law_state, _law_many): 0 _law_state, 1 _law_many, 2 _law_found, 3 _law_cell -/
def ir__law_drawn : DI := ⟨2, 4, (.cons (.ife (.cmp .gt (.idx (.var 0) (.int 3)) (.int 0)) (.cons (.asg (.nm 2) (.bin .mod (.idx (.var 0) (.int 3)) (.var 1)))
  (.cons (.seti (.var 0) (.int 3) (.bin .fdiv (.idx (.var 0) (.int 3)) (.var 1)))
  (.cons (.ret (.var 2))
  .nil))) .nil)
  (.cons (.seti (.var 0) (.int 1) (.bin .add (.idx (.var 0) (.int 1)) (.int 1)))
  (.cons (.ife (.cmp .le (.idx (.var 0) (.int 1)) (.bi .len (.cons (.idx (.var 0) (.int 0)) .nil))) (.cons (.asg (.nm 3) (.idx (.idx (.var 0) (.int 0)) (.bin .sub (.idx (.var 0) (.int 1)) (.int 1))))
  (.cons (.seti (.var 0) (.int 3) (.ife (.cmp .ge (.var 3) (.bin .pow (.int 10) (.int 18))) (.bin .fdiv (.var 3) (.var 1)) (.int 0)))
  (.cons (.ret (.bin .mod (.var 3) (.var 1)))
  .nil))) .nil)
  (.cons (.seti (.var 0) (.int 2) (.bin .mod (.bin .add (.bin .mul (.idx (.var 0) (.int 2)) (.int 48271)) (.int 11)) (.int 2147483647)))
  (.cons (.ret (.bin .mod (.bin .fdiv (.idx (.var 0) (.int 2)) (.int 7)) (.var 1)))
  .nil))))), []⟩
/-- _law_same(_law_found, _law_due): 0 _law_found, 1 _law_due, 2 _law_alike, 3 _law_k -/
def ir__law_same : DI := ⟨2, 4, (.cons (.ife (.isi (.var 1) ["tuple", "list"]) (.cons (.ife (.or (.not (.isi (.var 0) ["tuple", "list"])) (.cmp .ne (.isi (.var 0) ["list"]) (.isi (.var 1) ["list"]))) (.cons (.ret (.bl false))
  .nil) .nil)
  (.cons (.ife (.cmp .ne (.bi .len (.cons (.var 0) .nil)) (.bi .len (.cons (.var 1) .nil))) (.cons (.ret (.bl false))
  .nil) .nil)
  (.cons (.ret (.cmp .eq (.comp (.var 3) (.nm 3) (.rng1 (.bi .len (.cons (.var 1) .nil))) (.cons (.not (.call f__law_same (.cons (.idx (.var 0) (.var 3)) (.cons (.idx (.var 1) (.var 3)) .nil)))) .nil) [3]) (.lst .nil)))
  .nil))) .nil)
  (.cons (.asg (.nm 2) (.and (.cmp .eq (.isi (.var 0) ["bool"]) (.isi (.var 1) ["bool"])) (.cmp .eq (.isi (.var 0) ["int"]) (.isi (.var 1) ["int"]))))
  (.cons (.ret (.and (.var 2) (.cmp .eq (.var 0) (.var 1))))
  .nil))), []⟩
/-- _law_kind(_law_work): 0 _law_work, 1 _law_kinds, 2 _law_words, 3 _law_word -/
def ir__law_kind : DI := ⟨1, 4, (.cons .nev
  .nil), []⟩
/-- _law_form(_law_state, _law_most): 0 _law_state, 1 _law_most, 2 _law_bits, 3 _law_low -/
def ir__law_form : DI := ⟨2, 4, (.cons (.asg (.nm 2) (.bin .add (.int 2) (.call f__law_drawn (.cons (.var 0) (.cons (.bin .sub (.var 1) (.int 1)) .nil)))))
  (.cons (.asg (.nm 3) (.idx (.lst (.cons (.bin .sub (.int 0) (.int 2)) (.cons (.bin .sub (.call f__law_drawn (.cons (.var 0) (.cons (.int 9) .nil))) (.int 6)) (.cons (.bin .sub (.call f__law_drawn (.cons (.var 0) (.cons (.int 41) .nil))) (.int 20)) .nil)))) (.call f__law_drawn (.cons (.var 0) (.cons (.int 3) .nil)))))
  (.cons (.ret (.tup (.cons (.var 2) (.cons (.var 3) (.cons (.bi .min2 (.cons (.int 20) (.cons (.bin .add (.var 3) (.idx (.lst (.cons (.int 1) (.cons (.call f__law_drawn (.cons (.var 0) (.cons (.int 6) .nil))) (.cons (.call f__law_drawn (.cons (.var 0) (.cons (.int 41) .nil))) .nil)))) (.call f__law_drawn (.cons (.var 0) (.cons (.int 3) .nil))))) .nil))) .nil)))))
  .nil))), []⟩
/-- _law_two(_law_power): 0 _law_power, 1 _law_found, 2 _law_k -/
def ir__law_two : DI := ⟨1, 3, (.cons (.asg (.nm 1) (.int 1))
  (.cons (.forr (.nm 2) (.rng1 (.var 0)) (.cons (.asg (.nm 1) (.bin .mul (.var 1) (.int 2)))
  .nil))
  (.cons (.ret (.var 1))
  .nil))), []⟩
/-- _law_num(_law_state, _law_form_here): 0 _law_state, 1 _law_form_here, 2 _law_bits, 3 _law_low, 4 _law_high, 5 _law_power, 6 _law_half, 7 _law_many -/
def ir__law_num : DI := ⟨2, 8, (.cons (.asg (.tp [2, 3, 4]) (.var 1))
  (.cons (.asg (.nm 5) (.idx (.lst (.cons (.var 3) (.cons (.var 4) (.cons (.bin .add (.var 3) (.call f__law_drawn (.cons (.var 0) (.cons (.bin .add (.bin .sub (.var 4) (.var 3)) (.int 1)) .nil)))) .nil)))) (.call f__law_drawn (.cons (.var 0) (.cons (.int 3) .nil)))))
  (.cons (.asg (.nm 6) (.call f__law_two (.cons (.bin .sub (.var 2) (.int 1)) .nil)))
  (.cons (.asg (.nm 7) (.bin .add (.var 6) (.call f__law_drawn (.cons (.var 0) (.cons (.var 6) .nil)))))
  (.cons (.asg (.nm 7) (.idx (.lst (.cons (.var 7) (.cons (.var 6) (.cons (.bin .sub (.bin .mul (.int 2) (.var 6)) (.int 1)) (.cons (.var 7) .nil))))) (.call f__law_drawn (.cons (.var 0) (.cons (.int 4) .nil)))))
  (.cons (.ife (.cmp .eq (.call f__law_drawn (.cons (.var 0) (.cons (.int 4) .nil))) (.int 0)) (.cons (.par 5 7 (.var 3) (.call f__law_drawn (.cons (.var 0) (.cons (.bin .add (.var 6) (.int 1)) .nil))))
  .nil) .nil)
  (.cons (.ret (.tup (.cons (.str "num") (.cons (.call f__law_drawn (.cons (.var 0) (.cons (.int 2) .nil))) (.cons (.var 7) (.cons (.var 5) .nil))))))
  .nil))))))), []⟩
/-- _law_float(_law_state, _law_form_here): 0 _law_state, 1 _law_form_here, 2 _law_way -/
def ir__law_float : DI := ⟨2, 3, (.cons (.asg (.nm 2) (.call f__law_drawn (.cons (.var 0) (.cons (.int 16) .nil))))
  (.cons (.ife (.cmp .lt (.var 2) (.int 3)) (.cons (.ret (.idx (.lst (.cons (.tup (.cons (.str "inf") (.cons (.call f__law_drawn (.cons (.var 0) (.cons (.int 2) .nil))) .nil))) (.cons (.tup (.cons (.str "nan") .nil)) (.cons (.tup (.cons (.str "num") (.cons (.call f__law_drawn (.cons (.var 0) (.cons (.int 2) .nil))) (.cons (.int 0) (.cons (.idx (.var 1) (.int 1)) .nil))))) .nil)))) (.var 2)))
  .nil) .nil)
  (.cons (.ret (.call f__law_num (.cons (.var 0) (.cons (.var 1) .nil))))
  .nil))), []⟩
/-- _law_rule(_law_state): 0 _law_state -/
def ir__law_rule : DI := ⟨1, 1, (.cons (.ret (.idx (.lst (.cons (.str "even") (.cons (.str "away") (.cons (.str "nought") (.cons (.str "up") (.cons (.str "down") .nil)))))) (.call f__law_drawn (.cons (.var 0) (.cons (.int 5) .nil)))))
  .nil), []⟩
/-- _law_short(_law_top, _law_under): 0 _law_top, 1 _law_under, 2 _law_one, 3 _law_other -/
def ir__law_short : DI := ⟨2, 4, (.cons (.par 2 3 (.bi .abs (.cons (.var 0) .nil)) (.var 1))
  (.cons (.whil (.cmp .ne (.var 3) (.int 0)) (.cons (.par 2 3 (.var 3) (.bin .mod (.var 2) (.var 3)))
  .nil))
  (.cons (.ret (.tup (.cons (.bin .fdiv (.var 0) (.var 2)) (.cons (.bin .fdiv (.var 1) (.var 2)) .nil))))
  .nil))), []⟩
/-- _law_worth(_law_one): 0 _law_one, 1 _law_top -/
def ir__law_worth : DI := ⟨1, 2, (.cons (.asg (.nm 1) (.bin .mul (.bin .mul (.idx (.var 0) (.int 2)) (.call f__law_two (.cons (.bi .max2 (.cons (.int 0) (.cons (.idx (.var 0) (.int 3)) .nil))) .nil))) (.bin .sub (.int 1) (.bin .mul (.int 2) (.idx (.var 0) (.int 1))))))
  (.cons (.ret (.call f__law_short (.cons (.var 1) (.cons (.call f__law_two (.cons (.bi .max2 (.cons (.int 0) (.cons (.bin .sub (.int 0) (.idx (.var 0) (.int 3))) .nil))) .nil)) .nil))))
  .nil)), []⟩
/-- _law_sizes(_law_form_here): 0 _law_form_here, 1 _law_bits, 2 _law_low, 3 _law_high, 4 _law_half, 5 _law_found, 6 _law_power, 7 _law_many -/
def ir__law_sizes : DI := ⟨1, 8, (.cons (.asg (.tp [1, 2, 3]) (.var 0))
  (.cons (.asg (.nm 4) (.call f__law_two (.cons (.bin .sub (.var 1) (.int 1)) .nil)))
  (.cons (.asg (.nm 5) (.comp (.tup (.cons (.var 7) (.cons (.var 7) (.cons (.var 2) .nil)))) (.nm 7) (.rng1 (.var 4)) .nil [7]))
  (.cons (.forr (.nm 6) (.rng2 (.var 2) (.bin .add (.var 3) (.int 1))) (.cons (.asg (.nm 5) (.bin .add (.var 5) (.comp (.tup (.cons (.bin .mul (.var 7) (.call f__law_two (.cons (.bin .sub (.var 6) (.var 2)) .nil))) (.cons (.var 7) (.cons (.var 6) .nil)))) (.nm 7) (.rng2 (.var 4) (.bin .mul (.int 2) (.var 4))) .nil [7])))
  .nil))
  (.cons (.ret (.var 5))
  .nil))))), []⟩
/-- _law_nearest(_law_form_here, _law_top, _law_under, _law_rule_here, _law_sign): 0 _law_form_here, 1 _law_top, 2 _law_under, 3 _law_rule_here, 4 _law_sign, 5 _law_low, 6 _law_some, 7 _law_sizes_here, 8 _law_at, 9 _law_gap, 10 _law_many, 11 _law_beyond, 12 _law_row, 13 _law_size -/
def ir__law_nearest : DI := ⟨5, 14, (.cons (.par 5 6 (.idx (.var 0) (.int 1)) (.call f__law_sizes (.cons (.var 0) .nil)))
  (.cons (.asg (.tp [1, 2]) (.tup (.cons (.bin .mul (.var 1) (.call f__law_two (.cons (.bi .max2 (.cons (.int 0) (.cons (.bin .sub (.int 0) (.var 5)) .nil))) .nil))) (.cons (.bin .mul (.var 2) (.call f__law_two (.cons (.bi .max2 (.cons (.int 0) (.cons (.var 5) .nil))) .nil))) .nil))))
  (.cons (.asg (.nm 7) (.bin .add (.comp (.idx (.var 12) (.int 0)) (.nm 12) (.val (.var 6)) .nil [12]) (.lst (.cons (.call f__law_two (.cons (.bin .sub (.bin .add (.idx (.var 0) (.int 0)) (.idx (.var 0) (.int 2))) (.var 5)) .nil)) .nil))))
  (.cons (.asg (.nm 8) (.bin .sub (.bi .len (.cons (.comp (.var 13) (.nm 13) (.val (.var 7)) (.cons (.cmp .le (.bin .mul (.var 13) (.var 2)) (.var 1)) .nil) [13]) .nil)) (.int 1)))
  (.cons (.ife (.and (.cmp .lt (.var 8) (.bi .len (.cons (.var 6) .nil))) (.cmp .eq (.bin .mul (.idx (.var 7) (.var 8)) (.var 2)) (.var 1))) (.cons (.ret (.tup (.cons (.var 8) (.cons (.bl true) .nil))))
  .nil) .nil)
  (.cons (.ife (.cmp .eq (.var 8) (.bi .len (.cons (.var 6) .nil))) (.cons (.asg (.nm 11) (.or (.cmp .inn (.var 3) (.tup (.cons (.str "even") (.cons (.str "away") .nil)))) (.cmp .eq (.var 3) (.idx (.lst (.cons (.str "up") (.cons (.str "down") .nil))) (.var 4)))))
  (.cons (.ret (.tup (.cons (.ife (.var 11) (.bi .len (.cons (.var 6) .nil)) (.bin .sub (.bi .len (.cons (.var 6) .nil)) (.int 1))) (.cons (.bl false) .nil))))
  .nil)) .nil)
  (.cons (.ife (.cmp .inn (.var 3) (.tup (.cons (.str "nought") (.cons (.str "up") (.cons (.str "down") .nil))))) (.cons (.ret (.tup (.cons (.bin .add (.var 8) (.bi .int (.cons (.cmp .eq (.var 3) (.idx (.lst (.cons (.str "up") (.cons (.str "down") .nil))) (.var 4))) .nil))) (.cons (.bl false) .nil))))
  .nil) .nil)
  (.cons (.asg (.nm 9) (.bin .sub (.bin .mul (.int 2) (.var 1)) (.bin .mul (.bin .add (.idx (.var 7) (.var 8)) (.idx (.var 7) (.bin .add (.var 8) (.int 1)))) (.var 2))))
  (.cons (.asg (.nm 10) (.idx (.idx (.var 6) (.var 8)) (.int 1)))
  (.cons (.ret (.tup (.cons (.bin .add (.var 8) (.bi .int (.cons (.or (.cmp .gt (.var 9) (.int 0)) (.and (.cmp .eq (.var 9) (.int 0)) (.or (.cmp .eq (.var 3) (.str "away")) (.cmp .eq (.bin .mod (.var 10) (.int 2)) (.int 1))))) .nil))) (.cons (.bl false) .nil))))
  .nil)))))))))), []⟩
/-- _law_rounded(_law_form_here, _law_worth_here, _law_rule_here): 0 _law_form_here, 1 _law_worth_here, 2 _law_rule_here, 3 _law_top, 4 _law_under, 5 _law_sign, 6 _law_some, 7 _law_at, 8 _law_exact, 9 _law_told, 10 _law_least, 11 _law_most, 12 _law_size, 13 _law_over -/
def ir__law_rounded : DI := ⟨3, 14, (.cons (.asg (.tp [3, 4]) (.var 1))
  (.cons (.ife (.cmp .eq (.var 3) (.int 0)) (.cons (.ret (.tup (.cons (.tup (.cons (.str "num") (.cons (.int 0) (.cons (.int 0) (.cons (.idx (.var 0) (.int 1)) .nil))))) (.cons (.tup .nil) .nil))))
  .nil) .nil)
  (.cons (.par 5 6 (.bi .int (.cons (.cmp .lt (.var 3) (.int 0)) .nil)) (.call f__law_sizes (.cons (.var 0) .nil)))
  (.cons (.asg (.tp [7, 8]) (.call f__law_nearest (.cons (.var 0) (.cons (.bi .abs (.cons (.var 3) .nil)) (.cons (.var 4) (.cons (.var 2) (.cons (.var 5) .nil)))))))
  (.cons (.asg (.nm 9) (.ife (.cmp .eq (.var 7) (.bi .len (.cons (.var 6) .nil))) (.tup (.cons (.str "inf") (.cons (.var 5) .nil))) (.bin .add (.tup (.cons (.str "num") (.cons (.var 5) .nil))) (.slc (.idx (.var 6) (.var 7)) (.cons (.int 1) .nil) .nil))))
  (.cons (.ife (.var 8) (.cons (.ret (.tup (.cons (.var 9) (.cons (.tup .nil) .nil))))
  .nil) .nil)
  (.cons (.asg (.nm 10) (.call f__law_two (.cons (.bin .sub (.bin .add (.bin .add (.int 20) (.idx (.var 0) (.int 1))) (.idx (.var 0) (.int 0))) (.int 1)) .nil)))
  (.cons (.asg (.nm 11) (.call f__law_two (.cons (.bin .add (.bin .add (.int 20) (.idx (.var 0) (.int 2))) (.idx (.var 0) (.int 0))) .nil)))
  (.cons (.asg (.nm 12) (.bin .mul (.bi .abs (.cons (.var 3) .nil)) (.call f__law_two (.cons (.int 20) .nil))))
  (.cons (.asg (.nm 13) (.or (.cmp .eq (.var 7) (.bi .len (.cons (.var 6) .nil))) (.cmp .ge (.var 12) (.bin .mul (.var 11) (.var 4)))))
  (.cons (.ret (.tup (.cons (.var 9) (.cons (.bin .add (.bin .add (.tup (.cons (.str "inexact") .nil)) (.bin .mul (.tup (.cons (.str "over") .nil)) (.bi .int (.cons (.var 13) .nil)))) (.bin .mul (.tup (.cons (.str "under") .nil)) (.bi .int (.cons (.cmp .lt (.var 12) (.bin .mul (.var 10) (.var 4))) .nil)))) .nil))))
  .nil))))))))))), []⟩
/-- _law_plus(_law_one, _law_other): 0 _law_one, 1 _law_other -/
def ir__law_plus : DI := ⟨2, 2, (.cons (.ret (.call f__law_short (.cons (.bin .add (.bin .mul (.idx (.var 0) (.int 0)) (.idx (.var 1) (.int 1))) (.bin .mul (.idx (.var 1) (.int 0)) (.idx (.var 0) (.int 1)))) (.cons (.bin .mul (.idx (.var 0) (.int 1)) (.idx (.var 1) (.int 1))) .nil))))
  .nil), []⟩
/-- law(_law_script): 0 _law_script, 1 _law_state, 2 _law_turn, 3 _law_form_here, 4 _law_other, 5 _law_wide, 6 _law_step, 7 _law_bad, 8 _law_works, 9 _law_one, 10 _law_rule_here, 11 _law_due, 12 _law_told, 13 _law_fits, 14 _law_work -/
def ir_law : DI := ⟨1, 15, (.cons (.asg (.nm 1) (.call f__law_start (.cons (.var 0) .nil)))
  (.cons (.forr (.nm 2) (.rng1 (.int 4)) (.cons (.asg (.tp [3, 4]) (.tup (.cons (.call f__law_form (.cons (.var 1) (.cons (.int 6) .nil))) (.cons (.call f__law_form (.cons (.var 1) (.cons (.int 6) .nil))) .nil))))
  (.cons (.asg (.nm 5) (.tup (.cons (.int 8) (.cons (.bi .max2 (.cons (.bin .sub (.int 0) (.int 20)) (.cons (.bin .sub (.idx (.var 3) (.int 1)) (.int 2)) .nil))) (.cons (.bi .min2 (.cons (.int 20) (.cons (.bin .add (.idx (.var 3) (.int 2)) (.int 2)) .nil))) .nil)))))
  (.cons (.forr (.nm 6) (.rng1 (.int 5)) (.cons (.asg (.tp [9, 10]) (.tup (.cons (.call f__law_float (.cons (.var 1) (.cons (.var 3) .nil))) (.cons (.call f__law_rule (.cons (.var 1) .nil)) .nil))))
  (.cons (.asg (.nm 11) (.tup (.cons (.var 9) (.cons (.tup .nil) .nil))))
  (.cons (.ife (.and (.cmp .eq (.idx (.var 9) (.int 0)) (.str "num")) (.cmp .eq (.idx (.var 9) (.int 2)) (.int 0))) (.cons (.asg (.nm 11) (.tup (.cons (.tup (.cons (.str "num") (.cons (.idx (.var 9) (.int 1)) (.cons (.int 0) (.cons (.idx (.var 4) (.int 1)) .nil))))) (.cons (.tup .nil) .nil))))
  .nil) (.cons (.ife (.cmp .eq (.idx (.var 9) (.int 0)) (.str "num")) (.cons (.asg (.nm 11) (.call f__law_rounded (.cons (.var 4) (.cons (.call f__law_worth (.cons (.var 9) .nil)) (.cons (.var 10) .nil)))))
  .nil) .nil)
  .nil))
  (.cons (.ife (.not (.call f__law_same (.cons (.call f_moved (.cons (.var 3) (.cons (.var 4) (.cons (.var 9) (.cons (.var 10) .nil))))) (.cons (.var 11) .nil)))) (.cons (.ret (.bl false))
  .nil) .nil)
  (.cons (.asg (.nm 12) (.call f_moved (.cons (.var 3) (.cons (.var 5) (.cons (.var 9) (.cons (.var 10) .nil))))))
  (.cons (.asg (.nm 13) (.and (.cmp .ge (.bin .sub (.idx (.var 3) (.int 1)) (.int 2)) (.bin .sub (.int 0) (.int 20))) (.and (.cmp .lt (.idx (.var 3) (.int 0)) (.int 7)) (.cmp .eq (.idx (.var 12) (.int 1)) (.tup .nil)))))
  (.cons (.ife (.and (.var 13) (.cmp .ne (.call f_moved (.cons (.var 5) (.cons (.var 3) (.cons (.idx (.var 12) (.int 0)) (.cons (.var 10) .nil))))) (.tup (.cons (.var 9) (.cons (.tup .nil) .nil))))) (.cons (.ret (.bl false))
  .nil) .nil)
  .nil))))))))
  (.cons (.asg (.nm 7) (.idx (.lst (.cons (.tup (.cons (.int 1) (.cons (.int 0) (.cons (.int 1) .nil)))) (.cons .non (.cons (.tup (.cons (.int 3) (.cons (.int 2) (.cons (.int 1) .nil)))) .nil)))) (.call f__law_drawn (.cons (.var 1) (.cons (.int 3) .nil)))))
  (.cons (.asg (.nm 8) (.newl (.cons (.lam 1) (.cons (.lam 2) .nil))))
  (.cons (.appf 8 (.lam 0))
  (.cons (.ife (.cmp .ne (.kinds ksl (.var 8)) (.lst (.cons (.str "BadFormat") (.cons (.tup (.cons (.str "BadFloat") (.cons (.int 0) .nil))) (.cons (.str "BadRule") .nil))))) (.cons (.ret (.bl false))
  .nil) .nil)
  .nil))))))))
  (.cons (.ret (.bl true))
  .nil))), [(.call f_moved (.cons (.var 3) (.cons (.var 4) (.cons (.var 9) (.cons (.str "Up") .nil))))), (.call f_moved (.cons (.var 3) (.cons (.var 7) (.cons (.int 0) (.cons (.int 0) .nil))))), (.call f_moved (.cons (.var 3) (.cons (.var 4) (.cons (.int 0) (.cons (.int 0) .nil)))))]⟩
def defs : List Df := [
  ⟨21, "is_number", ["thing", "low", "high"], ["thing", "low", "high"], ir_is_number⟩,
  ⟨22, "need_format", ["form"], ["form"], ir_need_format⟩,
  ⟨23, "need_rule", ["rule"], ["rule"], ir_need_rule⟩,
  ⟨24, "is_float", ["form", "told", "bits", "low", "high", "half"], ["form", "told"], ir_is_float⟩,
  ⟨25, "need_floats", ["form", "floats", "number", "told"], ["form", "floats"], ir_need_floats⟩,
  ⟨26, "two_to", ["power", "found", "turn"], ["power"], ir_two_to⟩,
  ⟨27, "divisor", ["one", "other"], ["one", "other"], ir_divisor⟩,
  ⟨28, "fraction", ["top", "under", "shared"], ["top", "under"], ir_fraction⟩,
  ⟨29, "scaled", ["many", "power"], ["many", "power"], ir_scaled⟩,
  ⟨30, "value_of", ["told", "found"], ["told"], ir_value_of⟩,
  ⟨31, "negated", ["told"], ["told"], ir_negated⟩,
  ⟨36, "cut_off", ["form", "top", "under", "bits", "low", "high", "power", "whole", "part", "many", "left"], ["form", "top", "under"], ir_cut_off⟩,
  ⟨37, "goes_up", ["rule", "sign", "many", "left"], ["rule", "sign", "many", "left"], ir_goes_up⟩,
  ⟨38, "rounded_size", ["form", "top", "under", "rule", "sign", "bits", "low", "high", "many", "power", "left", "is_small", "flags", "is_inf"], ["form", "top", "under", "rule", "sign"], ir_rounded_size⟩,
  ⟨39, "rounded_by", ["form", "told", "rule", "top", "under", "sign", "found", "flags"], ["form", "told", "rule"], ir_rounded_by⟩,
  ⟨40, "moved", ["form", "other", "told", "rule"], ["form", "other", "told", "rule"], ir_moved⟩,
  ⟨42, "_law_start", ["_law_script", "_law_mixed", "_law_cell"], ["_law_script"], ir__law_start⟩,
  ⟨43, "_law_drawn", ["_law_state", "_law_many", "_law_found", "_law_cell"], ["_law_state", "_law_many"], ir__law_drawn⟩,
  ⟨44, "_law_same", ["_law_found", "_law_due", "_law_alike", "_law_k"], ["_law_found", "_law_due"], ir__law_same⟩,
  ⟨45, "_law_kind", ["_law_work", "_law_kinds", "_law_words", "_law_word"], ["_law_work"], ir__law_kind⟩,
  ⟨46, "_law_form", ["_law_state", "_law_most", "_law_bits", "_law_low"], ["_law_state", "_law_most"], ir__law_form⟩,
  ⟨47, "_law_two", ["_law_power", "_law_found", "_law_k"], ["_law_power"], ir__law_two⟩,
  ⟨48, "_law_num", ["_law_state", "_law_form_here", "_law_bits", "_law_low", "_law_high", "_law_power", "_law_half", "_law_many"], ["_law_state", "_law_form_here"], ir__law_num⟩,
  ⟨49, "_law_float", ["_law_state", "_law_form_here", "_law_way"], ["_law_state", "_law_form_here"], ir__law_float⟩,
  ⟨50, "_law_rule", ["_law_state"], ["_law_state"], ir__law_rule⟩,
  ⟨51, "_law_short", ["_law_top", "_law_under", "_law_one", "_law_other"], ["_law_top", "_law_under"], ir__law_short⟩,
  ⟨52, "_law_worth", ["_law_one", "_law_top"], ["_law_one"], ir__law_worth⟩,
  ⟨53, "_law_sizes", ["_law_form_here", "_law_bits", "_law_low", "_law_high", "_law_half", "_law_found", "_law_power", "_law_many"], ["_law_form_here"], ir__law_sizes⟩,
  ⟨54, "_law_nearest", ["_law_form_here", "_law_top", "_law_under", "_law_rule_here", "_law_sign", "_law_low", "_law_some", "_law_sizes_here", "_law_at", "_law_gap", "_law_many", "_law_beyond", "_law_row", "_law_size"], ["_law_form_here", "_law_top", "_law_under", "_law_rule_here", "_law_sign"], ir__law_nearest⟩,
  ⟨55, "_law_rounded", ["_law_form_here", "_law_worth_here", "_law_rule_here", "_law_top", "_law_under", "_law_sign", "_law_some", "_law_at", "_law_exact", "_law_told", "_law_least", "_law_most", "_law_size", "_law_over"], ["_law_form_here", "_law_worth_here", "_law_rule_here"], ir__law_rounded⟩,
  ⟨56, "_law_plus", ["_law_one", "_law_other"], ["_law_one", "_law_other"], ir__law_plus⟩,
  ⟨57, "law", ["_law_script", "_law_state", "_law_turn", "_law_form_here", "_law_other", "_law_wide", "_law_step", "_law_bad", "_law_works", "_law_one", "_law_rule_here", "_law_due", "_law_told", "_law_fits", "_law_work"], ["_law_script"], ir_law⟩]
def cons : List (PySem.Str × D) := [
  ("LEAST_BITS", (.int 2)),
  ("MOST_BITS", (.int 8)),
  ("MOST_POWER", (.int 20)),
  ("NUM", (.str "num")),
  ("INF", (.str "inf")),
  ("NAN", (.tup [(.str "nan")])),
  ("RULES", (.tup [(.str "even"), (.str "away"), (.str "nought"), (.str "up"), (.str "down")])),
  ("INEXACT", (.str "inexact")),
  ("OVER", (.str "over")),
  ("UNDER", (.str "under"))]
abbrev lw : PySem.W.OpenLaw := PySem.Challenge.rw_sumways_k07_turned_into_other_formats
abbrev R : PySem.W.OpenRow := PySem.W.OpenLaw.row lw
def dcts : List (PySem.Str × List PySem.Str × List Int) := []
def tx : Tx := ⟨PySem.Challenge.pw_sumways_k07_turned_into_other_formats, defs, cons, dcts, ksl⟩
def kqs : List PySem.Pos := [⟨176, 8, 176, 18⟩, ⟨176, 22, 176, 32⟩, ⟨176, 33, 176, 34⟩, ⟨176, 36, 176, 45⟩, ⟨176, 22, 176, 46⟩, ⟨176, 48, 176, 58⟩, ⟨176, 59, 176, 60⟩, ⟨176, 62, 176, 70⟩, ⟨176, 48, 176, 71⟩, ⟨176, 73, 176, 83⟩, ⟨176, 84, 176, 85⟩, ⟨176, 87, 176, 98⟩, ⟨176, 73, 176, 99⟩, ⟨176, 101, 176, 111⟩, ⟨176, 112, 176, 113⟩, ⟨176, 115, 176, 122⟩, ⟨176, 101, 176, 123⟩, ⟨176, 21, 176, 124⟩, ⟨176, 8, 176, 124⟩, ⟨177, 8, 177, 18⟩, ⟨177, 21, 177, 31⟩, ⟨177, 35, 177, 45⟩, ⟨177, 46, 177, 47⟩, ⟨177, 49, 177, 56⟩, ⟨177, 35, 177, 57⟩, ⟨177, 59, 177, 69⟩, ⟨177, 70, 177, 71⟩, ⟨177, 73, 177, 80⟩, ⟨177, 59, 177, 81⟩, ⟨177, 83, 177, 93⟩, ⟨177, 94, 177, 95⟩, ⟨177, 97, 177, 104⟩, ⟨177, 83, 177, 105⟩, ⟨177, 34, 177, 106⟩, ⟨177, 21, 177, 106⟩, ⟨177, 8, 177, 106⟩, ⟨178, 8, 178, 18⟩, ⟨178, 21, 178, 31⟩, ⟨178, 35, 178, 45⟩, ⟨178, 46, 178, 47⟩, ⟨178, 49, 178, 57⟩, ⟨178, 35, 178, 58⟩, ⟨178, 60, 178, 70⟩, ⟨178, 71, 178, 72⟩, ⟨178, 74, 178, 81⟩, ⟨178, 60, 178, 82⟩, ⟨178, 84, 178, 94⟩, ⟨178, 95, 178, 96⟩, ⟨178, 98, 178, 105⟩, ⟨178, 84, 178, 106⟩, ⟨178, 34, 178, 107⟩, ⟨178, 21, 178, 107⟩, ⟨178, 8, 178, 107⟩, ⟨179, 8, 179, 18⟩, ⟨179, 8, 179, 25⟩, ⟨179, 26, 179, 36⟩, ⟨179, 37, 179, 38⟩, ⟨179, 40, 179, 47⟩, ⟨179, 26, 179, 48⟩, ⟨179, 8, 179, 49⟩, ⟨179, 8, 179, 49⟩, ⟨180, 8, 180, 18⟩, ⟨180, 21, 180, 118⟩, ⟨180, 8, 180, 118⟩, ⟨181, 11, 181, 21⟩, ⟨181, 11, 181, 27⟩, ⟨181, 28, 181, 32⟩, ⟨181, 11, 181, 33⟩, ⟨181, 37, 181, 38⟩, ⟨181, 11, 181, 38⟩, ⟨181, 46, 181, 56⟩, ⟨181, 57, 181, 58⟩, ⟨181, 60, 181, 70⟩, ⟨181, 46, 181, 71⟩, ⟨181, 42, 181, 71⟩, ⟨181, 11, 181, 71⟩, ⟨182, 19, 182, 26⟩, ⟨182, 12, 182, 26⟩, ⟨181, 8, 182, 26⟩, ⟨183, 8, 183, 17⟩, ⟨183, 20, 183, 30⟩, ⟨183, 20, 183, 36⟩, ⟨183, 37, 183, 40⟩, ⟨183, 20, 183, 41⟩, ⟨183, 42, 183, 52⟩, ⟨183, 42, 183, 58⟩, ⟨183, 59, 183, 63⟩, ⟨183, 42, 183, 64⟩, ⟨183, 20, 183, 65⟩, ⟨183, 8, 183, 65⟩, ⟨184, 11, 184, 20⟩, ⟨184, 24, 184, 34⟩, ⟨184, 11, 184, 34⟩, ⟨185, 20, 185, 29⟩, ⟨185, 31, 185, 32⟩, ⟨185, 31, 185, 39⟩, ⟨185, 19, 185, 40⟩, ⟨185, 12, 185, 40⟩, ⟨184, 8, 185, 40⟩, ⟨186, 39, 186, 48⟩, ⟨186, 52, 186, 61⟩, ⟨186, 39, 186, 61⟩, ⟨186, 16, 186, 25⟩, ⟨186, 27, 186, 28⟩, ⟨186, 27, 186, 34⟩, ⟨186, 15, 186, 35⟩, ⟨186, 67, 186, 76⟩, ⟨186, 15, 186, 76⟩, ⟨186, 8, 186, 76⟩, ⟨174, 15, 174, 24⟩, ⟨174, 15, 174, 26⟩, ⟨174, 8, 174, 26⟩, ⟨175, 11, 175, 21⟩, ⟨175, 4, 186, 76⟩, ⟨173, 4, 186, 76⟩]
def kq : Nat → PySem.Pos := fun i => kqs.getD i ⟨0, 0, 0, 0⟩
end K07
namespace K07
open PySem Sw Fm
theorem gl : tx.G g_NUM = some (.str "num") ∧ tx.G g_INF = some (.str "inf") ∧ tx.G g_NAN = some (.tup [.str "nan"]) ∧ tx.G g_LEAST_BITS = some (.int 2) ∧ tx.G g_MOST_BITS = some (.int 8) ∧ tx.G g_MOST_POWER = some (.int 20) ∧ tx.G g_RULES = some (.tup [.str "even", .str "away", .str "nought", .str "up", .str "down"]) := ⟨rfl, rfl, rfl, rfl, rfl, rfl, rfl⟩
theorem i_two_to (n : Nat) {p : Int} (h : -(2 ^ 62) ≤ p) (h' : p < 2 ^ 62) : interp tx.T tx.G (n + 1) f_two_to [.d (.int p)] = ret (.d (.int (two p))) := by
  rw [interp_eq (d := ir_two_to) rfl]
  refine runF_rt rfl ?_
  simp only [ir_two_to, Nat.reduceSub, env0, evs, evx, mm, mv, mq, rngs_eq (show -(2 ^ 62) ≤ (0 : Int) by decide) (show (0 : Int) < 2 ^ 62 by decide) h h']
  obtain ⟨t, e⟩ := forM_steps (f := forB ⟨interp tx.T tx.G n, lamOf tx.T tx.G [] n⟩ tx.G (.nm 2) (.cons (.aug .mul 1 (.int 2)) .nil)) (fun i : Nat => D.int (0 + i)) (fun (a : Int) t => [some (.d (.int p)), some (.d (.int a)), t]) (fun a _ => a * 2) (List.range (p - 0).toNat) 1 none
    (fun i _ s t => by simp only [forB, evs, evx, mm, mv, mq, aug_mul_ok (ok2 _)])
  rw [e, foldl_two]
  simp only [evs, evx, mm, mv, mq, two, List.length_range, Int.sub_zero, Int.one_mul]
theorem i__law_two (n : Nat) {p : Int} (h : -(2 ^ 62) ≤ p) (h' : p < 2 ^ 62) : interp tx.T tx.G (n + 1) f__law_two [.d (.int p)] = ret (.d (.int (two p))) := by
  rw [interp_eq (d := ir__law_two) rfl]
  refine runF_rt rfl ?_
  simp only [ir__law_two, Nat.reduceSub, env0, evs, evx, mm, mv, mq, rngs_eq (show -(2 ^ 62) ≤ (0 : Int) by decide) (show (0 : Int) < 2 ^ 62 by decide) h h']
  obtain ⟨t, e⟩ := forM_steps (f := forB ⟨interp tx.T tx.G n, lamOf tx.T tx.G [] n⟩ tx.G (.nm 2) (.cons (.asg (.nm 1) (.bin .mul (.var 1) (.int 2))) .nil)) (fun i : Nat => D.int (0 + i)) (fun (a : Int) t => [some (.d (.int p)), some (.d (.int a)), t]) (fun a _ => a * 2) (List.range (p - 0).toNat) 1 none
    (fun i _ s t => by simp only [forB, evs, evx, mm, mv, mq, mul_ok (ok2 _)])
  rw [e, foldl_two]
  simp only [evs, evx, mm, mv, mq, two, List.length_range, Int.sub_zero, Int.one_mul]
theorem i_is_number (n : Nat) (a l h : Int) : interp tx.T tx.G (n + 1) f_is_number [.d (.int a), .d (.int l), .d (.int h)] = ret (.d (.bl (decide (l ≤ a) && decide (a ≤ h)))) := by
  rw [interp_eq (d := ir_is_number) rfl]
  refine runF_rt rfl ?_
  simp only [ir_is_number, Nat.reduceSub, env0, evs, evx, mm, mv, mq, kinds, List.any_cons, List.any_nil, Bool.or_false, Bool.not_false, if_true, numb, numb2, decide_eq_true_eq]
  by_cases h1 : l ≤ a <;> simp [h1, mm, mq]
theorem i_need_format (n : Nat) {b l h : Int} (o : okB b l h) : interp tx.T tx.G (n + 2) f_need_format [.d (fd b l h)] = ret (.d .non) := by
  rw [interp_eq (d := ir_need_format) rfl]
  obtain ⟨h1, h2, h3, h4, h5⟩ := o
  have h6 : l ≤ 20 := by omega
  refine runF_nx (e := [some (.d (fd b l h))]) rfl ?_
  simp [ir_need_format, fd, env0, evs, evx, mm, mv, mq, mx, mxi, kinds, numb, numb2, gl, i_is_number, h1, h2, h3, h4, h5, h6]
theorem i_is_float (n : Nat) {b l h : Int} (o : okB b l h) (x : Fl) (hx : x.ok b l h) : interp tx.T tx.G (n + 2) f_is_float [.d (fd b l h), .d x.d] = ret (.d (.bl true)) := by
  rw [interp_eq (d := ir_is_float) rfl]
  obtain ⟨h1, h2, h3, h4, h5⟩ := o
  refine runF_rt rfl ?_
  cases x with
  | num s m e =>
    obtain ⟨hs, ⟨h6, h7⟩, h8, h9⟩ := hx
    have hs1 : 0 ≤ s := by omega
    have hs2 : s ≤ 1 := by omega
    have hh := i_two_to n (p := b - 1) (by omega) (by omega)
    by_cases he : e = l
    · rw [if_pos he] at h8
      simp [ir_is_float, fd, Fl.d, env0, evs, evx, mm, mv, mq, mx, mxi, kinds, numb, numb2, gl, ss, dc, dok, dq, List.any_cons, List.any_nil, Option.map_some, Bool.and_self, Bool.and_true, Bool.true_and, Bool.and_false, Bool.false_and, Bool.or_false, Bool.false_or, Bool.not_true, Bool.not_false, Bool.false_eq_true, beq_self_eq_true, Bool.not_not, ↓reduceIte, i_is_number, hh, hs1, hs2, h6, h7, h5, he, mul_ok (ok2l _), h8, h9, h4]
    · rw [if_neg he] at h8
      simp [ir_is_float, fd, Fl.d, env0, evs, evx, mm, mv, mq, mx, mxi, kinds, numb, numb2, gl, ss, dc, dok, dq, List.any_cons, List.any_nil, Option.map_some, Bool.and_self, Bool.and_true, Bool.true_and, Bool.and_false, Bool.false_and, Bool.or_false, Bool.false_or, Bool.not_true, Bool.not_false, Bool.false_eq_true, beq_self_eq_true, Bool.not_not, ↓reduceIte, i_is_number, hh, hs1, hs2, h6, h7, h5, he, mul_ok (ok2l _), h8, h9]
  | inf s =>
    have hs1 : 0 ≤ s := by rcases hx with h | h <;> omega
    have hs2 : s ≤ 1 := by rcases hx with h | h <;> omega
    simp [ir_is_float, fd, Fl.d, env0, evs, evx, mm, mv, mq, mx, mxi, kinds, numb, numb2, gl, ss, dc, dok, dq, List.any_cons, List.any_nil, Option.map_some, Bool.and_self, Bool.and_true, Bool.true_and, Bool.and_false, Bool.false_and, Bool.or_false, Bool.false_or, Bool.not_true, Bool.not_false, Bool.false_eq_true, beq_self_eq_true, Bool.not_not, ↓reduceIte, i_is_number, hs1, hs2]
  | nan =>
    simp [ir_is_float, fd, Fl.d, env0, evs, evx, mm, mv, mq, mx, mxi, kinds, numb, numb2, gl, ss, dc, dok, dq, List.any_cons, List.any_nil, Option.map_some, Bool.and_self, Bool.and_true, Bool.true_and, Bool.and_false, Bool.false_and, Bool.or_false, Bool.false_or, Bool.not_true, Bool.not_false, Bool.false_eq_true, beq_self_eq_true, Bool.not_not, ↓reduceIte, i_is_number]
theorem nf_turn (n : Nat) {b l h : Int} (o : okB b l h) (x : Fl) (hx : x.ok b l h) (i : Int) (xs : D) (u v : Option A) :
    forB ⟨interp tx.T tx.G (n + 2), lamOf tx.T tx.G [] (n + 2)⟩ tx.G (.tp [2, 3]) (.cons (.ife (.not (.call f_is_float (.cons (.var 0) (.cons (.var 3) .nil)))) (.cons (.rse 2 (.cons (.var 2) .nil)) .nil) .nil) .nil) (.tup [.int i, x.d]) [some (.d (fd b l h)), some (.d xs), u, v] = ret (.nx [some (.d (fd b l h)), some (.d xs), some (.d (.int i)), some (.d x.d)]) := by
  simp [forB, env0, evs, evx, mm, mv, mq, mx, mxi, kinds, numb, numb2, gl, ss, dc, dok, dq, List.any_cons, List.any_nil, Option.map_some, Bool.and_self, Bool.and_true, Bool.true_and, Bool.and_false, Bool.false_and, Bool.or_false, Bool.false_or, Bool.not_true, Bool.not_false, Bool.false_eq_true, beq_self_eq_true, Bool.not_not, ↓reduceIte, i_is_float n o x hx]
theorem i_need_floats1 (n : Nat) {b l h : Int} (o : okB b l h) (x : Fl) (hx : x.ok b l h) : interp tx.T tx.G (n + 3) f_need_floats [.d (fd b l h), .d (.lst [x.d])] = ret (.d .non) := by
  rw [interp_eq (d := ir_need_floats) rfl]
  refine runF_nx (e := [some (.d (fd b l h)), some (.d (.lst [x.d])), some (.d (.int 0)), some (.d x.d)]) rfl ?_
  simp only [ir_need_floats, Nat.reduceSub, env0, evs, evx, mm, mv, mq, mx, mxi, kinds, numb, numb2, gl, ss, dc, dok, dq, List.any_cons, List.any_nil, Option.map_some, Bool.and_self, Bool.and_true, Bool.true_and, Bool.and_false, Bool.false_and, Bool.or_false, Bool.false_or, Bool.not_true, Bool.not_false, Bool.false_eq_true, beq_self_eq_true, Bool.not_not, ↓reduceIte, enms]
  rw [forM_one (nf_turn n o x hx _ _ _ _)]
  simp only [env0, evs, evx, mm, mv, mq, mx, mxi, kinds, numb, numb2, gl, ss, dc, dok, dq, List.any_cons, List.any_nil, Option.map_some, Bool.and_self, Bool.and_true, Bool.true_and, Bool.and_false, Bool.false_and, Bool.or_false, Bool.false_or, Bool.not_true, Bool.not_false, Bool.false_eq_true, beq_self_eq_true, Bool.not_not, ↓reduceIte]
theorem i_need_floats2 (n : Nat) {b l h : Int} (o : okB b l h) (x y : Fl) (hx : x.ok b l h) (hy : y.ok b l h) : interp tx.T tx.G (n + 3) f_need_floats [.d (fd b l h), .d (.lst [x.d, y.d])] = ret (.d .non) := by
  rw [interp_eq (d := ir_need_floats) rfl]
  refine runF_nx (e := [some (.d (fd b l h)), some (.d (.lst [x.d, y.d])), some (.d (.int (0 + 1))), some (.d y.d)]) rfl ?_
  simp only [ir_need_floats, Nat.reduceSub, env0, evs, evx, mm, mv, mq, mx, mxi, kinds, numb, numb2, gl, ss, dc, dok, dq, List.any_cons, List.any_nil, Option.map_some, Bool.and_self, Bool.and_true, Bool.true_and, Bool.and_false, Bool.false_and, Bool.or_false, Bool.false_or, Bool.not_true, Bool.not_false, Bool.false_eq_true, beq_self_eq_true, Bool.not_not, ↓reduceIte, enms]
  rw [forM_two (nf_turn n o x hx _ _ _ _) (nf_turn n o y hy _ _ _ _)]
  simp only [env0, evs, evx, mm, mv, mq, mx, mxi, kinds, numb, numb2, gl, ss, dc, dok, dq, List.any_cons, List.any_nil, Option.map_some, Bool.and_self, Bool.and_true, Bool.true_and, Bool.and_false, Bool.false_and, Bool.or_false, Bool.false_or, Bool.not_true, Bool.not_false, Bool.false_eq_true, beq_self_eq_true, Bool.not_not, ↓reduceIte]
theorem i_divisor (n : Nat) (a b : Int) (hb : b.natAbs < 2 ^ 400000) : interp tx.T tx.G (n + 1) f_divisor [.d (.int a), .d (.int b)] = ret (.d (.int (Int.gcd a b))) := by
  rw [interp_eq (d := ir_divisor) rfl]
  refine runF_rt rfl ?_
  simp only [ir_divisor, Nat.reduceSub, env0, evs, evx, mm, mv, mq, mx, mxi, kinds, numb, numb2, gl, ss, dc, dok, dq, List.any_cons, List.any_nil, Option.map_some, Bool.and_self, Bool.and_true, Bool.true_and, Bool.and_false, Bool.false_and, Bool.or_false, Bool.false_or, Bool.not_true, Bool.not_false, Bool.false_eq_true, beq_self_eq_true, Bool.not_not, ↓reduceIte]
  obtain ⟨g, e1, e2, _⟩ := whl_gcd (c := cndM ⟨interp tx.T tx.G n, lamOf tx.T tx.G [] n⟩ tx.G (.cmp .ne (.var 1) (.int 0))) (f := blkM ⟨interp tx.T tx.G n, lamOf tx.T tx.G [] n⟩ tx.G (.cons (.par 0 1 (.var 1) (.bin .mod (.var 0) (.var 1))) .nil))
    (fun a b => [some (.d (.int a)), some (.d (.int b))]) (fun a b => by simp only [cndM, env0, evs, evx, mm, mv, mq, mx, mxi, kinds, numb, numb2, gl, ss, dc, dok, dq, List.any_cons, List.any_nil, Option.map_some, Bool.and_self, Bool.and_true, Bool.true_and, Bool.and_false, Bool.false_and, Bool.or_false, Bool.false_or, Bool.not_true, Bool.not_false, Bool.false_eq_true, beq_self_eq_true, Bool.not_not, ↓reduceIte]) (fun a b hb => by simp only [blkM, env0, evs, evx, mm, mv, mq, mx, mxi, kinds, numb, numb2, gl, ss, dc, dok, dq, List.any_cons, List.any_nil, Option.map_some, Bool.and_self, Bool.and_true, Bool.true_and, Bool.and_false, Bool.false_and, Bool.or_false, Bool.false_or, Bool.not_true, Bool.not_false, Bool.false_eq_true, beq_self_eq_true, Bool.not_not, ↓reduceIte, mod_ok hb]) 400000 a b wMost hb (by decide)
  rw [e1]
  simp only [env0, evs, evx, mm, mv, mq, mx, mxi, kinds, numb, numb2, gl, ss, dc, dok, dq, List.any_cons, List.any_nil, Option.map_some, Bool.and_self, Bool.and_true, Bool.true_and, Bool.and_false, Bool.false_and, Bool.or_false, Bool.false_or, Bool.not_true, Bool.not_false, Bool.false_eq_true, beq_self_eq_true, Bool.not_not, ↓reduceIte]
  have : (if g < 0 then -g else g) = (Int.gcd a b : Int) := by rw [← e2]; omega
  rw [this]
theorem i_fraction (n : Nat) (a b : Int) (h0 : b ≠ 0) (hb : b.natAbs < 2 ^ 8000) : interp tx.T tx.G (n + 2) f_fraction [.d (.int a), .d (.int b)] = ret (.d (frD (fra a b))) := by
  rw [interp_eq (d := ir_fraction) rfl]
  refine runF_rt rfl ?_
  by_cases h : 0 < b <;>
    simp [ir_fraction, env0, evs, evx, mm, mv, mq, mx, mxi, kinds, numb, numb2, gl, ss, dc, dok, dq, List.any_cons, List.any_nil, Option.map_some, Bool.and_self, Bool.and_true, Bool.true_and, Bool.and_false, Bool.false_and, Bool.or_false, Bool.false_or, Bool.not_true, Bool.not_false, Bool.false_eq_true, beq_self_eq_true, Bool.not_not, ↓reduceIte, i_divisor n a b (pow_up hb), div_ok (okg h0 hb), h, frD, fra]
theorem i_scaled (n : Nat) (m e : Int) (hm : m.natAbs < 18446744073709551616) (h1 : -4000 ≤ e) (h2 : e ≤ 4000) : interp tx.T tx.G (n + 3) f_scaled [.d (.int m), .d (.int e)] = ret (.d (frD (sca m e))) := by
  rw [interp_eq (d := ir_scaled) rfl]
  refine runF_rt rfl ?_
  by_cases h : 0 ≤ e
  · simp [ir_scaled, env0, evs, evx, mm, mv, mq, mx, mxi, kinds, numb, numb2, gl, ss, dc, dok, dq, List.any_cons, List.any_nil, Option.map_some, Bool.and_self, Bool.and_true, Bool.true_and, Bool.and_false, Bool.false_and, Bool.or_false, Bool.false_or, Bool.not_true, Bool.not_false, Bool.false_eq_true, beq_self_eq_true, Bool.not_not, ↓reduceIte, i_two_to (n + 1) (p := e) (by omega) (by omega), mul_ok (okMul_l hm), h, frD, sca]
  · have hh := two_pos (0 - e)
    simp only [ir_scaled, env0, evs, evx, mm, mv, mq, mx, mxi, kinds, numb, numb2, gl, ss, dc, dok, dq, List.any_cons, List.any_nil, Option.map_some, Bool.and_self, Bool.and_true, Bool.true_and, Bool.and_false, Bool.false_and, Bool.or_false, Bool.false_or, Bool.not_true, Bool.not_false, Bool.false_eq_true, beq_self_eq_true, Bool.not_not, ↓reduceIte, i_two_to (n + 1) (p := 0 - e) (by omega) (by omega), i_fraction n m (two (0 - e)) (by omega) (two_lt (by omega)), h, sca, decide_false, Bool.false_eq_true]
theorem i_value_num (n : Nat) (s m e : Int) (hm : m.natAbs < 18446744073709551616) (h1 : -4000 ≤ e) (h2 : e ≤ 4000) : interp tx.T tx.G (n + 4) f_value_of [.d (Fl.num s m e).d] = ret (.d (frD (negF s (sca m e)))) := by
  rw [interp_eq (d := ir_value_of) rfl]
  refine runF_rt rfl ?_
  by_cases h : s = 1 <;>
    simp [ir_value_of, env0, evs, evx, mm, mv, mq, mx, mxi, kinds, numb, numb2, gl, ss, dc, dok, dq, List.any_cons, List.any_nil, Option.map_some, Bool.and_self, Bool.and_true, Bool.true_and, Bool.and_false, Bool.false_and, Bool.or_false, Bool.false_or, Bool.not_true, Bool.not_false, Bool.false_eq_true, beq_self_eq_true, Bool.not_not, ↓reduceIte, Fl.d, i_scaled n m e hm h1 h2, frD, h, negF]
theorem i_value_inf (n : Nat) (s : Int) : interp tx.T tx.G (n + 4) f_value_of [.d (Fl.inf s).d] = ret (.d .non) := by
  rw [interp_eq (d := ir_value_of) rfl]
  refine runF_rt rfl ?_
  simp [ir_value_of, env0, evs, evx, mm, mv, mq, mx, mxi, kinds, numb, numb2, gl, ss, dc, dok, dq, List.any_cons, List.any_nil, Option.map_some, Bool.and_self, Bool.and_true, Bool.true_and, Bool.and_false, Bool.false_and, Bool.or_false, Bool.false_or, Bool.not_true, Bool.not_false, Bool.false_eq_true, beq_self_eq_true, Bool.not_not, ↓reduceIte, Fl.d]
theorem i_value_nan (n : Nat) : interp tx.T tx.G (n + 4) f_value_of [.d Fl.nan.d] = ret (.d .non) := by
  rw [interp_eq (d := ir_value_of) rfl]
  refine runF_rt rfl ?_
  simp [ir_value_of, env0, evs, evx, mm, mv, mq, mx, mxi, kinds, numb, numb2, gl, ss, dc, dok, dq, List.any_cons, List.any_nil, Option.map_some, Bool.and_self, Bool.and_true, Bool.true_and, Bool.and_false, Bool.false_and, Bool.or_false, Bool.false_or, Bool.not_true, Bool.not_false, Bool.false_eq_true, beq_self_eq_true, Bool.not_not, ↓reduceIte, Fl.d]
theorem i_negated (n : Nat) (x : Fl) : interp tx.T tx.G (n + 1) f_negated [.d x.d] = ret (.d x.neg.d) := by
  rw [interp_eq (d := ir_negated) rfl]
  refine runF_rt rfl ?_
  cases x <;> simp [ir_negated, env0, evs, evx, mm, mv, mq, mx, mxi, kinds, numb, numb2, gl, ss, dc, dok, dq, List.any_cons, List.any_nil, Option.map_some, Bool.and_self, Bool.and_true, Bool.true_and, Bool.and_false, Bool.false_and, Bool.or_false, Bool.false_or, Bool.not_true, Bool.not_false, Bool.false_eq_true, beq_self_eq_true, Bool.not_not, ↓reduceIte, Fl.d, Fl.neg, slcs, cats]
end K07
namespace K07
open PySem Sw Fm
theorem gk : tx.G g_INEXACT = some (.str "inexact") ∧ tx.G g_OVER = some (.str "over") ∧ tx.G g_UNDER = some (.str "under") := ⟨rfl, rfl, rfl⟩
theorem i_need_rule (n : Nat) (r : Rule) : interp tx.T tx.G (n + 1) f_need_rule [.d r.d] = ret (.d .non) := by
  rw [interp_eq (d := ir_need_rule) rfl]
  refine runF_nx (e := [some (.d r.d)]) rfl ?_
  cases r <;> simp [ir_need_rule, env0, evs, evz, evy, evd, evg, evh, mm, mv, mq, mx, mxi, kinds, numb, numb2, gl, ssb, dc, dok, dq, List.any_cons, List.any_nil, Option.map_some, Bool.and_self, Bool.and_true, Bool.true_and, Bool.and_false, Bool.false_and, Bool.or_false, Bool.false_or, Bool.not_true, Bool.not_false, Bool.false_eq_true, beq_self_eq_true, Bool.not_not, ↓reduceIte, Rule.d, Rule.s]
/-- a fraction in least terms -/
structure Fra (p : Int × Int) : Prop where
  pos : 0 < p.2
  low : Int.gcd p.1 p.2 = 1
theorem i_goes_up (n : Nat) (r : Rule) {s m code : Int} (hm : 0 ≤ m) : interp tx.T tx.G (n + 1) f_goes_up [.d r.d, .d (.int s), .d (.int m), .d (.int code)] = ret (.d (.bl (r.ups s m code))) := by
  rw [interp_eq (d := ir_goes_up) rfl]
  refine runF_rt rfl ?_
  have hf : m.fmod 2 = m % 2 := Int.fmod_eq_emod_of_nonneg m (by decide)
  by_cases h0 : code = 0
  · cases r <;> simp [ir_goes_up, env0, evs, evz, evy, evd, evg, evh, mm, mv, mq, mx, mxi, kinds, numb, numb2, gl, ssb, dc, dok, dq, List.any_cons, List.any_nil, Option.map_some, Bool.and_self, Bool.and_true, Bool.true_and, Bool.and_false, Bool.false_and, Bool.or_false, Bool.false_or, Bool.not_true, Bool.not_false, Bool.false_eq_true, beq_self_eq_true, Bool.not_not, ↓reduceIte, Rule.d, Rule.s, Rule.ups, h0]
  · cases r
    · by_cases h3 : code = 3
      · simp [ir_goes_up, env0, evs, evz, evy, evd, evg, evh, mm, mv, mq, mx, mxi, kinds, numb, numb2, gl, ssb, dc, dok, dq, List.any_cons, List.any_nil, Option.map_some, Bool.and_self, Bool.and_true, Bool.true_and, Bool.and_false, Bool.false_and, Bool.or_false, Bool.false_or, Bool.not_true, Bool.not_false, Bool.false_eq_true, beq_self_eq_true, Bool.not_not, ↓reduceIte, Rule.d, Rule.s, Rule.ups, h0, h3]
      · by_cases h2 : code = 2
        · simp [ir_goes_up, env0, evs, evz, evy, evd, evg, evh, mm, mv, mq, mx, mxi, kinds, numb, numb2, gl, ssb, dc, dok, dq, List.any_cons, List.any_nil, Option.map_some, Bool.and_self, Bool.and_true, Bool.true_and, Bool.and_false, Bool.false_and, Bool.or_false, Bool.false_or, Bool.not_true, Bool.not_false, Bool.false_eq_true, beq_self_eq_true, Bool.not_not, ↓reduceIte, Rule.d, Rule.s, Rule.ups, h0, h3, h2, mod_ok, hf, bqi]
        · simp [ir_goes_up, env0, evs, evz, evy, evd, evg, evh, mm, mv, mq, mx, mxi, kinds, numb, numb2, gl, ssb, dc, dok, dq, List.any_cons, List.any_nil, Option.map_some, Bool.and_self, Bool.and_true, Bool.true_and, Bool.and_false, Bool.false_and, Bool.or_false, Bool.false_or, Bool.not_true, Bool.not_false, Bool.false_eq_true, beq_self_eq_true, Bool.not_not, ↓reduceIte, Rule.d, Rule.s, Rule.ups, h0, h3, h2]
    · by_cases h3 : code = 3
      · simp [ir_goes_up, env0, evs, evz, evy, evd, evg, evh, mm, mv, mq, mx, mxi, kinds, numb, numb2, gl, ssb, dc, dok, dq, List.any_cons, List.any_nil, Option.map_some, Bool.and_self, Bool.and_true, Bool.true_and, Bool.and_false, Bool.false_and, Bool.or_false, Bool.false_or, Bool.not_true, Bool.not_false, Bool.false_eq_true, beq_self_eq_true, Bool.not_not, ↓reduceIte, Rule.d, Rule.s, Rule.ups, h0, h3]
      · by_cases h2 : code = 2
        · simp [ir_goes_up, env0, evs, evz, evy, evd, evg, evh, mm, mv, mq, mx, mxi, kinds, numb, numb2, gl, ssb, dc, dok, dq, List.any_cons, List.any_nil, Option.map_some, Bool.and_self, Bool.and_true, Bool.true_and, Bool.and_false, Bool.false_and, Bool.or_false, Bool.false_or, Bool.not_true, Bool.not_false, Bool.false_eq_true, beq_self_eq_true, Bool.not_not, ↓reduceIte, Rule.d, Rule.s, Rule.ups, h0, h3, h2]
        · simp [ir_goes_up, env0, evs, evz, evy, evd, evg, evh, mm, mv, mq, mx, mxi, kinds, numb, numb2, gl, ssb, dc, dok, dq, List.any_cons, List.any_nil, Option.map_some, Bool.and_self, Bool.and_true, Bool.true_and, Bool.and_false, Bool.false_and, Bool.or_false, Bool.false_or, Bool.not_true, Bool.not_false, Bool.false_eq_true, beq_self_eq_true, Bool.not_not, ↓reduceIte, Rule.d, Rule.s, Rule.ups, h0, h3, h2]
    · simp [ir_goes_up, env0, evs, evz, evy, evd, evg, evh, mm, mv, mq, mx, mxi, kinds, numb, numb2, gl, ssb, dc, dok, dq, List.any_cons, List.any_nil, Option.map_some, Bool.and_self, Bool.and_true, Bool.true_and, Bool.and_false, Bool.false_and, Bool.or_false, Bool.false_or, Bool.not_true, Bool.not_false, Bool.false_eq_true, beq_self_eq_true, Bool.not_not, ↓reduceIte, Rule.d, Rule.s, Rule.ups, h0]
    · by_cases hs : s = 0 <;> simp [ir_goes_up, env0, evs, evz, evy, evd, evg, evh, mm, mv, mq, mx, mxi, kinds, numb, numb2, gl, ssb, dc, dok, dq, List.any_cons, List.any_nil, Option.map_some, Bool.and_self, Bool.and_true, Bool.true_and, Bool.and_false, Bool.false_and, Bool.or_false, Bool.false_or, Bool.not_true, Bool.not_false, Bool.false_eq_true, beq_self_eq_true, Bool.not_not, ↓reduceIte, Rule.d, Rule.s, Rule.ups, h0, hs, bqi]
    · by_cases hs : s = 0 <;> simp [ir_goes_up, env0, evs, evz, evy, evd, evg, evh, mm, mv, mq, mx, mxi, kinds, numb, numb2, gl, ssb, dc, dok, dq, List.any_cons, List.any_nil, Option.map_some, Bool.and_self, Bool.and_true, Bool.true_and, Bool.and_false, Bool.false_and, Bool.or_false, Bool.false_or, Bool.not_true, Bool.not_false, Bool.false_eq_true, beq_self_eq_true, Bool.not_not, ↓reduceIte, Rule.d, Rule.s, Rule.ups, h0, hs, bqi]
theorem wMost_eq : wMost = 1000000 := rfl
theorem pow_big {x : Int} (h0 : 0 ≤ x) (h : x < 2 ^ 4000) : x.natAbs < 2 ^ 8000 := by
  have h2 : (2 : Int) ^ 4000 ≤ 2 ^ 8000 := by exact_mod_cast Nat.pow_le_pow_right (show 0 < 2 by decide) (show 4000 ≤ 8000 by decide)
  have h3 : (x.natAbs : Int) = x := Int.natAbs_of_nonneg h0
  exact_mod_cast h3 ▸ Int.lt_of_lt_of_le h h2
theorem lt_pow {x : Int} {n : Nat} (h0 : 0 ≤ x) (h : x < 2 ^ n) : x.toNat < 2 ^ n := by
  have h3 : (x.toNat : Int) = x := Int.toNat_of_nonneg h0
  exact_mod_cast h3 ▸ h
theorem okDiv_4 {x : Int} (h0 : 0 < x) (h : x < 2 ^ 8000) : okDiv x = true := okDiv_of h0 (Int.lt_of_lt_of_le h (by exact_mod_cast Nat.pow_le_pow_right (show 0 < 2 by decide) (show 8000 ≤ 9000 by decide)))
theorem cut_loop (n : Nat) {b l h W P : Int} (o : okB b l h) (a1 a2 : Option A) (hW : 0 ≤ W) (hP : 0 < P) (hW2 : W < 2 ^ 5000) (hP2 : P < 2 ^ 5000) {m k : Nat} (c : Cut (hf b) W P m k) {g : Out → M Out} {R : M Out}
    (hg : g (.nx [some (.d (fd b l h)), a1, a2, some (.d (.int b)), some (.d (.int l)), some (.d (.int h)), some (.d (.int (l + k))), some (.d (.int W)), some (.d (.int (P * 2 ^ k))), some (.d (.int m)), none]) = R) :
    bnd (whlM (cndM ⟨interp tx.T tx.G (n + 1), lamOf tx.T tx.G [] (n + 1)⟩ tx.G (whE (nthS 5 ir_cut_off.body))) (blkM ⟨interp tx.T tx.G (n + 1), lamOf tx.T tx.G [] (n + 1)⟩ tx.G (whB (nthS 5 ir_cut_off.body))) wMost [some (.d (fd b l h)), a1, a2, some (.d (.int b)), some (.d (.int l)), some (.d (.int h)), some (.d (.int l)), some (.d (.int W)), some (.d (.int P)), some (.d (.int (W / P))), none]) g = R := by
  obtain ⟨e1, e2, e3⟩ := hf_eq o
  have o1 := o.1
  have o2 := o.2.1
  have hb2 := i_two_to n (p := b) (by omega) (by omega)
  have tb := two_b (b := b) (by omega)
  have t2 : two b ≤ 256 := by rw [tb]; omega
  have tp := two_pos b
  -- a turn that is taken: the part is below the whole
  have small : ∀ j, two b ≤ W / (P * 2 ^ j) → P * 2 ^ j ≤ W := fun j hj => by
    have hz : 0 < P * 2 ^ j := Int.mul_pos hP (p2_pos j)
    have : (1 : Int) ≤ W / (P * 2 ^ j) := by omega
    have := (Int.le_ediv_iff_mul_le hz).mp this
    omega
  refine whl_then (fun j => [some (.d (fd b l h)), a1, a2, some (.d (.int b)), some (.d (.int l)), some (.d (.int h)), some (.d (.int (l + (j : Nat)))), some (.d (.int W)), some (.d (.int (P * 2 ^ j))), some (.d (.int (W / (P * 2 ^ j)))), none])
    (fun j => decide (two b ≤ W / (P * 2 ^ j))) (by simp) (fun j => ?_) (fun j hj => ?_) 5000 ?_ ?_ fun j h1 h2 h3 => ?_
  · simp only [cndM, ir_cut_off, nthS, whE, env0, evs, evz, evy, evd, evg, evh, mm, mv, mq, mx, mxi, kinds, numb, numb2, gl, ssb, dc, dok, dq, List.any_cons, List.any_nil, Option.map_some, Bool.and_self, Bool.and_true, Bool.true_and, Bool.and_false, Bool.false_and, Bool.or_false, Bool.false_or, Bool.not_true, Bool.not_false, Bool.false_eq_true, beq_self_eq_true, Bool.not_not, ↓reduceIte, hb2]
  · have hj := of_decide_eq_true hj
    have hz : 0 < P * 2 ^ j := Int.mul_pos hP (p2_pos j)
    have hs := small j hj
    have hd : okDiv (P * 2 ^ j * 2) = true := okDiv_4 (by omega) (by
      have : W * 2 < 2 ^ 5000 * 2 := by omega
      have e : (2 : Int) ^ 5000 * 2 = 2 ^ 5001 := by rw [← Int.pow_succ]
      have e2 : (2 : Int) ^ 5001 ≤ 2 ^ 8000 := by exact_mod_cast Nat.pow_le_pow_right (show 0 < 2 by decide) (show 5001 ≤ 8000 by decide)
      omega)
    have e : P * 2 ^ (j + 1) = P * 2 ^ j * 2 := by rw [Int.pow_succ, Int.mul_assoc]
    simp only [blkM, ir_cut_off, nthS, whB, env0, evs, evz, evy, evd, evg, evh, mm, mv, mq, mx, mxi, kinds, numb, numb2, gl, ssb, dc, dok, dq, List.any_cons, List.any_nil, Option.map_some, Bool.and_self, Bool.and_true, Bool.true_and, Bool.and_false, Bool.false_and, Bool.or_false, Bool.false_or, Bool.not_true, Bool.not_false, Bool.false_eq_true, beq_self_eq_true, Bool.not_not, ↓reduceIte, aug_mul_ok (ok2 _), div_ok hd, e, Int.natCast_add, Int.natCast_one, Int.add_assoc]
  · refine decide_eq_false fun hh => ?_
    have hs := small 5000 hh
    have : 1 * 2 ^ 5000 ≤ P * 2 ^ 5000 := Int.mul_le_mul_of_nonneg_right (by omega) (Int.le_of_lt (p2_pos 5000))
    omega
  · rw [wMost_eq]; omega
  · have h2 := of_decide_eq_false h2
    have hz : 0 < P * 2 ^ j := Int.mul_pos hP (p2_pos j)
    have q0 : 0 ≤ W / (P * 2 ^ j) := Int.ediv_nonneg hW (Int.le_of_lt hz)
    have cj : Cut (hf b) W P (W / (P * 2 ^ j)).toNat j := by
      refine ⟨?_, ?_, by omega, fun h0 => ?_⟩
      · rw [Int.toNat_of_nonneg q0]
        exact Int.ediv_mul_le _ (by omega)
      · rw [Int.toNat_of_nonneg q0]
        exact Int.lt_ediv_add_one_mul_self W hz
      · obtain ⟨i, rfl⟩ : ∃ i, j = i + 1 := ⟨j - 1, by omega⟩
        have h4 := of_decide_eq_true (h3 i (by omega))
        have hz2 : 0 < P * 2 ^ i := Int.mul_pos hP (p2_pos i)
        have h5 := (Int.le_ediv_iff_mul_le hz2).mp h4
        have e : P * 2 ^ (i + 1) = P * 2 ^ i * 2 := by rw [Int.pow_succ, Int.mul_assoc]
        have h6 : (hf b : Int) ≤ W / (P * 2 ^ (i + 1)) := by
          refine (Int.le_ediv_iff_mul_le hz).mpr ?_
          rw [e]
          have e5 : (hf b : Int) * (P * 2 ^ i * 2) = two b * (P * 2 ^ i) := by
            rw [tb, e1, Int.mul_comm (P * 2 ^ i) 2, ← Int.mul_assoc, Int.mul_comm _ (2 : Int)]
          omega
        omega
    obtain ⟨rfl, rfl⟩ := c.uniq hP cj
    rw [← hg, Int.toNat_of_nonneg q0]
theorem two_nat {p : Int} (h : 0 ≤ p) (h2 : p ≤ 20) : 0 < two p ∧ two p ≤ 1048576 := ⟨two_pos p, by
  have := two_le h2
  have e : two 20 = 1048576 := rfl
  omega⟩
theorem i_cut_off (n : Nat) {b l h t u : Int} (o : okB b l h) (ht : 0 ≤ t) (hu : 0 < u) (ht2 : t < 2 ^ 4000) (hu2 : u < 2 ^ 4000) {m k : Nat} (c : Cut (hf b) (wh l t) (pt l u) m k) :
    interp tx.T tx.G (n + 2) f_cut_off [.d (fd b l h), .d (.int t), .d (.int u)] = ret (.d (.tup [.int m, .int (l + k), .int (cod (wh l t - m * (pt l u * 2 ^ k)) (pt l u * 2 ^ k))])) := by
  have o' := o
  obtain ⟨o1, o2, o3, o4, o5⟩ := o
  have hP := pt_pos (l := l) hu
  have hW := wh_nn (l := l) ht
  have big : ∀ x y : Int, 0 ≤ x → x < 2 ^ 4000 → 0 < y → y ≤ 1048576 → x * y < 2 ^ 5000 := fun x y h1 h2 h3 h4 => by
    have a1 : x * y ≤ x * 1048576 := Int.mul_le_mul_of_nonneg_left h4 h1
    have e : (2 : Int) ^ 5000 = 2 ^ 4000 * 2 ^ 1000 := by rw [← Int.pow_add]
    have e2 : (1048576 : Int) ≤ 2 ^ 1000 := by
      have : (2 : Int) ^ 20 ≤ 2 ^ 1000 := by exact_mod_cast Nat.pow_le_pow_right (show 0 < 2 by decide) (show 20 ≤ 1000 by decide)
      exact this
    have a2 : x * 1048576 ≤ x * 2 ^ 1000 := Int.mul_le_mul_of_nonneg_left e2 h1
    have a3 : x * 2 ^ 1000 < 2 ^ 4000 * 2 ^ 1000 := Int.mul_lt_mul_of_pos_right h2 (p2_pos 1000)
    omega
  have b4 : (2 : Int) ^ 4000 ≤ 2 ^ 5000 := by exact_mod_cast Nat.pow_le_pow_right (show 0 < 2 by decide) (show 4000 ≤ 5000 by decide)
  have b5 : (2 : Int) ^ 5000 ≤ 2 ^ 8000 := by exact_mod_cast Nat.pow_le_pow_right (show 0 < 2 by decide) (show 5000 ≤ 8000 by decide)
  have hW2 : wh l t < 2 ^ 5000 := by
    unfold wh
    split
    · obtain ⟨a1, a2⟩ := two_nat (p := 0 - l) (by omega) (by omega)
      exact big _ _ ht ht2 a1 a2
    · omega
  have hP2 : pt l u < 2 ^ 5000 := by
    unfold pt
    split
    · omega
    · obtain ⟨a1, a2⟩ := two_nat (p := l) (by omega) (by omega)
      exact big _ _ (by omega) hu2 a1 a2
  have od : okDiv (pt l u) = true := okDiv_4 hP (by omega)
  have okm : okMul (m : Int) (pt l u * 2 ^ k) = true := okMul_l (by
    have := c.lt
    have := (hf_eq o').2.2
    omega)
  rw [interp_eq (d := ir_cut_off) rfl]
  refine runF_rt rfl ?_
  have fin : ∀ {M0 : M Out}, M0 = bnd (whlM (cndM ⟨interp tx.T tx.G (n + 1), lamOf tx.T tx.G [] (n + 1)⟩ tx.G (whE (nthS 5 ir_cut_off.body))) (blkM ⟨interp tx.T tx.G (n + 1), lamOf tx.T tx.G [] (n + 1)⟩ tx.G (whB (nthS 5 ir_cut_off.body))) wMost [some (.d (fd b l h)), some (.d (.int t)), some (.d (.int u)), some (.d (.int b)), some (.d (.int l)), some (.d (.int h)), some (.d (.int l)), some (.d (.int (wh l t))), some (.d (.int (pt l u))), some (.d (.int (wh l t / pt l u))), none])
      (seqM ⟨interp tx.T tx.G (n + 1), lamOf tx.T tx.G [] (n + 1)⟩ tx.G (.cons (nthS 6 ir_cut_off.body) (.cons (nthS 7 ir_cut_off.body) (.cons (nthS 8 ir_cut_off.body) .nil)))) →
      M0 = ret (.rt (.d (.tup [.int m, .int (l + k), .int (cod (wh l t - m * (pt l u * 2 ^ k)) (pt l u * 2 ^ k))]))) := fun {M0} e => by
    rw [e]
    refine cut_loop n o' _ _ hW hP hW2 hP2 c ?_
    simp only [ir_cut_off, nthS, env0, evs, evz, evy, evd, evg, evh, mm, mv, mq, mx, mxi, kinds, numb, numb2, gl, ssb, dc, dok, dq, List.any_cons, List.any_nil, Option.map_some, Bool.and_self, Bool.and_true, Bool.true_and, Bool.and_false, Bool.false_and, Bool.or_false, Bool.false_or, Bool.not_true, Bool.not_false, Bool.false_eq_true, beq_self_eq_true, Bool.not_not, ↓reduceIte, mul_ok okm]
    unfold cod
    by_cases h0 : wh l t - m * (pt l u * 2 ^ k) = 0
    · simp [h0, env0, evs, evz, evy, evd, evg, evh, mm, mv, mq, mx, mxi, kinds, numb, numb2, gl, ssb, dc, dok, dq, List.any_cons, List.any_nil, Option.map_some, Bool.and_self, Bool.and_true, Bool.true_and, Bool.and_false, Bool.false_and, Bool.or_false, Bool.false_or, Bool.not_true, Bool.not_false, Bool.false_eq_true, beq_self_eq_true, Bool.not_not, ↓reduceIte, bqi]
    · by_cases h1 : 2 * (wh l t - m * (pt l u * 2 ^ k)) < pt l u * 2 ^ k
      · simp [h0, h1, env0, evs, evz, evy, evd, evg, evh, mm, mv, mq, mx, mxi, kinds, numb, numb2, gl, ssb, dc, dok, dq, List.any_cons, List.any_nil, Option.map_some, Bool.and_self, Bool.and_true, Bool.true_and, Bool.and_false, Bool.false_and, Bool.or_false, Bool.false_or, Bool.not_true, Bool.not_false, Bool.false_eq_true, beq_self_eq_true, Bool.not_not, ↓reduceIte, bqi, mul_ok (ok2l _)]
      · by_cases h2 : 2 * (wh l t - m * (pt l u * 2 ^ k)) = pt l u * 2 ^ k
        · simp [h0, h1, h2, env0, evs, evz, evy, evd, evg, evh, mm, mv, mq, mx, mxi, kinds, numb, numb2, gl, ssb, dc, dok, dq, List.any_cons, List.any_nil, Option.map_some, Bool.and_self, Bool.and_true, Bool.true_and, Bool.and_false, Bool.false_and, Bool.or_false, Bool.false_or, Bool.not_true, Bool.not_false, Bool.false_eq_true, beq_self_eq_true, Bool.not_not, ↓reduceIte, bqi, mul_ok (ok2l _)]
        · simp [h0, h1, h2, env0, evs, evz, evy, evd, evg, evh, mm, mv, mq, mx, mxi, kinds, numb, numb2, gl, ssb, dc, dok, dq, List.any_cons, List.any_nil, Option.map_some, Bool.and_self, Bool.and_true, Bool.true_and, Bool.and_false, Bool.false_and, Bool.or_false, Bool.false_or, Bool.not_true, Bool.not_false, Bool.false_eq_true, beq_self_eq_true, Bool.not_not, ↓reduceIte, bqi, mul_ok (ok2l _)]
  have t64 : ∀ p : Int, 0 ≤ p → p ≤ 20 → (two p).natAbs < 18446744073709551616 := fun p h0 hp => by
    have := two_nat h0 hp
    omega
  by_cases hl : l < 0
  · have ew : wh l t = t * two (0 - l) := if_pos hl
    have ep : pt l u = u := if_pos hl
    refine fin ?_
    rw [ep] at od ⊢
    simp only [ir_cut_off, Nat.reduceSub, env0, evs, evz, evy, evd, evg, evh, mm, mv, mq, mx, mxi, kinds, numb, numb2, gl, ssb, dc, dok, dq, List.any_cons, List.any_nil, Option.map_some, Bool.and_self, Bool.and_true, Bool.true_and, Bool.and_false, Bool.false_and, Bool.or_false, Bool.false_or, Bool.not_true, Bool.not_false, Bool.false_eq_true, beq_self_eq_true, Bool.not_not, ↓reduceIte, fd, hl, decide_true, i_two_to n (p := 0 - l) (by omega) (by omega), mul_ok (okMul_r (t64 (0 - l) (by omega) (by omega))), ← ew, div_ok od]
    rfl
  · have ew : wh l t = t := if_neg hl
    have ep : pt l u = u * two l := if_neg hl
    refine fin ?_
    rw [ew]
    simp only [ir_cut_off, Nat.reduceSub, env0, evs, evz, evy, evd, evg, evh, mm, mv, mq, mx, mxi, kinds, numb, numb2, gl, ssb, dc, dok, dq, List.any_cons, List.any_nil, Option.map_some, Bool.and_self, Bool.and_true, Bool.true_and, Bool.and_false, Bool.false_and, Bool.or_false, Bool.false_or, Bool.not_true, Bool.not_false, Bool.false_eq_true, beq_self_eq_true, Bool.not_not, ↓reduceIte, fd, hl, decide_false, i_two_to n (p := l) (by omega) (by omega), mul_ok (okMul_r (t64 l (by omega) (by omega))), ← ep, div_ok od]
    rfl
end K07
namespace K07
open PySem Sw Fm
theorem small_eq {b l h t u : Int} (o : okB b l h) (ht : 0 ≤ t) (hu : 0 < u) : (0 ≤ b - 1 + l → (t < u * two (b - 1 + l) ↔ wh l t < pt l u * hf b)) ∧ (b - 1 + l < 0 → (t * two (1 - b - l) < u ↔ wh l t < pt l u * hf b)) := by
  obtain ⟨e1, e2, e3⟩ := hf_eq o
  obtain ⟨o1, o2, o3, o4, o5⟩ := o
  rw [e1]
  unfold wh pt
  by_cases hl : l < 0
  · rw [if_pos hl, if_pos hl]
    have p1 := two_pos (0 - l)
    refine ⟨fun h0 => ?_, fun h0 => ?_⟩
    · have e : u * two (b - 1) = u * two (b - 1 + l) * two (0 - l) := by
        rw [Int.mul_assoc, two_add h0 (by omega)]
        congr 2
        omega
      rw [e]
      exact ⟨fun h => Int.mul_lt_mul_of_pos_right h p1, fun h => Int.lt_of_mul_lt_mul_right h (Int.le_of_lt p1)⟩
    · have p2 := two_pos (b - 1)
      have e : t * two (0 - l) = t * two (1 - b - l) * two (b - 1) := by
        rw [Int.mul_assoc, two_add (by omega) (by omega)]
        congr 2
        omega
      rw [e]
      exact ⟨fun h => Int.mul_lt_mul_of_pos_right h p2, fun h => Int.lt_of_mul_lt_mul_right h (Int.le_of_lt p2)⟩
  · rw [if_neg hl, if_neg hl]
    refine ⟨fun h0 => ?_, fun h0 => by omega⟩
    have e : u * two l * two (b - 1) = u * two (b - 1 + l) := by
      rw [Int.mul_assoc, two_add (by omega) (by omega)]
      congr 2
      omega
    rw [e]
theorem i_rounded_size (n : Nat) {b l h t u s : Int} (o : okB b l h) (r : Rule) (ht : 0 ≤ t) (hu : 0 < u) (ht2 : t < 2 ^ 4000) (hu2 : u < 2 ^ 4000) {m k : Nat} (c : Cut (hf b) (wh l t) (pt l u) m k) :
    interp tx.T tx.G (n + 3) f_rounded_size [.d (fd b l h), .d (.int t), .d (.int u), .d r.d, .d (.int s)] = ret (.d (resD (rsz b l h r s m k (cod (wh l t - m * (pt l u * 2 ^ k)) (pt l u * 2 ^ k)) (decide (wh l t < pt l u * hf b))))) := by
  obtain ⟨s1, s2⟩ := small_eq o ht hu
  have hco := i_cut_off n o ht hu ht2 hu2 c
  have hgo := i_goes_up (n + 1) r (s := s) (m := m) (code := cod (wh l t - m * (pt l u * 2 ^ k)) (pt l u * 2 ^ k)) (by omega)
  obtain ⟨e1, e2, e3⟩ := hf_eq o
  have tb := two_b (b := b) (by have := o.1; omega)
  have hm := c.lt
  obtain ⟨o1, o2, o3, o4, o5⟩ := o
  have t1 := i_two_to (n + 1) (p := b) (by omega) (by omega)
  have t2 := i_two_to (n + 1) (p := b - 1) (by omega) (by omega)
  have t3 := i_two_to (n + 1) (p := b - 1 + l) (by omega) (by omega)
  have t4 := i_two_to (n + 1) (p := 1 - b - l) (by omega) (by omega)
  have k64 : ∀ p : Int, 0 ≤ p → p ≤ 40 → (two p).natAbs < 18446744073709551616 := fun p h0 hp => by
    have := two_le hp
    have := two_pos p
    have e : two 40 = 2 ^ 40 := rfl
    omega
  generalize hcod : cod (wh l t - m * (pt l u * 2 ^ k)) (pt l u * 2 ^ k) = code at *
  rw [interp_eq (d := ir_rounded_size) rfl]
  refine ret_of_wp fun st => .runF rfl ?_
  have hsm : ∃ S : Bool, S = decide (wh l t < pt l u * hf b) := ⟨_, rfl⟩
  obtain ⟨S, hS⟩ := hsm
  have main : ∀ (a12 a13 : Option A) (P Q : Int) (M0 : Int), wp (evSL ⟨interp tx.T tx.G (n + 2), lamOf tx.T tx.G [] (n + 2)⟩ tx.G (.cons (nthS 4 ir_rounded_size.body) (.cons (nthS 5 ir_rounded_size.body) (.cons (nthS 6 ir_rounded_size.body) (.cons (nthS 7 ir_rounded_size.body) .nil))))
      [some (.d (fd b l h)), some (.d (.int t)), some (.d (.int u)), some (.d r.d), some (.d (.int s)), some (.d (.int b)), some (.d (.int l)), some (.d (.int h)), some (.d (.int M0)), some (.d (.int P)), some (.d (.int code)), some (.d (.bl S)), a12, a13]) st fun o s' =>
      o = .rt (.d (resD (if h < P then (if r.toinf s then .inf 0 else .num 0 (2 * hf b - 1) h, fIO) else (.num 0 M0 P, flg code S)))) ∧ s'.take st.length = st := fun a12 a13 P Q M0 => by
    simp only [ir_rounded_size, nthS, env0, evs, evz, evy, evd, evg, evh, mm, mv, mq, mx, mxi, kinds, numb, numb2, gl, ssb, dc, dok, dq, List.any_cons, List.any_nil, Option.map_some, Bool.and_self, Bool.and_true, Bool.true_and, Bool.and_false, Bool.false_and, Bool.or_false, Bool.false_or, Bool.not_true, Bool.not_false, Bool.false_eq_true, beq_self_eq_true, Bool.not_not, ↓reduceIte, wpx]
    by_cases hP : h < P
    · have e4 : two b - 1 = 2 * (hf b : Int) - 1 := by rw [tb, e1]
      cases r
      · simp [hP, env0, evs, evz, evy, evd, evg, evh, mm, mv, mq, mx, mxi, kinds, numb, numb2, gl, ssb, dc, dok, dq, List.any_cons, List.any_nil, Option.map_some, Bool.and_self, Bool.and_true, Bool.true_and, Bool.and_false, Bool.false_and, Bool.or_false, Bool.false_or, Bool.not_true, Bool.not_false, Bool.false_eq_true, beq_self_eq_true, Bool.not_not, ↓reduceIte, wpx, gk, t1, Rule.d, Rule.s, Rule.toinf, resD, Fl.d, fIO]
      · simp [hP, env0, evs, evz, evy, evd, evg, evh, mm, mv, mq, mx, mxi, kinds, numb, numb2, gl, ssb, dc, dok, dq, List.any_cons, List.any_nil, Option.map_some, Bool.and_self, Bool.and_true, Bool.true_and, Bool.and_false, Bool.false_and, Bool.or_false, Bool.false_or, Bool.not_true, Bool.not_false, Bool.false_eq_true, beq_self_eq_true, Bool.not_not, ↓reduceIte, wpx, gk, t1, Rule.d, Rule.s, Rule.toinf, resD, Fl.d, fIO]
      · simp [hP, env0, evs, evz, evy, evd, evg, evh, mm, mv, mq, mx, mxi, kinds, numb, numb2, gl, ssb, dc, dok, dq, List.any_cons, List.any_nil, Option.map_some, Bool.and_self, Bool.and_true, Bool.true_and, Bool.and_false, Bool.false_and, Bool.or_false, Bool.false_or, Bool.not_true, Bool.not_false, Bool.false_eq_true, beq_self_eq_true, Bool.not_not, ↓reduceIte, wpx, gk, t1, Rule.d, Rule.s, Rule.toinf, resD, Fl.d, fIO, e4]
      · by_cases hs : s = 0 <;> simp [hP, env0, evs, evz, evy, evd, evg, evh, mm, mv, mq, mx, mxi, kinds, numb, numb2, gl, ssb, dc, dok, dq, List.any_cons, List.any_nil, Option.map_some, Bool.and_self, Bool.and_true, Bool.true_and, Bool.and_false, Bool.false_and, Bool.or_false, Bool.false_or, Bool.not_true, Bool.not_false, Bool.false_eq_true, beq_self_eq_true, Bool.not_not, ↓reduceIte, wpx, gk, t1, Rule.d, Rule.s, Rule.toinf, resD, Fl.d, fIO, e4, hs, bqi]
      · by_cases hs : s = 0 <;> simp [hP, env0, evs, evz, evy, evd, evg, evh, mm, mv, mq, mx, mxi, kinds, numb, numb2, gl, ssb, dc, dok, dq, List.any_cons, List.any_nil, Option.map_some, Bool.and_self, Bool.and_true, Bool.true_and, Bool.and_false, Bool.false_and, Bool.or_false, Bool.false_or, Bool.not_true, Bool.not_false, Bool.false_eq_true, beq_self_eq_true, Bool.not_not, ↓reduceIte, wpx, gk, t1, Rule.d, Rule.s, Rule.toinf, resD, Fl.d, fIO, e4, hs, bqi]
    · by_cases h0 : code = 0
      · simp [hP, h0, env0, evs, evz, evy, evd, evg, evh, mm, mv, mq, mx, mxi, kinds, numb, numb2, gl, ssb, dc, dok, dq, List.any_cons, List.any_nil, Option.map_some, Bool.and_self, Bool.and_true, Bool.true_and, Bool.and_false, Bool.false_and, Bool.or_false, Bool.false_or, Bool.not_true, Bool.not_false, Bool.false_eq_true, beq_self_eq_true, Bool.not_not, ↓reduceIte, wpx, wpe, wpa, gk, bqi, resD, Fl.d, flg]
      · cases S <;> simp [hP, h0, env0, evs, evz, evy, evd, evg, evh, mm, mv, mq, mx, mxi, kinds, numb, numb2, gl, ssb, dc, dok, dq, List.any_cons, List.any_nil, Option.map_some, Bool.and_self, Bool.and_true, Bool.true_and, Bool.and_false, Bool.false_and, Bool.or_false, Bool.false_or, Bool.not_true, Bool.not_false, Bool.false_eq_true, beq_self_eq_true, Bool.not_not, ↓reduceIte, wpx, wpe, wpa, gk, bqi, resD, Fl.d, flg]
  have hh : (hf b : Int) = two (b - 1) := e1
  have goal : ∀ (st' : Sto), rsz b l h r s m k code S = (if h < (if r.ups s m code = true ∧ m + 1 = 2 * hf b then (l + k + 1 : Int) else l + k) then (if r.toinf s then .inf 0 else .num 0 (2 * hf b - 1) h, fIO)
      else (.num 0 (if r.ups s m code = true then (if (m : Int) + 1 = two b then two (b - 1) else m + 1) else m) (if r.ups s m code = true ∧ m + 1 = 2 * hf b then (l + k + 1 : Int) else l + k), flg code S)) := fun _ => by
    unfold rsz
    have q1 : ((m : Int) + 1 = two b) ↔ m + 1 = 2 * hf b := by rw [tb, ← e1]; omega
    by_cases hg : r.ups s m code = true
    · by_cases hc : m + 1 = 2 * hf b
      · have hc2 := q1.mpr hc
        simp only [hg, hc, hc2, if_true, and_self, Int.natCast_add, Int.natCast_one, Int.add_assoc, e1]
      · have hc2 : ¬ (m : Int) + 1 = two b := fun z => hc (q1.mp z)
        simp only [hg, hc, hc2, if_true, if_false, and_false, Int.natCast_add, Int.natCast_one]
    · simp only [hg, if_false, false_and, Bool.false_eq_true]
  refine wp.mono (Q := fun o s' => o = .rt (.d (resD (rsz b l h r s m k code S))) ∧ s'.take st.length = st) ?_ fun o s' ⟨h1, h2⟩ => ?_
  · rw [goal []]
    have e0 : ∃ a12 a13, evSL ⟨interp tx.T tx.G (n + 2), lamOf tx.T tx.G [] (n + 2)⟩ tx.G ir_rounded_size.body (List.map some [A.d (fd b l h), A.d (D.int t), A.d (D.int u), A.d r.d, A.d (D.int s)] ++ reps (ir_rounded_size.nn - ir_rounded_size.np)) =
        evSL ⟨interp tx.T tx.G (n + 2), lamOf tx.T tx.G [] (n + 2)⟩ tx.G (.cons (nthS 4 ir_rounded_size.body) (.cons (nthS 5 ir_rounded_size.body) (.cons (nthS 6 ir_rounded_size.body) (.cons (nthS 7 ir_rounded_size.body) .nil))))
          [some (.d (fd b l h)), some (.d (.int t)), some (.d (.int u)), some (.d r.d), some (.d (.int s)), some (.d (.int b)), some (.d (.int l)), some (.d (.int h)), some (.d (.int (if r.ups s m code = true then (if (m : Int) + 1 = two b then two (b - 1) else m + 1) else m))), some (.d (.int (if r.ups s m code = true ∧ m + 1 = 2 * hf b then (l + k + 1 : Int) else l + k))), some (.d (.int code)), some (.d (.bl S)), a12, a13] := by
      refine ⟨none, none, ?_⟩
      have q1 : ((m : Int) + 1 = two b) ↔ m + 1 = 2 * hf b := by rw [tb, ← e1]; omega
      have hco2 := hco
      simp only [fd] at hco2
      by_cases h0 : 0 ≤ b - 1 + l
      · have hs0 : decide (t < u * two (b - 1 + l)) = S := by rw [hS]; exact decide_eq_decide.mpr (s1 h0)
        have ok := mul_ok (okMul_r (a := u) (k64 (b - 1 + l) h0 (by omega)))
        by_cases hg : r.ups s m code = true
        · by_cases hc : m + 1 = 2 * hf b
          · have hc2 := q1.mpr hc
            simp only [ir_rounded_size, nthS, Nat.reduceSub, env0, evs, evz, evy, evd, evg, evh, mm, mv, mq, mx, mxi, kinds, numb, numb2, gl, ssb, dc, dok, dq, List.any_cons, List.any_nil, Option.map_some, Bool.and_self, Bool.and_true, Bool.true_and, Bool.and_false, Bool.false_and, Bool.or_false, Bool.false_or, Bool.not_true, Bool.not_false, Bool.false_eq_true, beq_self_eq_true, Bool.not_not, ↓reduceIte, fd, hco2, hgo, h0, decide_true, t1, t2, t3, ok, hs0, hg, hc, hc2, and_self]
          · have hc2 : ((m : Int) + 1 == two b) = false := by
              have : ¬ (m : Int) + 1 = two b := fun z => hc (q1.mp z)
              simpa using this
            have hc3 : ¬ (m : Int) + 1 = two b := fun z => hc (q1.mp z)
            simp only [ir_rounded_size, nthS, Nat.reduceSub, env0, evs, evz, evy, evd, evg, evh, mm, mv, mq, mx, mxi, kinds, numb, numb2, gl, ssb, dc, dok, dq, List.any_cons, List.any_nil, Option.map_some, Bool.and_self, Bool.and_true, Bool.true_and, Bool.and_false, Bool.false_and, Bool.or_false, Bool.false_or, Bool.not_true, Bool.not_false, Bool.false_eq_true, beq_self_eq_true, Bool.not_not, ↓reduceIte, fd, hco2, hgo, h0, decide_true, t1, t2, t3, ok, hs0, hg, hc, hc2, hc3, and_false]
        · have hg2 : r.ups s m code = false := by simpa using hg
          simp only [ir_rounded_size, nthS, Nat.reduceSub, env0, evs, evz, evy, evd, evg, evh, mm, mv, mq, mx, mxi, kinds, numb, numb2, gl, ssb, dc, dok, dq, List.any_cons, List.any_nil, Option.map_some, Bool.and_self, Bool.and_true, Bool.true_and, Bool.and_false, Bool.false_and, Bool.or_false, Bool.false_or, Bool.not_true, Bool.not_false, Bool.false_eq_true, beq_self_eq_true, Bool.not_not, ↓reduceIte, fd, hco2, hgo, h0, decide_true, t1, t2, t3, ok, hs0, hg2, false_and]
      · have hs0 : decide (t * two (1 - b - l) < u) = S := by rw [hS]; exact decide_eq_decide.mpr (s2 (by omega))
        have ok := mul_ok (okMul_r (a := t) (k64 (1 - b - l) (by omega) (by omega)))
        by_cases hg : r.ups s m code = true
        · by_cases hc : m + 1 = 2 * hf b
          · have hc2 := q1.mpr hc
            simp only [ir_rounded_size, nthS, Nat.reduceSub, env0, evs, evz, evy, evd, evg, evh, mm, mv, mq, mx, mxi, kinds, numb, numb2, gl, ssb, dc, dok, dq, List.any_cons, List.any_nil, Option.map_some, Bool.and_self, Bool.and_true, Bool.true_and, Bool.and_false, Bool.false_and, Bool.or_false, Bool.false_or, Bool.not_true, Bool.not_false, Bool.false_eq_true, beq_self_eq_true, Bool.not_not, ↓reduceIte, fd, hco2, hgo, h0, decide_false, t1, t2, t4, ok, hs0, hg, hc, hc2, and_self]
          · have hc2 : ((m : Int) + 1 == two b) = false := by
              have : ¬ (m : Int) + 1 = two b := fun z => hc (q1.mp z)
              simpa using this
            have hc3 : ¬ (m : Int) + 1 = two b := fun z => hc (q1.mp z)
            simp only [ir_rounded_size, nthS, Nat.reduceSub, env0, evs, evz, evy, evd, evg, evh, mm, mv, mq, mx, mxi, kinds, numb, numb2, gl, ssb, dc, dok, dq, List.any_cons, List.any_nil, Option.map_some, Bool.and_self, Bool.and_true, Bool.true_and, Bool.and_false, Bool.false_and, Bool.or_false, Bool.false_or, Bool.not_true, Bool.not_false, Bool.false_eq_true, beq_self_eq_true, Bool.not_not, ↓reduceIte, fd, hco2, hgo, h0, decide_false, t1, t2, t4, ok, hs0, hg, hc, hc2, hc3, and_false]
        · have hg2 : r.ups s m code = false := by simpa using hg
          simp only [ir_rounded_size, nthS, Nat.reduceSub, env0, evs, evz, evy, evd, evg, evh, mm, mv, mq, mx, mxi, kinds, numb, numb2, gl, ssb, dc, dok, dq, List.any_cons, List.any_nil, Option.map_some, Bool.and_self, Bool.and_true, Bool.true_and, Bool.and_false, Bool.false_and, Bool.or_false, Bool.false_or, Bool.not_true, Bool.not_false, Bool.false_eq_true, beq_self_eq_true, Bool.not_not, ↓reduceIte, fd, hco2, hgo, h0, decide_false, t1, t2, t4, ok, hs0, hg2, false_and]
    obtain ⟨a12, a13, e0⟩ := e0
    rw [e0]
    exact main a12 a13 _ 0 _
  · rw [h1, hS]
    exact ⟨rfl, h2⟩
theorem abs_eq (t : Int) : (if t < 0 then -t else t) = absI t := rfl
theorem i_rounded_by (n : Nat) {b l h : Int} (o : okB b l h) (r : Rule) {p : Int × Int} (hp : 0 < p.2) (h1 : absI p.1 < 2 ^ 4000) (h2 : p.2 < 2 ^ 4000) :
    interp tx.T tx.G (n + 4) f_rounded_by [.d (fd b l h), .d (frD p), .d r.d] = ret (.d (resD (rnd b l h r p))) := by
  obtain ⟨t, u⟩ := p
  simp only at hp h1 h2
  have hH := (hf_eq o).2.1
  have hc := i_rounded_size n o r (s := sgn t) (abs_nn t) hp h1 h2 (cm_cut (H := hf b) (by omega) (wh_nn (l := l) (abs_nn t)) (pt_pos (l := l) hp))
  rw [interp_eq (d := ir_rounded_by) rfl]
  refine runF_rt rfl ?_
  by_cases h0 : t = 0
  · simp [ir_rounded_by, env0, evs, evz, evy, evd, evg, evh, mm, mv, mq, mx, mxi, kinds, numb, numb2, gl, ssb, dc, dok, dq, List.any_cons, List.any_nil, Option.map_some, Bool.and_self, Bool.and_true, Bool.true_and, Bool.and_false, Bool.false_and, Bool.or_false, Bool.false_or, Bool.not_true, Bool.not_false, Bool.false_eq_true, beq_self_eq_true, Bool.not_not, ↓reduceIte, fd, frD, rnd, h0, resD, Fl.d, bqi]
  · have e1 : (t == 0) = false := by simpa using h0
    have e2 : (if decide (t < 0) = true then (1 : Int) else 0) = sgn t := by unfold sgn; by_cases hz : t < 0 <;> simp [hz]
    simp only [fd] at hc
    simp only [ir_rounded_by, Nat.reduceSub, env0, evs, evz, evy, evd, evg, evh, mm, mv, mq, mx, mxi, kinds, numb, numb2, gl, ssb, dc, dok, dq, List.any_cons, List.any_nil, Option.map_some, Bool.and_self, Bool.and_true, Bool.true_and, Bool.and_false, Bool.false_and, Bool.or_false, Bool.false_or, Bool.not_true, Bool.not_false, Bool.false_eq_true, beq_self_eq_true, Bool.not_not, ↓reduceIte, fd, frD, e1, e2, abs_eq, hc, resD]
    rcases sgn_01 t with hs | hs
    · simp [env0, evs, evz, evy, evd, evg, evh, mm, mv, mq, mx, mxi, kinds, numb, numb2, gl, ssb, dc, dok, dq, List.any_cons, List.any_nil, Option.map_some, Bool.and_self, Bool.and_true, Bool.true_and, Bool.and_false, Bool.false_and, Bool.or_false, Bool.false_or, Bool.not_true, Bool.not_false, Bool.false_eq_true, beq_self_eq_true, Bool.not_not, ↓reduceIte, hs, rnd, h0, rndS, resD, bqi]
    · simp [env0, evs, evz, evy, evd, evg, evh, mm, mv, mq, mx, mxi, kinds, numb, numb2, gl, ssb, dc, dok, dq, List.any_cons, List.any_nil, Option.map_some, Bool.and_self, Bool.and_true, Bool.true_and, Bool.and_false, Bool.false_and, Bool.or_false, Bool.false_or, Bool.not_true, Bool.not_false, Bool.false_eq_true, beq_self_eq_true, Bool.not_not, ↓reduceIte, hs, rnd, h0, rndS, resD, bqi, i_negated]
end K07
namespace K07
open PySem Sw Fm
theorem i_value_vF (n : Nat) {b l h : Int} (o : okB b l h) {s m e : Int} (hx : (Fl.num s m e).ok b l h) : interp tx.T tx.G (n + 4) f_value_of [.d (Fl.num s m e).d] = ret (.d (frD (vF (.num s m e)))) := by
  obtain ⟨h0, h1, h2, h3, hs⟩ := num_rng o hx
  exact i_value_num n s m e (by omega) (by omega) (by omega)
theorem vF_big {b l h : Int} (o : okB b l h) {s m e : Int} (hx : (Fl.num s m e).ok b l h) : absI (vF (.num s m e)).1 < 2 ^ 3000 ∧ (vF (.num s m e)).2 < 2 ^ 3000 := by
  obtain ⟨a1, a2, a3, a4⟩ := vF_ok o hx
  have e1 : (2 : Int) ^ 41 ≤ 2 ^ 3000 := by exact_mod_cast Nat.pow_le_pow_right (show 0 < 2 by decide) (show 41 ≤ 3000 by decide)
  have e2 : (2 : Int) ^ 41 = 2199023255552 := rfl
  unfold absI
  split <;> omega
def movF (b l h : Int) (r : Rule) : Fl → (Fl × List Str) → Fl × List Str
  | .num s m _, z => if m = 0 then (.num s 0 l, []) else z
  | x, _ => (x, [])
theorem i_moved (n : Nat) {b l h b2 l2 h2 : Int} (o : okB b l h) (o2 : okB b2 l2 h2) (r : Rule) (x : Fl) (hx : x.ok b l h) : interp tx.T tx.G (n + 6) f_moved [.d (fd b l h), .d (fd b2 l2 h2), .d x.d, .d r.d] = ret (.d (resD (movF b2 l2 h2 r x (rnd b2 l2 h2 r (vF x))))) := by
  have n1 := i_need_format (n + 3) o
  have n2 := i_need_format (n + 3) o2
  have n3 := i_need_floats1 (n + 2) o x hx
  have n4 := i_need_rule (n + 4) r
  rw [interp_eq (d := ir_moved) rfl]
  refine runF_rt rfl ?_
  cases x with
  | nan =>
    simp only [ir_moved, Nat.reduceSub, env0, evs, evz, evy, evd, evg, evh, mm, mv, mq, mx, mxi, kinds, numb, numb2, gl, ssb, dc, dok, dq, List.any_cons, List.any_nil, Option.map_some, Bool.and_self, Bool.and_true, Bool.true_and, Bool.and_false, Bool.false_and, Bool.or_false, Bool.false_or, Bool.not_true, Bool.not_false, Bool.false_eq_true, beq_self_eq_true, Bool.not_not, ↓reduceIte, n1, n2, n3, n4]
    simp [Fl.d, env0, evs, evz, evy, evd, evg, evh, mm, mv, mq, mx, mxi, kinds, numb, numb2, gl, ssb, dc, dok, dq, List.any_cons, List.any_nil, Option.map_some, Bool.and_self, Bool.and_true, Bool.true_and, Bool.and_false, Bool.false_and, Bool.or_false, Bool.false_or, Bool.not_true, Bool.not_false, Bool.false_eq_true, beq_self_eq_true, Bool.not_not, ↓reduceIte, movF, resD]
  | inf s =>
    simp only [ir_moved, Nat.reduceSub, env0, evs, evz, evy, evd, evg, evh, mm, mv, mq, mx, mxi, kinds, numb, numb2, gl, ssb, dc, dok, dq, List.any_cons, List.any_nil, Option.map_some, Bool.and_self, Bool.and_true, Bool.true_and, Bool.and_false, Bool.false_and, Bool.or_false, Bool.false_or, Bool.not_true, Bool.not_false, Bool.false_eq_true, beq_self_eq_true, Bool.not_not, ↓reduceIte, n1, n2, n3, n4]
    simp [Fl.d, env0, evs, evz, evy, evd, evg, evh, mm, mv, mq, mx, mxi, kinds, numb, numb2, gl, ssb, dc, dok, dq, List.any_cons, List.any_nil, Option.map_some, Bool.and_self, Bool.and_true, Bool.true_and, Bool.and_false, Bool.false_and, Bool.or_false, Bool.false_or, Bool.not_true, Bool.not_false, Bool.false_eq_true, beq_self_eq_true, Bool.not_not, ↓reduceIte, movF, resD]
  | num s m e =>
    obtain ⟨b1, b2'⟩ := vF_big o hx
    have e1 : (2 : Int) ^ 3000 ≤ 2 ^ 4000 := by exact_mod_cast Nat.pow_le_pow_right (show 0 < 2 by decide) (show 3000 ≤ 4000 by decide)
    have hr := i_rounded_by (n + 1) o2 r (p := vF (.num s m e)) (vF_ok o hx).1 (by omega) (by omega)
    have hv := i_value_vF (n + 1) o hx
    simp only [ir_moved, Nat.reduceSub, env0, evs, evz, evy, evd, evg, evh, mm, mv, mq, mx, mxi, kinds, numb, numb2, gl, ssb, dc, dok, dq, List.any_cons, List.any_nil, Option.map_some, Bool.and_self, Bool.and_true, Bool.true_and, Bool.and_false, Bool.false_and, Bool.or_false, Bool.false_or, Bool.not_true, Bool.not_false, Bool.false_eq_true, beq_self_eq_true, Bool.not_not, ↓reduceIte, n1, n2, n3, n4]
    by_cases h0 : m = 0
    · subst h0
      simp [Fl.d, env0, evs, evz, evy, evd, evg, evh, mm, mv, mq, mx, mxi, kinds, numb, numb2, gl, ssb, dc, dok, dq, List.any_cons, List.any_nil, Option.map_some, Bool.and_self, Bool.and_true, Bool.true_and, Bool.and_false, Bool.false_and, Bool.or_false, Bool.false_or, Bool.not_true, Bool.not_false, Bool.false_eq_true, beq_self_eq_true, Bool.not_not, ↓reduceIte, movF, resD, fd]
    · have h00 : (m == 0) = false := by simpa using h0
      simp only [Fl.d] at hv
      simp only [Fl.d, env0, evs, evz, evy, evd, evg, evh, mm, mv, mq, mx, mxi, kinds, numb, numb2, gl, ssb, dc, dok, dq, List.any_cons, List.any_nil, Option.map_some, Bool.and_self, Bool.and_true, Bool.true_and, Bool.and_false, Bool.false_and, Bool.or_false, Bool.false_or, Bool.not_true, Bool.not_false, Bool.false_eq_true, beq_self_eq_true, Bool.not_not, ↓reduceIte, h00, hv, hr, movF, h0, if_false]
end K07
namespace K07
open PySem Sw Fm
def cell (ns : List Int) (i m l : Int) : SO := .lst [.d (.scr ns), .d (.int i), .d (.int m), .d (.int l)]
def StP (s : Sto) : Prop := ∃ ns i m l rest, (0 : Int) ≤ i ∧ s = cell ns i m l :: rest
theorem StP.app {s r : Sto} (h : StP s) : StP (s ++ r) := by
  obtain ⟨ns, i, m, l, rest, h0, rfl⟩ := h
  exact ⟨ns, i, m, l, rest ++ r, h0, rfl⟩
theorem StP.take {s : Sto} {n : Nat} (h : StP s) (hn : 1 ≤ n) : StP (s.take n) := by
  obtain ⟨ns, i, m, l, rest, h0, rfl⟩ := h
  obtain ⟨m', rfl⟩ : ∃ m', n = m' + 1 := ⟨n - 1, by omega⟩
  exact ⟨ns, i, m, l, rest.take m', h0, rfl⟩
theorem StP.len {s : Sto} (h : StP s) : 1 ≤ s.length := by
  obtain ⟨ns, i, m, l, rest, h0, rfl⟩ := h
  simp
theorem StP.cut {s s' : Sto} (h : StP s) (h2 : StP s') : StP (s'.take s.length) := h2.take h.len
theorem stx {ns : List Int} {i m l : Int} {r : Sto} : (∀ Q, wp (idxA (.r 0) (.int 0)) (cell ns i m l :: r) Q = Q (.d (.scr ns)) (cell ns i m l :: r)) ∧ (∀ Q, wp (idxA (.r 0) (.int 1)) (cell ns i m l :: r) Q = Q (.d (.int i)) (cell ns i m l :: r)) ∧
    (∀ Q, wp (idxA (.r 0) (.int 2)) (cell ns i m l :: r) Q = Q (.d (.int m)) (cell ns i m l :: r)) ∧ (∀ Q, wp (idxA (.r 0) (.int 3)) (cell ns i m l :: r) Q = Q (.d (.int l)) (cell ns i m l :: r)) ∧
    (∀ x Q, wp (chg 0 fun xs => (ixN xs.length 1).map fun j => xs.set j (.d (.int x))) (cell ns i m l :: r) Q = Q () (cell ns x m l :: r)) ∧
    (∀ x Q, wp (chg 0 fun xs => (ixN xs.length 2).map fun j => xs.set j (.d (.int x))) (cell ns i m l :: r) Q = Q () (cell ns i x l :: r)) ∧
    (∀ x Q, wp (chg 0 fun xs => (ixN xs.length 3).map fun j => xs.set j (.d (.int x))) (cell ns i m l :: r) Q = Q () (cell ns i m x :: r)) :=
  ⟨fun _ => wp_idxA rfl rfl, fun _ => wp_idxA rfl rfl, fun _ => wp_idxA rfl rfl, fun _ => wp_idxA rfl rfl, fun _ _ => wp_chg rfl rfl, fun _ _ => wp_chg rfl rfl, fun _ _ => wp_chg rfl rfl⟩
theorem scrx : (∀ ns i, idx (.scr ns) (.int i) = (ix ns i).map D.int) ∧ (∀ ns : List Int, (D.scr ns).len = some ns.length) ∧ (∀ ns : List Int, (D.scr ns).items = some (ns.map D.int)) := ⟨fun _ _ => rfl, fun _ => rfl, fun _ => rfl⟩
theorem ix_at {α : Type} (xs : List α) {i : Int} (h : 0 ≤ i) (h2 : i < xs.length) : ∃ x, ix xs i = some x := by
  unfold ix
  rw [if_pos h]
  exact ⟨_, List.getElem?_eq_getElem (by omega)⟩
theorem pow18 : bop .pow (.int 10) (.int 18) = some (.int (10 ^ 18)) := rfl
theorem take_same {c c' : SO} {r : Sto} : (c' :: r).take (c :: r).length = c' :: r := by simp
theorem w_drawn (n : Nat) {many : Int} (h0 : 0 < many) (h1 : many < 2 ^ 64) {s : Sto} (hs : StP s) {Q : A → Sto → Prop} (q : ∀ v s', 0 ≤ v → v < many → StP s' → Q (.d (.int v)) s') : wp (interp tx.T tx.G (n + 1) f__law_drawn [.r 0, .d (.int many)]) s Q := by
  obtain ⟨ns, i, m, l, rest, hi, rfl⟩ := hs
  have hd : okDiv many = true := okDiv_of h0 (Int.lt_of_lt_of_le h1 (by exact_mod_cast Nat.pow_le_pow_right (show 0 < 2 by decide) (show 64 ≤ 9000 by decide)))
  have hm : many ≠ 0 := by omega
  have fin : ∀ (x : Int) c, StP (c :: rest) → Q (.d (.int (x.fmod many))) ((c :: rest).take (cell ns i m l :: rest).length) := fun x c hc => by
    rw [take_same]
    exact q _ _ (Int.fmod_nonneg_of_pos x h0) (Int.fmod_lt_of_pos x h0) hc
  rw [interp_eq (d := ir__law_drawn) rfl]
  refine .runF rfl ?_
  simp only [ir__law_drawn, Nat.reduceSub, env0, evs, evz, evy, evd, evg, evh, mm, mv, mq, mx, mxi, kinds, numb, numb2, gl, ssb, dc, dok, dq, List.any_cons, List.any_nil, Option.map_some, Bool.and_self, Bool.and_true, Bool.true_and, Bool.and_false, Bool.false_and, Bool.or_false, Bool.false_or, Bool.not_true, Bool.not_false, Bool.false_eq_true, beq_self_eq_true, Bool.not_not, ↓reduceIte, wpx, stx, decide_eq_true_eq]
  by_cases hl : 0 < l
  · simp only [hl, env0, evs, evz, evy, evd, evg, evh, mm, mv, mq, mx, mxi, kinds, numb, numb2, gl, ssb, dc, dok, dq, List.any_cons, List.any_nil, Option.map_some, Bool.and_self, Bool.and_true, Bool.true_and, Bool.and_false, Bool.false_and, Bool.or_false, Bool.false_or, Bool.not_true, Bool.not_false, Bool.false_eq_true, beq_self_eq_true, Bool.not_not, ↓reduceIte, wpx, stx, mod_ok hm, div_ok hd, decide_true]
    exact fin _ _ ⟨_, _, _, _, _, hi, rfl⟩
  · simp only [hl, env0, evs, evz, evy, evd, evg, evh, mm, mv, mq, mx, mxi, kinds, numb, numb2, gl, ssb, dc, dok, dq, List.any_cons, List.any_nil, Option.map_some, Bool.and_self, Bool.and_true, Bool.true_and, Bool.and_false, Bool.false_and, Bool.or_false, Bool.false_or, Bool.not_true, Bool.not_false, Bool.false_eq_true, beq_self_eq_true, Bool.not_not, ↓reduceIte, wpx, stx, mod_ok hm, div_ok hd, decide_false, Bool.false_eq_true, scrx, decide_eq_true_eq]
    by_cases hc : i + 1 ≤ (ns.length : Int)
    · obtain ⟨c, hx⟩ := ix_at ns (i := i + 1 - 1) (by omega) (by omega)
      simp only [hc, env0, evs, evz, evy, evd, evg, evh, mm, mv, mq, mx, mxi, kinds, numb, numb2, gl, ssb, dc, dok, dq, List.any_cons, List.any_nil, Option.map_some, Bool.and_self, Bool.and_true, Bool.true_and, Bool.and_false, Bool.false_and, Bool.or_false, Bool.false_or, Bool.not_true, Bool.not_false, Bool.false_eq_true, beq_self_eq_true, Bool.not_not, ↓reduceIte, wpx, stx, scrx, hx, pow18, decide_true, decide_eq_true_eq]
      by_cases hb : 10 ^ 18 ≤ c
      · simp only [hb, env0, evs, evz, evy, evd, evg, evh, mm, mv, mq, mx, mxi, kinds, numb, numb2, gl, ssb, dc, dok, dq, List.any_cons, List.any_nil, Option.map_some, Bool.and_self, Bool.and_true, Bool.true_and, Bool.and_false, Bool.false_and, Bool.or_false, Bool.false_or, Bool.not_true, Bool.not_false, Bool.false_eq_true, beq_self_eq_true, Bool.not_not, ↓reduceIte, wpx, stx, div_ok hd, mod_ok hm, decide_true]
        exact fin _ _ ⟨_, _, _, _, _, by omega, rfl⟩
      · simp only [hb, env0, evs, evz, evy, evd, evg, evh, mm, mv, mq, mx, mxi, kinds, numb, numb2, gl, ssb, dc, dok, dq, List.any_cons, List.any_nil, Option.map_some, Bool.and_self, Bool.and_true, Bool.true_and, Bool.and_false, Bool.false_and, Bool.or_false, Bool.false_or, Bool.not_true, Bool.not_false, Bool.false_eq_true, beq_self_eq_true, Bool.not_not, ↓reduceIte, wpx, stx, div_ok hd, mod_ok hm, decide_false, Bool.false_eq_true]
        exact fin _ _ ⟨_, _, _, _, _, by omega, rfl⟩
    · simp only [hc, env0, evs, evz, evy, evd, evg, evh, mm, mv, mq, mx, mxi, kinds, numb, numb2, gl, ssb, dc, dok, dq, List.any_cons, List.any_nil, Option.map_some, Bool.and_self, Bool.and_true, Bool.true_and, Bool.and_false, Bool.false_and, Bool.or_false, Bool.false_or, Bool.not_true, Bool.not_false, Bool.false_eq_true, beq_self_eq_true, Bool.not_not, ↓reduceIte, wpx, stx, scrx, decide_false, Bool.false_eq_true, mul_ok (okMul_r (show (48271 : Int).natAbs < 18446744073709551616 by decide)), mod_ok (show (2147483647 : Int) ≠ 0 by decide), div_ok (show okDiv 7 = true by decide +kernel), mod_ok hm]
      exact fin _ _ ⟨_, _, _, _, _, by omega, rfl⟩
theorem w_start (n : Nat) (ns : List Int) {Q : A → Sto → Prop} (q : ∀ s', StP s' → Q (.r 0) s') : wp (interp tx.T tx.G (n + 1) f__law_start [.d (.scr ns)]) [] Q := by
  rw [interp_eq (d := ir__law_start) rfl]
  refine .runF rfl ?_
  simp only [ir__law_start, Nat.reduceSub, env0, evs, evz, evy, evd, evg, evh, mm, mv, mq, mx, mxi, kinds, numb, numb2, gl, ssb, dc, dok, dq, List.any_cons, List.any_nil, Option.map_some, Bool.and_self, Bool.and_true, Bool.true_and, Bool.and_false, Bool.false_and, Bool.or_false, Bool.false_or, Bool.not_true, Bool.not_false, Bool.false_eq_true, beq_self_eq_true, Bool.not_not, ↓reduceIte, wpx, scrx]
  obtain ⟨t, e⟩ := forM_steps (f := forB ⟨interp tx.T tx.G n, lamOf tx.T tx.G [] n⟩ tx.G (.nm 2) (.cons (.asg (.nm 1) (.bin .mod (.bin .add (.bin .add (.bin .mul (.var 1) (.int 48271)) (.var 2)) (.int 7)) (.int 2147483647))) .nil)) D.int
    (fun (a : Int) t => [some (.d (.scr ns)), some (.d (.int a)), t]) (fun a c => (a * 48271 + c + 7).fmod 2147483647) ns 1 none
    (fun i _ s t => by simp only [forB, env0, evs, evz, evy, evd, evg, evh, mm, mv, mq, mx, mxi, kinds, numb, numb2, gl, ssb, dc, dok, dq, List.any_cons, List.any_nil, Option.map_some, Bool.and_self, Bool.and_true, Bool.true_and, Bool.and_false, Bool.false_and, Bool.or_false, Bool.false_or, Bool.not_true, Bool.not_false, Bool.false_eq_true, beq_self_eq_true, Bool.not_not, ↓reduceIte, mul_ok (okMul_r (show (48271 : Int).natAbs < 18446744073709551616 by decide)), mod_ok (show (2147483647 : Int) ≠ 0 by decide)])
  rw [e]
  simp only [env0, evs, evz, evy, evd, evg, evh, mm, mv, mq, mx, mxi, kinds, numb, numb2, gl, ssb, dc, dok, dq, List.any_cons, List.any_nil, Option.map_some, Bool.and_self, Bool.and_true, Bool.true_and, Bool.and_false, Bool.false_and, Bool.or_false, Bool.false_or, Bool.not_true, Bool.not_false, Bool.false_eq_true, beq_self_eq_true, Bool.not_not, ↓reduceIte, wpx]
  exact q _ ⟨_, _, _, _, _, by decide, rfl⟩
end K07
namespace K07
open PySem Sw Fm
theorem i__law_same (n : Nat) : ∀ (k : Nat) (x : D), D.ok k x = true → szD x = true → interp tx.T tx.G (n + k + 1) f__law_same [.d x, .d x] = ret (.d (.bl true)) := by
  intro k
  induction k with
  | zero =>
    intro x hx hsz
    rw [interp_eq (d := ir__law_same) rfl]
    refine runF_rt rfl ?_
    cases x with
    | tup xs => simp [D.ok] at hx
    | lst xs => simp [D.ok] at hx
    | scr xs => simp [D.ok] at hx
    | dct _ _ => simp [D.ok] at hx
    | _ => simp [ir__law_same, env0, evs, evx, mm, mv, mq, mx, mxi, kinds, numb, numb2, gl, ss, dc, dok, dq, List.any_cons, List.any_nil, Option.map_some, Bool.and_self, Bool.and_true, Bool.true_and, Bool.and_false, Bool.false_and, Bool.or_false, Bool.false_or, Bool.not_true, Bool.not_false, Bool.false_eq_true, beq_self_eq_true, Bool.not_not, ↓reduceIte]
  | succ k ih =>
    intro x hx hsz
    have main : ∀ (xs : List D) (y : D), D.oks k xs = true → szL xs = true → (∀ i, idx y (.int i) = ix xs i) → (∀ u v, mapM (compM ⟨interp tx.T tx.G (n + (k + 1)), lamOf tx.T tx.G [] (n + (k + 1))⟩ tx.G (.var 3) (.nm 3) (.cons (.not (.call f__law_same (.cons (.idx (.var 0) (.var 3)) (.cons (.idx (.var 1) (.var 3)) .nil)))) .nil) [3] [some (.d y), some (.d y), u, v])
        ((List.range ((xs.length : Int) - 0).toNat).map fun (i : Nat) => D.int (0 + (i : Int))) = ret []) := fun xs y ho hq hy u v => by
      have z := mapM_ret (f := compM ⟨interp tx.T tx.G (n + (k + 1)), lamOf tx.T tx.G [] (n + (k + 1))⟩ tx.G (.var 3) (.nm 3) (.cons (.not (.call f__law_same (.cons (.idx (.var 0) (.var 3)) (.cons (.idx (.var 1) (.var 3)) .nil)))) .nil) [3] [some (.d y), some (.d y), u, v]) (g := fun _ => none)
        (xs := (List.range ((xs.length : Int) - 0).toNat).map fun (i : Nat) => D.int (0 + (i : Int))) fun x hx => by
          obtain ⟨i, hi, rfl⟩ := List.mem_map.mp hx
          have hi2 : i < xs.length := by
            have := List.mem_range.mp hi
            omega
          obtain ⟨z, hz⟩ := ix_at xs (i := 0 + (i : Int)) (by omega) (by omega)
          have hz2 : xs[i]? = some z := by
            unfold ix at hz
            rw [if_pos (by omega)] at hz
            simpa using hz
          have hs := ih z (ok_get ho hz2) (sz_get hq hz2)
          exact compM_no (env' := [some (.d y), some (.d y), u, some (.d (.int (0 + i)))]) rfl (by simp only [env0, evs, evx, mm, mv, mq, mx, mxi, kinds, numb, numb2, gl, ss, dc, dok, dq, List.any_cons, List.any_nil, Option.map_some, Bool.and_self, Bool.and_true, Bool.true_and, Bool.and_false, Bool.false_and, Bool.or_false, Bool.false_or, Bool.not_true, Bool.not_false, Bool.false_eq_true, beq_self_eq_true, Bool.not_not, ↓reduceIte, hy, hz, show n + (k + 1) = n + k + 1 from rfl, hs])
      rw [z, filter_none]
    rw [interp_eq (d := ir__law_same) rfl]
    refine runF_rt rfl ?_
    cases x with
    | scr xs => simp [D.ok] at hx
    | dct _ _ => simp [D.ok] at hx
    | tup xs =>
      simp only [dok] at hx
      simp only [szD, Bool.and_eq_true, decide_eq_true_eq] at hsz
      have hl := hsz.1
      have hr := rngs_eq (show -(2 ^ 62) ≤ (0 : Int) by decide) (show (0 : Int) < 2 ^ 62 by decide) (show -(2 ^ 62) ≤ (xs.length : Int) by omega) (show (xs.length : Int) < 2 ^ 62 by omega)
      have hm := main xs (.tup xs) hx hsz.2 (fun _ => rfl) none none
      simp only [ir__law_same, Nat.reduceSub, env0, evs, evx, mm, mv, mq, mx, mxi, kinds, numb, numb2, gl, ss, dc, dok, dq, List.any_cons, List.any_nil, Option.map_some, Bool.and_self, Bool.and_true, Bool.true_and, Bool.and_false, Bool.false_and, Bool.or_false, Bool.false_or, Bool.not_true, Bool.not_false, Bool.false_eq_true, beq_self_eq_true, Bool.not_not, ↓reduceIte, hr, hm, f0, beq_self_eq_true]
    | lst xs =>
      simp only [dok] at hx
      simp only [szD, Bool.and_eq_true, decide_eq_true_eq] at hsz
      have hl := hsz.1
      have hr := rngs_eq (show -(2 ^ 62) ≤ (0 : Int) by decide) (show (0 : Int) < 2 ^ 62 by decide) (show -(2 ^ 62) ≤ (xs.length : Int) by omega) (show (xs.length : Int) < 2 ^ 62 by omega)
      have hm := main xs (.lst xs) hx hsz.2 (fun _ => rfl) none none
      simp only [ir__law_same, Nat.reduceSub, env0, evs, evx, mm, mv, mq, mx, mxi, kinds, numb, numb2, gl, ss, dc, dok, dq, List.any_cons, List.any_nil, Option.map_some, Bool.and_self, Bool.and_true, Bool.true_and, Bool.and_false, Bool.false_and, Bool.or_false, Bool.false_or, Bool.not_true, Bool.not_false, Bool.false_eq_true, beq_self_eq_true, Bool.not_not, ↓reduceIte, hr, hm, f0, beq_self_eq_true]
    | _ => simp [ir__law_same, env0, evs, evx, mm, mv, mq, mx, mxi, kinds, numb, numb2, gl, ss, dc, dok, dq, List.any_cons, List.any_nil, Option.map_some, Bool.and_self, Bool.and_true, Bool.true_and, Bool.and_false, Bool.false_and, Bool.or_false, Bool.false_or, Bool.not_true, Bool.not_false, Bool.false_eq_true, beq_self_eq_true, Bool.not_not, ↓reduceIte]
end K07
namespace K07
open PySem Sw Fm
theorem w_form (n : Nat) {most : Int} (m2 : 2 ≤ most) (m8 : most ≤ 8) {s : Sto} (hs : StP s) {Q : A → Sto → Prop} (q : ∀ b l h s', okB b l h → b ≤ most → StP s' → Q (.d (fd b l h)) s') : wp (interp tx.T tx.G (n + 2) f__law_form [.r 0, .d (.int most)]) s Q := by
  rw [interp_eq (d := ir__law_form) rfl]
  have tk : ∀ s', StP s' → StP (s'.take s.length) := fun s' h' => by
    obtain ⟨ns, i, m, l, rest, h0, rfl⟩ := h'
    obtain ⟨ns2, i2, m2, l2, rest2, h02, rfl⟩ := hs
    exact ⟨ns, i, m, l, rest.take rest2.length, h0, by simp⟩
  refine .runF rfl ?_
  simp only [ir__law_form, Nat.reduceSub, env0, evs, evz, evy, evd, evg, evh, mm, mv, mq, mx, mxi, kinds, numb, numb2, gl, ssb, dc, dok, dq, List.any_cons, List.any_nil, Option.map_some, Bool.and_self, Bool.and_true, Bool.true_and, Bool.and_false, Bool.false_and, Bool.or_false, Bool.false_or, Bool.not_true, Bool.not_false, Bool.false_eq_true, beq_self_eq_true, Bool.not_not, ↓reduceIte, wpx]
  refine w_drawn n (by omega) (by omega) hs fun v1 s1 a1 b1 hs1 => ?_
  simp only [env0, evs, evz, evy, evd, evg, evh, mm, mv, mq, mx, mxi, kinds, numb, numb2, gl, ssb, dc, dok, dq, List.any_cons, List.any_nil, Option.map_some, Bool.and_self, Bool.and_true, Bool.true_and, Bool.and_false, Bool.false_and, Bool.or_false, Bool.false_or, Bool.not_true, Bool.not_false, Bool.false_eq_true, beq_self_eq_true, Bool.not_not, ↓reduceIte, wpx]
  refine w_drawn n (by decide) (by decide) hs1 fun v2 s2 a2 b2 hs2 => ?_
  simp only [env0, evs, evz, evy, evd, evg, evh, mm, mv, mq, mx, mxi, kinds, numb, numb2, gl, ssb, dc, dok, dq, List.any_cons, List.any_nil, Option.map_some, Bool.and_self, Bool.and_true, Bool.true_and, Bool.and_false, Bool.false_and, Bool.or_false, Bool.false_or, Bool.not_true, Bool.not_false, Bool.false_eq_true, beq_self_eq_true, Bool.not_not, ↓reduceIte, wpx]
  refine w_drawn n (by decide) (by decide) hs2 fun v3 s3 a3 b3 hs3 => ?_
  simp only [env0, evs, evz, evy, evd, evg, evh, mm, mv, mq, mx, mxi, kinds, numb, numb2, gl, ssb, dc, dok, dq, List.any_cons, List.any_nil, Option.map_some, Bool.and_self, Bool.and_true, Bool.true_and, Bool.and_false, Bool.false_and, Bool.or_false, Bool.false_or, Bool.not_true, Bool.not_false, Bool.false_eq_true, beq_self_eq_true, Bool.not_not, ↓reduceIte, wpx]
  refine w_drawn n (by decide) (by decide) hs3 fun v4 s4 a4 b4 hs4 => ?_
  have key : ∀ low : Int, -20 ≤ low → low ≤ 20 → wp (ret (Out.nx [some (.r 0), some (.d (.int most)), some (.d (.int (2 + v1))), some (.d (.int low))])) s4 fun a s' => wp (seqM ⟨interp tx.T tx.G (n + 1), lamOf tx.T tx.G [] (n + 1)⟩ tx.G (.cons (.ret (.tup (.cons (.var 2) (.cons (.var 3) (.cons (.bi .min2 (.cons (.int 20) (.cons (.bin .add (.var 3) (.idx (.lst (.cons (.int 1) (.cons (.call f__law_drawn (.cons (.var 0) (.cons (.int 6) .nil))) (.cons (.call f__law_drawn (.cons (.var 0) (.cons (.int 41) .nil))) .nil)))) (.call f__law_drawn (.cons (.var 0) (.cons (.int 3) .nil))))) .nil))) .nil))))) .nil) a) s' (fun o s' => match o with
      | .nx _ => Q (.d .non) (s'.take s.length)
      | .rt (.d x) => Q (.d x) (s'.take s.length)
      | .rt (.r k) => Q (.r k) s'
      | _ => False) := fun low c1 c2 => by
    simp only [env0, evs, evz, evy, evd, evg, evh, mm, mv, mq, mx, mxi, kinds, numb, numb2, gl, ssb, dc, dok, dq, List.any_cons, List.any_nil, Option.map_some, Bool.and_self, Bool.and_true, Bool.true_and, Bool.and_false, Bool.false_and, Bool.or_false, Bool.false_or, Bool.not_true, Bool.not_false, Bool.false_eq_true, beq_self_eq_true, Bool.not_not, ↓reduceIte, wpx]
    refine w_drawn n (by decide) (by decide) hs4 fun v5 s5 a5 b5 hs5 => ?_
    simp only [env0, evs, evz, evy, evd, evg, evh, mm, mv, mq, mx, mxi, kinds, numb, numb2, gl, ssb, dc, dok, dq, List.any_cons, List.any_nil, Option.map_some, Bool.and_self, Bool.and_true, Bool.true_and, Bool.and_false, Bool.false_and, Bool.or_false, Bool.false_or, Bool.not_true, Bool.not_false, Bool.false_eq_true, beq_self_eq_true, Bool.not_not, ↓reduceIte, wpx]
    refine w_drawn n (by decide) (by decide) hs5 fun v6 s6 a6 b6 hs6 => ?_
    simp only [env0, evs, evz, evy, evd, evg, evh, mm, mv, mq, mx, mxi, kinds, numb, numb2, gl, ssb, dc, dok, dq, List.any_cons, List.any_nil, Option.map_some, Bool.and_self, Bool.and_true, Bool.true_and, Bool.and_false, Bool.false_and, Bool.or_false, Bool.false_or, Bool.not_true, Bool.not_false, Bool.false_eq_true, beq_self_eq_true, Bool.not_not, ↓reduceIte, wpx]
    refine w_drawn n (by decide) (by decide) hs6 fun v7 s7 a7 b7 hs7 => ?_
    have fin : ∀ z : Int, 0 ≤ z → Q (.d (.tup [.int (2 + v1), .int low, .int (if low + z < 20 then low + z else 20)])) (s7.take s.length) := fun z hz => q _ _ _ _ ⟨by omega, by omega, c1, by split <;> omega, by split <;> omega⟩ (by omega) (tk _ hs7)
    obtain rfl | rfl | rfl : v7 = 0 ∨ v7 = 1 ∨ v7 = 2 := by omega
    · simp only [env0, evs, evz, evy, evd, evg, evh, mm, mv, mq, mx, mxi, kinds, numb, numb2, gl, ssb, dc, dok, dq, List.any_cons, List.any_nil, Option.map_some, Bool.and_self, Bool.and_true, Bool.true_and, Bool.and_false, Bool.false_and, Bool.or_false, Bool.false_or, Bool.not_true, Bool.not_false, Bool.false_eq_true, beq_self_eq_true, Bool.not_not, ↓reduceIte, wpx]
      exact fin 1 (by decide)
    · simp only [env0, evs, evz, evy, evd, evg, evh, mm, mv, mq, mx, mxi, kinds, numb, numb2, gl, ssb, dc, dok, dq, List.any_cons, List.any_nil, Option.map_some, Bool.and_self, Bool.and_true, Bool.true_and, Bool.and_false, Bool.false_and, Bool.or_false, Bool.false_or, Bool.not_true, Bool.not_false, Bool.false_eq_true, beq_self_eq_true, Bool.not_not, ↓reduceIte, wpx]
      exact fin _ a5
    · simp only [env0, evs, evz, evy, evd, evg, evh, mm, mv, mq, mx, mxi, kinds, numb, numb2, gl, ssb, dc, dok, dq, List.any_cons, List.any_nil, Option.map_some, Bool.and_self, Bool.and_true, Bool.true_and, Bool.and_false, Bool.false_and, Bool.or_false, Bool.false_or, Bool.not_true, Bool.not_false, Bool.false_eq_true, beq_self_eq_true, Bool.not_not, ↓reduceIte, wpx]
      exact fin _ a6
  obtain rfl | rfl | rfl : v4 = 0 ∨ v4 = 1 ∨ v4 = 2 := by omega
  · simp only [env0, evs, evz, evy, evd, evg, evh, mm, mv, mq, mx, mxi, kinds, numb, numb2, gl, ssb, dc, dok, dq, List.any_cons, List.any_nil, Option.map_some, Bool.and_self, Bool.and_true, Bool.true_and, Bool.and_false, Bool.false_and, Bool.or_false, Bool.false_or, Bool.not_true, Bool.not_false, Bool.false_eq_true, beq_self_eq_true, Bool.not_not, ↓reduceIte, wpx]
    have := key (0 - 2) (by decide) (by decide)
    simp only [env0, evs, evz, evy, evd, evg, evh, mm, mv, mq, mx, mxi, kinds, numb, numb2, gl, ssb, dc, dok, dq, List.any_cons, List.any_nil, Option.map_some, Bool.and_self, Bool.and_true, Bool.true_and, Bool.and_false, Bool.false_and, Bool.or_false, Bool.false_or, Bool.not_true, Bool.not_false, Bool.false_eq_true, beq_self_eq_true, Bool.not_not, ↓reduceIte, wpx] at this
    exact this
  · simp only [env0, evs, evz, evy, evd, evg, evh, mm, mv, mq, mx, mxi, kinds, numb, numb2, gl, ssb, dc, dok, dq, List.any_cons, List.any_nil, Option.map_some, Bool.and_self, Bool.and_true, Bool.true_and, Bool.and_false, Bool.false_and, Bool.or_false, Bool.false_or, Bool.not_true, Bool.not_false, Bool.false_eq_true, beq_self_eq_true, Bool.not_not, ↓reduceIte, wpx]
    have := key (v2 - 6) (by omega) (by omega)
    simp only [env0, evs, evz, evy, evd, evg, evh, mm, mv, mq, mx, mxi, kinds, numb, numb2, gl, ssb, dc, dok, dq, List.any_cons, List.any_nil, Option.map_some, Bool.and_self, Bool.and_true, Bool.true_and, Bool.and_false, Bool.false_and, Bool.or_false, Bool.false_or, Bool.not_true, Bool.not_false, Bool.false_eq_true, beq_self_eq_true, Bool.not_not, ↓reduceIte, wpx] at this
    exact this
  · simp only [env0, evs, evz, evy, evd, evg, evh, mm, mv, mq, mx, mxi, kinds, numb, numb2, gl, ssb, dc, dok, dq, List.any_cons, List.any_nil, Option.map_some, Bool.and_self, Bool.and_true, Bool.true_and, Bool.and_false, Bool.false_and, Bool.or_false, Bool.false_or, Bool.not_true, Bool.not_false, Bool.false_eq_true, beq_self_eq_true, Bool.not_not, ↓reduceIte, wpx]
    have := key (v3 - 20) (by omega) (by omega)
    simp only [env0, evs, evz, evy, evd, evg, evh, mm, mv, mq, mx, mxi, kinds, numb, numb2, gl, ssb, dc, dok, dq, List.any_cons, List.any_nil, Option.map_some, Bool.and_self, Bool.and_true, Bool.true_and, Bool.and_false, Bool.false_and, Bool.or_false, Bool.false_or, Bool.not_true, Bool.not_false, Bool.false_eq_true, beq_self_eq_true, Bool.not_not, ↓reduceIte, wpx] at this
    exact this
theorem i__law_short (n : Nat) (a b : Int) (h0 : 0 < b) (hb : b.natAbs < 2 ^ 8000) : interp tx.T tx.G (n + 1) f__law_short [.d (.int a), .d (.int b)] = ret (.d (frD (fra a b))) := by
  rw [interp_eq (d := ir__law_short) rfl]
  refine runF_rt rfl ?_
  simp only [ir__law_short, Nat.reduceSub, env0, evs, evz, evy, evd, evg, evh, mm, mv, mq, mx, mxi, kinds, numb, numb2, gl, ssb, dc, dok, dq, List.any_cons, List.any_nil, Option.map_some, Bool.and_self, Bool.and_true, Bool.true_and, Bool.and_false, Bool.false_and, Bool.or_false, Bool.false_or, Bool.not_true, Bool.not_false, Bool.false_eq_true, beq_self_eq_true, Bool.not_not, ↓reduceIte]
  obtain ⟨g, e1, e2, e3⟩ := whl_gcd (c := cndM ⟨interp tx.T tx.G n, lamOf tx.T tx.G [] n⟩ tx.G (.cmp .ne (.var 3) (.int 0))) (f := blkM ⟨interp tx.T tx.G n, lamOf tx.T tx.G [] n⟩ tx.G (.cons (.par 2 3 (.var 3) (.bin .mod (.var 2) (.var 3))) .nil))
    (fun x y => [some (.d (.int a)), some (.d (.int b)), some (.d (.int x)), some (.d (.int y))]) (fun a b => by simp only [cndM, env0, evs, evz, evy, evd, evg, evh, mm, mv, mq, mx, mxi, kinds, numb, numb2, gl, ssb, dc, dok, dq, List.any_cons, List.any_nil, Option.map_some, Bool.and_self, Bool.and_true, Bool.true_and, Bool.and_false, Bool.false_and, Bool.or_false, Bool.false_or, Bool.not_true, Bool.not_false, Bool.false_eq_true, beq_self_eq_true, Bool.not_not, ↓reduceIte]) (fun a b hb => by simp only [blkM, env0, evs, evz, evy, evd, evg, evh, mm, mv, mq, mx, mxi, kinds, numb, numb2, gl, ssb, dc, dok, dq, List.any_cons, List.any_nil, Option.map_some, Bool.and_self, Bool.and_true, Bool.true_and, Bool.and_false, Bool.false_and, Bool.or_false, Bool.false_or, Bool.not_true, Bool.not_false, Bool.false_eq_true, beq_self_eq_true, Bool.not_not, ↓reduceIte, mod_ok hb]) 400000 (if a < 0 then -a else a) b wMost (pow_up hb) (by decide)
  rw [e1]
  have hg : 0 ≤ g := e3 (by omega) (by omega)
  have hg2 : g = (Int.gcd a b : Int) := by
    have e4 : Int.gcd (if a < 0 then -a else a) b = Int.gcd a b := by
      split
      · exact Int.neg_gcd ..
      · rfl
    rw [e4] at e2
    omega
  simp only [env0, evs, evz, evy, evd, evg, evh, mm, mv, mq, mx, mxi, kinds, numb, numb2, gl, ssb, dc, dok, dq, List.any_cons, List.any_nil, Option.map_some, Bool.and_self, Bool.and_true, Bool.true_and, Bool.and_false, Bool.false_and, Bool.or_false, Bool.false_or, Bool.not_true, Bool.not_false, Bool.false_eq_true, beq_self_eq_true, Bool.not_not, ↓reduceIte, hg2, div_ok (okg (a := a) (show b ≠ 0 by omega) hb), frD, fra, h0, if_true]
end K07
namespace K07
open PySem Sw Fm
theorem w_num (n : Nat) {b l h : Int} (o : okB b l h) {s : Sto} (hs : StP s) {Q : A → Sto → Prop} (q : ∀ g m e s', (Fl.num g m e).ok b l h → StP s' → Q (.d (Fl.num g m e).d) s') : wp (interp tx.T tx.G (n + 2) f__law_num [.r 0, .d (fd b l h)]) s Q := by
  have t1 : interp tx.T tx.G (n + 1) f__law_two [.d (.int (b - 1))] = _ := i__law_two n (p := b - 1) (by have := o.1; omega) (by have := o.2.1; omega)
  obtain ⟨e1, e2, e3⟩ := hf_eq o
  have o3 := o.2.2.1
  have o4 := o.2.2.2.1
  have o5 := o.2.2.2.2
  rw [interp_eq (d := ir__law_num) rfl]
  refine .runF rfl ?_
  simp only [ir__law_num, Nat.reduceSub, env0, evs, evz, evy, evd, evg, evh, mm, mv, mq, mx, mxi, kinds, numb, numb2, gl, ssb, dc, dok, dq, List.any_cons, List.any_nil, Option.map_some, Bool.and_self, Bool.and_true, Bool.true_and, Bool.and_false, Bool.false_and, Bool.or_false, Bool.false_or, Bool.not_true, Bool.not_false, Bool.false_eq_true, beq_self_eq_true, Bool.not_not, ↓reduceIte, wpx, fd]
  refine w_drawn n (by omega) (by omega) hs fun v1 s1 a1 b1 hs1 => ?_
  simp only [env0, evs, evz, evy, evd, evg, evh, mm, mv, mq, mx, mxi, kinds, numb, numb2, gl, ssb, dc, dok, dq, List.any_cons, List.any_nil, Option.map_some, Bool.and_self, Bool.and_true, Bool.true_and, Bool.and_false, Bool.false_and, Bool.or_false, Bool.false_or, Bool.not_true, Bool.not_false, Bool.false_eq_true, beq_self_eq_true, Bool.not_not, ↓reduceIte, wpx]
  refine w_drawn n (by decide) (by decide) hs1 fun v2 s2 a2 b2 hs2 => ?_
  obtain ⟨pw, p1, p2, hp⟩ : ∃ pw : Int, l ≤ pw ∧ pw ≤ h ∧ idx (.lst [.int l, .int h, .int (l + v1)]) (.int v2) = some (.int pw) := by
    obtain rfl | rfl | rfl : v2 = 0 ∨ v2 = 1 ∨ v2 = 2 := by omega
    · exact ⟨l, by omega, by omega, rfl⟩
    · exact ⟨h, by omega, by omega, rfl⟩
    · exact ⟨l + v1, by omega, by omega, rfl⟩
  simp only [env0, evs, evz, evy, evd, evg, evh, mm, mv, mq, mx, mxi, kinds, numb, numb2, gl, ssb, dc, dok, dq, List.any_cons, List.any_nil, Option.map_some, Bool.and_self, Bool.and_true, Bool.true_and, Bool.and_false, Bool.false_and, Bool.or_false, Bool.false_or, Bool.not_true, Bool.not_false, Bool.false_eq_true, beq_self_eq_true, Bool.not_not, ↓reduceIte, wpx, hp, t1]
  refine w_drawn n (by omega) (by omega) hs2 fun v3 s3 a3 b3 hs3 => ?_
  simp only [env0, evs, evz, evy, evd, evg, evh, mm, mv, mq, mx, mxi, kinds, numb, numb2, gl, ssb, dc, dok, dq, List.any_cons, List.any_nil, Option.map_some, Bool.and_self, Bool.and_true, Bool.true_and, Bool.and_false, Bool.false_and, Bool.or_false, Bool.false_or, Bool.not_true, Bool.not_false, Bool.false_eq_true, beq_self_eq_true, Bool.not_not, ↓reduceIte, wpx, mul_ok (ok2l _)]
  refine w_drawn n (by decide) (by decide) hs3 fun v4 s4 a4 b4 hs4 => ?_
  obtain ⟨mm', m1, m2, hm⟩ : ∃ mm' : Int, two (b - 1) ≤ mm' ∧ mm' ≤ 2 * two (b - 1) - 1 ∧ idx (.lst [.int (two (b - 1) + v3), .int (two (b - 1)), .int (2 * two (b - 1) - 1), .int (two (b - 1) + v3)]) (.int v4) = some (.int mm') := by
    obtain rfl | rfl | rfl | rfl : v4 = 0 ∨ v4 = 1 ∨ v4 = 2 ∨ v4 = 3 := by omega
    · exact ⟨_, by omega, by omega, rfl⟩
    · exact ⟨_, by omega, by omega, rfl⟩
    · exact ⟨_, by omega, by omega, rfl⟩
    · exact ⟨_, by omega, by omega, rfl⟩
  simp only [env0, evs, evz, evy, evd, evg, evh, mm, mv, mq, mx, mxi, kinds, numb, numb2, gl, ssb, dc, dok, dq, List.any_cons, List.any_nil, Option.map_some, Bool.and_self, Bool.and_true, Bool.true_and, Bool.and_false, Bool.false_and, Bool.or_false, Bool.false_or, Bool.not_true, Bool.not_false, Bool.false_eq_true, beq_self_eq_true, Bool.not_not, ↓reduceIte, wpx, hm]
  refine w_drawn n (by decide) (by decide) hs4 fun v5 s5 a5 b5 hs5 => ?_
  simp only [env0, evs, evz, evy, evd, evg, evh, mm, mv, mq, mx, mxi, kinds, numb, numb2, gl, ssb, dc, dok, dq, List.any_cons, List.any_nil, Option.map_some, Bool.and_self, Bool.and_true, Bool.true_and, Bool.and_false, Bool.false_and, Bool.or_false, Bool.false_or, Bool.not_true, Bool.not_false, Bool.false_eq_true, beq_self_eq_true, Bool.not_not, ↓reduceIte, wpx]
  by_cases h5 : v5 = 0
  · simp only [h5, env0, evs, evz, evy, evd, evg, evh, mm, mv, mq, mx, mxi, kinds, numb, numb2, gl, ssb, dc, dok, dq, List.any_cons, List.any_nil, Option.map_some, Bool.and_self, Bool.and_true, Bool.true_and, Bool.and_false, Bool.false_and, Bool.or_false, Bool.false_or, Bool.not_true, Bool.not_false, Bool.false_eq_true, beq_self_eq_true, Bool.not_not, ↓reduceIte, wpx]
    refine w_drawn n (by omega) (by omega) hs5 fun v6 s6 a6 b6 hs6 => ?_
    simp only [env0, evs, evz, evy, evd, evg, evh, mm, mv, mq, mx, mxi, kinds, numb, numb2, gl, ssb, dc, dok, dq, List.any_cons, List.any_nil, Option.map_some, Bool.and_self, Bool.and_true, Bool.true_and, Bool.and_false, Bool.false_and, Bool.or_false, Bool.false_or, Bool.not_true, Bool.not_false, Bool.false_eq_true, beq_self_eq_true, Bool.not_not, ↓reduceIte, wpx]
    refine w_drawn n (by decide) (by decide) hs6 fun v7 s7 a7 b7 hs7 => ?_
    simp only [env0, evs, evz, evy, evd, evg, evh, mm, mv, mq, mx, mxi, kinds, numb, numb2, gl, ssb, dc, dok, dq, List.any_cons, List.any_nil, Option.map_some, Bool.and_self, Bool.and_true, Bool.true_and, Bool.and_false, Bool.false_and, Bool.or_false, Bool.false_or, Bool.not_true, Bool.not_false, Bool.false_eq_true, beq_self_eq_true, Bool.not_not, ↓reduceIte, wpx]
    exact q v7 v6 l _ ⟨by omega, ⟨by omega, by omega⟩, by rw [if_pos rfl]; exact a6, by omega⟩ (hs.cut hs7)
  · have h50 : (v5 == 0) = false := by simpa using h5
    simp only [h50, env0, evs, evz, evy, evd, evg, evh, mm, mv, mq, mx, mxi, kinds, numb, numb2, gl, ssb, dc, dok, dq, List.any_cons, List.any_nil, Option.map_some, Bool.and_self, Bool.and_true, Bool.true_and, Bool.and_false, Bool.false_and, Bool.or_false, Bool.false_or, Bool.not_true, Bool.not_false, Bool.false_eq_true, beq_self_eq_true, Bool.not_not, ↓reduceIte, wpx]
    refine w_drawn n (by decide) (by decide) hs5 fun v7 s7 a7 b7 hs7 => ?_
    simp only [env0, evs, evz, evy, evd, evg, evh, mm, mv, mq, mx, mxi, kinds, numb, numb2, gl, ssb, dc, dok, dq, List.any_cons, List.any_nil, Option.map_some, Bool.and_self, Bool.and_true, Bool.true_and, Bool.and_false, Bool.false_and, Bool.or_false, Bool.false_or, Bool.not_true, Bool.not_false, Bool.false_eq_true, beq_self_eq_true, Bool.not_not, ↓reduceIte, wpx]
    exact q v7 mm' pw _ ⟨by omega, ⟨by omega, by omega⟩, by split <;> omega, by omega⟩ (hs.cut hs7)
theorem w_rule (n : Nat) {s : Sto} (hs : StP s) {Q : A → Sto → Prop} (q : ∀ (r : Rule) s', StP s' → Q (.d r.d) s') : wp (interp tx.T tx.G (n + 2) f__law_rule [.r 0]) s Q := by
  rw [interp_eq (d := ir__law_rule) rfl]
  refine .runF rfl ?_
  simp only [ir__law_rule, Nat.reduceSub, env0, evs, evz, evy, evd, evg, evh, mm, mv, mq, mx, mxi, kinds, numb, numb2, gl, ssb, dc, dok, dq, List.any_cons, List.any_nil, Option.map_some, Bool.and_self, Bool.and_true, Bool.true_and, Bool.and_false, Bool.false_and, Bool.or_false, Bool.false_or, Bool.not_true, Bool.not_false, Bool.false_eq_true, beq_self_eq_true, Bool.not_not, ↓reduceIte, wpx]
  refine w_drawn n (by decide) (by decide) hs fun v s1 a b hs1 => ?_
  obtain ⟨r, hr⟩ : ∃ r : Rule, idx (.lst [D.str "even", .str "away", .str "nought", .str "up", .str "down"]) (.int v) = some r.d := by
    obtain rfl | rfl | rfl | rfl | rfl : v = 0 ∨ v = 1 ∨ v = 2 ∨ v = 3 ∨ v = 4 := by omega
    · exact ⟨.even, rfl⟩
    · exact ⟨.away, rfl⟩
    · exact ⟨.nought, rfl⟩
    · exact ⟨.up, rfl⟩
    · exact ⟨.down, rfl⟩
  simp only [env0, evs, evz, evy, evd, evg, evh, mm, mv, mq, mx, mxi, kinds, numb, numb2, gl, ssb, dc, dok, dq, List.any_cons, List.any_nil, Option.map_some, Bool.and_self, Bool.and_true, Bool.true_and, Bool.and_false, Bool.false_and, Bool.or_false, Bool.false_or, Bool.not_true, Bool.not_false, Bool.false_eq_true, beq_self_eq_true, Bool.not_not, ↓reduceIte, wpx, hr]
  exact q r _ (hs.cut hs1)
def worD (s m e : Int) : Int × Int := fra (m * two (if e > 0 then e else 0) * (1 - 2 * s)) (two (if 0 - e > 0 then 0 - e else 0))
theorem i__law_worth (n : Nat) (s m e : Int) (hm : m.natAbs < 18446744073709551616) (h1 : -20 ≤ e) (h2 : e ≤ 20) (hs : s = 0 ∨ s = 1) : interp tx.T tx.G (n + 2) f__law_worth [.d (Fl.num s m e).d] = ret (.d (frD (worD s m e))) := by
  rw [interp_eq (d := ir__law_worth) rfl]
  refine runF_rt rfl ?_
  have t1 := i__law_two n (p := if e > 0 then e else 0) (by omega) (by omega)
  have t2 := i__law_two n (p := if 0 - e > 0 then 0 - e else 0) (by omega) (by omega)
  have tp := two_pos (if 0 - e > 0 then 0 - e else 0)
  have hh := i__law_short n (m * two (if e > 0 then e else 0) * (1 - 2 * s)) _ tp (two_lt (by omega))
  simp only [ir__law_worth, Nat.reduceSub, env0, evs, evz, evy, evd, evg, evh, mm, mv, mq, mx, mxi, kinds, numb, numb2, gl, ssb, dc, dok, dq, List.any_cons, List.any_nil, Option.map_some, Bool.and_self, Bool.and_true, Bool.true_and, Bool.and_false, Bool.false_and, Bool.or_false, Bool.false_or, Bool.not_true, Bool.not_false, Bool.false_eq_true, beq_self_eq_true, Bool.not_not, ↓reduceIte, Fl.d, t1, t2, hh, mul_ok (okMul_l hm), mul_ok (ok2l _), mul_ok (okMul_r (show (1 - 2 * s).natAbs < 18446744073709551616 by omega)), worD]
theorem worD_eq (s m e : Int) (hs : s = 0 ∨ s = 1) : worD s m e = negF s (sca m e) := by
  have two0 : two 0 = 1 := rfl
  unfold worD sca negF
  by_cases h : 0 ≤ e
  · have e1 : (if e > 0 then e else 0) = e := by split <;> omega
    have e2 : (if 0 - e > 0 then 0 - e else 0) = 0 := by split <;> omega
    rw [e1, e2, if_pos h, two0]
    unfold fra
    rw [if_pos (by decide)]
    simp only [Int.gcd_one_right, Int.natCast_one, Int.ediv_one]
    rcases hs with rfl | rfl
    · simp
    · simp
  · have e1 : (if e > 0 then e else 0) = 0 := by split <;> omega
    have e2 : (if 0 - e > 0 then 0 - e else 0) = 0 - e := by split <;> omega
    rw [e1, e2, if_neg h, two0, Int.mul_one]
    have tp := two_pos (0 - e)
    rcases hs with rfl | rfl
    · simp
    · rw [if_pos rfl]
      have e3 : m * (1 - 2 * 1) = -m := by omega
      rw [e3]
      unfold fra
      rw [if_pos tp, if_pos tp, Int.neg_gcd]
      obtain ⟨x, hx⟩ := Int.gcd_dvd_left (a := m) (b := two (0 - e))
      have hg := gcd_pos (a := m) (b := two (0 - e)) (by omega)
      simp only [Prod.mk.injEq, and_true]
      rw [Int.neg_ediv_of_dvd (Int.gcd_dvd_left ..)]
      exact (Int.zero_sub _).symm
end K07
namespace K07
open PySem Sw Fm
theorem get_range {n j x : Nat} (h : (List.range n)[j]? = some x) : j < n ∧ x = j := by
  obtain ⟨h1, h2⟩ := List.getElem?_eq_some_iff.mp h
  rw [List.getElem_range] at h2
  exact ⟨by simpa using h1, h2.symm⟩
theorem i__law_sizes (n : Nat) {b l h : Int} (o : okB b l h) : interp tx.T tx.G (n + 2) f__law_sizes [.d (fd b l h)] = ret (.d (.lst ((upL b l h).map (sizD l)))) := by
  obtain ⟨e1, e2, e3⟩ := hf_eq o
  obtain ⟨n1, n2⟩ := nN_le o
  obtain ⟨o1, o2, o3, o4, o5⟩ := o
  rw [interp_eq (d := ir__law_sizes) rfl]
  refine runF_rt rfl ?_
  have hh := i__law_two n (p := b - 1) (by omega) (by omega)
  have hb : two (b - 1) = (hf b : Int) := e1.symm
  have r1 := rngs_eq (show -(2 ^ 62) ≤ (0 : Int) by decide) (show (0 : Int) < 2 ^ 62 by decide) (show -(2 ^ 62) ≤ (hf b : Int) by omega) (show (hf b : Int) < 2 ^ 62 by omega)
  have r2 := rngs_eq (show -(2 ^ 62) ≤ l by omega) (show l < 2 ^ 62 by omega) (show -(2 ^ 62) ≤ h + 1 by omega) (show h + 1 < 2 ^ 62 by omega)
  have r3 := rngs_eq (show -(2 ^ 62) ≤ (hf b : Int) by omega) (show (hf b : Int) < 2 ^ 62 by omega) (show -(2 ^ 62) ≤ 2 * (hf b : Int) by omega) (show 2 * (hf b : Int) < 2 ^ 62 by omega)
  rw [Int.sub_zero, Int.toNat_natCast] at r1
  have e4 : (2 * (hf b : Int) - hf b).toNat = hf b := by omega
  rw [e4] at r3
  have okm : okMul 2 (hf b : Int) = true := ok2l _
  have tw0 : two 0 = 1 := rfl
  simp only [ir__law_sizes, Nat.reduceSub, env0, evs, evz, evy, evd, evg, evh, mm, mv, mq, mx, mxi, kinds, numb, numb2, gl, ssb, dc, dok, dq, List.any_cons, List.any_nil, Option.map_some, Bool.and_self, Bool.and_true, Bool.true_and, Bool.and_false, Bool.false_and, Bool.or_false, Bool.false_or, Bool.not_true, Bool.not_false, Bool.false_eq_true, beq_self_eq_true, Bool.not_not, ↓reduceIte, fd, hh, hb]
  rw [cmp_map (xs := List.range (hf b)) (fun i : Nat => D.int (0 + i)) (fun i : Nat => sizD l (Fl.num 0 i l)) ?_ ?_ ?_]
  · simp only [env0, evs, evz, evy, evd, evg, evh, mm, mv, mq, mx, mxi, kinds, numb, numb2, gl, ssb, dc, dok, dq, List.any_cons, List.any_nil, Option.map_some, Bool.and_self, Bool.and_true, Bool.true_and, Bool.and_false, Bool.false_and, Bool.or_false, Bool.false_or, Bool.not_true, Bool.not_false, Bool.false_eq_true, beq_self_eq_true, Bool.not_not, ↓reduceIte, r2]
    refine for_at (fun i : Nat => D.int (l + (i : Int))) (fun (s : List Fl) u => [some (.d (fd b l h)), some (.d (.int b)), some (.d (.int l)), some (.d (.int h)), some (.d (.int (hf b))), some (.d (.lst (s.map (sizD l)))), u, none]) (fun k => smF b l ++ (List.range k).flatMap (rowF b l)) none ?_ (fun j x u hx => ?_) fun u => ?_
    · simp [smF, fd]
    · obtain ⟨hj, rfl⟩ := get_range hx
      refine ⟨[some (.d (fd b l h)), some (.d (.int b)), some (.d (.int l)), some (.d (.int h)), some (.d (.int (hf b))), some (.d (.lst ((smF b l ++ (List.range x).flatMap (rowF b l)).map (sizD l)))), some (.d (.int (l + x))), none], some (.d (.int (l + x))), rfl, ?_⟩
      have h2 := i__law_two n (p := l + (x : Int) - l) (by omega) (by omega)
      simp only [env0, evs, evz, evy, evd, evg, evh, mm, mv, mq, mx, mxi, kinds, numb, numb2, gl, ssb, dc, dok, dq, List.any_cons, List.any_nil, Option.map_some, Bool.and_self, Bool.and_true, Bool.true_and, Bool.and_false, Bool.false_and, Bool.or_false, Bool.false_or, Bool.not_true, Bool.not_false, Bool.false_eq_true, beq_self_eq_true, Bool.not_not, ↓reduceIte]
      rw [cmp_map (xs := List.range (hf b)) (fun i : Nat => D.int ((hf b : Int) + i)) (fun j : Nat => sizD l (Fl.num 0 (hf b + (j : Nat)) (l + x))) ?_ ?_ ?_]
      · have len : ((smF b l ++ (List.range x).flatMap (rowF b l)).map (sizD l)).length + ((List.range (hf b)).map fun j : Nat => sizD l (Fl.num 0 (hf b + (j : Nat)) (l + x))).length ≤ 16777216 := by
          have hl : (smF b l).length = hf b := by simp [smF]
          have hr := rows_len2 b l x
          rw [List.length_map, List.length_map, List.length_append, hl, hr, List.length_range]
          have : x * hf b ≤ 41 * 128 := Nat.mul_le_mul (by omega) e3
          omega
        simp only [env0, evs, evz, evy, evd, evg, evh, mm, mv, mq, mx, mxi, kinds, numb, numb2, gl, ssb, dc, dok, dq, List.any_cons, List.any_nil, Option.map_some, Bool.and_self, Bool.and_true, Bool.true_and, Bool.and_false, Bool.false_and, Bool.or_false, Bool.false_or, Bool.not_true, Bool.not_false, Bool.false_eq_true, beq_self_eq_true, Bool.not_not, ↓reduceIte, cats, if_pos len]
        rw [List.range_succ, List.flatMap_append, ← List.append_assoc, List.map_append]
        simp [rowF]
        rfl
      · simp only [env0, evs, evz, evy, evd, evg, evh, mm, mv, mq, mx, mxi, kinds, numb, numb2, gl, ssb, dc, dok, dq, List.any_cons, List.any_nil, Option.map_some, Bool.and_self, Bool.and_true, Bool.true_and, Bool.and_false, Bool.false_and, Bool.or_false, Bool.false_or, Bool.not_true, Bool.not_false, Bool.false_eq_true, beq_self_eq_true, Bool.not_not, ↓reduceIte, mul_ok okm, r3]
      · rw [List.length_range]; omega
      · intro i hi
        have hi := List.mem_range.mp hi
        refine ⟨[some (.d (fd b l h)), some (.d (.int b)), some (.d (.int l)), some (.d (.int h)), some (.d (.int (hf b))), some (.d (.lst ((smF b l ++ (List.range x).flatMap (rowF b l)).map (sizD l)))), some (.d (.int (l + x))), some (.d (.int (hf b + i)))], rfl, ?_⟩
        have om : okMul ((hf b : Int) + i) (two (l + (x : Int) - l)) = true := okMul_l (by omega)
        simp only [env0, evs, evz, evy, evd, evg, evh, mm, mv, mq, mx, mxi, kinds, numb, numb2, gl, ssb, dc, dok, dq, List.any_cons, List.any_nil, Option.map_some, Bool.and_self, Bool.and_true, Bool.true_and, Bool.and_false, Bool.false_and, Bool.or_false, Bool.false_or, Bool.not_true, Bool.not_false, Bool.false_eq_true, beq_self_eq_true, Bool.not_not, ↓reduceIte, h2, mul_ok om, sizD]
    · simp only [env0, evs, evz, evy, evd, evg, evh, mm, mv, mq, mx, mxi, kinds, numb, numb2, gl, ssb, dc, dok, dq, List.any_cons, List.any_nil, Option.map_some, Bool.and_self, Bool.and_true, Bool.true_and, Bool.and_false, Bool.false_and, Bool.or_false, Bool.false_or, Bool.not_true, Bool.not_false, Bool.false_eq_true, beq_self_eq_true, Bool.not_not, ↓reduceIte]
      rw [List.length_range, upL_eq]
  · simp only [env0, evs, evz, evy, evd, evg, evh, mm, mv, mq, mx, mxi, kinds, numb, numb2, gl, ssb, dc, dok, dq, List.any_cons, List.any_nil, Option.map_some, Bool.and_self, Bool.and_true, Bool.true_and, Bool.and_false, Bool.false_and, Bool.or_false, Bool.false_or, Bool.not_true, Bool.not_false, Bool.false_eq_true, beq_self_eq_true, Bool.not_not, ↓reduceIte, r1]
  · rw [List.length_range]; omega
  · intro i _
    exact ⟨[some (.d (fd b l h)), some (.d (.int b)), some (.d (.int l)), some (.d (.int h)), some (.d (.int (hf b))), none, none, some (.d (.int (0 + i)))], rfl, by simp [env0, evs, evz, evy, evd, evg, evh, mm, mv, mq, mx, mxi, kinds, numb, numb2, gl, ssb, dc, dok, dq, List.any_cons, List.any_nil, Option.map_some, Bool.and_self, Bool.and_true, Bool.true_and, Bool.and_false, Bool.false_and, Bool.or_false, Bool.false_or, Bool.not_true, Bool.not_false, Bool.false_eq_true, beq_self_eq_true, Bool.not_not, ↓reduceIte, sizD, fd, tw0]⟩
end K07
namespace K07
open PySem Sw Fm
/-- the place that is told, and whether it is exact -/
def nea (b l h : Int) (r : Rule) (s : Int) (m k : Nat) (code : Int) : Nat × Bool :=
  if m + k * hf b < nN b l h then (if code = 0 then (m + k * hf b, true) else (m + k * hf b + (if r.ups s m code = true then 1 else 0), false)) else (if r.toinf s = true then nN b l h else nN b l h - 1, false)
theorem i__law_nearest (n : Nat) {b l h : Int} (o : okB b l h) (r : Rule) {s t u : Int} (hs : s = 0 ∨ s = 1) (ht : 0 ≤ t) (hu : 0 < u) {m k : Nat} (c : Cut (hf b) (wh l t) (pt l u) m k) :
    interp tx.T tx.G (n + 3) f__law_nearest [.d (fd b l h), .d (.int t), .d (.int u), .d r.d, .d (.int s)] =
      ret (.d (.tup [.int (nea b l h r s m k (cod (wh l t - m * (pt l u * 2 ^ k)) (pt l u * 2 ^ k))).1, .bl (nea b l h r s m k (cod (wh l t - m * (pt l u * 2 ^ k)) (pt l u * 2 ^ k))).2])) := by
  obtain ⟨e1, e2, e3⟩ := hf_eq o
  obtain ⟨n1, n2⟩ := nN_le o
  have hsz := i__law_sizes (n := n) o
  have htop := siz_top o
  obtain ⟨o1, o2, o3, o4, o5⟩ := id o
  have eW : t * two (if 0 - l > 0 then 0 - l else 0) = wh l t := by
    unfold wh
    by_cases hl : l < 0
    · rw [if_pos hl, if_pos (by omega)]
    · rw [if_neg hl, if_neg (by omega)]
      show t * 1 = t
      omega
  have eP : u * two (if l > 0 then l else 0) = pt l u := by
    unfold pt
    by_cases hl : l < 0
    · rw [if_pos hl, if_neg (by omega)]
      show u * 1 = u
      omega
    · rw [if_neg hl]
      by_cases h0 : l > 0
      · rw [if_pos h0]
      · rw [if_neg h0, show l = 0 by omega]
  have hP := pt_pos (l := l) hu
  have hW := wh_nn (l := l) ht
  have t1 := i__law_two (n + 1) (p := if 0 - l > 0 then 0 - l else 0) (by omega) (by omega)
  have t2 := i__law_two (n + 1) (p := if l > 0 then l else 0) (by omega) (by omega)
  have t3 := i__law_two (n + 1) (p := b + h - l) (by omega) (by omega)
  have tb : ∀ p : Int, p ≤ 48 → (two p).natAbs < 18446744073709551616 := fun p hp => by
    have := two_le hp
    have := two_pos p
    have e : two 48 = 2 ^ 48 := rfl
    omega
  have m1 : okMul t (two (if 0 - l > 0 then 0 - l else 0)) = true := okMul_r (tb _ (by omega))
  have m2 : okMul u (two (if l > 0 then l else 0)) = true := okMul_r (tb _ (by omega))
  generalize hWW : wh l t = W at *
  generalize hPP : pt l u = P at *
  have cb := cut_below hP c (by omega : 0 < hf b)
  have hsz' := hsz
  simp only [fd] at hsz'
  have idx1 : idx (.tup [.int b, .int l, .int h]) (.int 1) = some (.int l) := rfl
  have idx0 : idx (.tup [.int b, .int l, .int h]) (.int 0) = some (.int b) := rfl
  have idx2 : idx (.tup [.int b, .int l, .int h]) (.int 2) = some (.int h) := rfl
  rw [interp_eq (d := ir__law_nearest) rfl]
  refine runF_rt rfl ?_
  simp only [ir__law_nearest, Nat.reduceSub, env0, evs, evz, evy, evd, evg, evh, mm, mv, mq, mx, mxi, kinds, numb, numb2, gl, ssb, dc, dok, dq, List.any_cons, List.any_nil, Option.map_some, Bool.and_self, Bool.and_true, Bool.true_and, Bool.and_false, Bool.false_and, Bool.or_false, Bool.false_or, Bool.not_true, Bool.not_false, Bool.false_eq_true, beq_self_eq_true, Bool.not_not, ↓reduceIte, fd, hsz', t1, t2, idx1, idx0, idx2, mul_ok m1, mul_ok m2, eW, eP]
  have hup : (upL b l h).map (sizD l) = (List.range (nN b l h)).map fun i => sizD l (pAt (hf b) l i) := by
    unfold upL
    rw [List.map_map]
    rfl
  have hul : ((upL b l h).map (sizD l)).length = nN b l h := by rw [List.length_map, upL_len]
  rw [cmp_map (xs := List.range (nN b l h)) (fun i : Nat => sizD l (pAt (hf b) l i)) (fun i : Nat => D.int (siz (hf b) i)) ?_ ?_ ?_]
  rotate_left
  · simp only [env0, evs, evz, evy, evd, evg, evh, mm, mv, mq, mx, mxi, kinds, numb, numb2, gl, ssb, dc, dok, dq, List.any_cons, List.any_nil, Option.map_some, Bool.and_self, Bool.and_true, Bool.true_and, Bool.and_false, Bool.false_and, Bool.or_false, Bool.false_or, Bool.not_true, Bool.not_false, Bool.false_eq_true, beq_self_eq_true, Bool.not_not, ↓reduceIte, hup]
  · rw [List.length_range]; omega
  · intro i _
    exact ⟨_, rfl, by rw [sizD_at o]; rfl⟩
  have len1 : ((List.range (nN b l h)).map fun i : Nat => D.int (siz (hf b) i)).length + [D.int (two (b + h - l))].length ≤ 16777216 := by
    rw [List.length_map, List.length_range]
    simp only [List.length_cons, List.length_nil]
    omega
  have eL : ((List.range (nN b l h)).map fun i : Nat => D.int (siz (hf b) i)) ++ [D.int (two (b + h - l))] = (List.range (nN b l h + 1)).map fun i : Nat => D.int (siz (hf b) i) := by
    rw [List.range_succ, List.map_append, ← htop]
    rfl
  simp only [env0, evs, evz, evy, evd, evg, evh, mm, mv, mq, mx, mxi, kinds, numb, numb2, gl, ssb, dc, dok, dq, List.any_cons, List.any_nil, Option.map_some, Bool.and_self, Bool.and_true, Bool.true_and, Bool.and_false, Bool.false_and, Bool.or_false, Bool.false_or, Bool.not_true, Bool.not_false, Bool.false_eq_true, beq_self_eq_true, Bool.not_not, ↓reduceIte, t3, cats, if_pos len1, eL]
  have sb : ∀ i, i ≤ nN b l h → (siz (hf b) i : Int).natAbs < 2 ^ 49 := fun i hi => by
    have h1 : siz (hf b) i ≤ siz (hf b) (nN b l h) := by
      rcases Nat.lt_or_eq_of_le hi with z | z
      · exact Nat.le_of_lt (siz_mono (by omega) z)
      · rw [z]; exact Nat.le_refl _
    have h2 := two_le (p := b + h - l) (q := 48) (by omega)
    have e : two 48 = 2 ^ 48 := rfl
    omega
  rw [cmp_flt (xs := List.range (nN b l h + 1)) (fun i : Nat => D.int (siz (hf b) i)) (fun i : Nat => D.int (siz (hf b) i)) (fun i => decide (i ≤ m + k * hf b)) ?_ ?_ ?_]
  rotate_left
  · simp only [env0, evs, evz, evy, evd, evg, evh, mm, mv, mq, mx, mxi, kinds, numb, numb2, gl, ssb, dc, dok, dq, List.any_cons, List.any_nil, Option.map_some, Bool.and_self, Bool.and_true, Bool.true_and, Bool.and_false, Bool.false_and, Bool.or_false, Bool.false_or, Bool.not_true, Bool.not_false, Bool.false_eq_true, beq_self_eq_true, Bool.not_not, ↓reduceIte]
  · refine Nat.le_trans (List.length_filter_le _ _) ?_
    rw [List.length_range]; omega
  · intro i hi
    have hi := List.mem_range.mp hi
    have om : okMul (siz (hf b) i : Int) P = true := okMul_l (Nat.lt_trans (sb i (by omega)) (by decide))
    refine ⟨_, rfl, ?_, fun _ => by simp only [env0, evs, evz, evy, evd, evg, evh, mm, mv, mq, mx, mxi, kinds, numb, numb2, gl, ssb, dc, dok, dq, List.any_cons, List.any_nil, Option.map_some, Bool.and_self, Bool.and_true, Bool.true_and, Bool.and_false, Bool.false_and, Bool.or_false, Bool.false_or, Bool.not_true, Bool.not_false, Bool.false_eq_true, beq_self_eq_true, Bool.not_not, ↓reduceIte]⟩
    simp only [env0, evs, evz, evy, evd, evg, evh, mm, mv, mq, mx, mxi, kinds, numb, numb2, gl, ssb, dc, dok, dq, List.any_cons, List.any_nil, Option.map_some, Bool.and_self, Bool.and_true, Bool.true_and, Bool.and_false, Bool.false_and, Bool.or_false, Bool.false_or, Bool.not_true, Bool.not_false, Bool.false_eq_true, beq_self_eq_true, Bool.not_not, ↓reduceIte, mul_ok om]
    rw [decide_eq_decide.mpr (cb i)]
  have hcnt : ((((List.range (nN b l h + 1)).filter fun i => decide (i ≤ m + k * hf b)).map fun i : Nat => D.int (siz (hf b) i)).length : Int) - 1 = (min (m + k * hf b) (nN b l h) : Nat) := by
    rw [List.length_map, cnt_le]
    omega
  simp only [env0, evs, evz, evy, evd, evg, evh, mm, mv, mq, mx, mxi, kinds, numb, numb2, gl, ssb, dc, dok, dq, List.any_cons, List.any_nil, Option.map_some, Bool.and_self, Bool.and_true, Bool.true_and, Bool.and_false, Bool.false_and, Bool.or_false, Bool.false_or, Bool.not_true, Bool.not_false, Bool.false_eq_true, beq_self_eq_true, Bool.not_not, ↓reduceIte, hcnt]
  obtain ⟨j0, hj0⟩ : ∃ j0, j0 = m + k * hf b := ⟨_, rfl⟩
  unfold nea
  rw [← hj0]
  obtain ⟨LL, hLL⟩ : ∃ LL, LL = (List.range (nN b l h + 1)).map fun i : Nat => D.int (siz (hf b) i) := ⟨_, rfl⟩
  rw [← hLL]
  have gI : ∀ i : Nat, i ≤ nN b l h → ix LL (i : Int) = some (.int (siz (hf b) i)) := fun i hi => by
    rw [hLL]
    unfold ix
    rw [if_pos (by omega), Int.toNat_natCast, List.getElem?_map, List.getElem?_range (by omega)]
    rfl
  have gS : ∀ i : Nat, i < nN b l h → ix ((upL b l h).map (sizD l)) (i : Int) = some (.tup [.int (siz (hf b) i), .int (mOf (hf b) i), .int (l + (kOf (hf b) i : Nat))]) := fun i hi => by
    rw [hup]
    unfold ix
    rw [if_pos (by omega), Int.toNat_natCast, List.getElem?_map, List.getElem?_range hi, Option.map_some, sizD_at o]
  have s0 : siz (hf b) j0 = m * 2 ^ k := by rw [hj0]; exact siz_at c.lt c.ge
  have s1 : siz (hf b) (j0 + 1) = (m + 1) * 2 ^ k := by rw [hj0]; exact siz_next c.lt c.ge
  have mo : mOf (hf b) j0 = m := by rw [hj0]; exact (mk_at c.lt c.ge).1
  have hz : 0 < P * 2 ^ k := Int.mul_pos hP (Int.pow_pos (by decide))
  have w0 : (siz (hf b) j0 : Int) * P = m * (P * 2 ^ k) := by rw [s0]; push_cast; rw [Int.mul_assoc, Int.mul_comm (2 ^ k) P]
  have w1 : (siz (hf b) (j0 + 1) : Int) * P = m * (P * 2 ^ k) + P * 2 ^ k := by rw [s1]; push_cast; rw [Int.mul_assoc, Int.mul_comm (2 ^ k) P, Int.add_mul, Int.one_mul]
  have clo := c.lo
  have chi := c.hi
  rw [Int.add_mul, Int.one_mul] at chi
  obtain ⟨cd, hcd⟩ : ∃ cd, cd = cod (W - m * (P * 2 ^ k)) (P * 2 ^ k) := ⟨_, rfl⟩
  rw [← hcd]
  unfold cod at hcd
  generalize hB : (m : Int) * (P * 2 ^ k) = B at *
  generalize hZ : P * 2 ^ k = Z at *
  by_cases hj : j0 < nN b l h
  · have hmin : min j0 (nN b l h) = j0 := Nat.min_eq_left (Nat.le_of_lt hj)
    have om : okMul (siz (hf b) j0 : Int) P = true := okMul_l (Nat.lt_trans (sb j0 (by omega)) (by decide))
    have hlt : decide ((j0 : Int) < (((upL b l h).map (sizD l)).length : Nat)) = true := by rw [hul]; exact decide_eq_true (by omega)
    have hne : decide ((j0 : Int) = (((upL b l h).map (sizD l)).length : Nat)) = false := by rw [hul]; exact decide_eq_false (by omega)
    rw [if_pos hj]
    by_cases h0 : cd = 0
    · have hl0 : W - B = 0 := Classical.byContradiction fun hc => by
        rw [if_neg hc] at hcd
        split at hcd
        · omega
        · split at hcd <;> omega
      rw [if_pos h0]
      have e : decide ((siz (hf b) j0 : Int) * P = W) = true := decide_eq_true (by omega)
      simp only [hmin, hlt, gI j0 (Nat.le_of_lt hj), env0, evs, evz, evy, evd, evg, evh, mm, mv, mq, mx, mxi, kinds, numb, numb2, gl, ssb, dc, dok, dq, List.any_cons, List.any_nil, Option.map_some, Bool.and_self, Bool.and_true, Bool.true_and, Bool.and_false, Bool.false_and, Bool.or_false, Bool.false_or, Bool.not_true, Bool.not_false, Bool.false_eq_true, beq_self_eq_true, Bool.not_not, ↓reduceIte, mul_ok om, bqi, e]
    · have hl0 : W - B ≠ 0 := fun hc => h0 (by rw [hcd, if_pos hc])
      rw [if_neg hl0] at hcd
      rw [if_neg h0]
      have e : decide ((siz (hf b) j0 : Int) * P = W) = false := decide_eq_false (by omega)
      have om2 : okMul ((siz (hf b) j0 : Int) + siz (hf b) (j0 + 1)) P = true := okMul_l (by have := sb j0 (by omega); have := sb (j0 + 1) (by omega); omega)
      have hf2 : (m : Int).fmod 2 = (m : Int) % 2 := Int.fmod_eq_emod_of_nonneg _ (by decide)
      have g1 := gI (j0 + 1) (by omega)
      push_cast at g1
      have egap : 2 * W - ((siz (hf b) j0 : Int) + siz (hf b) (j0 + 1)) * P = 2 * (W - B) - Z := by
        rw [Int.add_mul, w0, w1]
        omega
      have h3 : (0 < 2 * (W - B) - Z) ↔ cd = 3 := by
        rw [hcd]
        by_cases c1 : 2 * (W - B) < Z
        · rw [if_pos c1]; omega
        · rw [if_neg c1]
          by_cases c2 : 2 * (W - B) = Z
          · rw [if_pos c2]; omega
          · rw [if_neg c2]; omega
      have h2 : (2 * (W - B) - Z = 0) ↔ cd = 2 := by
        rw [hcd]
        by_cases c1 : 2 * (W - B) < Z
        · rw [if_pos c1]; omega
        · rw [if_neg c1]
          by_cases c2 : 2 * (W - B) = Z
          · rw [if_pos c2]; omega
          · rw [if_neg c2]; omega
      obtain ⟨G, hG⟩ : ∃ G, G = 2 * (W - B) - Z := ⟨_, rfl⟩
      rw [← hG] at egap h3 h2
      obtain ⟨q3, hq3⟩ : ∃ q3 : Bool, q3 = decide (cd = 3) := ⟨_, rfl⟩
      obtain ⟨q2, hq2⟩ : ∃ q2 : Bool, q2 = decide (cd = 2) := ⟨_, rfl⟩
      obtain ⟨qm, hqm⟩ : ∃ qm : Bool, qm = decide ((m : Int) % 2 = 1) := ⟨_, rfl⟩
      have d3 : decide (0 < G) = q3 := by rw [hq3]; exact decide_eq_decide.mpr h3
      have d2 : decide (G = 0) = q2 := by rw [hq2]; exact decide_eq_decide.mpr h2
      simp only [hmin, hlt, gI j0 (Nat.le_of_lt hj), env0, evs, evz, evy, evd, evg, evh, mm, mv, mq, mx, mxi, kinds, numb, numb2, gl, ssb, dc, dok, dq, List.any_cons, List.any_nil, Option.map_some, Bool.and_self, Bool.and_true, Bool.true_and, Bool.and_false, Bool.false_and, Bool.or_false, Bool.false_or, Bool.not_true, Bool.not_false, Bool.false_eq_true, beq_self_eq_true, Bool.not_not, ↓reduceIte, mul_ok om, bqi, e, hne]
      cases r with
      | even =>
        simp only [Rule.d, Rule.s, env0, evs, evz, evy, evd, evg, evh, mm, mv, mq, mx, mxi, kinds, numb, numb2, gl, ssb, dc, dok, dq, List.any_cons, List.any_nil, Option.map_some, Bool.and_self, Bool.and_true, Bool.true_and, Bool.and_false, Bool.false_and, Bool.or_false, Bool.false_or, Bool.not_true, Bool.not_false, Bool.false_eq_true, beq_self_eq_true, Bool.not_not, ↓reduceIte, hlt, gI j0 (Nat.le_of_lt hj), g1, gS j0 hj, mul_ok (ok2l _), mul_ok om2, egap, mod_ok (show (2 : Int) ≠ 0 by decide), hf2, mo, bqi, Rule.ups, h0, d3, d2, ← hqm, ← hq3, ← hq2]
        cases q3 <;> cases q2 <;> cases qm <;> simp [env0, evs, evz, evy, evd, evg, evh, mm, mv, mq, mx, mxi, kinds, numb, numb2, gl, ssb, dc, dok, dq, List.any_cons, List.any_nil, Option.map_some, Bool.and_self, Bool.and_true, Bool.true_and, Bool.and_false, Bool.false_and, Bool.or_false, Bool.false_or, Bool.not_true, Bool.not_false, Bool.false_eq_true, beq_self_eq_true, Bool.not_not, ↓reduceIte]
      | away =>
        simp only [Rule.d, Rule.s, env0, evs, evz, evy, evd, evg, evh, mm, mv, mq, mx, mxi, kinds, numb, numb2, gl, ssb, dc, dok, dq, List.any_cons, List.any_nil, Option.map_some, Bool.and_self, Bool.and_true, Bool.true_and, Bool.and_false, Bool.false_and, Bool.or_false, Bool.false_or, Bool.not_true, Bool.not_false, Bool.false_eq_true, beq_self_eq_true, Bool.not_not, ↓reduceIte, hlt, gI j0 (Nat.le_of_lt hj), g1, gS j0 hj, mul_ok (ok2l _), mul_ok om2, egap, mod_ok (show (2 : Int) ≠ 0 by decide), hf2, mo, bqi, Rule.ups, h0, d3, d2, ← hqm, ← hq3, ← hq2]
        cases q3 <;> cases q2 <;> simp [env0, evs, evz, evy, evd, evg, evh, mm, mv, mq, mx, mxi, kinds, numb, numb2, gl, ssb, dc, dok, dq, List.any_cons, List.any_nil, Option.map_some, Bool.and_self, Bool.and_true, Bool.true_and, Bool.and_false, Bool.false_and, Bool.or_false, Bool.false_or, Bool.not_true, Bool.not_false, Bool.false_eq_true, beq_self_eq_true, Bool.not_not, ↓reduceIte]
      | nought =>
        rcases hs with rfl | rfl <;> simp [Rule.d, Rule.s, env0, evs, evz, evy, evd, evg, evh, mm, mv, mq, mx, mxi, kinds, numb, numb2, gl, ssb, dc, dok, dq, List.any_cons, List.any_nil, Option.map_some, Bool.and_self, Bool.and_true, Bool.true_and, Bool.and_false, Bool.false_and, Bool.or_false, Bool.false_or, Bool.not_true, Bool.not_false, Bool.false_eq_true, beq_self_eq_true, Bool.not_not, ↓reduceIte, Rule.ups, h0, ix]
      | up =>
        rcases hs with rfl | rfl <;> simp [Rule.d, Rule.s, env0, evs, evz, evy, evd, evg, evh, mm, mv, mq, mx, mxi, kinds, numb, numb2, gl, ssb, dc, dok, dq, List.any_cons, List.any_nil, Option.map_some, Bool.and_self, Bool.and_true, Bool.true_and, Bool.and_false, Bool.false_and, Bool.or_false, Bool.false_or, Bool.not_true, Bool.not_false, Bool.false_eq_true, beq_self_eq_true, Bool.not_not, ↓reduceIte, Rule.ups, h0, ix]
      | down =>
        rcases hs with rfl | rfl <;> simp [Rule.d, Rule.s, env0, evs, evz, evy, evd, evg, evh, mm, mv, mq, mx, mxi, kinds, numb, numb2, gl, ssb, dc, dok, dq, List.any_cons, List.any_nil, Option.map_some, Bool.and_self, Bool.and_true, Bool.true_and, Bool.and_false, Bool.false_and, Bool.or_false, Bool.false_or, Bool.not_true, Bool.not_false, Bool.false_eq_true, beq_self_eq_true, Bool.not_not, ↓reduceIte, Rule.ups, h0, ix]
  · have hmin : min j0 (nN b l h) = nN b l h := Nat.min_eq_right (by omega)
    have hlt : decide ((nN b l h : Int) < (((upL b l h).map (sizD l)).length : Nat)) = false := by rw [hul]; exact decide_eq_false (by omega)
    have hne : decide ((nN b l h : Int) = (((upL b l h).map (sizD l)).length : Nat)) = true := by rw [hul]; exact decide_eq_true rfl
    rw [if_neg hj]
    have hN1 : ((nN b l h : Nat) : Int) - 1 = ((nN b l h - 1 : Nat) : Int) := by omega
    simp only [hmin, hlt, env0, evs, evz, evy, evd, evg, evh, mm, mv, mq, mx, mxi, kinds, numb, numb2, gl, ssb, dc, dok, dq, List.any_cons, List.any_nil, Option.map_some, Bool.and_self, Bool.and_true, Bool.true_and, Bool.and_false, Bool.false_and, Bool.or_false, Bool.false_or, Bool.not_true, Bool.not_false, Bool.false_eq_true, beq_self_eq_true, Bool.not_not, ↓reduceIte, bqi, hne]
    cases r <;> rcases hs with rfl | rfl <;> simp [Rule.d, Rule.s, env0, evs, evz, evy, evd, evg, evh, mm, mv, mq, mx, mxi, kinds, numb, numb2, gl, ssb, dc, dok, dq, List.any_cons, List.any_nil, Option.map_some, Bool.and_self, Bool.and_true, Bool.true_and, Bool.and_false, Bool.false_and, Bool.or_false, Bool.false_or, Bool.not_true, Bool.not_false, Bool.false_eq_true, beq_self_eq_true, Bool.not_not, ↓reduceIte, Rule.toinf, hul, ix, hN1]
end K07
namespace K07
open PySem Sw Fm
theorem i__law_rounded (n : Nat) {b l h : Int} (o : okB b l h) (r : Rule) {p : Int × Int} (hp : 0 < p.2) :
    interp tx.T tx.G (n + 4) f__law_rounded [.d (fd b l h), .d (frD p), .d r.d] = ret (.d (resD (rnd b l h r p))) := by
  obtain ⟨t, u⟩ := p
  have hp : 0 < u := hp
  have idx1 : idx (.tup [.int b, .int l, .int h]) (.int 1) = some (.int l) := rfl
  have idx0 : idx (.tup [.int b, .int l, .int h]) (.int 0) = some (.int b) := rfl
  have idx2 : idx (.tup [.int b, .int l, .int h]) (.int 2) = some (.int h) := rfl
  by_cases h0 : t = 0
  · subst h0
    rw [interp_eq (d := ir__law_rounded) rfl]
    refine runF_rt rfl ?_
    have e : rnd b l h r (0, u) = (.num 0 0 l, []) := by unfold rnd; rw [if_pos rfl]
    rw [e]
    simp only [ir__law_rounded, Nat.reduceSub, env0, evs, evz, evy, evd, evg, evh, mm, mv, mq, mx, mxi, kinds, numb, numb2, gl, ssb, dc, dok, dq, List.any_cons, List.any_nil, Option.map_some, Bool.and_self, Bool.and_true, Bool.true_and, Bool.and_false, Bool.false_and, Bool.or_false, Bool.false_or, Bool.not_true, Bool.not_false, Bool.false_eq_true, beq_self_eq_true, Bool.not_not, ↓reduceIte, frD, fd, bqi, decide_true, idx1, resD, Fl.d, List.map_nil]
  obtain ⟨m, k, c, hr⟩ := rnd_at2 o (p := (t, u)) hp h0
  simp only at c hr
  rw [hr r]
  clear hr
  obtain ⟨e1, e2, e3⟩ := hf_eq o
  obtain ⟨n1, n2⟩ := nN_le o
  have hs := sgn_01 t
  have hne := i__law_nearest n o r hs (abs_nn t) hp c
  have hsz := i__law_sizes (n := n + 1) o
  have htop := siz_top o
  have hP := pt_pos (l := l) hp
  obtain ⟨o1, o2, o3, o4, o5⟩ := id o
  have cb := cut_below hP c (by omega : 0 < hf b)
  have bg1 := big_iff (l := l) (e := h + b) (t := absI t) (u := u) (by omega) (by omega) (by omega)
  have bg2 := big_iff (l := l) (e := l + b - 1) (t := absI t) (u := u) (by omega) (by omega) (by omega)
  rw [show h + b - l = b + h - l by omega, ← htop, cb] at bg1
  rw [show l + b - 1 - l = b - 1 by omega, ← e1] at bg2
  have t1 := i__law_two (n + 2) (p := 20 + l + b - 1) (by omega) (by omega)
  have t2 := i__law_two (n + 2) (p := 20 + h + b) (by omega) (by omega)
  have t3 := i__law_two (n + 2) (p := 20) (by omega) (by omega)
  rw [show 20 + (h + b) = 20 + h + b by omega] at bg1
  rw [show 20 + (l + b - 1) = 20 + l + b - 1 by omega] at bg2
  have hsgn : (if decide (t < 0) = true then (1 : Int) else 0) = sgn t := by unfold sgn; simp
  have habs : (if t < 0 then -t else t) = absI t := rfl
  generalize hWW : wh l (absI t) = W at *
  generalize hPP : pt l u = P at *
  generalize hA : absI t = A at *
  generalize hS : sgn t = S at *
  have s0 : siz (hf b) (m + k * hf b) = m * 2 ^ k := siz_at c.lt c.ge
  obtain ⟨cd, hcd⟩ : ∃ cd, cd = cod (W - m * (P * 2 ^ k)) (P * 2 ^ k) := ⟨_, rfl⟩
  rw [← hcd] at hne ⊢
  have hup : (upL b l h).map (sizD l) = (List.range (nN b l h)).map fun i => sizD l (pAt (hf b) l i) := by
    unfold upL
    rw [List.map_map]
    rfl
  have hul : ((upL b l h).map (sizD l)).length = nN b l h := by rw [List.length_map, upL_len]
  have gS : ∀ i : Nat, i < nN b l h → ix ((upL b l h).map (sizD l)) (i : Int) = some (.tup [.int (siz (hf b) i), .int (mOf (hf b) i), .int (l + (kOf (hf b) i : Nat))]) := fun i hi => by
    rw [hup]
    unfold ix
    rw [if_pos (by omega), Int.toNat_natCast, List.getElem?_map, List.getElem?_range hi, Option.map_some, sizD_at o]
  have hsz' := hsz
  have hne' := hne
  simp only [fd] at hsz' hne'
  obtain ⟨at_, hat⟩ : ∃ a, a = (nea b l h r S m k cd).1 := ⟨_, rfl⟩
  obtain ⟨ex, hex⟩ : ∃ a, a = (nea b l h r S m k cd).2 := ⟨_, rfl⟩
  rw [← hat, ← hex] at hne'
  -- what nearest tells, by the places
  obtain ⟨j0, hj0⟩ : ∃ j0, j0 = m + k * hf b := ⟨_, rfl⟩
  rw [← hj0] at bg1 cb ⊢
  unfold nea at hat hex
  rw [← hj0] at hat hex
  have hups : cd = 0 → r.ups S m cd = false := fun z => by unfold Rule.ups; rw [if_pos z]
  have hle : at_ ≤ nN b l h := by
    rw [hat]
    split
    · split
      · exact Nat.le_of_lt ‹_›
      · simp only; split <;> omega
    · simp only; split <;> omega
  have hplc : plc (nN b l h) r S (j0 + stp r S m cd) = at_ := by
    rw [hat]
    unfold plc stp
    by_cases hj : j0 < nN b l h
    · rw [if_pos hj]
      by_cases z : cd = 0
      · rw [if_pos z, hups z, if_neg Bool.false_ne_true, Nat.add_zero, if_neg (by omega)]
      · rw [if_neg z]
        by_cases q : r.ups S m cd = true
        · rw [if_pos q]
          by_cases w : nN b l h ≤ j0 + 1
          · rw [if_pos w, if_pos (ups_toinf q)]
            show nN b l h = j0 + 1
            omega
          · rw [if_neg w]
        · rw [if_neg q, Nat.add_zero, if_neg (by omega)]
    · rw [if_neg hj, if_pos (by omega)]
  have hexa : ex = decide (j0 < nN b l h ∧ cd = 0) := by
    rw [hex]
    by_cases hj : j0 < nN b l h
    · rw [if_pos hj]
      by_cases z : cd = 0
      · rw [if_pos z, decide_eq_true ⟨hj, z⟩]
      · rw [if_neg z, decide_eq_false (fun q => z q.2)]
    · rw [if_neg hj, decide_eq_false (fun q => hj q.1)]
  have hO : ((at_ = nN b l h) ∨ nN b l h ≤ j0) ↔ nN b l h ≤ j0 + stp r S m cd := by
    rw [← hplc]
    unfold plc
    have hst : stp r S m cd ≤ 1 := by unfold stp; split <;> omega
    by_cases q : nN b l h ≤ j0 + stp r S m cd
    · rw [if_pos q]
      refine ⟨fun _ => q, fun _ => ?_⟩
      by_cases w : nN b l h ≤ j0
      · exact .inr w
      · have : r.ups S m cd = true := Classical.byContradiction fun z => by
          unfold stp at q
          rw [if_neg z] at q
          omega
        rw [if_pos (ups_toinf this)]
        exact .inl rfl
    · rw [if_neg q]
      refine ⟨fun z => ?_, fun z => absurd z q⟩
      rcases z with z | z <;> omega
  have hbig : nN b l h ≤ j0 + stp r S m cd → ¬ W < P * hf b := fun q w => by
    have hst : stp r S m cd ≤ 1 := by unfold stp; split <;> omega
    have h1 : hf b ≤ j0 := by omega
    have := (cb (hf b)).mpr h1
    have sH : siz (hf b) (hf b) = hf b := by
      have := siz_at (H := hf b) (m := hf b) (k := 0) (by omega) (fun z => absurd z (Nat.lt_irrefl 0))
      simpa using this
    rw [sH, Int.mul_comm] at this
    omega
  have told : ∀ i : Nat, i < nN b l h → (sg S (pA b l h i)).d = .tup ([.str "num", .int S] ++ [.int (mOf (hf b) i), .int (l + (kOf (hf b) i : Nat))]) := fun i hi => by
    rw [pA_lt hi, pAt_eq, sg_num hs]
    rfl
  have toldI : (sg S (pA b l h (nN b l h))).d = .tup [.str "inf", .int S] := by
    rw [pA_inf, sg_inf hs]
    rfl
  rw [hplc]
  rw [interp_eq (d := ir__law_rounded) rfl]
  refine runF_rt rfl ?_
  have h0' : (t == 0) = false := by simpa using h0
  have tb : ∀ p : Int, p ≤ 48 → (two p).natAbs < 18446744073709551616 := fun p hp => by
    have := two_le hp
    have := two_pos p
    have e : two 48 = 2 ^ 48 := rfl
    omega
  have m1 : okMul A (two 20) = true := okMul_r (tb _ (by omega))
  have m2 : okMul (two (20 + h + b)) u = true := okMul_l (tb _ (by omega))
  have m3 : okMul (two (20 + l + b - 1)) u = true := okMul_l (tb _ (by omega))
  obtain ⟨X, hX⟩ : ∃ X, X = (sg S (pA b l h at_)).d := ⟨_, rfl⟩
  obtain ⟨O, hOO⟩ : ∃ O : Bool, O = decide (nN b l h ≤ j0 + stp r S m cd) := ⟨_, rfl⟩
  obtain ⟨U, hUU⟩ : ∃ U : Bool, U = decide (W < P * hf b) := ⟨_, rfl⟩
  have hU1 : decide (A * two 20 < two (20 + l + b - 1) * u) = U := by
    rw [hUU]
    refine decide_eq_decide.mpr ⟨fun h => Int.lt_of_not_ge fun q => ?_, fun h => Int.lt_of_not_ge fun q => ?_⟩
    · have := bg2.mpr (by rw [Int.mul_comm]; exact q)
      omega
    · have := bg2.mp q
      rw [Int.mul_comm] at this
      omega
  have hO1 : (((at_ : Int) == (((upL b l h).map (sizD l)).length : Nat)) || decide (two (20 + h + b) * u ≤ A * two 20)) = O := by
    rw [hOO, hul, bqi, decide_eq_decide.mpr bg1, Bool.eq_iff_iff, Bool.or_eq_true, decide_eq_true_eq, decide_eq_true_eq, decide_eq_true_eq, ← hO]
    constructor <;> rintro (z | z)
    · exact .inl (by omega)
    · exact .inr z
    · exact .inl (by omega)
    · exact .inr z
  have sl : ∀ x y z : D, slc (some 1) none (.tup [x, y, z]) = some (.tup [y, z]) := fun _ _ _ => rfl
  have told9 : ∀ {β : Type} (f : Sw.A → M β), bnd (if ((at_ : Int) == (((upL b l h).map (sizD l)).length : Nat)) = true then ret (.d (.tup [.str "inf", .int S])) else
      bnd (bnd (bnd (opt (ix ((upL b l h).map (sizD l)) (at_ : Int))) fun z => ret (.d z)) fun x => bnd (pk x) fun x => bnd (opt (slc (some 1) none x)) fun z => ret (.d z)) fun y => bnd (pk y) fun y => bnd (opt (bop .add (.tup [.str "num", .int S]) y)) fun z => ret (.d z)) f = f (.d X) := fun f => by
    by_cases ha : at_ = nN b l h
    · have e : ((at_ : Int) == (((upL b l h).map (sizD l)).length : Nat)) = true := by rw [hul, bqi]; exact decide_eq_true (by omega)
      rw [if_pos e, hX, ha, toldI]
      rfl
    · have e : ((at_ : Int) == (((upL b l h).map (sizD l)).length : Nat)) = false := by rw [hul, bqi]; exact decide_eq_false (by omega)
      rw [e, if_neg Bool.false_ne_true, gS at_ (by omega), hX, told at_ (by omega)]
      rfl
  simp only [ir__law_rounded, Nat.reduceSub, env0, evs, evz, evy, evd, evg, evh, mm, mv, mq, mx, mxi, kinds, numb, numb2, gl, ssb, dc, dok, dq, List.any_cons, List.any_nil, Option.map_some, Bool.and_self, Bool.and_true, Bool.true_and, Bool.and_false, Bool.false_and, Bool.or_false, Bool.false_or, Bool.not_true, Bool.not_false, Bool.false_eq_true, beq_self_eq_true, Bool.not_not, ↓reduceIte, frD, fd, h0', hsz', hsgn, hS, habs, hA, hne', idx0, idx1, idx2]
  rw [told9]
  have hres : ∀ F : List Str, resD (sg S (pA b l h at_), F) = .tup [X, .tup (F.map .str)] := fun F => by rw [hX]; rfl
  rw [hres]
  cases hxx : ex with
  | true =>
    rw [hexa] at hxx
    have hh := of_decide_eq_true hxx
    have hst : stp r S m cd = 0 := by unfold stp; rw [hups hh.2]; rfl
    have hF : (if nN b l h ≤ j0 + stp r S m cd then fIO else flg cd U) = [] := by
      rw [if_neg (by rw [hst]; omega)]
      unfold flg
      rw [if_pos hh.2]
    rw [← hUU, hF]
    simp only [env0, evs, evz, evy, evd, evg, evh, mm, mv, mq, mx, mxi, kinds, numb, numb2, gl, ssb, dc, dok, dq, List.any_cons, List.any_nil, Option.map_some, Bool.and_self, Bool.and_true, Bool.true_and, Bool.and_false, Bool.false_and, Bool.or_false, Bool.false_or, Bool.not_true, Bool.not_false, Bool.false_eq_true, beq_self_eq_true, Bool.not_not, ↓reduceIte, List.map_nil]
  | false =>
    rw [hexa] at hxx
    have hh := of_decide_eq_false hxx
    have hF : (if nN b l h ≤ j0 + stp r S m cd then fIO else flg cd U) = [("inexact" : Str)] ++ ((if O = true then [("over" : Str)] else []) ++ (if U = true then [("under" : Str)] else [])) := by
      by_cases q : nN b l h ≤ j0 + stp r S m cd
      · rw [if_pos q, hOO, decide_eq_true q, hUU, decide_eq_false (hbig q)]
        rfl
      · rw [if_neg q, hOO, decide_eq_false q]
        have hc : cd ≠ 0 := fun z => hh ⟨by omega, z⟩
        unfold flg
        rw [if_neg hc]
        cases U <;> rfl
    rw [← hUU, hF]
    simp only [env0, evs, evz, evy, evd, evg, evh, mm, mv, mq, mx, mxi, kinds, numb, numb2, gl, ssb, dc, dok, dq, List.any_cons, List.any_nil, Option.map_some, Bool.and_self, Bool.and_true, Bool.true_and, Bool.and_false, Bool.false_and, Bool.or_false, Bool.false_or, Bool.not_true, Bool.not_false, Bool.false_eq_true, beq_self_eq_true, Bool.not_not, ↓reduceIte, t1, t2, t3, idx0, idx1, idx2, mul_ok m1, mul_ok m2, mul_ok m3, habs, hA]
    have horr : ∀ c e : Bool, (if c = true then ret (Sw.A.d (.bl true)) else ret (Sw.A.d (.bl e))) = ret (Sw.A.d (.bl (c || e))) := fun c e => by cases c <;> rfl
    rw [horr, hO1]
    have mt1 : ∀ a : List D, bop .mul (.tup a) (.int 1) = some (.tup a) := fun a => by simp [bop]
    have mt0 : ∀ (x : D) (a : List D), bop .mul (.tup (x :: a)) (.int 0) = some (.tup []) := fun x a => by simp [bop]
    cases O <;> cases U <;> simp [env0, evs, evz, evy, evd, evg, evh, mm, mv, mq, mx, mxi, kinds, numb, numb2, gl, ssb, dc, dok, dq, List.any_cons, List.any_nil, Option.map_some, Bool.and_self, Bool.and_true, Bool.true_and, Bool.and_false, Bool.false_and, Bool.or_false, Bool.false_or, Bool.not_true, Bool.not_false, Bool.false_eq_true, beq_self_eq_true, Bool.not_not, ↓reduceIte, mul_ok m3, hU1, mt1, mt0, cats]
end K07
namespace K07
open PySem Sw Fm
/-! what can't be -/
def badF : List D := [.tup [.int 1, .int 0, .int 1], .non, .tup [.int 3, .int 2, .int 1]]
theorem forM_th {f : D → Sw.Env → M Out} {y : D} {ys : List D} {e : Sw.Env} {x : Ex} (h : f y e = Sw.throw x) : Sw.forM f (y :: ys) e = Sw.throw x := by
  show bnd (f y e) _ = _
  rw [h]
  rfl
theorem i_need_format_bad (n : Nat) {x : D} (h : x ∈ badF) : interp tx.T tx.G (n + 2) f_need_format [.d x] = Sw.throw (.mk 0 []) := by
  rw [interp_eq (d := ir_need_format) rfl]
  refine runF_th rfl ?_
  simp only [badF, List.mem_cons, List.not_mem_nil, or_false] at h
  obtain rfl | rfl | rfl := h <;> simp [ir_need_format, env0, evs, evx, mm, mv, mq, mx, mxi, kinds, numb, numb2, gl, ss, dc, dok, dq, List.any_cons, List.any_nil, Option.map_some, Bool.and_self, Bool.and_true, Bool.true_and, Bool.and_false, Bool.false_and, Bool.or_false, Bool.false_or, Bool.not_true, Bool.not_false, Bool.false_eq_true, beq_self_eq_true, Bool.not_not, ↓reduceIte, evk, bnd_throw, i_is_number]
theorem i_need_rule_bad (n : Nat) : interp tx.T tx.G (n + 1) f_need_rule [.d (.str "Up")] = Sw.throw (.mk 1 []) := by
  rw [interp_eq (d := ir_need_rule) rfl]
  refine runF_th rfl ?_
  have key : ∀ a ∈ ["even", "away", "nought", "up", "down"], (Str.ofString a = Str.ofString "Up") = False := by
    have : ∀ a ∈ ["even", "away", "nought", "up", "down"], ¬ Str.ofString a = Str.ofString "Up" := by decide +kernel
    exact fun a ha => eq_false (this a ha)
  have h1 := key "even" (by simp)
  have h2 := key "away" (by simp)
  have h3 := key "nought" (by simp)
  have h4 := key "up" (by simp)
  have h5 := key "down" (by simp)
  simp [ir_need_rule, env0, evs, evz, evy, evd, evg, evh, mm, mv, mq, mx, mxi, kinds, numb, numb2, gl, ssb, dc, dok, dq, List.any_cons, List.any_nil, Option.map_some, Bool.and_self, Bool.and_true, Bool.true_and, Bool.and_false, Bool.false_and, Bool.or_false, Bool.false_or, Bool.not_true, Bool.not_false, Bool.false_eq_true, beq_self_eq_true, Bool.not_not, ↓reduceIte, evk, bnd_throw, h1, h2, h3, h4, h5]
theorem i_is_float_0 (n : Nat) {b l h : Int} : interp tx.T tx.G (n + 2) f_is_float [.d (fd b l h), .d (.int 0)] = ret (.d (.bl false)) := by
  rw [interp_eq (d := ir_is_float) rfl]
  refine runF_rt rfl ?_
  simp [ir_is_float, fd, env0, evs, evx, mm, mv, mq, mx, mxi, kinds, numb, numb2, gl, ss, dc, dok, dq, List.any_cons, List.any_nil, Option.map_some, Bool.and_self, Bool.and_true, Bool.true_and, Bool.and_false, Bool.false_and, Bool.or_false, Bool.false_or, Bool.not_true, Bool.not_false, Bool.false_eq_true, beq_self_eq_true, Bool.not_not, ↓reduceIte]
theorem i_need_floats_0 (n : Nat) {b l h : Int} : interp tx.T tx.G (n + 3) f_need_floats [.d (fd b l h), .d (.lst [.int 0])] = Sw.throw (.mk 2 [.int 0]) := by
  rw [interp_eq (d := ir_need_floats) rfl]
  refine runF_th rfl ?_
  simp only [ir_need_floats, Nat.reduceSub, env0, evs, evx, mm, mv, mq, mx, mxi, kinds, numb, numb2, gl, ss, dc, dok, dq, List.any_cons, List.any_nil, Option.map_some, Bool.and_self, Bool.and_true, Bool.true_and, Bool.and_false, Bool.false_and, Bool.or_false, Bool.false_or, Bool.not_true, Bool.not_false, Bool.false_eq_true, beq_self_eq_true, Bool.not_not, ↓reduceIte, enms]
  rw [forM_th (x := .mk 2 [.int 0])]
  · rfl
  · simp [forB, env0, evs, evx, mm, mv, mq, mx, mxi, kinds, numb, numb2, gl, ss, dc, dok, dq, List.any_cons, List.any_nil, Option.map_some, Bool.and_self, Bool.and_true, Bool.true_and, Bool.and_false, Bool.false_and, Bool.or_false, Bool.false_or, Bool.not_true, Bool.not_false, Bool.false_eq_true, beq_self_eq_true, Bool.not_not, ↓reduceIte, evk, bnd_throw, i_is_float_0 n]
theorem i_moved_f (n : Nat) {b l h : Int} (o : okB b l h) {x : D} (hx : x ∈ badF) : interp tx.T tx.G (n + 6) f_moved [.d (fd b l h), .d x, .d (.int 0), .d (.int 0)] = Sw.throw (.mk 0 []) := by
  rw [interp_eq (d := ir_moved) rfl]
  refine runF_th rfl ?_
  simp only [ir_moved, Nat.reduceSub, env0, evs, evz, evy, evd, evg, evh, mm, mv, mq, mx, mxi, kinds, numb, numb2, gl, ssb, dc, dok, dq, List.any_cons, List.any_nil, Option.map_some, Bool.and_self, Bool.and_true, Bool.true_and, Bool.and_false, Bool.false_and, Bool.or_false, Bool.false_or, Bool.not_true, Bool.not_false, Bool.false_eq_true, beq_self_eq_true, Bool.not_not, ↓reduceIte, evk, bnd_throw, i_need_format (n + 3) o, i_need_format_bad (n + 3) hx]
theorem i_moved_x (n : Nat) {b l h b2 l2 h2 : Int} (o : okB b l h) (o2 : okB b2 l2 h2) : interp tx.T tx.G (n + 6) f_moved [.d (fd b l h), .d (fd b2 l2 h2), .d (.int 0), .d (.int 0)] = Sw.throw (.mk 2 [.int 0]) := by
  rw [interp_eq (d := ir_moved) rfl]
  refine runF_th rfl ?_
  simp only [ir_moved, Nat.reduceSub, env0, evs, evz, evy, evd, evg, evh, mm, mv, mq, mx, mxi, kinds, numb, numb2, gl, ssb, dc, dok, dq, List.any_cons, List.any_nil, Option.map_some, Bool.and_self, Bool.and_true, Bool.true_and, Bool.and_false, Bool.false_and, Bool.or_false, Bool.false_or, Bool.not_true, Bool.not_false, Bool.false_eq_true, beq_self_eq_true, Bool.not_not, ↓reduceIte, evk, bnd_throw, i_need_format (n + 3) o, i_need_format (n + 3) o2, i_need_floats_0 (n + 2)]
theorem i_moved_r (n : Nat) {b l h b2 l2 h2 : Int} (o : okB b l h) (o2 : okB b2 l2 h2) (x : Fl) (hx : x.ok b l h) : interp tx.T tx.G (n + 6) f_moved [.d (fd b l h), .d (fd b2 l2 h2), .d x.d, .d (.str "Up")] = Sw.throw (.mk 1 []) := by
  rw [interp_eq (d := ir_moved) rfl]
  refine runF_th rfl ?_
  simp only [ir_moved, Nat.reduceSub, env0, evs, evz, evy, evd, evg, evh, mm, mv, mq, mx, mxi, kinds, numb, numb2, gl, ssb, dc, dok, dq, List.any_cons, List.any_nil, Option.map_some, Bool.and_self, Bool.and_true, Bool.true_and, Bool.and_false, Bool.false_and, Bool.or_false, Bool.false_or, Bool.not_true, Bool.not_false, Bool.false_eq_true, beq_self_eq_true, Bool.not_not, ↓reduceIte, evk, bnd_throw, i_need_format (n + 3) o, i_need_format (n + 3) o2, i_need_floats1 (n + 2) o x hx, i_need_rule_bad (n + 4)]
end K07
namespace K07
open PySem Sw Fm
theorem flg_len (code : Int) (small : Bool) : (flg code small).length ≤ 2 := by
  unfold flg
  split
  · simp
  · split <;> simp
theorem rsz_len {b l h : Int} {r : Rule} {s : Int} {m k : Nat} {code : Int} {small : Bool} : (rsz b l h r s m k code small).2.length ≤ 2 := by
  have key : ∀ (c : Prop) [Decidable c] (x y : Fl), (if c then (x, fIO) else (y, flg code small)).2.length ≤ 2 := fun c _ x y => by
    split
    · show fIO.length ≤ 2
      decide
    · exact flg_len code small
  exact key _ _ _
theorem rnd_len {b l h : Int} {r : Rule} {p : Int × Int} : (rnd b l h r p).2.length ≤ 2 := by
  unfold rnd
  split
  · simp
  · show (rndS b l h r (sgn p.1) (absI p.1) p.2).2.length ≤ 2
    unfold rndS
    exact rsz_len
theorem res_ok (z : Fl × List Str) (hz : z.2.length ≤ 2) : D.ok 2 (resD z) = true ∧ szD (resD z) = true := by
  obtain ⟨x, fs⟩ := z
  have h1 : D.ok 1 x.d = true ∧ szD x.d = true := by cases x <;> simp [Fl.d, dok, szD, szL]
  match fs, hz with
  | [], _ => simp [resD, dok, szD, szL, h1]
  | [a], _ => simp [resD, dok, szD, szL, h1]
  | [a, c], _ => simp [resD, dok, szD, szL, h1]
theorem zero_okr {b l h : Int} (o : okB b l h) {s : Int} (hs : s = 0 ∨ s = 1) : (Fl.num s 0 l).ok b l h := ⟨hs, ⟨Int.le_refl _, o.2.2.2.1⟩, by rw [if_pos rfl]; exact Int.le_refl _, by have := two_pos (b - 1); omega⟩
theorem w_float (n : Nat) {b l h : Int} (o : okB b l h) {s : Sto} (hs : StP s) {Q : A → Sto → Prop} (q : ∀ (x : Fl) s', x.ok b l h → StP s' → Q (.d x.d) s') : wp (interp tx.T tx.G (n + 3) f__law_float [.r 0, .d (fd b l h)]) s Q := by
  rw [interp_eq (d := ir__law_float) rfl]
  refine .runF rfl ?_
  simp only [ir__law_float, Nat.reduceSub, env0, evs, evz, evy, evd, evg, evh, mm, mv, mq, mx, mxi, kinds, numb, numb2, gl, ssb, dc, dok, dq, List.any_cons, List.any_nil, Option.map_some, Bool.and_self, Bool.and_true, Bool.true_and, Bool.and_false, Bool.false_and, Bool.or_false, Bool.false_or, Bool.not_true, Bool.not_false, Bool.false_eq_true, beq_self_eq_true, Bool.not_not, ↓reduceIte, wpx]
  refine w_drawn (n + 1) (by decide) (by decide) hs fun v1 s1 a1 b1 hs1 => ?_
  simp only [env0, evs, evz, evy, evd, evg, evh, mm, mv, mq, mx, mxi, kinds, numb, numb2, gl, ssb, dc, dok, dq, List.any_cons, List.any_nil, Option.map_some, Bool.and_self, Bool.and_true, Bool.true_and, Bool.and_false, Bool.false_and, Bool.or_false, Bool.false_or, Bool.not_true, Bool.not_false, Bool.false_eq_true, beq_self_eq_true, Bool.not_not, ↓reduceIte, wpx]
  by_cases c : v1 < 3
  · simp only [c, decide_true, env0, evs, evz, evy, evd, evg, evh, mm, mv, mq, mx, mxi, kinds, numb, numb2, gl, ssb, dc, dok, dq, List.any_cons, List.any_nil, Option.map_some, Bool.and_self, Bool.and_true, Bool.true_and, Bool.and_false, Bool.false_and, Bool.or_false, Bool.false_or, Bool.not_true, Bool.not_false, Bool.false_eq_true, beq_self_eq_true, Bool.not_not, ↓reduceIte, wpx]
    refine w_drawn (n + 1) (by decide) (by decide) hs1 fun v2 s2 a2 b2 hs2 => ?_
    simp only [env0, evs, evz, evy, evd, evg, evh, mm, mv, mq, mx, mxi, kinds, numb, numb2, gl, ssb, dc, dok, dq, List.any_cons, List.any_nil, Option.map_some, Bool.and_self, Bool.and_true, Bool.true_and, Bool.and_false, Bool.false_and, Bool.or_false, Bool.false_or, Bool.not_true, Bool.not_false, Bool.false_eq_true, beq_self_eq_true, Bool.not_not, ↓reduceIte, wpx]
    refine w_drawn (n + 1) (by decide) (by decide) hs2 fun v3 s3 a3 b3 hs3 => ?_
    have i1 : idx (fd b l h) (.int 1) = some (.int l) := rfl
    simp only [env0, evs, evz, evy, evd, evg, evh, mm, mv, mq, mx, mxi, kinds, numb, numb2, gl, ssb, dc, dok, dq, List.any_cons, List.any_nil, Option.map_some, Bool.and_self, Bool.and_true, Bool.true_and, Bool.and_false, Bool.false_and, Bool.or_false, Bool.false_or, Bool.not_true, Bool.not_false, Bool.false_eq_true, beq_self_eq_true, Bool.not_not, ↓reduceIte, wpx, i1]
    obtain ⟨x, hx, hp⟩ : ∃ x : Fl, x.ok b l h ∧ ix [D.tup [.str "inf", .int v2], .tup [.str "nan"], .tup [.str "num", .int v3, .int 0, .int l]] v1 = some x.d := by
      obtain rfl | rfl | rfl : v1 = 0 ∨ v1 = 1 ∨ v1 = 2 := by omega
      · exact ⟨.inf v2, (by show v2 = 0 ∨ v2 = 1; omega), rfl⟩
      · exact ⟨.nan, trivial, rfl⟩
      · exact ⟨.num v3 0 l, zero_okr o (by omega), rfl⟩
    try simp only [hp, env0, evs, evz, evy, evd, evg, evh, mm, mv, mq, mx, mxi, kinds, numb, numb2, gl, ssb, dc, dok, dq, List.any_cons, List.any_nil, Option.map_some, Bool.and_self, Bool.and_true, Bool.true_and, Bool.and_false, Bool.false_and, Bool.or_false, Bool.false_or, Bool.not_true, Bool.not_false, Bool.false_eq_true, beq_self_eq_true, Bool.not_not, ↓reduceIte, wpx]
    exact q x _ hx (hs.cut hs3)
  · simp only [c, decide_false, env0, evs, evz, evy, evd, evg, evh, mm, mv, mq, mx, mxi, kinds, numb, numb2, gl, ssb, dc, dok, dq, List.any_cons, List.any_nil, Option.map_some, Bool.and_self, Bool.and_true, Bool.true_and, Bool.and_false, Bool.false_and, Bool.or_false, Bool.false_or, Bool.not_true, Bool.not_false, Bool.false_eq_true, beq_self_eq_true, Bool.not_not, ↓reduceIte, wpx]
    refine w_num n o hs1 fun g m e s2 hx hs2 => ?_
    simp only [env0, evs, evz, evy, evd, evg, evh, mm, mv, mq, mx, mxi, kinds, numb, numb2, gl, ssb, dc, dok, dq, List.any_cons, List.any_nil, Option.map_some, Bool.and_self, Bool.and_true, Bool.true_and, Bool.and_false, Bool.false_and, Bool.or_false, Bool.false_or, Bool.not_true, Bool.not_false, Bool.false_eq_true, beq_self_eq_true, Bool.not_not, ↓reduceIte, wpx]
    exact q _ _ hx (hs.cut hs2)
theorem eqv_refl : ∀ (k : Nat) (x : D), D.ok k x = true → D.eqv x x = true := by
  intro k
  induction k with
  | zero => intro x hx; cases x <;> simp [dok, D.ok] at hx <;> simp [dq]
  | succ k ih =>
    have ls : ∀ xs : List D, D.oks k xs = true → D.eqvs xs xs = true := by
      intro xs
      induction xs with
      | nil => intro _; simp [dq]
      | cons x xs ihx =>
        intro h
        simp only [dok, Bool.and_eq_true] at h
        simp only [dq, ih x h.1, ihx h.2, Bool.and_true]
    intro x hx
    cases x with
    | tup xs =>
      simp only [dok] at hx
      simp only [dq, ls xs hx]
    | lst xs =>
      simp only [dok] at hx
      simp only [dq, ls xs hx]
    | scr xs => simp [D.ok] at hx
    | dct _ _ => simp [D.ok] at hx
    | _ => simp [dq]
theorem mov_len {b l h : Int} {r : Rule} {x : Fl} {p : Int × Int} : (movF b l h r x (rnd b l h r p)).2.length ≤ 2 := by
  cases x with
  | nan => exact Nat.zero_le _
  | inf s => exact Nat.zero_le _
  | num s m e =>
    show (if m = 0 then ((Fl.num s 0 l, []) : Fl × List Str) else rnd b l h r p).2.length ≤ 2
    split
    · exact Nat.zero_le _
    · exact rnd_len
/-- moved and back: the same -/
theorem there_back {b l h wl wh : Int} (o : okB b l h) (ow : okB 8 wl wh) (r : Rule) {x : Fl} (hx : x.ok b l h) (h0 : (movF 8 wl wh r x (rnd 8 wl wh r (vF x))).2 = []) :
    (movF 8 wl wh r x (rnd 8 wl wh r (vF x))).1.ok 8 wl wh ∧ movF b l h r (movF 8 wl wh r x (rnd 8 wl wh r (vF x))).1 (rnd b l h r (vF (movF 8 wl wh r x (rnd 8 wl wh r (vF x))).1)) = (x, []) := by
  cases x with
  | nan => exact ⟨trivial, rfl⟩
  | inf s => exact ⟨hx, rfl⟩
  | num s m e =>
    by_cases hm : m = 0
    · subst hm
      have e1 : movF 8 wl wh r (.num s 0 e) (rnd 8 wl wh r (vF (.num s 0 e))) = (.num s 0 wl, []) := by show (if (0 : Int) = 0 then ((Fl.num s 0 wl, []) : Fl × List Str) else rnd 8 wl wh r (vF (.num s 0 e))) = _; rw [if_pos rfl]
      rw [e1]
      refine ⟨zero_okr ow hx.1, ?_⟩
      have e2 : movF b l h r (.num s 0 wl) (rnd b l h r (vF (.num s 0 wl))) = (.num s 0 l, []) := by show (if (0 : Int) = 0 then ((Fl.num s 0 l, []) : Fl × List Str) else rnd b l h r (vF (.num s 0 wl))) = _; rw [if_pos rfl]
      show movF b l h r (.num s 0 wl) (rnd b l h r (vF (.num s 0 wl))) = _
      rw [e2, zero_e hx]
    · have e1 : movF 8 wl wh r (.num s m e) (rnd 8 wl wh r (vF (.num s m e))) = rnd 8 wl wh r (vF (.num s m e)) := if_neg hm
      rw [e1] at h0 ⊢
      have V := vF_ok o hx
      obtain ⟨s', m', e', ok', hv, hr⟩ := rnd_exact ow r V.1 V.2.2.2 h0
      rw [hr]
      refine ⟨ok', ?_⟩
      have hm' : m' ≠ 0 := m_ne ow ok' (by rw [hv]; exact vF_ne o hx hm)
      show movF b l h r (.num s' m' e') (rnd b l h r (vF (.num s' m' e'))) = _
      rw [show movF b l h r (.num s' m' e') (rnd b l h r (vF (.num s' m' e'))) = rnd b l h r (vF (.num s' m' e')) from if_neg hm', hv]
      have := hx.2.2.1
      refine rnd_self o r hx ?_
      obtain ⟨g0, g1, g2, g3, gs⟩ := num_rng o hx
      omega
end K07
namespace K07
open PySem Sw Fm
theorem rng_const (k : Int) (h : 0 ≤ k) (h2 : k < 2 ^ 62) : rngs 0 k = some ((List.range (k - 0).toNat).map fun (i : Nat) => D.int (0 + (i : Int))) := rngs_eq (by decide) (by decide) (by omega) h2
def J0 (ns : List Int) (e : Sw.Env) (s : Sto) : Prop := StP s ∧ ∃ a2 a3 a4 a5 a6 a7 a8 a9 a10 a11 a12 a13 a14, e = [some (.d (.scr ns)), some (.r 0), a2, a3, a4, a5, a6, a7, a8, a9, a10, a11, a12, a13, a14]
def J1 (ns : List Int) (b l h : Int) (y z : D) (k : Nat) (e : Sw.Env) (s : Sto) : Prop := StP s ∧ ∃ a2 a6 a7 a8 a9 a10 a11 a12 a13 a14, e = [some (.d (.scr ns)), some (.r 0), a2, some (.d (fd b l h)), some (.d y), some (.d z), a6, a7, a8, a9, a10, a11, a12, a13, a14] ∧ (0 < k → ∃ x : Fl, x.ok b l h ∧ a9 = some (.d x.d))
theorem bad_at {v : Int} (h0 : 0 ≤ v) (h : v < 3) : ∃ x, x ∈ badF ∧ idx (.lst badF) (.int v) = some x := by
  obtain rfl | rfl | rfl : v = 0 ∨ v = 1 ∨ v = 2 := by omega
  all_goals exact ⟨_, by simp [badF], rfl⟩
def dropS : Nat → SL → SL
  | 0, b => b
  | n + 1, .cons _ b => dropS n b
  | _ + 1, .nil => .nil
theorem ix_res (z : Fl × List Str) : idx (resD z) (.int 0) = some z.1.d ∧ idx (resD z) (.int 1) = some (.tup (z.2.map .str)) := ⟨rfl, rfl⟩
theorem w_tail {L : Nat → Sw.Env → M A} {ns : List Int} {b l h b2 l2 h2 wl wh : Int} (o : okB b l h) (o2 : okB b2 l2 h2) (ow : okB 8 wl wh) (r : Rule) {x : Fl} (hx : x.ok b l h) {a2 a6 a7 a8 a12 a13 a14 : Option A} {s : Sto} (hs : StP s) {k : Nat} :
    wp (seqM ⟨interp tx.T tx.G 119, L⟩ tx.G (dropS 3 (whB (nthS 2 (whB (nthS 1 ir_law.body))))) (.nx [some (.d (.scr ns)), some (.r 0), a2, some (.d (fd b l h)), some (.d (fd b2 l2 h2)), some (.d (fd 8 wl wh)), a6, a7, a8, some (.d x.d), some (.d r.d), some (.d (resD (movF b2 l2 h2 r x (rnd b2 l2 h2 r (vF x))))), a12, a13, a14])) s fun r s' => ∃ e', r = .nx e' ∧ J1 ns b l h (fd b2 l2 h2) (fd 8 wl wh) (k + 1) e' s' := by
  have M1 : interp tx.T tx.G 119 f_moved [.d (fd b l h), .d (fd b2 l2 h2), .d x.d, .d r.d] = _ := i_moved 113 o o2 r x hx
  have M2 : interp tx.T tx.G 119 f_moved [.d (fd b l h), .d (fd 8 wl wh), .d x.d, .d r.d] = _ := i_moved 113 o ow r x hx
  have n1 := res_ok (movF b2 l2 h2 r x (rnd b2 l2 h2 r (vF x))) mov_len
  have hsm : interp tx.T tx.G 119 f__law_same [.d (resD (movF b2 l2 h2 r x (rnd b2 l2 h2 r (vF x)))), .d (resD (movF b2 l2 h2 r x (rnd b2 l2 h2 r (vF x))))] = _ := i__law_same 116 2 _ n1.1 n1.2
  have tb := there_back o ow r hx
  have fl : (movF 8 wl wh r x (rnd 8 wl wh r (vF x))).2.length ≤ 2 := mov_len
  generalize movF 8 wl wh r x (rnd 8 wl wh r (vF x)) = T at *
  obtain ⟨i0, i1⟩ := ix_res T
  have f0 : idx (fd b l h) (.int 0) = some (.int b) := rfl
  have f1 : idx (fd b l h) (.int 1) = some (.int l) := rfl
  have n0 : resD (x, []) = .tup [x.d, .tup []] := rfl
  have x1 : D.ok 1 x.d = true := by cases x <;> simp [Fl.d, dok]
  have x60 : D.ok 59 x.d = true := by cases x <;> simp [Fl.d, dok]
  have ev := eqv_refl 1 x.d x1
  have fin : ∀ (y : A) (z : A) (w : Option A), J1 ns b l h (fd b2 l2 h2) (fd 8 wl wh) (k + 1) [some (.d (.scr ns)), some (.r 0), a2, some (.d (fd b l h)), some (.d (fd b2 l2 h2)), some (.d (fd 8 wl wh)), a6, a7, a8, some (.d x.d), some (.d r.d), w, some y, some z, a14] s := fun y z w => ⟨hs, _, _, _, _, _, _, _, _, _, _, rfl, fun _ => ⟨x, hx, rfl⟩⟩
  simp only [ir_law, nthS, whB, dropS, env0, evs, evz, evy, evd, evg, evh, mm, mv, mq, mx, mxi, kinds, numb, numb2, gl, ssb, dc, dok, dq, List.any_cons, List.any_nil, Option.map_some, Bool.and_self, Bool.and_true, Bool.true_and, Bool.and_false, Bool.false_and, Bool.or_false, Bool.false_or, Bool.not_true, Bool.not_false, Bool.false_eq_true, beq_self_eq_true, Bool.not_not, ↓reduceIte, wpx, M1, M2, hsm, i1, f0, f1]
  by_cases hT : T.2 = []
  · obtain ⟨ok, e⟩ := tb hT
    have M3 : interp tx.T tx.G 119 f_moved [.d (fd 8 wl wh), .d (fd b l h), .d T.1.d, .d r.d] = _ := i_moved 113 ow o r T.1 ok
    rw [e, n0] at M3
    simp only [hT, List.map_nil, env0, evs, evz, evy, evd, evg, evh, mm, mv, mq, mx, mxi, kinds, numb, numb2, gl, ssb, dc, dok, dq, List.any_cons, List.any_nil, Option.map_some, Bool.and_self, Bool.and_true, Bool.true_and, Bool.and_false, Bool.false_and, Bool.or_false, Bool.false_or, Bool.not_true, Bool.not_false, Bool.false_eq_true, beq_self_eq_true, Bool.not_not, ↓reduceIte, wpx]
    by_cases c1 : 0 - 20 ≤ l - 2
    · simp only [c1, decide_true, env0, evs, evz, evy, evd, evg, evh, mm, mv, mq, mx, mxi, kinds, numb, numb2, gl, ssb, dc, dok, dq, List.any_cons, List.any_nil, Option.map_some, Bool.and_self, Bool.and_true, Bool.true_and, Bool.and_false, Bool.false_and, Bool.or_false, Bool.false_or, Bool.not_true, Bool.not_false, Bool.false_eq_true, beq_self_eq_true, Bool.not_not, ↓reduceIte, wpx]
      by_cases c2 : b < 7
      · simp only [c2, decide_true, env0, evs, evz, evy, evd, evg, evh, mm, mv, mq, mx, mxi, kinds, numb, numb2, gl, ssb, dc, dok, dq, List.any_cons, List.any_nil, Option.map_some, Bool.and_self, Bool.and_true, Bool.true_and, Bool.and_false, Bool.false_and, Bool.or_false, Bool.false_or, Bool.not_true, Bool.not_false, Bool.false_eq_true, beq_self_eq_true, Bool.not_not, ↓reduceIte, wpx, i0, M3, x60, ev]
        exact ⟨_, rfl, fin _ _ _⟩
      · simp only [c2, decide_false, env0, evs, evz, evy, evd, evg, evh, mm, mv, mq, mx, mxi, kinds, numb, numb2, gl, ssb, dc, dok, dq, List.any_cons, List.any_nil, Option.map_some, Bool.and_self, Bool.and_true, Bool.true_and, Bool.and_false, Bool.false_and, Bool.or_false, Bool.false_or, Bool.not_true, Bool.not_false, Bool.false_eq_true, beq_self_eq_true, Bool.not_not, ↓reduceIte, wpx]
        exact ⟨_, rfl, fin _ _ _⟩
    · simp only [c1, decide_false, env0, evs, evz, evy, evd, evg, evh, mm, mv, mq, mx, mxi, kinds, numb, numb2, gl, ssb, dc, dok, dq, List.any_cons, List.any_nil, Option.map_some, Bool.and_self, Bool.and_true, Bool.true_and, Bool.and_false, Bool.false_and, Bool.or_false, Bool.false_or, Bool.not_true, Bool.not_false, Bool.false_eq_true, beq_self_eq_true, Bool.not_not, ↓reduceIte, wpx]
      exact ⟨_, rfl, fin _ _ _⟩
  · have fk : D.oks 59 (T.2.map .str) = true ∧ D.eqvs (T.2.map .str) [] = false := by
      obtain ⟨t1, t2⟩ := T
      match t2, hT, fl with
      | [f], _, _ => simp [dok, dq]
      | [f, g], _, _ => simp [dok, dq]
    simp only [fk.1, fk.2, env0, evs, evz, evy, evd, evg, evh, mm, mv, mq, mx, mxi, kinds, numb, numb2, gl, ssb, dc, dok, dq, List.any_cons, List.any_nil, Option.map_some, Bool.and_self, Bool.and_true, Bool.true_and, Bool.and_false, Bool.false_and, Bool.or_false, Bool.false_or, Bool.not_true, Bool.not_false, Bool.false_eq_true, beq_self_eq_true, Bool.not_not, ↓reduceIte, wpx]
    by_cases c1 : 0 - 20 ≤ l - 2
    · simp only [c1, decide_true, env0, evs, evz, evy, evd, evg, evh, mm, mv, mq, mx, mxi, kinds, numb, numb2, gl, ssb, dc, dok, dq, List.any_cons, List.any_nil, Option.map_some, Bool.and_self, Bool.and_true, Bool.true_and, Bool.and_false, Bool.false_and, Bool.or_false, Bool.false_or, Bool.not_true, Bool.not_false, Bool.false_eq_true, beq_self_eq_true, Bool.not_not, ↓reduceIte, wpx]
      by_cases c2 : b < 7
      · simp only [c2, decide_true, env0, evs, evz, evy, evd, evg, evh, mm, mv, mq, mx, mxi, kinds, numb, numb2, gl, ssb, dc, dok, dq, List.any_cons, List.any_nil, Option.map_some, Bool.and_self, Bool.and_true, Bool.true_and, Bool.and_false, Bool.false_and, Bool.or_false, Bool.false_or, Bool.not_true, Bool.not_false, Bool.false_eq_true, beq_self_eq_true, Bool.not_not, ↓reduceIte, wpx]
        exact ⟨_, rfl, fin _ _ _⟩
      · simp only [c2, decide_false, env0, evs, evz, evy, evd, evg, evh, mm, mv, mq, mx, mxi, kinds, numb, numb2, gl, ssb, dc, dok, dq, List.any_cons, List.any_nil, Option.map_some, Bool.and_self, Bool.and_true, Bool.true_and, Bool.and_false, Bool.false_and, Bool.or_false, Bool.false_or, Bool.not_true, Bool.not_false, Bool.false_eq_true, beq_self_eq_true, Bool.not_not, ↓reduceIte, wpx]
        exact ⟨_, rfl, fin _ _ _⟩
    · simp only [c1, decide_false, env0, evs, evz, evy, evd, evg, evh, mm, mv, mq, mx, mxi, kinds, numb, numb2, gl, ssb, dc, dok, dq, List.any_cons, List.any_nil, Option.map_some, Bool.and_self, Bool.and_true, Bool.true_and, Bool.and_false, Bool.false_and, Bool.or_false, Bool.false_or, Bool.not_true, Bool.not_false, Bool.false_eq_true, beq_self_eq_true, Bool.not_not, ↓reduceIte, wpx]
      exact ⟨_, rfl, fin _ _ _⟩
/-- a turn -/
theorem w_turn {L : Nat → Sw.Env → M A} {ns : List Int} {b l h b2 l2 h2 wl wh : Int} (o : okB b l h) (o2 : okB b2 l2 h2) (ow : okB 8 wl wh) {a2 a6 a7 a8 a9 a10 a11 a12 a13 a14 : Option A} {s : Sto} (hs : StP s) {k : Nat} :
    wp (evSL ⟨interp tx.T tx.G 119, L⟩ tx.G (whB (nthS 2 (whB (nthS 1 ir_law.body)))) [some (.d (.scr ns)), some (.r 0), a2, some (.d (fd b l h)), some (.d (fd b2 l2 h2)), some (.d (fd 8 wl wh)), a6, a7, a8, a9, a10, a11, a12, a13, a14]) s fun r s' => ∃ e', r = .nx e' ∧ J1 ns b l h (fd b2 l2 h2) (fd 8 wl wh) (k + 1) e' s' := by
  have W := fun (x : Fl) (hx : x.ok b l h) (r : Rule) (s2 : Sto) (hs2 : StP s2) => w_tail (L := L) (ns := ns) (a2 := a2) (a6 := a6) (a7 := a7) (a8 := a8) (a12 := a12) (a13 := a13) (a14 := a14) (k := k) o o2 ow r (x := x) hx hs2
  have hb : whB (nthS 2 (whB (nthS 1 ir_law.body))) = .cons (nthS 0 (whB (nthS 2 (whB (nthS 1 ir_law.body))))) (.cons (nthS 1 (whB (nthS 2 (whB (nthS 1 ir_law.body))))) (.cons (nthS 2 (whB (nthS 2 (whB (nthS 1 ir_law.body))))) (dropS 3 (whB (nthS 2 (whB (nthS 1 ir_law.body))))))) := rfl
  rw [hb]
  clear hb
  obtain ⟨rest, hrest⟩ : ∃ rest, rest = dropS 3 (whB (nthS 2 (whB (nthS 1 ir_law.body)))) := ⟨_, rfl⟩
  rw [← hrest]
  rw [← hrest] at W
  clear hrest
  simp only [ir_law, nthS, whB, env0, evs, evz, evy, evd, evg, evh, mm, mv, mq, mx, mxi, kinds, numb, numb2, gl, ssb, dc, dok, dq, List.any_cons, List.any_nil, Option.map_some, Bool.and_self, Bool.and_true, Bool.true_and, Bool.and_false, Bool.false_and, Bool.or_false, Bool.false_or, Bool.not_true, Bool.not_false, Bool.false_eq_true, beq_self_eq_true, Bool.not_not, ↓reduceIte, wpx]
  refine w_float 116 o hs fun x s1 hx hs1 => ?_
  simp only [env0, evs, evz, evy, evd, evg, evh, mm, mv, mq, mx, mxi, kinds, numb, numb2, gl, ssb, dc, dok, dq, List.any_cons, List.any_nil, Option.map_some, Bool.and_self, Bool.and_true, Bool.true_and, Bool.and_false, Bool.false_and, Bool.or_false, Bool.false_or, Bool.not_true, Bool.not_false, Bool.false_eq_true, beq_self_eq_true, Bool.not_not, ↓reduceIte, wpx]
  refine w_rule 117 hs1 fun r s2 hs2 => ?_
  simp only [env0, evs, evz, evy, evd, evg, evh, mm, mv, mq, mx, mxi, kinds, numb, numb2, gl, ssb, dc, dok, dq, List.any_cons, List.any_nil, Option.map_some, Bool.and_self, Bool.and_true, Bool.true_and, Bool.and_false, Bool.false_and, Bool.or_false, Bool.false_or, Bool.not_true, Bool.not_false, Bool.false_eq_true, beq_self_eq_true, Bool.not_not, ↓reduceIte, wpx]
  have f1 : idx (fd b2 l2 h2) (.int 1) = some (.int l2) := rfl
  cases x with
  | nan =>
    simp only [Fl.d, env0, evs, evz, evy, evd, evg, evh, mm, mv, mq, mx, mxi, kinds, numb, numb2, gl, ssb, dc, dok, dq, List.any_cons, List.any_nil, Option.map_some, Bool.and_self, Bool.and_true, Bool.true_and, Bool.and_false, Bool.false_and, Bool.or_false, Bool.false_or, Bool.not_true, Bool.not_false, Bool.false_eq_true, beq_self_eq_true, Bool.not_not, ↓reduceIte, wpx]
    exact W .nan hx r s2 hs2
  | inf g =>
    simp only [Fl.d, env0, evs, evz, evy, evd, evg, evh, mm, mv, mq, mx, mxi, kinds, numb, numb2, gl, ssb, dc, dok, dq, List.any_cons, List.any_nil, Option.map_some, Bool.and_self, Bool.and_true, Bool.true_and, Bool.and_false, Bool.false_and, Bool.or_false, Bool.false_or, Bool.not_true, Bool.not_false, Bool.false_eq_true, beq_self_eq_true, Bool.not_not, ↓reduceIte, wpx]
    exact W (.inf g) hx r s2 hs2
  | num g m e =>
    by_cases hm : m = 0
    · subst hm
      simp only [Fl.d, env0, evs, evz, evy, evd, evg, evh, mm, mv, mq, mx, mxi, kinds, numb, numb2, gl, ssb, dc, dok, dq, List.any_cons, List.any_nil, Option.map_some, Bool.and_self, Bool.and_true, Bool.true_and, Bool.and_false, Bool.false_and, Bool.or_false, Bool.false_or, Bool.not_true, Bool.not_false, Bool.false_eq_true, beq_self_eq_true, Bool.not_not, ↓reduceIte, wpx, f1]
      exact W (.num g 0 e) hx r s2 hs2
    · have hm0 : (m == 0) = false := by simpa using hm
      obtain ⟨h0, h1, h2', h3, hsg⟩ := num_rng o hx
      have hw : interp tx.T tx.G 119 f__law_worth [.d (Fl.num g m e).d] = ret (.d (frD (vF (.num g m e)))) := by
        have := i__law_worth 117 g m e (by omega) h2' h3 hsg
        rw [worD_eq g m e hsg] at this
        exact this
      have hr : interp tx.T tx.G 119 f__law_rounded [.d (fd b2 l2 h2), .d (frD (vF (.num g m e))), .d r.d] = _ := i__law_rounded 115 o2 r (vF_ok o hx).1
      have W := W (.num g m e) hx r s2 hs2
      rw [show movF b2 l2 h2 r (.num g m e) (rnd b2 l2 h2 r (vF (.num g m e))) = rnd b2 l2 h2 r (vF (.num g m e)) from if_neg hm] at W
      simp only [Fl.d] at hw
      simp only [Fl.d, env0, evs, evz, evy, evd, evg, evh, mm, mv, mq, mx, mxi, kinds, numb, numb2, gl, ssb, dc, dok, dq, List.any_cons, List.any_nil, Option.map_some, Bool.and_self, Bool.and_true, Bool.true_and, Bool.and_false, Bool.false_and, Bool.or_false, Bool.false_or, Bool.not_true, Bool.not_false, Bool.false_eq_true, beq_self_eq_true, Bool.not_not, ↓reduceIte, wpx, hm0, hw, hr]
      exact W
theorem law_wp (ns : List Int) : wp (interp tx.T tx.G 120 f_law [.d (.scr ns)]) [] fun a _ => a = .d (.bl true) := by
  rw [interp_eqL (d := ir_law) rfl 119]
  obtain ⟨L, hL⟩ : ∃ L, lamOf tx.T tx.G ir_law.lt 119 = L := ⟨_, rfl⟩
  have l0 : ∀ env, L 0 env = evE ⟨interp tx.T tx.G 117, fun _ _ => fail⟩ tx.G (.call f_moved (.cons (.var 3) (.cons (.var 4) (.cons (.var 9) (.cons (.str "Up") .nil))))) env := fun env => by rw [← hL]; rfl
  have l1 : ∀ env, L 1 env = evE ⟨interp tx.T tx.G 117, fun _ _ => fail⟩ tx.G (.call f_moved (.cons (.var 3) (.cons (.var 7) (.cons (.int 0) (.cons (.int 0) .nil))))) env := fun env => by rw [← hL]; rfl
  have l2 : ∀ env, L 2 env = evE ⟨interp tx.T tx.G 117, fun _ _ => fail⟩ tx.G (.call f_moved (.cons (.var 3) (.cons (.var 4) (.cons (.int 0) (.cons (.int 0) .nil))))) env := fun env => by rw [← hL]; rfl
  rw [hL]
  refine .runFL rfl rfl ?_
  simp only [ir_law, Nat.reduceSub, env0, evs, evz, evy, evd, evg, evh, mm, mv, mq, mx, mxi, kinds, numb, numb2, gl, ssb, dc, dok, dq, List.any_cons, List.any_nil, Option.map_some, Bool.and_self, Bool.and_true, Bool.true_and, Bool.and_false, Bool.false_and, Bool.or_false, Bool.false_or, Bool.not_true, Bool.not_false, Bool.false_eq_true, beq_self_eq_true, Bool.not_not, ↓reduceIte, wpx]
  refine w_start 118 ns fun s hs => ?_
  try simp only [env0, evs, evz, evy, evd, evg, evh, mm, mv, mq, mx, mxi, kinds, numb, numb2, gl, ssb, dc, dok, dq, List.any_cons, List.any_nil, Option.map_some, Bool.and_self, Bool.and_true, Bool.true_and, Bool.and_false, Bool.false_and, Bool.or_false, Bool.false_or, Bool.not_true, Bool.not_false, Bool.false_eq_true, beq_self_eq_true, Bool.not_not, ↓reduceIte, wpx, rng_const 4 (by decide) (by decide)]
  refine forM_all (I := J0 ns) ⟨hs, _, _, _, _, _, _, _, _, _, _, _, _, _, rfl⟩ (fun x hx e s hI => ?_) (fun e s hI => ?_)
  · obtain ⟨j, _, rfl⟩ := List.mem_map.mp hx
    obtain ⟨hs, a2, a3, a4, a5, a6, a7, a8, a9, a10, a11, a12, a13, a14, rfl⟩ := hI
    simp only [forB, env0, evs, evz, evy, evd, evg, evh, mm, mv, mq, mx, mxi, kinds, numb, numb2, gl, ssb, dc, dok, dq, List.any_cons, List.any_nil, Option.map_some, Bool.and_self, Bool.and_true, Bool.true_and, Bool.and_false, Bool.false_and, Bool.or_false, Bool.false_or, Bool.not_true, Bool.not_false, Bool.false_eq_true, beq_self_eq_true, Bool.not_not, ↓reduceIte, wpx]
    refine w_form 117 (by decide) (by decide) hs fun b l h s1 o _ hs1 => ?_
    simp only [env0, evs, evz, evy, evd, evg, evh, mm, mv, mq, mx, mxi, kinds, numb, numb2, gl, ssb, dc, dok, dq, List.any_cons, List.any_nil, Option.map_some, Bool.and_self, Bool.and_true, Bool.true_and, Bool.and_false, Bool.false_and, Bool.or_false, Bool.false_or, Bool.not_true, Bool.not_false, Bool.false_eq_true, beq_self_eq_true, Bool.not_not, ↓reduceIte, wpx]
    refine w_form 117 (by decide) (by decide) hs1 fun b2 l2' h2 s2 o2 _ hs2 => ?_
    have f1 : idx (fd b l h) (.int 1) = some (.int l) := rfl
    have f2 : idx (fd b l h) (.int 2) = some (.int h) := rfl
    simp only [env0, evs, evz, evy, evd, evg, evh, mm, mv, mq, mx, mxi, kinds, numb, numb2, gl, ssb, dc, dok, dq, List.any_cons, List.any_nil, Option.map_some, Bool.and_self, Bool.and_true, Bool.true_and, Bool.and_false, Bool.false_and, Bool.or_false, Bool.false_or, Bool.not_true, Bool.not_false, Bool.false_eq_true, beq_self_eq_true, Bool.not_not, ↓reduceIte, wpx, f1, f2, rng_const 5 (by decide) (by decide)]
    have ow : okB 8 (if l - 2 > 0 - 20 then l - 2 else 0 - 20) (if h + 2 < 20 then h + 2 else 20) := by
      have o3 := o.2.2.1
      have o4 := o.2.2.2.1
      have o5 := o.2.2.2.2
      refine ⟨by decide, by decide, ?_, ?_, ?_⟩ <;> (repeat' split) <;> omega
    generalize (if l - 2 > 0 - 20 then l - 2 else 0 - 20) = wl at *
    generalize (if h + 2 < 20 then h + 2 else 20) = wh at *
    refine wp.forM (J1 ns b l h (fd b2 l2' h2) (fd 8 wl wh)) _ 0 _ _ ⟨hs2, _, _, _, _, _, _, _, _, _, _, rfl, fun z => absurd z (by decide)⟩ (fun j2 x e s hx hI => ?_) (fun e s hI => ?_)
    · obtain ⟨j3, _, rfl⟩ := List.mem_map.mp (List.mem_of_getElem? hx)
      obtain ⟨hs, a2, a6, a7, a8, a9, a10, a11, a12, a13, a14, rfl, _⟩ := hI
      have W := w_turn (L := L) (ns := ns) (a2 := a2) (a6 := some (.d (.int (0 + (j3 : Int))))) (a7 := a7) (a8 := a8) (a9 := a9) (a10 := a10) (a11 := a11) (a12 := a12) (a13 := a13) (a14 := a14) (k := 0 + j2) o o2 ow hs
      simp only [ir_law, nthS, whB] at W
      simp only [forB, asg_nm, env0, mm, mv, wpx]
      refine W.mono fun r s' hr => ?_
      obtain ⟨e', rfl, h⟩ := hr
      exact h
    · obtain ⟨hs, a2, a6, a7, a8, a9, a10, a11, a12, a13, a14, rfl, hx9⟩ := hI
      obtain ⟨x9, ok9, rfl⟩ := hx9 (by simp)
      simp only [env0, evs, evz, evy, evd, evg, evh, mm, mv, mq, mx, mxi, kinds, numb, numb2, gl, ssb, dc, dok, dq, List.any_cons, List.any_nil, Option.map_some, Bool.and_self, Bool.and_true, Bool.true_and, Bool.and_false, Bool.false_and, Bool.or_false, Bool.false_or, Bool.not_true, Bool.not_false, Bool.false_eq_true, beq_self_eq_true, Bool.not_not, ↓reduceIte, wpx]
      refine w_drawn 118 (by decide) (by decide) hs fun v2 s3 u2 w2 hs3 => ?_
      obtain ⟨y, hy, ey⟩ := bad_at u2 w2
      unfold badF at ey
      have k0 : interp tx.T tx.G 117 f_moved [.d (fd b l h), .d (fd b2 l2' h2), .d x9.d, .d (.str "Up")] = _ := i_moved_r 111 o o2 x9 ok9
      have k1 : interp tx.T tx.G 117 f_moved [.d (fd b l h), .d y, .d (.int 0), .d (.int 0)] = _ := i_moved_f 111 o hy
      have k2 : interp tx.T tx.G 117 f_moved [.d (fd b l h), .d (fd b2 l2' h2), .d (.int 0), .d (.int 0)] = _ := i_moved_x 111 o o2
      have hat : (s3 ++ [SO.lst [A.f 1, .f 2, .f 0]])[s3.length]? = some (.lst [A.f 1, .f 2, .f 0]) := by simp
      have kk : ∀ env : Sw.Env, get env 3 = some (.d (fd b l h)) → get env 4 = some (.d (fd b2 l2' h2)) → get env 7 = some (.d y) → get env 9 = some (.d x9.d) → ∀ j ∈ [1, 2, 0], kindM ksl (L j env) = ret ((fun j => if j = 1 then D.str "BadFormat" else if j = 2 then .tup [.str "BadFloat", .int 0] else .str "BadRule") j) := fun env e3 e4 e7 e9 j hj => by
        have hj : j = 1 ∨ j = 2 ∨ j = 0 := by simpa using hj
        obtain rfl | rfl | rfl := hj
        · rw [l1]
          simp only [env0, evs, evz, evy, evd, evg, evh, mm, mv, mq, mx, mxi, kinds, numb, numb2, gl, ssb, dc, dok, dq, List.any_cons, List.any_nil, Option.map_some, Bool.and_self, Bool.and_true, Bool.true_and, Bool.and_false, Bool.false_and, Bool.or_false, Bool.false_or, Bool.not_true, Bool.not_false, Bool.false_eq_true, beq_self_eq_true, Bool.not_not, ↓reduceIte, e3, e7, k1]
          exact kindM_throw rfl
        · rw [l2]
          simp only [env0, evs, evz, evy, evd, evg, evh, mm, mv, mq, mx, mxi, kinds, numb, numb2, gl, ssb, dc, dok, dq, List.any_cons, List.any_nil, Option.map_some, Bool.and_self, Bool.and_true, Bool.true_and, Bool.and_false, Bool.false_and, Bool.or_false, Bool.false_or, Bool.not_true, Bool.not_false, Bool.false_eq_true, beq_self_eq_true, Bool.not_not, ↓reduceIte, e3, e4, k2]
          exact kindM_throw1 rfl
        · rw [l0]
          simp only [env0, evs, evz, evy, evd, evg, evh, mm, mv, mq, mx, mxi, kinds, numb, numb2, gl, ssb, dc, dok, dq, List.any_cons, List.any_nil, Option.map_some, Bool.and_self, Bool.and_true, Bool.true_and, Bool.and_false, Bool.false_and, Bool.or_false, Bool.false_or, Bool.not_true, Bool.not_false, Bool.false_eq_true, beq_self_eq_true, Bool.not_not, ↓reduceIte, e3, e4, e9, k0]
          exact kindM_throw rfl
      have eva : ∀ {C : CL} {G : Nat → Option D} {env : Sw.Env} (i : Nat) (e : E), evS C G (.appf i e) env = bnd (opt (get env i)) fun a => bnd (asR a) fun k => bnd (lstAt k) fun _ => bnd (evE C G e env) fun x => bnd (asFn x) fun j => bnd (chg k fun xs => if xs.length < 16777216 then some (xs ++ [.f j]) else none) fun _ => ret (.nx env) := fun _ _ => by rw [evS]
      have asf : ∀ j : Nat, asFn (.f j) = Sw.ret j := fun _ => rfl
      have hat0 : (s3 ++ [SO.lst [A.f 1, .f 2]])[s3.length]? = some (.lst [A.f 1, .f 2]) := by simp
      simp only [env0, evs, evz, evy, evd, evg, evh, mm, mv, mq, mx, mxi, kinds, numb, numb2, gl, ssb, dc, dok, dq, List.any_cons, List.any_nil, Option.map_some, Bool.and_self, Bool.and_true, Bool.true_and, Bool.and_false, Bool.false_and, Bool.or_false, Bool.false_or, Bool.not_true, Bool.not_false, Bool.false_eq_true, beq_self_eq_true, Bool.not_not, ↓reduceIte, wpx, ey, evk, eva, asf]
      rw [wp_lstAt hat0]
      rw [wp_chg (ys := [A.f 1, .f 2, .f 0]) hat0 rfl, set_end]
      try simp only [env0, evs, evz, evy, evd, evg, evh, mm, mv, mq, mx, mxi, kinds, numb, numb2, gl, ssb, dc, dok, dq, List.any_cons, List.any_nil, Option.map_some, Bool.and_self, Bool.and_true, Bool.true_and, Bool.and_false, Bool.false_and, Bool.or_false, Bool.false_or, Bool.not_true, Bool.not_false, Bool.false_eq_true, beq_self_eq_true, Bool.not_not, ↓reduceIte, wpx, evk]
      rw [wp_fns hat rfl]
      rw [wp_kinds hat rfl (kk _ rfl rfl rfl rfl)]
      have hfin : fin [D.str "BadFormat", .tup [.str "BadFloat", .int 0], .str "BadRule"] = Sw.ret (.d (.lst [D.str "BadFormat", .tup [.str "BadFloat", .int 0], .str "BadRule"])) := if_pos (by decide)
      simp only [env0, evs, evz, evy, evd, evg, evh, mm, mv, mq, mx, mxi, kinds, numb, numb2, gl, ssb, dc, dok, dq, List.any_cons, List.any_nil, Option.map_some, Bool.and_self, Bool.and_true, Bool.true_and, Bool.and_false, Bool.false_and, Bool.or_false, Bool.false_or, Bool.not_true, Bool.not_false, Bool.false_eq_true, beq_self_eq_true, Bool.not_not, ↓reduceIte, wpx, List.map_cons, List.map_nil, Nat.one_ne_zero, show (2 : Nat) = 1 ↔ False from by decide, show (0 : Nat) = 1 ↔ False from by decide, show (0 : Nat) = 2 ↔ False from by decide, hfin]
      exact ⟨_, rfl, hs3.app, _, _, _, _, _, _, _, _, _, _, _, _, _, rfl⟩
  · obtain ⟨hs, a2, a3, a4, a5, a6, a7, a8, a9, a10, a11, a12, a13, a14, rfl⟩ := hI
    simp only [env0, evs, evz, evy, evd, evg, evh, mm, mv, mq, mx, mxi, kinds, numb, numb2, gl, ssb, dc, dok, dq, List.any_cons, List.any_nil, Option.map_some, Bool.and_self, Bool.and_true, Bool.true_and, Bool.and_false, Bool.false_and, Bool.or_false, Bool.false_or, Bool.not_true, Bool.not_false, Bool.false_eq_true, beq_self_eq_true, Bool.not_not, ↓reduceIte, wpx]
theorem hI (ns : List Int) (hn : ns.length ≤ 63) : ∃ s', interp tx.T tx.G 120 f_law [.d (.scr ns)] [] = some (.ok (.d (.bl true)), s') := by
  obtain ⟨a, s', e, rfl⟩ := law_wp ns
  exact ⟨s', e⟩
end K07
open PySem PySem.W PySem.Calls PyProof.Rows

namespace K07
open Sw
def loose0 : List PySem.Str := ["FloatError", "BadFormat", "BadFloat", "BadFraction", "BadRule", "BadWord", "BadTerm", "BadTree", "BadCount", "TooMany", "BadText", "BadMeet", "LEAST_BITS", "MOST_BITS", "MOST_POWER", "NUM", "INF", "NAN", "RULES", "is_number", "need_format", "need_rule", "is_float", "need_floats", "two_to", "divisor", "fraction", "scaled", "value_of", "negated"]
def loose1 : List PySem.Str := ["INEXACT", "OVER", "UNDER", "cut_off", "goes_up", "rounded_size", "rounded_by", "moved", "_law_start", "_law_drawn", "_law_same", "_law_kind", "_law_form", "_law_two", "_law_num", "_law_float", "_law_rule", "_law_short", "_law_worth", "_law_sizes", "_law_nearest", "_law_rounded", "_law_plus"]
def loose : List PySem.Str := loose0 ++ loose1
theorem chk : (tx.fs.all fun f => f.chk tx.P tx.nm) = true := by decide +kernel
theorem bind : bindAll tx.P tx.fs := ⟨(by intro _ _ _ _ _ _ us hl; exact match us, hl with | [_, _, _], _ => rfl), (by intro _ _ _ _ _ _ us hl; exact match us, hl with | [_], _ => rfl), (by intro _ _ _ _ _ _ us hl; exact match us, hl with | [_], _ => rfl), (by intro _ _ _ _ _ _ us hl; exact match us, hl with | [_, _], _ => rfl), (by intro _ _ _ _ _ _ us hl; exact match us, hl with | [_, _], _ => rfl), (by intro _ _ _ _ _ _ us hl; exact match us, hl with | [_], _ => rfl), (by intro _ _ _ _ _ _ us hl; exact match us, hl with | [_, _], _ => rfl), (by intro _ _ _ _ _ _ us hl; exact match us, hl with | [_, _], _ => rfl), (by intro _ _ _ _ _ _ us hl; exact match us, hl with | [_, _], _ => rfl), (by intro _ _ _ _ _ _ us hl; exact match us, hl with | [_], _ => rfl), (by intro _ _ _ _ _ _ us hl; exact match us, hl with | [_], _ => rfl), (by intro _ _ _ _ _ _ us hl; exact match us, hl with | [_, _, _], _ => rfl), (by intro _ _ _ _ _ _ us hl; exact match us, hl with | [_, _, _, _], _ => rfl), (by intro _ _ _ _ _ _ us hl; exact match us, hl with | [_, _, _, _, _], _ => rfl), (by intro _ _ _ _ _ _ us hl; exact match us, hl with | [_, _, _], _ => rfl), (by intro _ _ _ _ _ _ us hl; exact match us, hl with | [_, _, _, _], _ => rfl), (by intro _ _ _ _ _ _ us hl; exact match us, hl with | [_], _ => rfl), (by intro _ _ _ _ _ _ us hl; exact match us, hl with | [_, _], _ => rfl), (by intro _ _ _ _ _ _ us hl; exact match us, hl with | [_, _], _ => rfl), (by intro _ _ _ _ _ _ us hl; exact match us, hl with | [_], _ => rfl), (by intro _ _ _ _ _ _ us hl; exact match us, hl with | [_, _], _ => rfl), (by intro _ _ _ _ _ _ us hl; exact match us, hl with | [_], _ => rfl), (by intro _ _ _ _ _ _ us hl; exact match us, hl with | [_, _], _ => rfl), (by intro _ _ _ _ _ _ us hl; exact match us, hl with | [_, _], _ => rfl), (by intro _ _ _ _ _ _ us hl; exact match us, hl with | [_], _ => rfl), (by intro _ _ _ _ _ _ us hl; exact match us, hl with | [_, _], _ => rfl), (by intro _ _ _ _ _ _ us hl; exact match us, hl with | [_], _ => rfl), (by intro _ _ _ _ _ _ us hl; exact match us, hl with | [_], _ => rfl), (by intro _ _ _ _ _ _ us hl; exact match us, hl with | [_, _, _, _, _], _ => rfl), (by intro _ _ _ _ _ _ us hl; exact match us, hl with | [_, _, _], _ => rfl), (by intro _ _ _ _ _ _ us hl; exact match us, hl with | [_, _], _ => rfl), (by intro _ _ _ _ _ _ us hl; exact match us, hl with | [_], _ => rfl), trivial⟩
theorem good : tx.Good := ⟨chk, by decide +kernel, bind⟩
theorem kdT : KdT tx 19 := ⟨⟨_, "e", kq, rfl, rfl, rfl, by kernel_rfl, ⟨by decide +kernel, by decide +kernel, by decide +kernel, by decide +kernel, by decide +kernel⟩, by decide +kernel, by decide +kernel, by decide +kernel, by decide +kernel⟩⟩
theorem run (w : PySem.World) : HandSHeadRun.RunEq R (PySem.W.view R.prog [57]) (tx.hookL 5) (tx.obLT 5) 9000 loose w := by
  intro os
  kernel_rfl
theorem ends (hI : ∀ ns : List Int, ns.length ≤ 63 → ∃ s', interp tx.T tx.G 120 f_law [.d (.scr ns)] [] = some (.ok (.d (.bl true)), s')) : lw.Holds := by
  w_on; o_law
  refine HandSHeadRun.head_any (r := R) (q := PySem.W.view R.prog [57]) (H := tx.hookL 5) (ob := tx.obLT 5) (M := 9000) (loose := loose) (d := HandSHeadRun.topDef R.prog 57) (kwd := []) (tx.obLT_eq 5)
    (by kernel_rfl) (fun s => by kernel_rfl) run (by kernel_rfl) (by kernel_rfl) (by kernel_rfl) (by rfl) (by first | assumption | decide +kernel) (by decide +kernel) ⟨rfl, rfl, rfl, rfl, rfl, by decide +kernel⟩ ?hw ?hc
  case hw => w_witness2
  case hc => exact Tx.walkL good (by decide +kernel) kdT rfl rfl (by decide) (by kernel_rfl) ⟨rfl, by decide, by decide⟩ (f := ⟨57, "law", ["_law_script", "_law_state", "_law_turn", "_law_form_here", "_law_other", "_law_wide", "_law_step", "_law_bad", "_law_works", "_law_one", "_law_rule_here", "_law_due", "_law_told", "_law_fits", "_law_work"], ["_law_script"], ir_law⟩)  rfl rfl rfl hI
end K07
theorem PySem.Challenge.cw_sumways_k07_turned_into_other_formats_holds : PySem.Challenge.rw_sumways_k07_turned_into_other_formats.Holds :=
  K07.ends K07.hI
