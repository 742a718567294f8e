import PyProof.Rows.All
import HandS.ForMost
import HandS.ForExc
import HandS.TupSets
import KE.KDictKeyed
import KE.SortData
import HandS.AnyAll
import HandS.Exc
import HandS.TupAny
import HandS.TupLe
import KE.LtData
import HandS.IsInst
import HandS.Strs
import HandS.Deep
import HandS.CallSlots
import HandS.EndTab
import HandS.GenList
import HandS.SetBool
import HandS.DictComp
import HandS.More
import HandS.Small
import HandS.Comp
import KE.KNestM
import HandS.Conv
import HandS.TryMany
import HandS.ExcField
import PySem.Challenge.RW_parley_k78_tests_of_behaviours
set_option Elab.async false
set_option linter.all false
set_option maxRecDepth 100000
set_option maxHeartbeats 0

/-! Sets of tuples (of anything that may be a key): searching, adding. -/
namespace Dt
open PySem PySem.Spec PyProof.Rows L2
section
variable {P : Program} {w : World} {A : Around} {E : Value → Shared → Prop} {s : Shared}
abbrev NK (P : Program) (w : World) : HeapKind P w NestedKey := nestedKind P w
/-! small questions: by the key's form -/
mutual
theorem class_key : ∀ (k : NestedKey) (v : Value) (n : Nat) (Q : Bool → Shared → Prop) (E : Value → Shared → Prop), NestedIs s.heap k v → k.depth ≤ n → Q false s → wpAny (model P w) A (ofAClassStatement n v) Q E s
  | .none, _, n, Q, E, x, _, h => by cases x; cases n <;> exact wpAny_pure h
  | .num i, _, n, Q, E, x, _, h => by cases x <;> cases n <;> exact wpAny_pure h
  | .text y, _, n, Q, E, x, _, h => by cases x; cases n <;> exact wpAny_pure h
  | .tup ks, _, n, Q, E, x, hn, h => by
    cases x with
    | tup hg hc hd hk =>
      rename_i a o vs m
      simp only [NestedKey.depth] at hn
      cases n with
      | zero => omega
      | succ n =>
        have hT : s.TypeIs (.ref a) "tuple" := ⟨o, hg, hc⟩
        unfold ofAClassStatement
        refine wpAny_bind (wpAny_typeOf hT ?_)
        dsimp only
        have e : (("tuple" : String) == "tuple") = true := by decide
        simp only [e, if_true, Bool.not_true, Bool.false_eq_true, if_false]
        show wpAny _ _ (seqItems? (.ref a) >>= _) _ _ s
        refine wpAny_bind (wpAny_seqItems hg hd ?_)
        dsimp only
        refine wpAny_bind ?_
        show wpAny _ _ (forIn vs _ _) _ _ s
        rw [← Array.forIn_toList]
        refine wpAny_forIn_list _ (fun rest r s' => r.1 = none ∧ s' = s ∧ ∀ v ∈ rest, ∀ (Q : Bool → Shared → Prop) (E : Value → Shared → Prop), Q false s → wpAny (model P w) A (ofAClassStatement n v) Q E s) _ ?_ ?_ _ _ ⟨rfl, rfl, class_keys ks _ n hk (by omega)⟩
        · rintro v rest r s' ⟨hr, rfl, hall⟩
          refine wpAny_bind (hall v List.mem_cons_self _ _ ?_)
          simp only [Bool.false_eq_true, if_false]
          exact wpAny_pure ⟨rfl, rfl, fun u hu => hall u (List.mem_cons_of_mem _ hu)⟩
        · rintro ⟨r1, r2⟩ s' ⟨hr, rfl, _⟩
          simp only at hr
          subst hr
          exact wpAny_pure h
theorem class_keys : ∀ (ks : List NestedKey) (vs : List Value) (n : Nat), NestedAll s.heap ks vs → NestedKey.depthAll ks ≤ n → ∀ v ∈ vs, ∀ (Q : Bool → Shared → Prop) (E : Value → Shared → Prop), Q false s → wpAny (model P w) A (ofAClassStatement n v) Q E s
  | [], _, n, x, _, v, hv => by cases x; cases hv
  | k :: ks, _, n, x, hn, v, hv => by
    cases x with
    | cons x1 x2 =>
      simp only [NestedKey.depthAll] at hn
      rcases List.mem_cons.mp hv with e | hv
      · rw [e]; exact fun Q E h => class_key k _ n Q E x1 (by omega) h
      · exact class_keys ks _ n x2 (by omega) v hv
end
mutual
/-- whether the hash hangs on the value alone: some answer -/
theorem byv_key : ∀ (k : NestedKey) (v : Value) (n : Nat) (Q : Bool → Shared → Prop) (E : Value → Shared → Prop), NestedIs s.heap k v → k.depth ≤ n → (∀ b, Q b s) → wpAny (model P w) A (hashByValue n v) Q E s
  | .none, _, n, Q, E, x, _, h => by cases x; cases n <;> exact wpAny_pure (h _)
  | .num i, _, n, Q, E, x, _, h => by cases x <;> cases n <;> exact wpAny_pure (h _)
  | .text y, _, n, Q, E, x, _, h => by cases x; cases n <;> exact wpAny_pure (h _)
  | .tup ks, _, n, Q, E, x, hn, h => by
    cases x with
    | tup hg hc hd hk =>
      rename_i a o vs m
      simp only [NestedKey.depth] at hn
      cases n with
      | zero => omega
      | succ n =>
        have hT : s.TypeIs (.ref a) "tuple" := ⟨o, hg, hc⟩
        unfold hashByValue
        refine wpAny_bind (wpAny_specialOf hT F.slot_tuple_hash.lookup ?_)
        show wpAny _ _ (seqItems? (.ref a) >>= _) _ _ s
        refine wpAny_bind (wpAny_seqItems hg hd ?_)
        refine wpAny_bind ?_
        show wpAny _ _ (forIn vs _ _) _ _ s
        rw [← Array.forIn_toList]
        refine wpAny_forIn_list _ (fun rest r s' => s' = s ∧ ∀ v ∈ rest, ∀ (Q : Bool → Shared → Prop) (E : Value → Shared → Prop), (∀ b, Q b s) → wpAny (model P w) A (hashByValue n v) Q E s) _ ?_ ?_ _ _ ⟨rfl, byv_keys ks _ n hk (by omega)⟩
        · rintro v rest r s' ⟨rfl, hall⟩
          refine wpAny_bind (hall v List.mem_cons_self _ _ fun b => ?_)
          cases b
          · simp only [Bool.not_false, if_true]
            exact wpAny_pure (wpAny_pure (h _))
          · simp only [Bool.not_true, Bool.false_eq_true, if_false]
            exact wpAny_pure ⟨rfl, fun u hu => hall u (List.mem_cons_of_mem _ hu)⟩
        · rintro ⟨r1, r2⟩ s' ⟨rfl, _⟩
          cases r1 with
          | none => exact wpAny_pure (h _)
          | some b => exact wpAny_pure (h _)
theorem byv_keys : ∀ (ks : List NestedKey) (vs : List Value) (n : Nat), NestedAll s.heap ks vs → NestedKey.depthAll ks ≤ n → ∀ v ∈ vs, ∀ (Q : Bool → Shared → Prop) (E : Value → Shared → Prop), (∀ b, Q b s) → wpAny (model P w) A (hashByValue n v) Q E s
  | [], _, n, x, _, v, hv => by cases x; cases hv
  | k :: ks, _, n, x, hn, v, hv => by
    cases x with
    | cons x1 x2 =>
      simp only [NestedKey.depthAll] at hn
      rcases List.mem_cons.mp hv with e | hv
      · rw [e]; exact fun Q E h => byv_key k _ n Q E x1 (by omega) h
      · exact byv_keys ks _ n x2 (by omega) v hv
end
theorem seen_keys {k : NestedKey} {b : Addr} {Q : Bool → Shared → Prop} (hk : (NK P w).is s.heap k b) {ys : List Value} (hy : ∀ y ∈ ys, ∃ k' c, y = Value.ref c ∧ (NK P w).is s.heap k' c) (h : Q false s) :
    wpAny (model P w) A (searchCouldBeSeen (.ref b) ys) Q E s := by
  unfold searchCouldBeSeen
  refine wpAny_bind ?_
  refine wpAny_forIn_list _ (fun rest r s' => r.1 = none ∧ s' = s ∧ ∀ y ∈ rest, ∃ k' c, y = Value.ref c ∧ (NK P w).is s.heap k' c) _ ?_ ?_ _ _ ⟨rfl, rfl, hy⟩
  · rintro v rest r s' ⟨hr, rfl, hall⟩
    obtain ⟨k', c, rfl, hc⟩ := hall v List.mem_cons_self
    have more : ∀ y ∈ rest, ∃ k' c, y = Value.ref c ∧ (NK P w).is s'.heap k' c := fun u hu => hall u (List.mem_cons_of_mem _ hu)
    dsimp only
    split
    · exact wpAny_pure ⟨rfl, rfl, more⟩
    · refine wpAny_bind ((NK P w).quiet hk ?_)
      simp only [Bool.not_true, Bool.false_eq_true, if_false]
      refine wpAny_bind ((NK P w).quiet hc ?_)
      simp only [Bool.not_true, Bool.false_eq_true, if_false]
      refine wpAny_bind (class_key _ _ _ _ _ hk.1 hk.2 ?_)
      simp only [Bool.false_eq_true, if_false]
      refine wpAny_bind (class_key _ _ _ _ _ hc.1 hc.2 ?_)
      simp only [Bool.false_eq_true, if_false]
      exact wpAny_pure ⟨rfl, rfl, more⟩
  · rintro ⟨r1, r2⟩ s' ⟨hr, rfl, _⟩
    simp only at hr
    subst hr
    exact wpAny_pure h

/-! the set at a: its rows -/
abbrev Row := Addr × NestedKey
def hsh (w : World) (p : Row) : Int := p.2.hash w
def ents (w : World) (L : List Row) : List (Int × Value) := L.map fun p => (hsh w p, Value.ref p.1)
structure SetN (P : Program) (w : World) (h : Heap) (a : Addr) (L : List Row) (es : Array (Int × Value)) (ep : Nat) (t : SetTable) : Prop where
  ob : ∃ o, h.get? a = some o ∧ o.ExactSet ∧ o.data = .set es ep t
  rows : es.toList = ents w L
  tab : TabOk t (L.map (hsh w))
  nd : (L.map (·.2)).Nodup
  key : ∀ p ∈ L, (NK P w).is h p.2 p.1
  led : w.params.followText "set-order" = true ∨ t.led = true
  room : L.length * 5 < t.mask * 3
variable {a : Addr} {L : List Row} {es : Array (Int × Value)} {ep : Nat} {t : SetTable}
theorem SetN.size {h : Heap} (R : SetN P w h a L es ep t) : es.size = L.length := by
  have := congrArg List.length R.rows
  simpa [ents] using this
theorem SetN.few {h : Heap} (R : SetN P w h a L es ep t) : L.length ≤ 76 := by
  have h1 := R.room
  rcases R.tab.mok with e | e | e <;> rw [e] at h1 <;> omega
theorem SetN.fits {h : Heap} (R : SetN P w h a L es ep t) : t.fits es.size = true := by
  have h1 := R.tab.sz
  simp only [List.length_map] at h1
  have h2 := R.size
  have h3 := R.room
  unfold SetTable.fits SetTable.fill
  rw [R.tab.dm, Bool.and_eq_true, beq_iff_eq, decide_eq_true_eq]
  exact ⟨by omega, by show t.place.size + 0 ≤ t.mask; omega⟩
theorem ents_get {i : Nat} {p : Row} (hr : es.toList = ents w L) (h : L[i]? = some p) : es[i]? = some (hsh w p, Value.ref p.1) := by
  rw [← Array.getElem?_toList, hr]
  unfold ents
  rw [List.getElem?_map, h]
  rfl
theorem SetN.gw {h : Heap} (R : SetN P w h a L es ep t) : ¬ t.gaveWay = true := by
  unfold SetTable.gaveWay
  rw [mask_odd R.tab.mok]
  decide
theorem nth_clean (m : Nat) : ∀ (n : Nat) (p : SetTable.Probe), p.dummy = none → (nth m p n).dummy = none
  | 0, _, h => h
  | n + 1, p, h => nth_clean m n (adv m p) (by
    unfold adv
    split <;> exact h)
abbrev startP (t : SetTable) (h : Int) : SetTable.Probe := runAt t.mask (SetTable.bits h % (t.mask + 1)) (SetTable.bits h)
/-- the search, from step c of the way on; K: the way's first empty slot -/
theorem search_go (R : SetN P w s.heap a L es ep t) {x : Addr} {k : NestedKey} (hx : (NK P w).is s.heap k x) (hu : (NK P w).room A) {h : Int} (hh : h = k.hash w) {K : Nat} (hKf : K < 10 * SetTable.turns t.mask)
    (hK : way t.mask h K ∉ t.place.toList) (hKb : ∀ c, c < K → way t.mask h c ∈ t.place.toList) {Q : SetFound → Shared → Prop}
    (hin : k ∈ L.map (·.2) → Q (.there none) s) (hout : k ∉ L.map (·.2) → Q (.free (way t.mask h K) false) s) :
    ∀ (f c : Nat) (stand : Option SetTable.Probe), stand.getD (t.probeStart h) = nth t.mask (startP t h) c → c ≤ K → K - c < f →
      (∀ (i : Nat) p, L[i]? = some p → p.2 = k → ∃ c', c ≤ c' ∧ c' < K ∧ t.place.toList[i]? = some (way t.mask h c')) →
      wpAny (model P w) A (setSearchFrom a (.ref x) h true f stand) Q E s
  | 0, c, stand, _, _, hf, _ => absurd hf (Nat.not_lt_zero _)
  | f + 1, c, stand, hst, hc, hf, hre => by
    obtain ⟨o, ho, hex, hd⟩ := R.ob
    rw [setSearchFrom_succ]
    refine wpAny_bind (wpAny_setState_of ho hd R.fits ?_)
    dsimp only
    refine wp_if_neg R.gw ?_
    try refine wpAny_bind (wpAny_pure ?_)
    have sh : ∀ q, nth t.mask (nth t.mask (startP t h) c) q = nth t.mask (startP t h) (c + q) := fun q => (nth_add t.mask c _ q).symm
    have shj : ∀ q, (nth t.mask (nth t.mask (startP t h) c) q).j = way t.mask h (c + q) := fun q => congrArg SetTable.Probe.j (sh q)
    have hat : ∀ (i : Nat) p, L[i]? = some p → (es[i]?.map (·.1)).getD 0 = hsh w p := fun i p hp => by
      rw [ents_get R.rows hp]
      rfl
    have spec := go_spec t R.tab.ris R.tab.dm (fun i => (es[i]?.map (·.1)).getD 0) h (10 * SetTable.turns t.mask) (K - c) _ (nth_clean t.mask c (startP t h) rfl) (by omega)
      (fun q hq => by rw [shj]; exact hKb (c + q) (by omega)) (by rw [shj, show c + (K - c) = K by omega]; exact hK)
    rcases spec with ⟨q, i, hq, hi, hhash, hno, hpr⟩ | ⟨hno, hpr⟩
    · have met : t.probe (fun i => (es[i]?.map (·.1)).getD 0) h (stand.getD (t.probeStart h)) = some (.candidate (way t.mask h (c + q)) i (nth t.mask (startP t h) (c + (q + 1)))) := by
        rw [hst, ← shj, ← sh]
        exact hpr
      rw [met]
      dsimp only
      rw [shj] at hi
      have hsz := R.tab.sz
      simp only [List.length_map] at hsz
      have hil : i < L.length := by
        have h1 := (List.getElem?_eq_some_iff.mp hi).1
        simp only [Array.length_toList] at h1
        omega
      obtain ⟨p, hp⟩ : ∃ p, L[i]? = some p := ⟨L[i], List.getElem?_eq_getElem hil⟩
      have hmem : p ∈ L := List.mem_of_getElem? hp
      have go : wpAny (model P w) A (searchRest a (.ref x) h true f es t (way t.mask h (c + q)) i (nth t.mask (startP t h) (c + (q + 1)))) Q E s := by
        unfold searchRest
        rw [ents_get R.rows hp]
        dsimp only
        refine wpAny_bind (wpAny_holding ((NK P w).eqBool hu (R.key p hmem) hx ?_))
        refine wpAny_bind (wpAny_setState_of ho hd R.fits ?_)
        dsimp only
        by_cases hkk : p.2 = k
        · refine wp_if_pos (by simp [hkk]) ?_
          exact wpAny_pure (hin (List.mem_map.mpr ⟨p, hmem, hkk⟩))
        · refine wp_if_neg (by simp [hkk]) ?_
          try refine wpAny_bind (wpAny_pure ?_)
          rw [sameMem]
          dsimp only
          have hsl : t.slot (way t.mask h (c + q)) = .live i := slot_live R.tab.ris hi
          simp only [if_true, hsl, ents_get R.rows hp]
          refine wpAny_bind (wpAny_isSame_ref_self (wpAny_bind (wpAny_pure ?_)))
          simp only [if_true]
          refine wp_if_neg (by simp [hkk]) ?_
          refine search_go R hx hu hh hKf hK hKb hin hout f (c + (q + 1)) _ rfl (by omega) (by omega) fun i0 p0 h0 hk0 => ?_
          obtain ⟨c', a1, a2, a3⟩ := hre i0 p0 h0 hk0
          refine ⟨c', ?_, a2, a3⟩
          rcases Nat.lt_trichotomy c' (c + q) with z | z | z
          · refine absurd ?_ (hno (c' - c) i0 (by omega) (by rw [shj, show c + (c' - c) = c' by omega]; exact a3))
            show (es[i0]?.map (·.1)).getD 0 = h
            rw [hat i0 p0 h0, hh, ← hk0]
            rfl
          · rw [z] at a3
            have s0 := slot_live R.tab.ris a3
            rw [hsl] at s0
            injection s0 with s0
            rw [← s0, hp] at h0
            cases h0
            exact absurd hk0 hkk
          · omega
      by_cases hl : t.led = true
      · refine wp_if_neg (by simp [hl]) ?_
        try refine wpAny_bind (wpAny_pure ?_)
        exact go
      · refine wp_if_pos (by simp [hl]) ?_
        refine wpAny_bind (seen_keys hx (fun y hy => ?_) ?_)
        · obtain ⟨e, he, ee⟩ := List.mem_map.mp hy
          have he1 : e ∈ es.toList := by
            have : e ∈ es ∧ e.1 = h := by simpa using he
            simpa using this.1
          rw [R.rows] at he1
          obtain ⟨p2, hp2, e2⟩ := List.mem_map.mp he1
          exact ⟨p2.2, p2.1, by rw [← ee, ← e2], R.key p2 hp2⟩
        · refine wp_if_neg (by decide) ?_
          try refine wpAny_bind (wpAny_pure ?_)
          exact go
    · have met : t.probe (fun i => (es[i]?.map (·.1)).getD 0) h (stand.getD (t.probeStart h)) = some (.empty (way t.mask h K) none) := by
        have e2 : way t.mask h K = (nth t.mask (nth t.mask (startP t h) c) (K - c)).j := by rw [shj, show c + (K - c) = K by omega]
        rw [hst, e2]
        exact hpr
      rw [met]
      dsimp only
      refine wpAny_pure (hout fun hm => ?_)
      obtain ⟨p0, h0, hk0⟩ := List.mem_map.mp hm
      obtain ⟨i0, hi0, e0⟩ := List.getElem_of_mem h0
      have h00 : L[i0]? = some p0 := by rw [List.getElem?_eq_getElem hi0, e0]
      obtain ⟨c', a1, a2, a3⟩ := hre i0 p0 h00 hk0
      refine hno (c' - c) i0 (by omega) (by rw [shj, show c + (c' - c) = c' by omega]; exact a3) ?_
      show (es[i0]?.map (·.1)).getD 0 = h
      rw [hat i0 p0 h00, hh, ← hk0]
      rfl
theorem search_add (R : SetN P w s.heap a L es ep t) {x : Addr} {k : NestedKey} (hx : (NK P w).is s.heap k x) (hu : (NK P w).room A) {Q : SetFound → Shared → Prop}
    (hin : k ∈ L.map (·.2) → Q (.there none) s)
    (hout : ∀ K, k ∉ L.map (·.2) → way t.mask (k.hash w) K ∉ t.place.toList → (∀ c, c < K → way t.mask (k.hash w) c ∈ t.place.toList) → Q (.free (way t.mask (k.hash w) K) false) s) :
    wpAny (model P w) A (setSearch a (.ref x) (k.hash w) true) Q E s := by
  have hroom := R.room
  obtain ⟨K, hKf, hK, hKb⟩ := R.tab.first (by rw [List.length_map]; omega) (k.hash w)
  have hbig : K < 100000 := by
    have : 10 * SetTable.turns t.mask ≤ 1420 := by
      unfold SetTable.turns
      rcases R.tab.mok with e | e | e <;> omega
    omega
  unfold setSearch
  refine search_go R hx hu rfl hKf hK hKb hin (fun hn => hout K hn hK hKb) 100000 0 none rfl (Nat.zero_le _) (by omega) fun i p hp hk => ?_
  have hi : (L.map (hsh w))[i]? = some (k.hash w) := by
    rw [List.getElem?_map, hp, ← hk]
    rfl
  have hsz := R.tab.sz
  simp only [List.length_map] at hsz
  have hil : i < t.place.toList.length := by
    have h1 := (List.getElem?_eq_some_iff.mp hp).1
    simp only [Array.length_toList]
    omega
  have hj := List.getElem?_eq_getElem hil
  obtain ⟨c, hc, e⟩ := R.tab.before hK hi hj
  exact ⟨c, Nat.zero_le _, hc, by rw [hj, e]⟩
end
end Dt

/-! Sets of tuples: adding. -/
namespace Dt
open PySem PySem.Spec PyProof.Rows L2
theorem key_same {P : Program} {w : World} {h h' : Heap} {k : NestedKey} {a b : Addr} {o : Obj} {es : Array (Int × Value)} {ep : Nat} {t : SetTable} (x : (NK P w).is h k b) (ho : h.get? a = some o) (hd : o.data = .set es ep t) (hs : Heap.SameBut a h h') : (NK P w).is h' k b :=
  ⟨NestedIs.at (fun c ob vs n hb hc => (hs.2 c fun e => by
    subst e
    rw [ho] at hb
    cases hb
    rw [hd] at hc
    cases hc).trans hb) _ _ x.1, x.2⟩
theorem key_keep {P : Program} {w : World} {h h' : Heap} {k : NestedKey} {b : Addr} (x : (NK P w).is h k b) (hk : ∀ c o, h.get? c = some o → h'.get? c = some o) : (NK P w).is h' k b :=
  ⟨NestedIs.at (fun c ob _ _ hb _ => hk c ob hb) _ _ x.1, x.2⟩
theorem tab_plain {t : SetTable} {hs : List Int} (T : TabOk t hs) (b : Bool) : TabOk { t with plain := b } hs := ⟨T.ris, T.dm, T.sz, T.mok, T.bd, T.reach⟩
theorem range_pick {α : Type} : ∀ L : List α, (List.range L.length).filterMap (fun i => L[i]?) = L
  | [] => rfl
  | x :: L => by
    rw [List.length_cons, List.range_succ_eq_map, List.filterMap_cons_some (show (x :: L)[0]? = some x from rfl), List.filterMap_map]
    exact congrArg (x :: ·) (range_pick L)
theorem picked {w : World} (L : List Row) (es : Array (Int × Value)) (order : Array Nat) (hr : es.toList = ents w L) (hp : order.toList.Perm (List.range L.length)) :
    ∃ L2, (order.filterMap (es[·]?)).toList = ents w L2 ∧ L2.Perm L ∧ L2.map (hsh w) = order.toList.map fun i => (es.map (·.1)).getD i 0 := by
  have go : ∀ l : List Nat, (∀ i ∈ l, i < L.length) → l.filterMap (fun i => es[i]?) = ents w (l.filterMap fun i => L[i]?) ∧ (l.filterMap fun i => L[i]?).map (hsh w) = l.map fun i => (es.map (·.1)).getD i 0 := by
    intro l
    induction l with
    | nil => exact fun _ => ⟨rfl, rfl⟩
    | cons i l ih =>
      intro hl
      obtain ⟨e1, e2⟩ := ih fun j hj => hl j (by simp [hj])
      have hi := hl i (by simp)
      have eL : L[i]? = some L[i] := List.getElem?_eq_getElem hi
      have eE := ents_get hr eL
      refine ⟨by rw [List.filterMap_cons_some eE, List.filterMap_cons_some eL, e1]; rfl, ?_⟩
      rw [List.filterMap_cons_some eL, List.map_cons, List.map_cons, e2]
      congr 1
      rw [Array.getD_eq_getD_getElem?, Array.getElem?_map, eE]
      rfl
  obtain ⟨e1, e2⟩ := go order.toList fun i hi => List.mem_range.mp (hp.mem_iff.mp hi)
  refine ⟨_, ?_, ?_, e2⟩
  · rw [Array.toList_filterMap]
    exact e1
  · have := hp.filterMap fun i => L[i]?
    rwa [range_pick] at this
section
variable {P : Program} {w : World} {A : Around} {E : Value → Shared → Prop} {s : Shared} {a : Addr} {L : List Row} {es : Array (Int × Value)} {ep : Nat} {t : SetTable}
/-- laid anew, larger -/
theorem relay_key {o : Obj} (ho : s.heap.get? a = some o) (hex : o.ExactSet) (hd : o.data = .set es ep t) (hrows : es.toList = ents w L) (hsz : t.place.size = es.size) (hdm : t.dummies = #[]) (hfl : es.size ≤ t.mask)
    (nd : (L.map (·.2)).Nodup) (key : ∀ p ∈ L, (NK P w).is s.heap p.2 p.1) (ld : w.params.followText "set-order" = true ∨ t.led = true) {wanted M : Nat}
    (hw : SetTable.sizeAbove wanted = M + 1) (hM : MaskOk M) (hM2 : M < 128) (hn : L.length * 5 < M * 3) {Q : Unit → Shared → Prop}
    (hQ : ∀ h' L' es' ep' t', Heap.SameBut a s.heap h' → SetN P w h' a L' es' ep' t' → L'.Perm L → Q () { s with heap := h' }) : wpAny (model P w) A (setRelay a wanted) Q E s := by
  have hsl : es.size = L.length := by
    have := congrArg List.length hrows
    simpa [ents] using this
  have hfits : t.fits es.size = true := by
    unfold SetTable.fits SetTable.fill
    rw [hdm, Bool.and_eq_true, beq_iff_eq, decide_eq_true_eq]
    exact ⟨hsz, by show t.place.size + 0 ≤ t.mask; omega⟩
  obtain ⟨t', order, e, hp, T, em, el, _, _⟩ := relaid_ok t (hs := es.map (·.1)) (wanted := wanted) (by rw [hw]; rfl) hM (by rw [Array.size_map, hsl]; omega)
  rw [Array.size_map, hsl] at hp
  obtain ⟨L2, r1, r2, r3⟩ := picked L es order hrows hp
  rw [← r3] at T
  have hs2 : (order.filterMap (es[·]?)).size = es.size := by
    have := congrArg List.length r1
    simp only [ents, List.length_map, r2.length_eq] at this
    rw [← hsl, Array.length_toList] at this
    exact this
  rw [setRelay_eq]
  refine wpAny_bind (wpAny_setState_of ho hd hfits ?_)
  dsimp only
  refine wp_if_neg (by rw [hw, sizeLine_eq]; omega) ?_
  try refine wpAny_bind (wpAny_pure ?_)
  rw [e]
  dsimp only
  refine wpAny_bind ?_
  refine wp_if_neg (by rw [hs2]; simp) ?_
  try refine wpAny_bind (wpAny_pure ?_)
  refine wpAny_pure ?_
  dsimp only
  refine wpAny_storeSet_of ho hd ?_ (by rw [hs2, hsl, sizeLine_eq]; omega)
  have sb : Heap.SameBut a s.heap (s.heap.update a (Obj.putSet (order.filterMap (es[·]?)) t')) := Heap.SameBut.update ..
  refine hQ _ L2 (order.filterMap (es[·]?)) (ep + 1) t' sb ?_ r2
  exact ⟨⟨_, store_at ho hd, ⟨hex.1, hex.2.1, hex.2.2⟩, rfl⟩, r1, T, (r2.map (·.2)).nodup_iff.mpr nd, fun p hpm => key_same (key p (r2.mem_iff.mp hpm)) ho hd sb, by rw [el]; exact ld, by rw [r2.length_eq, em]; exact hn⟩
theorem add_key (R : SetN P w s.heap a L es ep t) {x : Addr} {k : NestedKey} (hx : (NK P w).is s.heap k x) (hu : (NK P w).room A) (hfew : L.length + 1 ≤ 75) {Q : Bool → Shared → Prop}
    (hQ : ∀ b h' L' es' ep' t', Heap.SameBut a s.heap h' → SetN P w h' a L' es' ep' t' → (k ∈ L.map (·.2) → L' = L) → (k ∉ L.map (·.2) → L'.Perm ((x, k) :: L)) → Q b { s with heap := h' }) :
    wpAny (model P w) A (setAddHashed a (.ref x) (k.hash w)) Q E s := by
  obtain ⟨o, ho, hex, hd⟩ := R.ob
  have hsl := R.size
  have hroom := R.room
  unfold setAddHashed
  refine wpAny_holding ?_
  rw [show (100000 : Nat) = 99999 + 1 from rfl, setAddHashedIn_succ]
  refine wpAny_bind (wpAny_setState_of ho hd R.fits ?_)
  dsimp only
  refine wp_if_neg (by simp [byScan, Value.scannable]) ?_
  try refine wpAny_bind (wpAny_pure ?_)
  refine wpAny_bind (search_add R hx hu (fun hm => ?_) fun K hm hK hb => ?_)
  · dsimp only
    exact wpAny_pure (hQ false s.heap L es ep t (Heap.SameBut.refl a s.heap) R (fun _ => rfl) fun z => absurd hm z)
  · dsimp only
    refine wpAny_bind (wpAny_setState_of ho hd R.fits ?_)
    dsimp only
    obtain ⟨q1, q2, q3, q4, q5, q6, q7, q8, q9⟩ := R.tab.put hK hb
    generalize hpt : t.put (way t.mask (k.hash w) K) = pt at q1 q3 q4 q5 q6 q7 q8 q9 ⊢
    obtain ⟨t1, p⟩ := pt
    dsimp only at q1 q3 q4 q5 q6 q7 q8 q9 ⊢
    subst q1
    have hin : (SetTable.insertAt es (SetTable.below t.place (way t.mask (k.hash w) K)) (k.hash w, Value.ref x)).toList = ents w (L.take (SetTable.below t.place (way t.mask (k.hash w) K)) ++ (x, k) :: L.drop (SetTable.below t.place (way t.mask (k.hash w) K))) := by
      rw [SetTable.toList_insertAt, R.rows]
      simp [ents, hsh, List.map_take, List.map_drop]
    generalize hpp : SetTable.below t.place (way t.mask (k.hash w) K) = p at q2 q3 hin ⊢
    have pm : (L.take p ++ (x, k) :: L.drop p).Perm ((x, k) :: L) := put_perm L p (x, k)
    have hhs : (L.take p ++ (x, k) :: L.drop p).map (hsh w) = (L.map (hsh w)).take p ++ k.hash w :: (L.map (hsh w)).drop p := by
      simp [hsh, List.map_take, List.map_drop]
    rw [← hhs] at q3
    generalize L.take p ++ (x, k) :: L.drop p = L1 at pm q3 hin
    have hlen : L1.length = L.length + 1 := pm.length_eq
    have hes : (SetTable.insertAt es p (k.hash w, Value.ref x)).size = L.length + 1 := by
      have := congrArg List.length hin
      simpa [ents, hlen] using this
    generalize SetTable.insertAt es p (k.hash w, Value.ref x) = es1 at hin hes ⊢
    -- behind the word on the hash
    have tail : ∀ t1' : SetTable, TabOk t1' (L1.map (hsh w)) → t1'.mask = t.mask → t1'.led = t.led → t1'.tooFull = t1.tooFull →
        wpAny (model P w) A (do
          storeSet a es1 t1'
          if !false && t1'.tooFull then setRelay a (SetTable.grown (es.size + 1))
          return true) Q E s := by
      intro t2 T2 m2 l2 f2
      refine wpAny_bind (wpAny_storeSet_of ho hd ?_ (by rw [hes, sizeLine_eq]; omega))
      have sb : Heap.SameBut a s.heap (s.heap.update a (Obj.putSet es1 t2)) := Heap.SameBut.update ..
      have ho1 := store_at (es' := es1) (t' := t2) ho hd
      generalize s.heap.update a (Obj.putSet es1 t2) = h1 at sb ho1 ⊢
      have nd1 : (L1.map (·.2)).Nodup := by
        refine (pm.map (·.2)).nodup_iff.mpr ?_
        rw [List.map_cons]
        exact List.nodup_cons.mpr ⟨hm, R.nd⟩
      have key1 : ∀ p ∈ L1, (NK P w).is h1 p.2 p.1 := fun p hp => by
        rcases List.mem_cons.mp (pm.mem_iff.mp hp) with e | hp
        · rw [e]; exact key_same hx ho hd sb
        · exact key_same (R.key p hp) ho hd sb
      have ld1 : w.params.followText "set-order" = true ∨ t2.led = true := by rw [l2]; exact R.led
      by_cases hf : t1.tooFull = true
      · rw [← f2] at hf
        first
          | (refine wpAny_bind ?_; refine wp_if_pos (by simp [hf]) ?_)
          | (refine wp_if_pos (by simp [hf]) ?_; refine wpAny_bind ?_)
        have hfull : (L.length + 1) * 5 ≥ t.mask * 3 := by
          rw [f2] at hf
          unfold SetTable.tooFull at hf
          rw [decide_eq_true_eq, q9, List.length_map, q4] at hf
          exact hf
        rw [hsl]
        have hsz1 : t2.place.size = es1.size := by
          have := T2.sz
          rw [List.length_map, hlen] at this
          rw [this, hes]
        have two : (t.mask = 7 ∧ L.length = 4) ∨ (t.mask = 31 ∧ L.length = 18) := by
          rcases R.tab.mok with e | e | e
          · exact .inl ⟨e, by rw [e] at hfull hroom; omega⟩
          · exact .inr ⟨e, by rw [e] at hfull hroom; omega⟩
          · rw [e] at hfull; omega
        have go : ∀ M, SetTable.sizeAbove (SetTable.grown (L.length + 1)) = M + 1 → MaskOk M → M < 128 → (L.length + 1) * 5 < M * 3 →
            wpAny (model P w) A (setRelay a (SetTable.grown (L.length + 1))) (fun _ s' => wpAny (model P w) A (pure true) Q E s') E { s with heap := h1 } := fun M g1 g2 g3 g4 => by
          refine relay_key (s := { s with heap := h1 }) ho1 ⟨hex.1, hex.2.1, hex.2.2⟩ rfl hin hsz1 T2.dm (by rw [hes, m2]; rcases two with ⟨e, e2⟩ | ⟨e, e2⟩ <;> omega) nd1 key1 ld1 g1 g2 g3 (by rw [hlen]; exact g4) ?_
          intro h2 L2 es2 ep2 t2 sb2 R2 pm2
          exact wpAny_pure (hQ true h2 L2 es2 ep2 t2 (sb.trans sb2) R2 (fun z => absurd z hm) fun _ => pm2.trans pm)
        rcases two with ⟨_, e2⟩ | ⟨_, e2⟩
        · exact go 31 (by rw [e2, size_20]) (.inr (.inl rfl)) (by decide) (by omega)
        · exact go 127 (by rw [e2, size_76]) (.inr (.inr rfl)) (by decide) (by omega)
      · have hf2 := hf
        rw [← f2] at hf
        first
          | refine wp_if_neg (by simp [hf]) ?_
          | (refine wpAny_bind ?_; refine wp_if_neg (by simp [hf]) ?_; refine wpAny_pure ?_)
        refine wpAny_pure (hQ true h1 L1 es1 (ep + 1) t2 sb ⟨⟨_, ho1, ⟨hex.1, hex.2.1, hex.2.2⟩, rfl⟩, hin, T2, nd1, key1, ld1, ?_⟩ (fun z => absurd z hm) fun _ => pm)
        unfold SetTable.tooFull at hf2
        rw [decide_eq_true_eq, q9, List.length_map, q4] at hf2
        rw [hlen, m2]
        omega
    by_cases hpl : t1.plain = true
    · refine wp_if_pos hpl ?_
      refine wpAny_bind ?_
      refine byv_key _ _ _ _ _ hx.1 hx.2 fun b => ?_
      cases b
      · exact tail { t1 with plain := false } (tab_plain q3 false) q4 q5 rfl
      · exact tail t1 q3 q4 q5 rfl
    · refine wp_if_neg hpl ?_
      refine wpAny_bind ?_
      refine wpAny_pure ?_
      exact tail t1 q3 q4 q5 rfl
theorem setN_fresh {h : Heap} (ho : h.get? a = some { cls := .type "set", dict := none, data := .set #[] 0 (.fresh 0 0 (!w.params.followText "set-order")) }) : SetN P w h a [] #[] 0 (.fresh 0 0 (!w.params.followText "set-order")) where
  ob := ⟨_, ho, ⟨rfl, rfl, rfl⟩, rfl⟩
  rows := rfl
  tab := ⟨.nil, rfl, rfl, .inl rfl, fun x hx => (by cases hx), fun i h j hi => (by simp at hi)⟩
  nd := List.nodup_nil
  key := fun p hp => (by cases hp)
  led := by cases e : w.params.followText "set-order" <;> simp [SetTable.fresh]
  room := by
    show 0 * 5 < 7 * 3
    decide
theorem SetN.keep {h h' : Heap} (R : SetN P w h a L es ep t) (ha : ∀ o, h.get? a = some o → h'.get? a = some o) (hk : ∀ p ∈ L, (NK P w).is h' p.2 p.1) : SetN P w h' a L es ep t := by
  obtain ⟨o, ho, r⟩ := R.ob
  exact ⟨⟨o, ha o ho, r⟩, R.rows, R.tab, R.nd, hk, R.led, R.room⟩
end
end Dt

/-! Sets of whole numbers and texts: adding. -/
namespace Dt
open PySem PySem.Spec PyProof.Rows L2
section
variable {P : Program} {w : World} {A : Around} {E : Value → Shared → Prop} {s : Shared}
abbrev SRow := Value × Key
def sEnt (P : Program) (w : World) (p : SRow) : Int × Value := ((mixKind P w).hash p.2, p.1)
def SOk (P : Program) (w : World) (p : SRow) : Prop := (mixKind P w).is p.2 p.1 = true ∧ p.1.scannable = true
structure SetS (P : Program) (w : World) (h : Heap) (a : Addr) (L : List SRow) (es : Array (Int × Value)) (ep : Nat) (t : SetTable) : Prop where
  ob : ∃ o, h.get? a = some o ∧ o.ExactSet ∧ o.data = .set es ep t
  rows : es.toList.Perm (L.map (sEnt P w))
  nd : (L.map (·.2)).Nodup
  key : ∀ p ∈ L, SOk P w p
  led : w.params.followText "set-order" = true ∨ t.led = true
  fits : t.fits es.size = true
  ris : Ris t.place.toList
  few : L.length < scanBound
variable {a : Addr} {L : List SRow} {es : Array (Int × Value)} {ep : Nat} {t : SetTable}
theorem SetS.size {h : Heap} (R : SetS P w h a L es ep t) : es.size = L.length := by
  have := R.rows.length_eq
  simpa using this
theorem rows_elems {es : List (Int × Value)} (hr : es.Perm (L.map (sEnt P w))) (hk : ∀ p ∈ L, SOk P w p) : ElemsOf (mixKind P w) es := fun e he => by
  obtain ⟨p, hp, rfl⟩ := List.mem_map.mp (hr.mem_iff.mp he)
  exact ⟨⟨p.2, (hk p hp).1, rfl⟩, (hk p hp).2⟩
/-- stored, and laid anew where it is too full -/
theorem addS_tail {g : Bool → Sem Unit} (hg : ∀ (b : Bool) (s₁ : Shared) (Q' : Unit → Shared → Prop), Q' () s₁ → wpAny (model P w) A (g b) Q' E s₁) {o : Obj} (ho : s.heap.get? a = some o) (hex : o.ExactSet) (hd : o.data = .set es ep t)
    {es1 : Array (Int × Value)} {t2 : SetTable} (rows : es1.toList.Perm (L.map (sEnt P w))) (nd : (L.map (·.2)).Nodup) (key : ∀ p ∈ L, SOk P w p) (few : L.length < scanBound) (fits : t2.fits es1.size = true) (ris : Ris t2.place.toList)
    (led : w.params.followText "set-order" = true ∨ t2.led = true) {wasDummy : Bool} {R : Option Bool → Shared → Prop} (hR : ∀ h' es' ep' t', Heap.SameBut a s.heap h' → SetS P w h' a L es' ep' t' → R (some true) { s with heap := h' }) :
    wpAny (model P w) A (do
        storeSet a es1 t2
        if (!wasDummy && t2.tooFull) = true then do
            g (relayAll t2 es1 (SetTable.grown es1.size)).2.2
            storeSet a (relayAll t2 es1 (SetTable.grown es1.size)).1 (relayAll t2 es1 (SetTable.grown es1.size)).2.1
            pure (some true)
          else pure (some true)) R E s := by
  have hz : es1.size < scanBound := by
    have := rows.length_eq
    simp only [Array.length_toList, List.length_map] at this
    omega
  refine wpAny_bind (wpAny_storeSet_of ho hd ?_ (fits_of_scanBound hz))
  have ho1 := store_at (es' := es1) (t' := t2) ho hd
  have sb1 := Heap.SameBut.update s.heap a (Obj.putSet es1 t2)
  split
  · have pm := relayAll_perm t2 es1 (SetTable.grown es1.size)
    have f3 := relayAll_fits t2 es1 (SetTable.grown es1.size)
    have r3 := relayAll_ris t2 es1 (SetTable.grown es1.size)
    have l3 := relayAll_led t2 es1 (SetTable.grown es1.size)
    generalize relayAll t2 es1 (SetTable.grown es1.size) = Z at pm f3 r3 l3 ⊢
    obtain ⟨es2, t3, gave⟩ := Z
    dsimp only at pm f3 r3 l3 ⊢
    have hz2 : es2.size < scanBound := by
      have := pm.length_eq
      simp only [Array.length_toList] at this
      omega
    refine wpAny_bind (hg _ _ _ ?_)
    refine wpAny_bind (wpAny_storeSet_of ho1 rfl ?_ (fits_of_scanBound hz2))
    have ho2 := store_at (es' := es2) (t' := t3) ho1 rfl
    exact wpAny_pure (hR _ _ _ _ (sb1.trans (Heap.SameBut.update _ a _)) ⟨⟨_, ho2, hex, rfl⟩, pm.trans rows, nd, key, led.imp id fun z => by rw [l3]; exact z, f3, r3, few⟩)
  · exact wpAny_pure (hR _ _ _ _ sb1 ⟨⟨_, ho1, hex, rfl⟩, rows, nd, key, led, fits, ris, few⟩)
theorem add_scan (R : SetS P w s.heap a L es ep t) {x : Value} {k : Key} (hx : SOk P w (x, k)) (room : L.length + 1 < scanBound) {Q : Bool → Shared → Prop}
    (hQ : ∀ b h' L' es' ep' t', Heap.SameBut a s.heap h' → SetS P w h' a L' es' ep' t' → (k ∈ L.map (·.2) → L' = L) → (k ∉ L.map (·.2) → L'.Perm ((x, k) :: L)) → Q b { s with heap := h' }) :
    wpAny (model P w) A (setAddHashed a x ((mixKind P w).hash k)) Q E s := by
  obtain ⟨o, ho, hex, hd⟩ := R.ob
  have hel := rows_elems R.rows R.key
  have hz : es.size < scanBound := by rw [R.size]; omega
  unfold setAddHashed setAddHashedIn
  refine wpAny_holding (wpAny_bind (wpAny_setState_of ho hd R.fits ?_))
  dsimp only
  rw [byScan_of hx.2 hz hel]
  simp only [↓reduceIte]
  unfold setAddByScan
  refine wpAny_bind ?_
  refine wpAny_bind (wpAny_rule ?_)
  refine wpAny_bind (wpAny_setScan_of hx.1 ho hd R.fits hel ?_)
  have isk : ∀ p ∈ L, ((mixKind P w).is k p.1 = true ↔ p.2 = k) := fun p hp => ⟨fun h => (mixKind P w).inj _ _ _ (R.key p hp).1 h, fun h => by rw [← h]; exact (R.key p hp).1⟩
  cases hfi : List.findIdx? (fun e => (mixKind P w).is k e.2) es.toList with
  | some j =>
    dsimp only
    obtain ⟨hj, pj, _⟩ := List.findIdx?_eq_some_iff_getElem.mp hfi
    obtain ⟨p, hp, e⟩ := List.mem_map.mp (R.rows.mem_iff.mp (List.getElem_mem hj))
    rw [← e] at pj
    have hm : k ∈ L.map (·.2) := List.mem_map.mpr ⟨p, hp, (isk p hp).mp pj⟩
    exact wpAny_pure (wpAny_pure (hQ false s.heap L es ep t (Heap.SameBut.refl a s.heap) R (fun _ => rfl) fun z => absurd hm z))
  | none =>
    dsimp only
    have hm : k ∉ L.map (·.2) := fun z => by
      obtain ⟨p, hp, e⟩ := List.mem_map.mp z
      have c := List.findIdx?_eq_none_iff.mp hfi _ (R.rows.mem_iff.mpr (List.mem_map.mpr ⟨p, hp, rfl⟩))
      rw [show (mixKind P w).is k (sEnt P w p).2 = true from (isk p hp).mpr e] at c
      cases c
    have hgw : ∀ (b : Bool) {s₁ : Shared} {Q' : Unit → Shared → Prop}, Q' () s₁ → wpAny (model P w) A (match b with | true => rule "set.scan.the-table-gave-way" | false => pure ()) Q' E s₁ :=
      fun b s₁ Q' q => by cases b <;> first | exact wpAny_pure q | exact wpAny_rule q
    have pm := layNew_perm t es ((mixKind P w).hash k) x
    have f1 := layNew_fits t es ((mixKind P w).hash k) x
    have r1 := layNew_ris t es ((mixKind P w).hash k) x R.ris
    have l1 := layNew_led t es ((mixKind P w).hash k) x
    generalize layNew t es ((mixKind P w).hash k) x = Z at pm f1 r1 l1 ⊢
    obtain ⟨es1, t1, wasDummy, gave⟩ := Z
    dsimp only at pm f1 r1 l1 ⊢
    rw [Array.toList_push] at pm
    have rows1 : es1.toList.Perm (((x, k) :: L).map (sEnt P w)) := pm.trans ((List.perm_append_singleton _ _).trans (R.rows.cons _))
    have nd1 : (((x, k) :: L).map (·.2)).Nodup := by
      rw [List.map_cons]
      exact List.nodup_cons.mpr ⟨hm, R.nd⟩
    have key1 : ∀ p ∈ (x, k) :: L, SOk P w p := fun p hp => by
      rcases List.mem_cons.mp hp with e | hp
      · rw [e]; exact hx
      · exact R.key p hp
    have led1 : w.params.followText "set-order" = true ∨ t1.led = true := R.led.imp id fun z => by rw [l1]; exact z
    have fin : ∀ h' es' ep' t', Heap.SameBut a s.heap h' → SetS P w h' a ((x, k) :: L) es' ep' t' → Q true { s with heap := h' } := fun h' es' ep' t' sb r => hQ true h' _ es' ep' t' sb r (fun z => absurd z hm) fun _ => .refl _
    have room1 : ((x, k) :: L).length < scanBound := room
    refine wpAny_bind (hgw _ ?_)
    split
    · refine wpAny_bind ?_
      rw [hashByValue_scannable 8 hx.2]
      refine wpAny_pure ?_
      refine addS_tail (L := (x, k) :: L) ?_ ho hex hd rows1 nd1 key1 room1 ?_ ?_ ?_ ?_
      · intro b s₁ Q' q
        cases b <;> first | exact wpAny_pure q | exact wpAny_rule q
      · first | (split <;> first | exact f1 | exact SetTable.fits_plain_off f1) | exact f1
      · first | (split <;> exact r1) | exact r1
      · first | (split <;> exact led1) | exact led1
      · intro h' es' ep' t' sb r
        dsimp only
        exact wpAny_pure (fin h' es' ep' t' sb r)
    · refine wpAny_bind (wpAny_pure ?_)
      simp only [↓reduceIte]
      refine addS_tail (L := (x, k) :: L) ?_ ho hex hd rows1 nd1 key1 room1 f1 r1 led1 ?_
      · intro b s₁ Q' q
        cases b <;> first | exact wpAny_pure q | exact wpAny_rule q
      · intro h' es' ep' t' sb r
        dsimp only
        exact wpAny_pure (fin h' es' ep' t' sb r)
theorem setS_fresh {h : Heap} (ho : h.get? a = some { cls := .type "set", dict := none, data := .set #[] 0 (.fresh 0 0 (!w.params.followText "set-order")) }) : SetS P w h a [] #[] 0 (.fresh 0 0 (!w.params.followText "set-order")) where
  ob := ⟨_, ho, ⟨rfl, rfl, rfl⟩, rfl⟩
  rows := .refl _
  nd := List.nodup_nil
  key := fun p hp => (by cases hp)
  led := by cases e : w.params.followText "set-order" <;> simp [SetTable.fresh]
  fits := rfl
  ris := .nil
  few := by decide
theorem SetS.keep {h h' : Heap} (R : SetS P w h a L es ep t) (ha : ∀ o, h.get? a = some o → h'.get? a = some o) : SetS P w h' a L es ep t := by
  obtain ⟨o, ho, r⟩ := R.ob
  exact ⟨⟨o, ha o ho, r⟩, R.rows, R.nd, R.key, R.led, R.fits, R.ris, R.few⟩

/-! both kinds at once: the set at a holds the rows L (values, keys) -/
/-- a member: a number, a text or a tuple, as the key k -/
def EltK (P : Program) (w : World) (h : Heap) (tup : Bool) (v : Value) (k : NestedKey) : Prop :=
  if tup = true then ∃ b, v = .ref b ∧ (NK P w).is h k b else (∃ i tk, v = .int i tk ∧ k = .num i) ∨ ∃ x tk, v = .str x tk ∧ k = .text x
abbrev GRow := Value × NestedKey
def keyN : Key → NestedKey
  | .inl i => .num i
  | .inr x => .text x
theorem keyN_inj {a b : Key} (h : keyN a = keyN b) : a = b := by
  cases a <;> cases b <;> simp [keyN] at h <;> rw [h]
def SetG (P : Program) (w : World) (h : Heap) (tup : Bool) (a : Addr) (L : List GRow) : Prop :=
  if tup = true then ∃ L0 es ep t, SetN P w h a L0 es ep t ∧ L = L0.map fun p => (Value.ref p.1, p.2) else ∃ L0 es ep t, SetS P w h a L0 es ep t ∧ L = L0.map fun p => (p.1, keyN p.2)
theorem eltK_keep {h h' : Heap} {tup : Bool} {v : Value} {k : NestedKey} (x : EltK P w h tup v k) (hk : ∀ c o, h.get? c = some o → h'.get? c = some o) : EltK P w h' tup v k := by
  unfold EltK at x ⊢
  cases tup
  · exact x
  · simp only [if_true] at x ⊢
    obtain ⟨b, e, x⟩ := x
    exact ⟨b, e, key_keep x hk⟩
theorem setG_fresh {h : Heap} {tup : Bool} (ho : h.get? a = some { cls := .type "set", dict := none, data := .set #[] 0 (.fresh 0 0 (!w.params.followText "set-order")) }) : SetG P w h tup a [] := by
  unfold SetG
  cases tup
  · exact ⟨[], _, _, _, setS_fresh ho, rfl⟩
  · exact ⟨[], _, _, _, setN_fresh ho, rfl⟩
theorem setG_nd {h : Heap} {tup : Bool} {L : List GRow} (R : SetG P w h tup a L) : (L.map (·.2)).Nodup := by
  unfold SetG at R
  cases tup
  · simp only [Bool.false_eq_true, if_false] at R
    obtain ⟨L0, es, ep, t, R, rfl⟩ := R
    rw [List.map_map]
    have := R.nd
    rw [show (fun p : GRow => p.2) ∘ (fun p : SRow => (p.1, keyN p.2)) = keyN ∘ (fun p : SRow => p.2) from rfl, ← List.map_map]
    exact List.Pairwise.map _ (fun _ _ hne e => hne (keyN_inj e)) this
  · simp only [if_true] at R
    obtain ⟨L0, es, ep, t, R, rfl⟩ := R
    rw [List.map_map]
    exact R.nd
theorem setG_at {h : Heap} {tup : Bool} {L : List GRow} (R : SetG P w h tup a L) : ∃ es ep t, SetAt h a es ep t ∧ (∃ o, h.get? a = some o ∧ o.ExactSet ∧ o.data = .set es ep t) ∧ t.fits es.size = true ∧ Ris t.place.toList ∧ (w.params.followText "set-order" = true ∨ t.led = true) ∧ es.size < scanBound ∧ (es.toList.map (·.2)).Perm (L.map (·.1)) ∧ es.size = L.length := by
  unfold SetG at R
  cases tup
  · simp only [Bool.false_eq_true, if_false] at R
    obtain ⟨L0, es, ep, t, R, rfl⟩ := R
    obtain ⟨o, ho, hex, hd⟩ := R.ob
    have hs := R.size
    have hf := R.few
    refine ⟨es, ep, t, ⟨o, ho, hex.1, hd⟩, ⟨o, ho, hex, hd⟩, R.fits, R.ris, R.led, by omega, ?_, by simpa using hs⟩
    have := R.rows.map (·.2)
    rw [List.map_map] at this ⊢
    exact this
  · simp only [if_true] at R
    obtain ⟨L0, es, ep, t, R, rfl⟩ := R
    obtain ⟨o, ho, hex, hd⟩ := R.ob
    have hs := R.size
    have hf := R.few
    refine ⟨es, ep, t, ⟨o, ho, hex.1, hd⟩, ⟨o, ho, hex, hd⟩, R.fits, R.tab.ris, R.led, by unfold scanBound; omega, ?_, by simpa using hs⟩
    rw [R.rows]
    simp only [ents, List.map_map]
    exact .refl _
theorem setG_elt {h : Heap} {tup : Bool} {L : List GRow} (R : SetG P w h tup a L) : ∀ p ∈ L, EltK P w h tup p.1 p.2 := by
  unfold SetG at R
  unfold EltK
  cases tup
  · simp only [Bool.false_eq_true, if_false] at R ⊢
    obtain ⟨L0, es, ep, t, R, rfl⟩ := R
    intro p hp
    obtain ⟨q, hq, rfl⟩ := List.mem_map.mp hp
    obtain ⟨v, k⟩ := q
    have h1 : keyIs k v = true := (R.key _ hq).1
    rcases keyIs_shape h1 with ⟨i, tk, rfl, rfl⟩ | ⟨x, tk, rfl, rfl⟩
    · exact .inl ⟨i, tk, rfl, rfl⟩
    · exact .inr ⟨x, tk, rfl, rfl⟩
  · simp only [if_true] at R ⊢
    obtain ⟨L0, es, ep, t, R, rfl⟩ := R
    intro p hp
    obtain ⟨q, hq, rfl⟩ := List.mem_map.mp hp
    exact ⟨q.1, rfl, R.key q hq⟩
end
end Dt

/-! set(a list). -/
namespace Dt
open PySem PySem.Spec PyProof.Rows L2
section
variable {P : Program} {w : World} {A : Around} {E : Value → Shared → Prop} {s : Shared} {a : Addr} {L : List GRow} {tup : Bool}
theorem addG {v : Value} {k : NestedKey} (R : SetG P w s.heap tup a L) (hx : EltK P w s.heap tup v k) (hu : A.units + 8 < cLine) (few : L.length + 1 ≤ 75) {Q : Bool → Shared → Prop}
    (hQ : ∀ b h' tk L', s.toks ≤ tk → Heap.SameBut a s.heap h' → SetG P w h' tup a L' → (k ∈ L.map (·.2) → L' = L) → (k ∉ L.map (·.2) → L'.Perm ((v, k) :: L)) → Q b { s with heap := h', toks := tk }) :
    wpAny (model P w) A (setAdd a v) Q E s := by
  unfold setAdd
  refine wpAny_holding ?_
  unfold SetG at R
  unfold EltK at hx
  cases tup
  · simp only [Bool.false_eq_true, if_false] at R hx
    obtain ⟨L0, es, ep, t, R, rfl⟩ := R
    have main : ∀ k0 : Key, SOk P w (v, k0) → k = keyN k0 → wpAny (model P w) A (do setAddHashed a v (← pyHash v)) Q E s := by
      rintro k0 ok rfl
      refine wpAny_bind ((mixKind P w).pyHash ok.1 ?_)
      refine add_scan (s := { s with toks := s.toks + 1 }) (R.keep fun _ e => e) ok (by unfold scanBound; simp at few; omega) fun b h' L' es' ep' t' sb R' c1 c2 => ?_
      have hin : keyN k0 ∈ (L0.map fun p => (p.1, keyN p.2)).map (·.2) ↔ k0 ∈ L0.map (·.2) := by
        rw [List.map_map, show (fun p : GRow => p.2) ∘ (fun p : SRow => (p.1, keyN p.2)) = keyN ∘ (fun p : SRow => p.2) from rfl, ← List.map_map]
        exact ⟨fun h => by
          obtain ⟨k1, h1, e⟩ := List.mem_map.mp h
          rw [← keyN_inj e]; exact h1, fun h => List.mem_map.mpr ⟨_, h, rfl⟩⟩
      refine hQ b h' _ (L'.map fun p => (p.1, keyN p.2)) (Nat.le_add_right _ _) sb (by unfold SetG; simp only [Bool.false_eq_true, if_false]; exact ⟨L', es', ep', t', R', rfl⟩) (fun h => by rw [c1 (hin.mp h)]) fun h => ?_
      exact (c2 fun z => h (hin.mpr z)).map _
    rcases hx with ⟨i, tk, rfl, rfl⟩ | ⟨x, tk, rfl, rfl⟩
    · exact main (.inl i) ⟨keyIs_int i tk, rfl⟩ rfl
    · exact main (.inr x) ⟨keyIs_str x tk, rfl⟩ rfl
  · simp only [if_true] at R hx
    obtain ⟨L0, es, ep, t, R, rfl⟩ := R
    obtain ⟨b, rfl, hb⟩ := hx
    refine wpAny_bind ((NK P w).pyHash hu hb ?_)
    refine add_key (s := { s with toks := s.toks + (NK P w).draws k }) (R.keep (fun _ e => e) R.key) hb hu (by simpa using few) fun b' h' L' es' ep' t' sb R' c1 c2 => ?_
    have hin : k ∈ (L0.map fun p => (Value.ref p.1, p.2)).map (·.2) ↔ k ∈ L0.map (·.2) := by
      rw [List.map_map]
      exact Iff.rfl
    exact hQ b' h' _ (L'.map fun p => (Value.ref p.1, p.2)) (Nat.le_add_right _ _) sb (by unfold SetG; simp only [if_true]; exact ⟨L', es', ep', t', R', rfl⟩) (fun h => by rw [c1 (hin.mp h)]) fun h => (c2 fun z => h (hin.mpr z)).map _

/-- what the first i items have brought in -/
structure GotG (ks : List GRow) (i : Nat) (L : List GRow) : Prop where
  sub : ∀ p ∈ L, p ∈ ks.take i
  all : ∀ p ∈ ks.take i, p.2 ∈ L.map (·.2)
  len : L.length ≤ i
theorem GotG.zero (ks : List GRow) : GotG ks 0 [] := ⟨by simp, by simp, Nat.le_refl _⟩
theorem GotG.step {ks L L' : List GRow} {i : Nat} {x : GRow} (g : GotG ks i L) (h : ks[i]? = some x) (c1 : x.2 ∈ L.map (·.2) → L' = L) (c2 : x.2 ∉ L.map (·.2) → L'.Perm (x :: L)) : GotG ks (i + 1) L' := by
  have ht : ks.take (i + 1) = ks.take i ++ [x] := by rw [List.take_succ, h]; rfl
  by_cases hm : x.2 ∈ L.map (·.2)
  · rw [c1 hm]
    refine ⟨fun p hp => by rw [ht]; exact List.mem_append_left _ (g.sub p hp), fun p hp => ?_, Nat.le_succ_of_le g.len⟩
    rw [ht] at hp
    rcases List.mem_append.mp hp with z | z
    · exact g.all p z
    · rw [List.mem_singleton.mp z]; exact hm
  · have pm := c2 hm
    refine ⟨fun p hp => ?_, fun p hp => ?_, by rw [pm.length_eq, List.length_cons]; exact Nat.succ_le_succ g.len⟩
    · rw [ht]
      rcases List.mem_cons.mp (pm.mem_iff.mp hp) with e | z
      · rw [e]; simp
      · exact List.mem_append_left _ (g.sub p z)
    · rw [(pm.map (·.2)).mem_iff, List.map_cons]
      rw [ht] at hp
      rcases List.mem_append.mp hp with z | z
      · exact List.mem_cons_of_mem _ (g.all p z)
      · rw [List.mem_singleton.mp z]; simp
theorem SetG.keep {h h' : Heap} (R : SetG P w h tup a L) (ha : ∀ o, h.get? a = some o → h'.get? a = some o) (hk : ∀ p ∈ L, EltK P w h' tup p.1 p.2) : SetG P w h' tup a L := by
  unfold SetG at R ⊢
  cases tup
  · simp only [Bool.false_eq_true, if_false] at R ⊢
    obtain ⟨L0, es, ep, t, R, rfl⟩ := R
    exact ⟨L0, es, ep, t, R.keep ha, rfl⟩
  · simp only [if_true] at R ⊢
    obtain ⟨L0, es, ep, t, R, rfl⟩ := R
    refine ⟨L0, es, ep, t, R.keep ha fun p hp => ?_, rfl⟩
    have := hk _ (List.mem_map.mpr ⟨p, hp, rfl⟩)
    unfold EltK at this
    simp only [if_true] at this
    obtain ⟨b, e, z⟩ := this
    cases e
    exact z
/-- set.update's loop over anything that is walked -/
theorem updateG {I : Addr} {fp wr : List Addr} {G : Array GenState → Array GenState → Prop} {n : Nat} {Pv : Nat → Value → Prop} {St : Nat → Shared → Prop} {R : Result → Shared → Prop}
    (W : WalksS P w A.in1 I fp wr G n Pv St) (S : Addr) (hSf : S ∉ fp) (ks : List GRow) (hn : n = ks.length) (hfew : ks.length ≤ 75) (hval : ∀ i v, Pv i v → ∃ p, ks[i]? = some p ∧ v = p.1)
    (h0 : Heap) (hk : ∀ p ∈ ks, EltK P w h0 tup p.1 p.2) (hS0 : h0.get? S = none) (hw0 : ∀ b ∈ wr, h0.get? b = none) (hu : A.in1.units + 8 < cLine) :
    ∀ (k i : Nat) (s : Shared), n - i = k → i ≤ n → St i s → (∀ b o, h0.get? b = some o → s.heap.get? b = some o) → (∃ L, SetG P w s.heap tup S L ∧ GotG ks i L) →
      (∀ s' L, Moved (S :: wr) G s s' → SetG P w s'.heap tup S L → GotG ks n L → (∀ b o, h0.get? b = some o → s'.heap.get? b = some o) → R (.ok (.ret .none)) s') →
      codeAny (model P w) A (.builtin "set.update.loop" ⟨[.ref S, .ref I], []⟩) R s := by
  have hSw : S ∉ wr := fun h => hSf (W.sub _ h)
  have hsub : ∀ b ∈ wr, b ∈ S :: wr := fun b hb => List.mem_cons_of_mem _ hb
  have keepM : ∀ {s s' : Shared}, Moved wr G s s' → (∀ b o, h0.get? b = some o → s.heap.get? b = some o) → ∀ b o, h0.get? b = some o → s'.heap.get? b = some o := fun hm hkp b o e =>
    hm.heap b o (fun hb => by rw [hw0 b hb] at e; cases e) (hkp b o e)
  have inKs : ∀ {L : List GRow} {i : Nat}, GotG ks i L → ∀ p ∈ L, p ∈ ks := fun g p hp => List.mem_of_mem_take (g.sub p hp)
  intro k
  induction k with
  | zero =>
    intro i s hk' hi hst hkp ⟨L, hS, g⟩ hR
    obtain rfl : i = n := by omega
    refine codeAny_builtin F.entry_set_update_loop ?_
    rw [Around.under_plainId F.plain_set_update_loop _]
    show wpAny _ A.in1 (pyNext (.ref I) >>= _) _ _ s
    refine wpAny_bind (W.done s _ _ hst fun s' hm => ?_)
    have hkp' := keepM hm hkp
    exact wpAny_pure (hR s' L (hm.mono hsub) (hS.keep (fun o e => hm.heap S o hSw e) fun p hp => eltK_keep (hk p (inKs g p hp)) hkp') g hkp')
  | succ k ih =>
    intro i s hk' hi hst hkp ⟨L, hS, g⟩ hR
    have hlt : i < n := by omega
    refine codeAny_builtin F.entry_set_update_loop ?_
    rw [Around.under_plainId F.plain_set_update_loop _]
    show wpAny _ A.in1 (pyNext (.ref I) >>= _) _ _ s
    refine wpAny_bind (W.item i s _ _ hlt hst fun v s' hP hst' hm => ?_)
    obtain ⟨p, hp, rfl⟩ := hval i v hP
    have hkp' := keepM hm hkp
    have hS' : SetG P w s'.heap tup S L := hS.keep (fun o e => hm.heap S o hSw e) fun q hq => eltK_keep (hk q (inKs g q hq)) hkp'
    have hx : EltK P w s'.heap tup p.1 p.2 := eltK_keep (hk p (List.mem_of_getElem? hp)) hkp'
    show wpAny _ A.in1 (holding [p.1] (setAdd S p.1) >>= _) _ _ s'
    refine wpAny_bind (wpAny_holding ?_)
    refine addG hS' hx hu (by have := g.len; omega) fun b h' tk L' htk hsb hS2 c1 c2 => ?_
    have hkp2 : ∀ b o, h0.get? b = some o → h'.get? b = some o := fun b o e => (hsb.2 b (fun z => by rw [z, hS0] at e; cases e)).trans (hkp' b o e)
    refine wpAny_pure ⟨plainId_quiet F.plain_set_update_loop _, ih (i + 1) _ (by omega) hlt (W.frame _ s' _ _ hst' htk fun b hb o e => ?_) hkp2 ⟨L', hS2, g.step hp c1 c2⟩ fun s'' L2 hm'' hS'' g'' hkp'' => ?_⟩
    · rw [hsb.2 b (fun h : b = S => hSf (by rw [← h]; exact hb))]
      exact e
    · refine hR s'' L2 (Moved.trans W.gtrans ((hm.mono hsub).then_heap htk fun b o hb e => ?_) hm'') hS'' g'' hkp''
      rw [hsb.2 b (fun h : b = S => hb (by rw [h]; exact List.mem_cons_self))]
      exact e
abbrev newSet (w : World) : Obj := { cls := .type "set", dict := none, data := .set #[] 0 (.fresh 0 0 (!w.params.followText "set-order")) }
set_option maxRecDepth 100000 in
/-- set(l), l a list -/
theorem call_setG {l : Addr} {items : Array Value} (ks : List GRow) {Q : Value → Shared → Prop} (hh : A.handled = none) (hl : s.heap.IsList l items) (hit : items.toList = ks.map (·.1))
    (hk : ∀ p ∈ ks, EltK P w s.heap tup p.1 p.2) (hfew : ks.length ≤ 75) (hu : A.units + 12 < cLine)
    (h : ∀ (h' : Heap) (tk : Nat) L, SetG P w h' tup s.heap.objs.size L → GotG ks ks.length L → (∀ b o, s.heap.get? b = some o → h'.get? b = some o) → Q (.ref s.heap.objs.size) { s with heap := h', toks := tk }) :
    wpAny (model P w) A (call (.type "set") [.ref l]) Q E s := by
  have hisz : items.size = ks.length := by
    have q := congrArg List.length hit
    simpa using q
  obtain ⟨c, tl, hmro⟩ := F.called_set.mro
  have hmade := F.called_set.made
  have hsub := F.called_set.sub
  refine wpAny_call (codeAny_of_tree ?_)
  show wpAny _ _ (callAny (.type "set") _) _ _ _
  refine wpAny_pure ⟨Code.quiet_builtin _ (by decide +kernel), codeAny_builtin F.entry_type_call ?_⟩
  rw [Around.under_plain (weight_type_call_type "set" [.ref l] []) rfl]
  have h1 := F.called_set.notType
  have h2 := F.called_set.canCreate
  have hct := F.typeCall_set_1 (.ref l)
  repeat (any_goals (first | assumption | wp_step))
  refine codeAny_mono (code_set_led1 (.ref l) (E := E) (Q₁ := fun obj s₁ => obj = .ref s.heap.objs.size ∧ s₁ = { s with heap := s.heap.push (newSet w) }) ⟨rfl, rfl⟩) fun r s₁ hr => ?_
  cases r with
  | error e => exact hr
  | ok fl =>
    cases fl with
    | ret obj =>
      obtain ⟨rfl, rfl⟩ := hr
      have hS : (s.heap.push (newSet w)).get? s.heap.objs.size = some (newSet w) := Heap.get?_push_size _ rfl
      have hT : Shared.TypeIs { s with heap := s.heap.push (newSet w) } (.ref s.heap.objs.size) "set" := ⟨_, hS, rfl⟩
      have hli := F.called_set.init.lookup
      have hbi := F.called_set.init.bind (.ref s.heap.objs.size)
      repeat (any_goals (first | assumption | wp_step))
      refine codeAny_mono (codeAny_call_builtin (R := wants (fun r s₂ => r = .none ∧ ∃ h' tk L, s₂ = { s with heap := h', toks := tk } ∧ SetG P w h' tup s.heap.objs.size L ∧ GotG ks ks.length L ∧
          (∀ b o, s.heap.get? b = some o → h'.get? b = some o)) E) F.called_set.init.plain F.entry_set_init (check_set_init_1 hT ?_)) fun r₂ s₂ hr₂ => ?_
      · obtain ⟨ol, hol, hcl, nl, hdl⟩ := hl
        obtain ⟨ocls, odict, odata, oslots⟩ := ol
        simp only at hcl hdl
        subst hcl; subst hdl
        have hol' : (s.heap.push (newSet w)).get? l = some { cls := .type "list", dict := odict, data := .seq items nl, slots := oslots } := Heap.get?_push_of_some _ hol
        have hsls := F.sub_list_set
        have hslf := F.sub_list_frozenset
        have hne : (Value.type "list" == Value.type "dict") = false := by decide
        have hl1 : (s.heap.push (newSet w)).IsList l items := ⟨_, hol', rfl, nl, rfl⟩
        unfold Builtin.«set.__init__» noKeywords Builtin.Frozenset.updateFrom
        generalize hPI : pyIter = PI
        wp_walk
        subst hPI
        refine wpAny_pyIter_list hl1 ?_
        refine wpAny_bind (wpAny_runValue ?_)
        have hlS : l < s.heap.objs.size := Heap.lt_size hol
        have hh3 : A.in1.in1.in1.handled = none := by simp [hh]
        have hz1 : (s.heap.push (newSet w)).objs.size = s.heap.objs.size + 1 := Heap.size_push ..
        have hneI : l ≠ (s.heap.push (newSet w)).objs.size := by
          rw [hz1]; exact Nat.ne_of_lt (Nat.lt_succ_of_lt hlS)
        have hSf : s.heap.objs.size ∉ [(s.heap.push (newSet w)).objs.size, l] := by
          rw [hz1]; simp only [List.mem_cons, List.not_mem_nil, or_false, not_or]
          exact ⟨Nat.ne_of_lt (Nat.lt_succ_self _), Nat.ne_of_gt hlS⟩
        have hval : ∀ (i : Nat) (v : Value), items[i]? = some v → ∃ p, ks[i]? = some p ∧ v = p.1 := fun i v hv => by
          have q : items.toList[i]? = some v := by rw [Array.getElem?_toList]; exact hv
          rw [hit, List.getElem?_map] at q
          cases hq : ks[i]? with
          | none => rw [hq] at q; cases q
          | some p =>
            rw [hq] at q
            exact ⟨p, rfl, (Option.some.inj q).symm⟩
        have none_of : ∀ b, s.heap.objs.size ≤ b → s.heap.get? b = none := fun b hb => by
          cases q : s.heap.get? b with
          | none => rfl
          | some o => exact absurd (Nat.lt_of_lt_of_le (Heap.lt_size q) hb) (Nat.lt_irrefl _)
        refine updateG ((Walks.list hh3 _ l hneI items).toS) s.heap.objs.size
          hSf ks hisz hfew hval s.heap hk (none_of _ (Nat.le_refl _)) (fun b hb => none_of b (by
            rw [List.mem_singleton.mp hb, hz1]
            exact Nat.le_succ _)) (by show A.units + 1 + 1 + 1 + 8 < cLine; omega) (items.size - 0) 0 _ (by omega) (Nat.zero_le _)
          ⟨⟨_, Heap.get?_push_size _ rfl, rfl, rfl⟩, (hl1.push _)⟩ (fun b o e => Heap.get?_push_of_some _ (Heap.get?_push_of_some _ e)) ⟨[], setG_fresh (Heap.get?_push_of_some _ hS), GotG.zero ks⟩ ?hR
        case hR =>
          intro s' L hm hS' g' hkp
          obtain ⟨h', g2, d', tk', os'⟩ := s'
          have eg : g2 = s.gens := hm.gens
          have ed : d' = s.drawn := hm.drawn
          have eo : os' = s.os := hm.os
          subst eg; subst ed; subst eo
          show wpAny _ _ _ _ _ _
          refine wpAny_pure ?_
          show wpAny _ _ (ret Value.none) _ _ _
          rw [hisz] at g'
          exact wpAny_pure ⟨rfl, h', tk', L, rfl, hS', g', hkp⟩
      · cases r₂ with
        | error e => exact hr₂
        | ok fl₂ =>
          cases fl₂ with
          | ret r =>
            obtain ⟨rfl, h', tk, L, rfl, hS', g', hk'⟩ := hr₂
            repeat (any_goals (first | assumption | wp_step))
            exact h _ _ _ hS' g' hk'
          | _ => exact hr₂.elim
    | _ => exact hr.elim
end
end Dt

/-! The object of a set, without its members' own facts. -/
namespace Dt
open PySem PySem.Spec PyProof.Rows L2
def SetGo (P : Program) (w : World) (tup : Bool) (a : Addr) (L : List GRow) (h : Heap) : Prop :=
  if tup = true then ∃ L0 es ep t, ((∃ o, h.get? a = some o ∧ o.ExactSet ∧ o.data = .set es ep t) ∧ es.toList = ents w L0 ∧ TabOk t (L0.map (hsh w)) ∧ (L0.map (·.2)).Nodup ∧ (w.params.followText "set-order" = true ∨ t.led = true) ∧ L0.length * 5 < t.mask * 3) ∧ L = L0.map fun p => (Value.ref p.1, p.2)
  else ∃ L0 es ep t, SetS P w h a L0 es ep t ∧ L = L0.map fun p => (p.1, keyN p.2)
section
variable {P P' : Program} {w : World} {tup : Bool} {a : Addr} {L : List GRow} {h h' : Heap}
theorem SetG.toGo (R : SetG P w h tup a L) : SetGo P w tup a L h := by
  unfold SetG at R
  unfold SetGo
  cases tup
  · simpa using R
  · simp only [if_true] at R ⊢
    obtain ⟨L0, es, ep, t, R, e⟩ := R
    exact ⟨L0, es, ep, t, ⟨R.ob, R.rows, R.tab, R.nd, R.led, R.room⟩, e⟩
theorem SetGo.full (R : SetGo P w tup a L h) (hk : ∀ p ∈ L, EltK P w h tup p.1 p.2) : SetG P w h tup a L := by
  unfold SetGo at R
  unfold SetG
  cases tup
  · simpa using R
  · simp only [if_true] at R ⊢
    obtain ⟨L0, es, ep, t, ⟨a1, a2, a3, a4, a5, a6⟩, rfl⟩ := R
    refine ⟨L0, es, ep, t, ⟨a1, a2, a3, a4, fun p hp => ?_, a5, a6⟩, rfl⟩
    have := hk _ (List.mem_map.mpr ⟨p, hp, rfl⟩)
    unfold EltK at this
    simp only [if_true] at this
    obtain ⟨b, e, z⟩ := this
    cases e
    exact z
theorem SetGo.prog (R : SetGo P w tup a L h) : SetGo P' w tup a L h := by
  unfold SetGo at R ⊢
  cases tup
  · simp only [Bool.false_eq_true, if_false] at R ⊢
    obtain ⟨L0, es, ep, t, R, e⟩ := R
    exact ⟨L0, es, ep, t, ⟨R.ob, R.rows, R.nd, R.key, R.led, R.fits, R.ris, R.few⟩, e⟩
  · exact R
theorem SetGo.at (R : SetGo P w tup a L h) (ha : ∀ o, h.get? a = some o → h'.get? a = some o) : SetGo P w tup a L h' := by
  unfold SetGo at R ⊢
  cases tup
  · simp only [Bool.false_eq_true, if_false] at R ⊢
    obtain ⟨L0, es, ep, t, R, e⟩ := R
    exact ⟨L0, es, ep, t, R.keep ha, e⟩
  · simp only [if_true] at R ⊢
    obtain ⟨L0, es, ep, t, ⟨⟨o, ho, a1⟩, a2⟩, e⟩ := R
    exact ⟨L0, es, ep, t, ⟨⟨o, ha o ho, a1⟩, a2⟩, e⟩
theorem SetGo.ob (R : SetGo P w tup a L h) : ∃ o, h.get? a = some o := by
  unfold SetGo at R
  cases tup
  · simp only [Bool.false_eq_true, if_false] at R
    obtain ⟨L0, es, ep, t, R, e⟩ := R
    obtain ⟨o, ho, _⟩ := R.ob
    exact ⟨o, ho⟩
  · simp only [if_true] at R
    obtain ⟨L0, es, ep, t, ⟨⟨o, ho, a1⟩, a2⟩, e⟩ := R
    exact ⟨o, ho⟩
/-- of one kind: a tuple, or a number or text -/
def EltV (tup : Bool) (x : V) (k : NestedKey) : Prop := if tup = true then ∃ b, x = .ref b else (∃ i, x = .int i ∧ k = .num i) ∨ ∃ t, x = .str t ∧ k = .text t
/-- the set at a: its members, their keys, in some order -/
def setObj (w : World) (tup : Bool) (a : Addr) (xs : List V) (ks : List NestedKey) (h : Heap) : Prop :=
  ∃ (P : Program) (L rows : List GRow), SetGo P w tup a L h ∧ rows.Perm L ∧ Vals xs (rows.map (·.1)) ∧ rows.map (·.2) = ks ∧ ∀ z ∈ xs.zip ks, EltV tup z.1 z.2 ∧ z.2.depth ≤ 8
def setHO (w : World) (tup : Bool) (a : Addr) (xs : List V) (ks : List NestedKey) : HO := .ext fun h => setObj w tup a xs ks h
theorem setHO_new {Q : Program} {H : Hp} {xs : List V} {ks : List NestedKey} (R : setObj w tup a xs ks h) : ObjOk Q w H h a (setHO w tup a xs ks) := by
  obtain ⟨P, L, rows, g, r⟩ := id R
  refine ⟨R, g.ob, fun h1 h2 p k => ?_⟩
  obtain ⟨P, L, rows, g, r⟩ := p
  exact ⟨P, L, rows, g.at k, r⟩
end
end Dt

/-! Sorting tuples of which some may be empty. -/
namespace Dt
noncomputable section
open PySem PySem.W PySem.SeqAt PySem.Calls PyProof.Rows
section
variable {prog : Program} {w : World} {A : Around} {E : Value → Shared → Prop} {s : Shared}
theorem call_tuple_lt {Q : Value → Shared → Prop} {l b : Addr} {items items2 : Array Value} {e r : Nat → Bool} (hl : s.heap.IsTuple l items) (hb : s.heap.IsTuple b items2)
    (he : ∀ j (h1 : j < items.size) (h2 : j < items2.size), SeqAt.EqAt A.in1 s items[j] items2[j] (e j)) (hr : ∀ j (h1 : j < items.size) (h2 : j < items2.size), e j = false → SeqAt.RcLt A.in1 s items[j] items2[j] (r j))
    (h : Q (.bool (SeqAt.firstLt e r (decide (items.size < items2.size)) (List.range (min items.size items2.size)))) s) : wpAny (model prog w) A (call (.builtin "tuple.__lt__") [.ref l, .ref b]) Q E s := by
  obtain ⟨⟨cls, dd, data, sl⟩, ho, hc, n, hd⟩ := id hl
  obtain ⟨⟨cls2, dd2, data2, sl2⟩, ho2, hc2, n2, hd2⟩ := id hb
  simp only at hc hd hc2 hd2
  subst hc hd hc2 hd2
  exact call_meets F.slot_tuple_lt ⟨_, ho, rfl⟩ F.entry_tuple_lt (F.args_tuple_lt_2 _ _) (SeqAt.tuple_ltAt l b items items2 n n2 dd dd2 sl sl2 e r) ⟨ho, ho2, he, hr, h⟩
theorem oneLt_tup {f : Bool} {xs ys : List PyData} {a b : Value} {as bs : List Addr} {Q : Bool → Shared → Prop} (ra : Reads s.heap a (.tuple xs) as) (rb : Reads s.heap b (.tuple ys) bs) (h : alike (.tuple xs) (.tuple ys) = true)
    (hu : A.units + min (PyData.tuple xs).depth (PyData.tuple ys).depth < cLine) (hq : Q (dataLt (.tuple xs) (.tuple ys)) s) : wpAny (model prog w) A (oneLt' f a b) Q E s := by
  cases f with
  | false => exact oneLt_alike (f := false) (fun z => by cases z) ra rb h (fun z => by cases z) hu hq
  | true =>
    have hal : alikeAll xs ys = true := by simpa [alike] using h
    cases ra with
    | @tuple l o vs n _ as₁ h1 h2 h3 h4 =>
      cases rb with
      | @tuple l' o' vs' n' _ bs₁ k1 k2 k3 k4 =>
        have n1 : vs.size = xs.length := by simpa using SeqAt.ReadsAll.length _ _ _ h4
        have n2 : vs'.size = ys.length := by simpa using SeqAt.ReadsAll.length _ _ _ k4
        rw [dataLt_tuple, ← firstLt_toks xs ys hal, ← n1, ← n2] at hq
        rw [oneLt'_eq]
        simp only [if_true]
        refine wpAny_bind (wpAny_cRoomFor (SeqAt.room_here hu) ?_)
        refine wpAny_bind (wpAny_callSpecialIfBound?_slot (T := "tuple") ⟨_, h1, h2⟩ F.slot_tuple_lt (call_tuple_lt (e := pairEq xs ys) (r := fun j => dataLt (xs.getD j .none) (ys.getD j .none)) ⟨_, h1, h2, _, h3⟩ ⟨_, k1, k2, _, k3⟩ (fun j j1 j2 => ?_) (fun j j1 j2 hj => ?_) ?_))
        · have := eqAt_alikeAll xs ys A.in1 s vs.toList vs'.toList _ _ h4 k4 hal (SeqAt.room_in hu) j (by simpa using j1) (by simpa using j2)
          simpa using this
        · have := rcLt_alikeAll xs ys A.in1 s vs.toList vs'.toList _ _ h4 k4 hal (SeqAt.room_in hu) j (by simpa using j1) (by simpa using j2) hj
          simpa using this
        · exact wpAny_truthy_bool hq
/-- the first items, where there are any -/
theorem firsts_of {M : Model} {A : Around} {E : Value → Shared → Prop} : ∀ {vs : List Value} {ds : List PyData} {Q : List (Option Value) → Shared → Prop}, EachIs (fun v d => ∃ as, Reads s.heap v d as) vs ds → (∀ d ∈ ds, ∃ xs, d = .tuple xs) →
    (∀ rs : List (Option Value), EachIs (fun (r : Option Value) d => r.isSome = true ↔ d ≠ .tuple []) rs ds → Q rs s) → wpAny M A (vs.mapM firstOfTuple') Q E s
  | _, _, Q, .nil, _, h => by
    rw [List.mapM_nil]
    exact wpAny_pure (h [] .nil)
  | v :: vs, d :: ds, Q, .cons ⟨as, r⟩ t, ht, h => by
    obtain ⟨xs, rfl⟩ := ht d (by simp)
    cases r with
    | @tuple a o items n _ _ ho hc hd hr =>
      rw [List.mapM_cons]
      refine wpAny_bind ?_
      rw [kas_first_eq]
      refine wpAny_bind (Looks.here (show Looks M s.heap (typeOf (.ref a)) o.cls from (Looks.ld ho).andThen .now) ?_)
      rw [hc, if_neg (by first | decide | simp)]
      refine wpAny_bind (listItems_at ho hd (wpAny_pure ?_))
      refine wpAny_bind (firsts_of (ds := ds) (Q := fun bs s' => wpAny M A (pure (items[0]? :: bs)) Q E s') t (fun d hd => ht d (by simp [hd])) fun rs e => wpAny_pure (h _ (.cons ?_ e)))
      have hl : items.size = xs.length := by simpa using SeqAt.ReadsAll.length _ _ _ hr
      cases xs with
      | nil =>
        have : items.size = 0 := hl
        simp [this]
      | cons x xs =>
        have : 0 < items.size := by rw [hl]; simp
        simp [this]
theorem each_some {rs : List (Option Value)} {ds : List PyData} (e : EachIs (fun (r : Option Value) d => r.isSome = true ↔ d ≠ .tuple []) rs ds) (h : .tuple [] ∈ ds) : (rs.toArray.all fun x => x.isSome) = false := by
  rw [Bool.eq_false_iff]
  intro q
  simp only [List.all_toArray, List.all_eq_true] at q
  have : ∀ {rs : List (Option Value)} {ds : List PyData}, EachIs (fun (r : Option Value) d => r.isSome = true ↔ d ≠ .tuple []) rs ds → .tuple [] ∈ ds → (∀ r ∈ rs, r.isSome = true) → False := by
    intro rs ds e
    induction e with
    | nil => intro h; simp at h
    | cons h t ih =>
      intro hm q
      rcases List.mem_cons.mp hm with z | z
      · exact (h.mp (q _ (by simp))) z.symm
      · exact ih z fun r hr => q r (by simp [hr])
  exact this e h q
/-- the kind of keys, tuples, one of them empty -/
theorem kind_of {vs : List Value} {ds : List PyData} {Q : SortKind → Shared → Prop} (e : EachIs (fun v d => ∃ as, Reads s.heap v d as) vs ds) (ht : ∀ d ∈ ds, ∃ xs, d = .tuple xs) (he : .tuple [] ∈ ds)
    (h1 : ds.head? = some (.tuple []) → Q oneType' s) (h2 : ds.head? ≠ some (.tuple []) → Q general' s) : wpAny (model prog w) A (keyKind' vs.toArray) Q E s := by
  rw [keyKind'_eq, List.mapM_toArray, map_eq_pure_bind]
  refine wpAny_bind (wpAny_bind (firsts_of e ht fun rs er => wpAny_pure ?_))
  rw [if_neg (by rw [each_some er he]; simp)]
  cases ds with
  | nil => simp at he
  | cons d ds =>
    cases er with
    | @cons r _ rs _ hr ers =>
      have h0 : (r :: rs).toArray[0]? = some r := by simp
      rw [h0]
      by_cases hd : d = .tuple []
      · have hn : r.isSome = false := by
          rw [Bool.eq_false_iff]
          exact fun z => hr.mp z hd
        rw [if_neg (by
          show ¬ ((some r).bind id).isSome = true
          simp [hn])]
        subst hd
        cases e with
        | @cons v _ vs _ hv ev =>
          have hT : ∀ u ∈ v :: vs, Looks (model prog w) s.heap (typeOf u) (.type "tuple") := fun u hu => by
            obtain ⟨d', hd', as, r'⟩ := (EachIs.cons hv ev).left u hu
            obtain ⟨xs, rfl⟩ := ht d' hd'
            exact looks_reads r'
          rw [oneTypeOnly'_eq, List.mapM_toArray, map_eq_pure_bind]
          refine wpAny_bind (wpAny_bind (wpAny_bind (kas_mapM (r := Value.type "tuple") _ (fun v hv Q' hq => (hT v hv).here hq) (wpAny_pure ?_))))
          have hall : ((List.map (fun _ => Value.type "tuple") (v :: vs)).toArray.all fun x => x == Value.type "tuple") = true := by
            simp only [List.all_toArray, List.all_map, List.all_eq_true]
            intro _ _
            exact beq_self_eq_true _
          have h0' : (List.map (fun _ => Value.type "tuple") (v :: vs)).toArray[0]? = some (Value.type "tuple") := by simp
          rw [h0']
          simp only [hall, if_true]
          exact wpAny_pure (wpAny_pure (h1 rfl))
      · have hs : r.isSome = true := hr.mpr hd
        rw [if_pos (by
          show ((some r).bind id).isSome = true
          simpa using hs)]
        exact wpAny_pure (h2 fun z => hd (by simpa using z))
/-- tuples all, or no tuples and no None -/
def SortableT (ds : List PyData) : Prop := (∀ d, d ∈ ds → ∃ xs, d = .tuple xs) ∨ ∀ d, d ∈ ds → d ≠ .none ∧ ∀ xs, d ≠ .tuple xs
open Classical in
theorem sortsT {vs : List Value} {ds : List PyData} (e : EachIs (fun v d => ∃ as, Reads s.heap v d as) vs ds) (hal : AllAlike ds) (hk : SortableT ds) (hu : ∀ d, d ∈ ds → A.units + d.depth < cLine) : SortsAt prog w A s (dataKind s.heap ds) vs := by
  rcases hk with hk | hk
  · by_cases he : .tuple [] ∈ ds
    · refine ⟨fun v hv => ?_, if ds.head? = some (.tuple []) then oneType' else general', ?_, fun h2 E Q hq => ?_⟩
      · obtain ⟨d, hd, as, r⟩ := e.left v hv
        exact ⟨_, dataKind_some hal hd r⟩
      · intro E x y a b Q ha hb hq
        obtain ⟨d, as, hd, ra, rfl⟩ := dataKind_inv ha
        obtain ⟨d', as', hd', rb, rfl⟩ := dataKind_inv hb
        obtain ⟨xs, rfl⟩ := hk d hd
        obtain ⟨ys, rfl⟩ := hk d' hd'
        have hr : A.units + min (PyData.tuple xs).depth (PyData.tuple ys).depth < cLine := Nat.lt_of_le_of_lt (Nat.add_le_add_left (Nat.min_le_left _ _) _) (hu _ hd)
        split
        · rw [keyLt'_oneType]
          exact oneLt_tup ra rb (hal _ hd _ hd') hr hq
        · exact oneLt_tup (f := false) ra rb (hal _ hd _ hd') hr hq
      · exact kind_of e hk he (fun z => by rw [if_pos z] at hq; exact hq) (fun z => by rw [if_neg z] at hq; exact hq)
    · refine SortsAt.data e hal (.inl fun d hd => ?_) hu
      obtain ⟨xs, rfl⟩ := hk d hd
      cases xs with
      | nil => exact (he hd).elim
      | cons x r => exact ⟨x, r, rfl⟩
  · exact SortsAt.data e hal (.inr hk) hu
theorem sorted_dataT {β : Type} {vs : List Value} {bs : List β} {enc : β → PyData} {R : Value → β → Prop} {l : Addr} {Q : Value → Shared → Prop} (hl : s.heap.IsList l vs.toArray) (e : EachIs R vs bs) (er : EachIs (fun v b => ∃ as, Reads s.heap v (enc b) as) vs bs) (hal : AllAlike (bs.map enc)) (hk : SortableT (bs.map enc)) (hL : bs.length ≤ sizeLine)
    (hu : ∀ b, b ∈ bs → A.units + 2 + (enc b).depth < cLine) (h : ∀ out, out.length = bs.length → EachIs R out (bs.mergeSort (dataLe false enc)) → Q (.ref (s.heap.objs.size + 1)) { s with heap := sortedAll s.heap vs (List.toArray out) }) :
    wpAny (model prog w) A (call (.builtin "sorted") [.ref l]) Q E s := by
  have er' : EachIs (fun v b => ∃ as, Reads (sortingHeap (copyHeap s.heap vs) (s.heap.objs.size + 1) vs) v (enc b) as) vs bs := er.mono fun _ _ ⟨as, r⟩ => ⟨as, PyProof.Rows.Reads.keeps (fun _ _ => sorting_copy_old) r⟩
  exact sorted_vals hl (sortsT (s := { s with heap := sortingHeap (copyHeap s.heap vs) (s.heap.objs.size + 1) vs }) (each_map (R := fun v d => ∃ as, Reads (sortingHeap (copyHeap s.heap vs) (s.heap.objs.size + 1) vs) v d as) enc er') hal hk (bound_map hu)) (by rw [e.length]; exact hL)
    (h _ (by rw [sortVals_length false rfl]; exact e.length) (sortVals_data false e er' hal))
end
end
end Dt

/-! Data without a heap, and which heap objects stand for which data. -/
namespace Dt
open PySem PySem.Spec PyProof.Rows L2

/-- a value of Python's as data: c of an instance is its class's number, a field is known by its number -/
inductive D where
  | non
  | bl (b : Bool)
  | int (i : Int)
  | str (x : List Nat)
  | tup (xs : List D)
  | lst (xs : List D)
  | dct (kvs : List (D × D))
  | set (xs : List D)
  | ins (c : Nat) (fs : List (Nat × D))
  | ty (n : String)
  | cls (c : Nat)
  deriving Inhabited

/-- how far a value is owned: fz: shared, never changed again; no: nothing is known of it; adr: its object is owned, what stands there is not told;
lst c, dct c, set: a list, a dict that is owned here, its items (values) as c says; ins cs: an instance, its fields in order -/
inductive Sh where
  | no
  | fz
  | adr
  | lst (c : Sh)
  | dct (c : Sh)
  | ins (cs : List Sh)
  | set (tup : Bool)
  | tab
  deriving Inhabited

/-- a claim: the value v stands for d, owned as sh says -/
structure Cl where
  sh : Sh
  v : V
  d : D

/-- what is fixed through a program: the written part, the world, the classes' addresses, the fields' names -/
structure Gm where
  K : PySem.W.Frag
  w : World
  cls : Nat → Addr
  fld : Nat → Str
  inj : ∀ i j, fld i = fld j → i = j
  tabs : List Addr

def KTup (K : PySem.W.Frag) (a : Addr) (xs : List V) : Prop :=
  ∃ (o : Obj) (its : Array Value) (n : Nat), K.lookup a = some o ∧ o.cls = .type "tuple" ∧ o.data = .seq its n ∧ its.size ≤ sizeLine ∧ Vals xs its.toList
def KLst (K : PySem.W.Frag) (a : Addr) (xs : List V) : Prop :=
  ∃ (o : Obj) (its : Array Value) (n : Nat), K.lookup a = some o ∧ o.cls = .type "list" ∧ o.dict = none ∧ o.data = .seq its n ∧ its.size ≤ sizeLine ∧ Vals xs its.toList
def TupAt (G : Gm) (N : Addr → Prop) (H : Hp) (a : Addr) (xs : List V) : Prop := (Rd H a (.tup xs) ∧ N a) ∨ KTup G.K a xs
def LstAt (G : Gm) (N : Addr → Prop) (H : Hp) (a : Addr) (xs : List V) : Prop := (Rd H a (.lst xs) ∧ N a) ∨ KLst G.K a xs

/-! dicts and sets: by the keys, which are ints and texts, or tuples of any of these -/
def keyL : D → Option Key
  | .int i => some (.inl i)
  | .str x => some (.inr ⟨x.toArray⟩)
  | _ => none
mutual
def nkey : D → Option NestedKey
  | .non => some .none
  | .bl b => some (.num (if b = true then 1 else 0))
  | .int i => some (.num i)
  | .str x => some (.text ⟨x.toArray⟩)
  | .tup xs => match nkeys xs with
    | some ks => some (.tup ks)
    | none => none
  | _ => none
def nkeys : List D → Option (List NestedKey)
  | [] => some []
  | x :: xs => match nkey x, nkeys xs with
    | some k, some ks => some (k :: ks)
    | _, _ => none
end
/-- an entry: the key, its value, what stands under it -/
structure En where
  k : D
  kv : V
  v : V
/-- the object of a dict whose keys are tuples -/
def dctObj (w : World) (es : List En) (o : Obj) : Prop :=
  o.ExactDict ∧ ∃ (ents : Array DictEntry) (ep : Nat) (ks : List NestedKey), o.data = .dict ents ep ∧ ks.Nodup ∧
    Paired (fun (e : En × NestedKey) (x : DictEntry) => nkey e.1.k = some e.2 ∧ x.hash = e.2.hash w ∧ RelV e.1.kv x.key ∧ RelV e.1.v x.val) (es.zip ks) ents.toList ∧ es.length = ks.length
def dctHO (w : World) (a : Addr) (es : List En) : HO := .ext fun h => ∃ o, h.get? a = some o ∧ dctObj w es o
/-- o at a is a dict of the entries es -/
def DctO (G : Gm) (a : Addr) (o : HO) (es : List En) : Prop := (es.map En.k).Nodup ∧ (
  (∃ ks : List (Key × V), o = .dK ks ∧ Paired (fun (e : En) (x : Key × V) => keyL e.k = some x.1 ∧ e.kv = kV x.1 ∧ e.v = x.2) es ks) ∨
  (o = dctHO G.w a es ∧ (a == sysModules) = false ∧ es.length ≤ sizeLine ∧ es ≠ [] ∧ ∀ e ∈ es, ∃ xs, e.k = .tup xs))

mutual
/-- v stands for d; nothing at an address outside N is looked at -/
inductive RF (G : Gm) (N : Addr → Prop) (H : Hp) : V → D → Prop
  | non : RF G N H .non .non
  | bl (b) : RF G N H (.bl b) (.bl b)
  | int (i) : RF G N H (.int i) (.int i)
  | str (x) : RF G N H (.str x) (.str x.cps.toList)
  | ty (n) : RF G N H (.ty n) (.ty n)
  | cls (c) : RF G N H (.ref (G.cls c)) (.cls c)
  | tup {a vs ds} : TupAt G N H a vs → RFs G N H vs ds → RF G N H (.ref a) (.tup ds)
  | lst {a vs ds} : LstAt G N H a vs → RFs G N H vs ds → RF G N H (.ref a) (.lst ds)
  | dct {a o es ds} : H a = some o → N a → DctO G a o es → RFs G N H (es.map En.kv) (es.map En.k) → RFs G N H (es.map En.v) ds → RF G N H (.ref a) (.dct ((es.map En.k).zip ds))
  | set {a tup vs ks ds} : H a = some (setHO G.w tup a vs ks) → N a → nkeys ds = some ks → RFs G N H vs ds → RF G N H (.ref a) (.set ds)
  | ins {a c dx vs ds} {ids : List Nat} : H a = some (.ins (G.cls c) dx ((ids.map G.fld).zip vs)) → N a → RFs G N H vs ds → ids.length = ds.length → RF G N H (.ref a) (.ins c (ids.zip ds))
inductive RFs (G : Gm) (N : Addr → Prop) (H : Hp) : List V → List D → Prop
  | nil : RFs G N H [] []
  | cons {v d vs ds} : RF G N H v d → RFs G N H vs ds → RFs G N H (v :: vs) (d :: ds)
end
/-- at P stands a table of code objects, or (d: the field's number, its value) the dict of an exception -/
def TabX (G : Gm) (H : Hp) (P : Addr) (d : D) : Prop := (d = .non ∧ GxR.TabG H P) ∨ ∃ (f : Nat) (x : D) (v : V), d = .tup [.int f, x] ∧ (match x with
  | .int i => some (V.int i)
  | .str x => some (.str ⟨x.toArray⟩)
  | _ => none) = some v ∧ H P = some (.xd [(G.fld f, v)])
theorem TabX.there {G : Gm} {H : Hp} {P : Addr} {d : D} (h : TabX G H P d) : ∃ o, H P = some o := by
  rcases h with ⟨_, ps, h, _⟩ | ⟨_, _, _, _, _, h⟩
  · exact ⟨_, h⟩
  · exact ⟨_, h⟩
theorem TabX.keep {G : Gm} {H H' : Hp} {P : Addr} {d : D} (h : TabX G H P d) (k : ∀ o, H P = some o → H' P = some o) : TabX G H' P d := by
  rcases h with ⟨e, ps, h, t⟩ | ⟨f, x, v, e, e', h⟩
  · exact .inl ⟨e, ps, k _ h, t⟩
  · exact .inr ⟨f, x, v, e, e', k _ h⟩
mutual
/-- v stands for d, owned as the shape says; the owned addresses -/
inductive RT (G : Gm) (N : Addr → Prop) (H : Hp) : Sh → V → D → List Addr → Prop
  | no {v d} : RT G N H .no v d []
  | fz {v d} : RF G N H v d → RT G N H .fz v d []
  | adr {a d o} : H a = some o → RT G N H .adr (.ref a) d [a]
  | lst {a c L fp} : H a = some (.lst (L.map Cl.v)) → RTs G N H L fp → (∀ t ∈ L, t.sh = c) → RT G N H (.lst c) (.ref a) (.lst (L.map Cl.d)) (a :: fp)
  | dct {a o c es L fp} : H a = some o → DctO G a o es → RFs G N H (es.map En.kv) (es.map En.k) → RTs G N H L fp → L.map Cl.v = es.map En.v → (∀ t ∈ L, t.sh = c) → RT G N H (.dct c) (.ref a) (.dct ((es.map En.k).zip (L.map Cl.d))) (a :: fp)
  | ins {a c dx L fp} {ids : List Nat} : H a = some (.ins (G.cls c) dx ((ids.map G.fld).zip (L.map Cl.v))) → RTs G N H L fp → ids.length = L.length → RT G N H (.ins (L.map Cl.sh)) (.ref a) (.ins c (ids.zip (L.map Cl.d))) (a :: fp)
  | set {a tup vs ks ds} : H a = some (setHO G.w tup a vs ks) → nkeys ds = some ks → RFs G N H vs ds → RT G N H (.set tup) (.ref a) (.set ds) [a]
  | tab {P d} : TabX G H P d → RT G N H .tab (.ref P) d [P]
inductive RTs (G : Gm) (N : Addr → Prop) (H : Hp) : List Cl → List Addr → Prop
  | nil : RTs G N H [] []
  | cons {t L f1 f2} : RT G N H t.sh t.v t.d f1 → RTs G N H L f2 → RTs G N H (t :: L) (f1 ++ f2)
end

section
variable {G : Gm} {N N' : Addr → Prop} {H H' : Hp}
theorem Rd.mono {a : Addr} {u : HO} (r : Rd H a u) (n : N a) (e : ∀ a o, H a = some o → N a → H' a = some o) : Rd H' a u := by
  rcases r with r | ⟨o, r⟩
  · exact .inl (e _ _ r n)
  · exact .inr ⟨o, e _ _ r n⟩
theorem Rd.some {a : Addr} {u : HO} (r : Rd H a u) : ∃ o, H a = some o := by
  rcases r with r | ⟨o, r⟩
  · exact ⟨_, r⟩
  · exact ⟨_, r⟩
/-- what stands outside is kept, what was allowed stays allowed -/
structure Kp (N N' : Addr → Prop) (H H' : Hp) : Prop where
  keep : ∀ a o, H a = some o → N a → H' a = some o
  ok : ∀ a o, H a = some o → N a → N' a
theorem TupAt.mono {a xs} (k : Kp N N' H H') (h : TupAt G N H a xs) : TupAt G N' H' a xs := by
  rcases h with ⟨r, n⟩ | h
  · obtain ⟨o, e⟩ := Rd.some r
    exact .inl ⟨Rd.mono r n k.keep, k.ok a o e n⟩
  · exact .inr h
theorem LstAt.mono {a xs} (k : Kp N N' H H') (h : LstAt G N H a xs) : LstAt G N' H' a xs := by
  rcases h with ⟨r, n⟩ | h
  · obtain ⟨o, e⟩ := Rd.some r
    exact .inl ⟨Rd.mono r n k.keep, k.ok a o e n⟩
  · exact .inr h
mutual
theorem RF.mono (k : Kp N N' H H') : ∀ {v d}, RF G N H v d → RF G N' H' v d
  | _, _, .non => .non
  | _, _, .bl b => .bl b
  | _, _, .int i => .int i
  | _, _, .str x => .str x
  | _, _, .ty x => .ty x
  | _, _, .cls x => .cls x
  | _, _, .tup h r => .tup (h.mono k) (RFs.mono k r)
  | _, _, .lst h r => .lst (h.mono k) (RFs.mono k r)
  | _, _, .dct h n e r q => .dct (k.keep _ _ h n) (k.ok _ _ h n) e (RFs.mono k r) (RFs.mono k q)
  | _, _, .set h n e r => .set (k.keep _ _ h n) (k.ok _ _ h n) e (RFs.mono k r)
  | _, _, .ins h n r e => .ins (k.keep _ _ h n) (k.ok _ _ h n) (RFs.mono k r) e
theorem RFs.mono (k : Kp N N' H H') : ∀ {vs ds}, RFs G N H vs ds → RFs G N' H' vs ds
  | _, _, .nil => .nil
  | _, _, .cons h r => .cons (RF.mono k h) (RFs.mono k r)
end
mutual
/-- .. where the owned addresses are kept too -/
theorem RT.mono (k : Kp N N' H H') : ∀ {sh v d fp}, RT G N H sh v d fp → (∀ a ∈ fp, ∀ o, H a = some o → H' a = some o) → RT G N' H' sh v d fp
  | _, _, _, _, .no, _ => .no
  | _, _, _, _, .fz h, _ => .fz (h.mono k)
  | _, _, _, _, .adr h, q => .adr (q _ (by simp) _ h)
  | _, _, _, _, .lst h r e, q => .lst (q _ (by simp) _ h) (RTs.mono k r fun a ha => q a (by simp [ha])) e
  | _, _, _, _, .dct h e rk r ev es, q => .dct (q _ (by simp) _ h) e (rk.mono k) (RTs.mono k r fun a ha => q a (by simp [ha])) ev es
  | _, _, _, _, .ins h r e, q => .ins (q _ (by simp) _ h) (RTs.mono k r fun a ha => q a (by simp [ha])) e
  | _, _, _, _, .set h e r, q => .set (q _ (by simp) _ h) e (r.mono k)
  | _, _, _, _, .tab h, q => .tab (h.keep fun o e => q _ (by simp) o e)
theorem RTs.mono (k : Kp N N' H H') : ∀ {L fp}, RTs G N H L fp → (∀ a ∈ fp, ∀ o, H a = some o → H' a = some o) → RTs G N' H' L fp
  | _, _, .nil, _ => .nil
  | _, _, .cons h r, q => .cons (RT.mono k h fun a ha => q a (by simp [ha])) (RTs.mono k r fun a ha => q a (by simp [ha]))
end
mutual
/-- owned addresses are tracked -/
theorem RT.at : ∀ {sh v d fp}, RT G N H sh v d fp → ∀ a ∈ fp, ∃ o, H a = some o
  | _, _, _, _, .no, a, h => by simp at h
  | _, _, _, _, .fz _, a, h => by simp at h
  | _, _, _, _, .adr h, a, q => by
    simp at q
    subst q
    exact ⟨_, h⟩
  | _, _, _, _, .lst h r e, a, q => by
    rcases List.mem_cons.mp q with rfl | q
    · exact ⟨_, h⟩
    · exact RTs.at r a q
  | _, _, _, _, .dct h e rk r ev es, a, q => by
    rcases List.mem_cons.mp q with rfl | q
    · exact ⟨_, h⟩
    · exact RTs.at r a q
  | _, _, _, _, .ins h r e, a, q => by
    rcases List.mem_cons.mp q with rfl | q
    · exact ⟨_, h⟩
    · exact RTs.at r a q
  | _, _, _, _, .set h e r, a, q => by
    simp at q
    subst q
    exact ⟨_, h⟩
  | _, _, _, _, .tab h, a, q => by
    simp at q
    subst q
    exact h.there
theorem RTs.at : ∀ {L fp}, RTs G N H L fp → ∀ a ∈ fp, ∃ o, H a = some o
  | _, _, .nil, a, h => by simp at h
  | _, _, .cons h r, a, q => by
    rcases List.mem_append.mp q with q | q
    · exact RT.at h a q
    · exact RTs.at r a q
end
end
end Dt

/-! Claims over a heap: permuted, dropped, frozen, made. -/
namespace Dt
open PySem PySem.Spec PyProof.Rows L2

/-- O: the addresses that are owned by the claims L -/
def OwnO (G : Gm) (H : Hp) (L : List Cl) (O : List Addr) : Prop := RTs G (fun a => a ∉ O) H L O ∧ O.Nodup
/-- the tables of the defs' codes: always owned -/
def tabC (G : Gm) : List Cl := G.tabs.map fun P => ⟨.tab, .ref P, .non⟩
def Own (G : Gm) (H : Hp) (L : List Cl) : Prop := ∃ O, OwnO G H (L ++ tabC G) O

section
variable {G : Gm} {N N' : Addr → Prop} {H H' : Hp}
theorem Kp.sub (h : ∀ a, N a → N' a) : Kp N N' H H := ⟨fun _ _ e _ => e, fun a _ _ n => h a n⟩
theorem Kp.same (k : Same H H') : Kp N N H H' := ⟨fun a o e _ => k a o e, fun _ _ _ n => n⟩
theorem RTs.sub (h : ∀ a, N a → N' a) {L fp} (r : RTs G N H L fp) : RTs G N' H L fp := r.mono (Kp.sub h) fun _ _ _ e => e
theorem RT.sub (h : ∀ a, N a → N' a) {sh v d fp} (r : RT G N H sh v d fp) : RT G N' H sh v d fp := r.mono (Kp.sub h) fun _ _ _ e => e
theorem RF.sub (h : ∀ a, N a → N' a) {v d} (r : RF G N H v d) : RF G N' H v d := r.mono (Kp.sub h)
theorem RFs.sub (h : ∀ a, N a → N' a) {v d} (r : RFs G N H v d) : RFs G N' H v d := r.mono (Kp.sub h)

theorem RTs.append : ∀ {L R f1 f2}, RTs G N H L f1 → RTs G N H R f2 → RTs G N H (L ++ R) (f1 ++ f2)
  | _, _, _, _, .nil, r => r
  | _, _, _, _, .cons h t, r => by rw [List.append_assoc]; exact .cons h (t.append r)
theorem RTs.split : ∀ {L R fp}, RTs G N H (L ++ R) fp → ∃ f1 f2, fp = f1 ++ f2 ∧ RTs G N H L f1 ∧ RTs G N H R f2
  | [], R, fp, r => ⟨[], fp, rfl, .nil, r⟩
  | t :: L, R, _, .cons h r => by
    obtain ⟨f1, f2, e, r1, r2⟩ := RTs.split (L := L) r
    subst e
    exact ⟨_, f2, (List.append_assoc _ _ _).symm, .cons h r1, r2⟩
theorem RTs.perm {L L' : List Cl} (p : L.Perm L') : ∀ {fp}, RTs G N H L fp → ∃ fp', RTs G N H L' fp' ∧ fp.Perm fp' := by
  induction p with
  | nil => exact fun r => ⟨_, r, .refl _⟩
  | cons t _ ih =>
    intro fp r
    cases r with
    | cons h r =>
      obtain ⟨fp', r', q⟩ := ih r
      exact ⟨_, .cons h r', q.append_left _⟩
  | swap t u L =>
    intro fp r
    cases r with
    | cons h r =>
      cases r with
      | cons h' r =>
        refine ⟨_, .cons h' (.cons h r), ?_⟩
        rw [← List.append_assoc, ← List.append_assoc]
        exact List.perm_append_comm.append_right _
  | trans _ _ ih1 ih2 =>
    intro fp r
    obtain ⟨f1, r1, q1⟩ := ih1 r
    obtain ⟨f2, r2, q2⟩ := ih2 r1
    exact ⟨f2, r2, q1.trans q2⟩
theorem OwnO.perm {L L' : List Cl} {O} (p : L.Perm L') (h : OwnO G H L O) : ∃ O', OwnO G H L' O' ∧ O.Perm O' := by
  obtain ⟨r, nd⟩ := h
  obtain ⟨O', r', q⟩ := r.perm p
  exact ⟨O', ⟨r'.sub fun a ha hb => ha (q.mem_iff.mpr hb), q.nodup nd⟩, q⟩
theorem Own.perm {L L' : List Cl} (p : L.Perm L') (h : Own G H L) : Own G H L' := by
  obtain ⟨_, h⟩ := h
  obtain ⟨O', h', _⟩ := h.perm (p.append_right (tabC G))
  exact ⟨O', h'⟩
theorem Own.tail {t : Cl} {L : List Cl} (h : Own G H (t :: L)) : Own G H L := by
  obtain ⟨O, r, nd⟩ := h
  cases r with
  | cons h r =>
    rw [List.nodup_append] at nd
    exact ⟨_, r.sub fun a ha hb => ha (List.mem_append_right _ hb), nd.2.1⟩
theorem Own.drop {L R : List Cl} (h : Own G H (L ++ R)) : Own G H R := by
  induction L with
  | nil => exact h
  | cons t L ih => exact ih (Own.tail h)
/-- the claims are kept where all that is tracked is kept -/
theorem OwnO.same {L O} (k : Same H H') (h : OwnO G H L O) : OwnO G H' L O := ⟨h.1.mono (Kp.same k) fun a _ o e => k a o e, h.2⟩
theorem Own.same {L} (k : Same H H') (h : Own G H L) : Own G H' L := let ⟨O, h⟩ := h; ⟨O, h.same k⟩
theorem OwnO.cons {L O v d} (r : RF G (fun a => a ∉ O) H v d) (h : OwnO G H L O) : OwnO G H (⟨.fz, v, d⟩ :: L) O := ⟨.cons (t := ⟨.fz, v, d⟩) (f1 := []) (.fz r) h.1, h.2⟩
theorem OwnO.head {L O v d} (h : OwnO G H (⟨.fz, v, d⟩ :: L) O) : RF G (fun a => a ∉ O) H v d ∧ OwnO G H L O := by
  obtain ⟨r, nd⟩ := h
  cases r with
  | cons h r => cases h with
    | fz h => exact ⟨h, r, nd⟩
theorem Own.dup {L v d} (h : Own G H (⟨.fz, v, d⟩ :: L)) : Own G H (⟨.fz, v, d⟩ :: ⟨.fz, v, d⟩ :: L) := let ⟨O, h⟩ := h; ⟨O, h.cons h.head.1⟩
theorem Own.nonC {L} (h : Own G H L) : Own G H (⟨.fz, .non, .non⟩ :: L) := let ⟨O, h⟩ := h; ⟨O, h.cons .non⟩
theorem Own.blC {L} (b : Bool) (h : Own G H L) : Own G H (⟨.fz, .bl b, .bl b⟩ :: L) := let ⟨O, h⟩ := h; ⟨O, h.cons (.bl b)⟩
theorem Own.intC {L} (i : Int) (h : Own G H L) : Own G H (⟨.fz, .int i, .int i⟩ :: L) := let ⟨O, h⟩ := h; ⟨O, h.cons (.int i)⟩
theorem Own.strC {L} (x : Str) (h : Own G H L) : Own G H (⟨.fz, .str x, .str x.cps.toList⟩ :: L) := let ⟨O, h⟩ := h; ⟨O, h.cons (.str x)⟩
theorem Own.noC {L v d} (h : Own G H L) : Own G H (⟨.no, v, d⟩ :: L) := let ⟨O, h⟩ := h; ⟨O, .cons (t := ⟨.no, v, d⟩) (f1 := []) .no h.1, h.2⟩

/-! whole shapes: nothing is taken out -/
mutual
def Sh.whole : Sh → Bool
  | .fz => true
  | .lst c => c.whole
  | .dct c => c.whole
  | .ins cs => wholes cs
  | .set _ => true
  | _ => false
def wholes : List Sh → Bool
  | [] => true
  | c :: cs => c.whole && wholes cs
end
theorem wholes_all : ∀ {L : List Cl}, wholes (L.map Cl.sh) = true → ∀ t ∈ L, t.sh.whole = true
  | [], _, t, h => by simp at h
  | u :: L, w, t, h => by
    simp only [List.map_cons, wholes, Bool.and_eq_true] at w
    rcases List.mem_cons.mp h with rfl | h
    · exact w.1
    · exact wholes_all w.2 t h
mutual
theorem RT.freezeN (hN : ∀ a, N a → N' a) : ∀ {sh v d fp}, RT G N H sh v d fp → sh.whole = true → (∀ a ∈ fp, N' a) → RF G N' H v d
  | _, _, _, _, .no, w, _ => by simp [Sh.whole] at w
  | _, _, _, _, .fz h, _, _ => h.sub hN
  | _, _, _, _, .lst h r e, w, q => .lst (.inl ⟨.inl h, q _ (by simp)⟩) (RTs.freezeN hN r (fun t ht => by rw [e t ht]; simpa [Sh.whole] using w) fun a ha => q a (by simp [ha]))
  | _, _, _, _, .adr h, w, _ => by simp [Sh.whole] at w
  | _, _, _, _, .dct h e rk r ev es, w, q => .dct h (q _ (by simp)) e (rk.sub hN) (by rw [← ev]; exact RTs.freezeN hN r (fun t ht => by rw [es t ht]; simpa [Sh.whole] using w) fun a ha => q a (by simp [ha]))
  | _, _, _, _, .set h e r, w, q => .set h (q _ (by simp)) e (r.sub hN)
  | _, _, _, _, .ins h r e, w, q => .ins h (q _ (by simp)) (RTs.freezeN hN r (wholes_all (by simpa [Sh.whole] using w)) fun a ha => q a (by simp [ha])) (by simpa using e)
theorem RTs.freezeN (hN : ∀ a, N a → N' a) : ∀ {L fp}, RTs G N H L fp → (∀ t ∈ L, t.sh.whole = true) → (∀ a ∈ fp, N' a) → RFs G N' H (L.map Cl.v) (L.map Cl.d)
  | _, _, .nil, _, _ => .nil
  | _, _, .cons h r, w, q => .cons (RT.freezeN hN h (w _ (by simp)) fun a ha => q a (by simp [ha])) (RTs.freezeN hN r (fun t ht => w t (by simp [ht])) fun a ha => q a (by simp [ha]))
end
theorem OwnO.freeze {sh v d L O} (w : sh.whole = true) (h : OwnO G H (⟨sh, v, d⟩ :: L) O) : ∃ O', OwnO G H (⟨.fz, v, d⟩ :: L) O' ∧ ∀ a, a ∈ O' → a ∈ O := by
  obtain ⟨r, nd⟩ := h
  cases r with
  | @cons _ _ f1 f2 h r =>
    have q := (List.nodup_append.mp nd)
    refine ⟨f2, ⟨.cons (t := ⟨.fz, v, d⟩) (f1 := []) (.fz (h.freezeN (fun a ha hb => ha (List.mem_append_right _ hb)) w fun a ha hb => q.2.2 a ha a hb rfl)) (r.sub fun a ha hb => ha (List.mem_append_right _ hb)), q.2.1⟩, fun a ha => List.mem_append_right _ ha⟩
theorem Own.freeze {sh v d L} (w : sh.whole = true) (h : Own G H (⟨sh, v, d⟩ :: L)) : Own G H (⟨.fz, v, d⟩ :: L) := let ⟨_, h⟩ := h; let ⟨O', h', _⟩ := h.freeze w; ⟨O', h'⟩
theorem Own.freezeAll {A L} (w : ∀ t ∈ A, t.sh.whole = true) (h : Own G H (A ++ L)) : Own G H (A.map (fun t => ⟨.fz, t.v, t.d⟩) ++ L) := by
  induction A generalizing L with
  | nil => exact h
  | cons t A ih =>
    have h1 : Own G H (⟨.fz, t.v, t.d⟩ :: (A ++ L)) := Own.freeze (w t (by simp)) h
    have h2 : Own G H (A ++ (⟨.fz, t.v, t.d⟩ :: L)) := h1.perm List.perm_middle.symm
    exact (ih (fun t ht => w t (by simp [ht])) h2).perm List.perm_middle
theorem RTs.fzs : ∀ {L : List Cl} {fp}, RTs G N H L fp → (∀ t ∈ L, t.sh = .fz) → fp = [] ∧ RFs G N H (L.map Cl.v) (L.map Cl.d)
  | _, _, .nil, _ => ⟨rfl, .nil⟩
  | t :: L, _, .cons h r, w => by
    obtain ⟨e, q⟩ := RTs.fzs r fun t ht => w t (by simp [ht])
    have et := w t (by simp)
    obtain ⟨ts, tv, td⟩ := t
    simp only at et h
    subst et
    cases h with
    | fz h => exact ⟨by simp [e], .cons h q⟩
theorem RTs.ofs : ∀ {L : List Cl}, RFs G N H (L.map Cl.v) (L.map Cl.d) → (∀ t ∈ L, t.sh = .fz) → RTs G N H L []
  | [], _, _ => .nil
  | t :: L, r, w => by
    have et := w t (by simp)
    obtain ⟨ts, tv, td⟩ := t
    simp only at et
    subst et
    cases r with
    | cons h r => exact .cons (f1 := []) (.fz h) (RTs.ofs r fun t ht => w t (by simp [ht]))
/-- frozen claims at the head: their facts -/
theorem OwnO.heads {A L O} (w : ∀ t ∈ A, t.sh = .fz) (h : OwnO G H (A ++ L) O) : RFs G (fun a => a ∉ O) H (A.map Cl.v) (A.map Cl.d) ∧ OwnO G H L O := by
  obtain ⟨r, nd⟩ := h
  obtain ⟨f1, f2, e, r1, r2⟩ := r.split
  obtain ⟨e1, q⟩ := r1.fzs w
  subst e1
  have e : O = f2 := e
  subst e
  exact ⟨q, r2, nd⟩

/-! a new object -/
theorem upd_new {p : Addr} {o : HO} (h : H p = none) : Same H (upd H p o) := fun b x e => by rw [upd_ne (ne_of_none e h)]; exact e
theorem OwnO.notin {L O} (h : OwnO G H L O) {p : Addr} (n : H p = none) : p ∉ O := fun hp => by
  obtain ⟨xs, e⟩ := h.1.at p hp
  rw [n] at e; cases e
/-- a new list, owned: its items are taken in -/
theorem Own.newLst {A L p c} (w : ∀ t ∈ A, t.sh = c) (h : Own G H (A ++ L)) (hp : H p = none) : Own G (upd H p (.lst (A.map Cl.v))) (⟨.lst c, .ref p, .lst (A.map Cl.d)⟩ :: L) := by
  obtain ⟨O, h⟩ := h
  rw [List.append_assoc] at h
  have np := h.notin hp
  obtain ⟨r, nd⟩ := h
  obtain ⟨f1, f2, e, r1, r2⟩ := r.split
  subst e
  have k : Kp (fun a => a ∉ f1 ++ f2) (fun a => a ∉ (p :: f1) ++ f2) H (upd H p (.lst (A.map Cl.v))) := ⟨fun a o e _ => upd_new hp a o e, fun a o e n => by
    simp only [List.cons_append, List.mem_cons, not_or]
    exact ⟨ne_of_none e hp, n⟩⟩
  refine ⟨(p :: f1) ++ f2, .cons (t := ⟨.lst c, .ref p, .lst (A.map Cl.d)⟩) (.lst upd_same (r1.mono k fun a _ o e => upd_new hp a o e) w) (r2.mono k fun a _ o e => upd_new hp a o e), ?_⟩
  exact List.nodup_cons.mpr ⟨np, nd⟩
theorem OwnO.newTup {L O p vs ds} (r : RFs G (fun a => a ∉ O) H vs ds) (h : OwnO G H L O) (hp : H p = none) : OwnO G (upd H p (.tup vs)) (⟨.fz, .ref p, .tup ds⟩ :: L) O :=
  (h.same (upd_new hp)).cons (.tup (.inl ⟨.inl upd_same, h.notin hp⟩) (r.mono (Kp.same (upd_new hp))))
theorem OwnO.newFLst {L O p vs ds} (r : RFs G (fun a => a ∉ O) H vs ds) (h : OwnO G H L O) (hp : H p = none) : OwnO G (upd H p (.lst vs)) (⟨.fz, .ref p, .lst ds⟩ :: L) O :=
  (h.same (upd_new hp)).cons (.lst (.inl ⟨.inl upd_same, h.notin hp⟩) (r.mono (Kp.same (upd_new hp))))
theorem RFs.cls : ∀ {vs : List V} {ds : List D}, RFs G N H vs ds → ∃ A : List Cl, (∀ t ∈ A, t.sh = .fz) ∧ A.map Cl.v = vs ∧ A.map Cl.d = ds
  | _, _, .nil => ⟨[], by simp, rfl, rfl⟩
  | v :: _, d :: _, .cons _ r => by
    obtain ⟨A, w, e1, e2⟩ := RFs.cls r
    exact ⟨⟨.fz, v, d⟩ :: A, fun t ht => by
      rcases List.mem_cons.mp ht with rfl | ht
      · rfl
      · exact w t ht, by simp [e1], by simp [e2]⟩
/-- a new list of frozen items, owned -/
theorem OwnO.newLst {L O p vs ds} (r : RFs G (fun a => a ∉ O) H vs ds) (h : OwnO G H (L ++ tabC G) O) (hp : H p = none) : Own G (upd H p (.lst vs)) (⟨.lst .fz, .ref p, .lst ds⟩ :: L) := by
  obtain ⟨A, w, e1, e2⟩ := r.cls
  have h2 : Own G H (A ++ L) := ⟨O, by
    have := (RTs.ofs (L := A) (by rw [e1, e2]; exact r) w).append h.1
    exact ⟨by simpa [List.append_assoc] using this, h.2⟩⟩
  have := Own.newLst w h2 hp
  rw [e1, e2] at this
  exact this

/-! what can be read: the thing itself, its items frozen -/
inductive RX (G : Gm) (N : Addr → Prop) (H : Hp) : V → D → Prop
  | fz {v d} : RF G N H v d → RX G N H v d
  | lst {a vs ds} : H a = some (.lst vs) → RFs G N H vs ds → RX G N H (.ref a) (.lst ds)
  | dct {a o es ds} : H a = some o → DctO G a o es → RFs G N H (es.map En.kv) (es.map En.k) → RFs G N H (es.map En.v) ds → RX G N H (.ref a) (.dct ((es.map En.k).zip ds))
  | set {a tup vs ks ds} : H a = some (setHO G.w tup a vs ks) → nkeys ds = some ks → RFs G N H vs ds → RX G N H (.ref a) (.set ds)
theorem RFs.length : ∀ {vs ds}, RFs G N H vs ds → vs.length = ds.length
  | _, _, .nil => rfl
  | _, _, .cons _ r => by simp [r.length]
theorem RFs.get : ∀ {vs ds}, RFs G N H vs ds → ∀ {i : Nat} {d : D}, ds[i]? = some d → ∃ v, vs[i]? = some v ∧ RF G N H v d
  | _, _, .nil, _, _, e => by simp at e
  | _, _, .cons h r, 0, _, e => by simp at e; subst e; exact ⟨_, rfl, h⟩
  | _, _, .cons h r, i + 1, _, e => by simpa using r.get (by simpa using e)
theorem RFs.append : ∀ {vs ds ws es}, RFs G N H vs ds → RFs G N H ws es → RFs G N H (vs ++ ws) (ds ++ es)
  | _, _, _, _, .nil, r => r
  | _, _, _, _, .cons h t, r => .cons h (t.append r)
theorem RFs.take : ∀ {vs ds} (n : Nat), RFs G N H vs ds → RFs G N H (vs.take n) (ds.take n)
  | _, _, 0, _ => by simp; exact .nil
  | _, _, n + 1, .nil => by simp; exact .nil
  | _, _, n + 1, .cons h r => .cons h (r.take n)
theorem RFs.drop : ∀ {vs ds} (n : Nat), RFs G N H vs ds → RFs G N H (vs.drop n) (ds.drop n)
  | _, _, 0, r => r
  | _, _, n + 1, .nil => by simp; exact .nil
  | _, _, n + 1, .cons h r => r.drop n
theorem RFs.reverse : ∀ {vs ds}, RFs G N H vs ds → RFs G N H vs.reverse ds.reverse
  | _, _, .nil => .nil
  | _, _, .cons h r => by simpa using r.reverse.append (.cons h .nil)
theorem RX.lst_at {v ds} (h : RX G N H v (.lst ds)) : ∃ a vs, v = .ref a ∧ SqL G.K H a vs ∧ RFs G N H vs ds := by
  cases h with
  | fz h => cases h with
    | lst h r => exact ⟨_, _, rfl, h.elim (fun h => .inl h.1) .inr, r⟩
  | lst h r => exact ⟨_, _, rfl, .inl (.inl h), r⟩
theorem RX.tup_at {v ds} (h : RX G N H v (.tup ds)) : ∃ a vs, v = .ref a ∧ SqT G.K H a vs ∧ RFs G N H vs ds := by
  cases h with
  | fz h => cases h with
    | tup h r => exact ⟨_, _, rfl, h.elim (fun h => .inl h.1) .inr, r⟩
theorem RX.int_at {v i} (h : RX G N H v (.int i)) : v = .int i := by cases h with | fz h => cases h; rfl
theorem RX.bl_at {v i} (h : RX G N H v (.bl i)) : v = .bl i := by cases h with | fz h => cases h; rfl
theorem RX.non_at {v} (h : RX G N H v .non) : v = .non := by cases h with | fz h => cases h; rfl
theorem RX.str_at {v x} (h : RX G N H v (.str x)) : v = .str ⟨x.toArray⟩ := by cases h with | fz h => cases h; simp
theorem RX.same {v d} (k : Same H H') (h : RX G N H v d) : RX G N H' v d := by
  cases h with
  | fz h => exact .fz (h.mono (Kp.same k))
  | lst h r => exact .lst (k _ _ h) (r.mono (Kp.same k))
  | dct h e rk r => exact .dct (k _ _ h) e (rk.mono (Kp.same k)) (r.mono (Kp.same k))
  | set h e r => exact .set (k _ _ h) e (r.mono (Kp.same k))
/-- shapes whose things can be read so -/
def Sh.flat : Sh → Bool
  | .fz => true
  | .lst .fz => true
  | .dct .fz => true
  | .set _ => true
  | _ => false
theorem RT.rx {sh v d fp} (h : RT G N H sh v d fp) (w : sh.flat = true) : RX G N H v d := by
  cases h with
  | no => simp [Sh.flat] at w
  | adr => simp [Sh.flat] at w
  | tab => simp [Sh.flat] at w
  | set h e r => exact .set h e r
  | ins => simp [Sh.flat] at w
  | fz h => exact .fz h
  | @lst a c L fp h r e =>
    have ec : c = .fz := by
      cases c <;> simp [Sh.flat] at w ⊢
    subst ec
    obtain ⟨_, q⟩ := r.fzs e
    exact .lst h q
  | @dct a o c es L fp h e rk r ev ew =>
    have ec : c = .fz := by
      cases c <;> simp [Sh.flat] at w ⊢
    subst ec
    obtain ⟨_, q⟩ := r.fzs ew
    exact .dct h e rk (by rw [← ev]; exact q)
/-! a list that is owned, opened: its address, its items -/
theorem Own.openLst {a c ds L} (h : Own G H (⟨.lst c, .ref a, .lst ds⟩ :: L)) : ∃ A : List Cl, ds = A.map Cl.d ∧ (∀ t ∈ A, t.sh = c) ∧ H a = some (.lst (A.map Cl.v)) ∧ Own G H (⟨.adr, .ref a, .non⟩ :: (A ++ L)) := by
  obtain ⟨O, r, nd⟩ := h
  cases r with
  | cons h r => cases h with
    | lst h q w => exact ⟨_, rfl, w, h, _, .cons (t := ⟨.adr, .ref a, .non⟩) (f1 := [a]) (.adr h) (by
      have z := RTs.append q (show RTs G _ H (L ++ tabC G) _ from r)
      rw [← List.append_assoc] at z
      exact z), nd⟩
theorem Own.closeLst {a c} {A L : List Cl} (w : ∀ t ∈ A, t.sh = c) (e : H a = some (.lst (A.map Cl.v))) (h : Own G H (⟨.adr, .ref a, .non⟩ :: (A ++ L))) : Own G H (⟨.lst c, .ref a, .lst (A.map Cl.d)⟩ :: L) := by
  obtain ⟨O, r, nd⟩ := h
  cases r with
  | cons h r =>
    have r : RTs G _ H ((A ++ L) ++ tabC G) _ := r
    rw [List.append_assoc] at r
    obtain ⟨f1, f2, ef, r1, r2⟩ := r.split
    subst ef
    cases h with
    | adr h => exact ⟨_, .cons (t := ⟨.lst c, .ref a, .lst (A.map Cl.d)⟩) (f1 := a :: f1) (f2 := f2) (.lst e r1 w) r2, nd⟩
theorem ne_in {L R : List Addr} {a : Addr} (nd : ([a] ++ R).Nodup) {b : Addr} (h : b ∈ R) : b ≠ a := fun e => by
  subst e
  exact (List.nodup_cons.mp nd).1 h
/-- what stands at an owned address is changed -/
theorem Own.write {a o L} (h : Own G H (⟨.adr, .ref a, .non⟩ :: L)) : Own G (upd H a o) (⟨.adr, .ref a, .non⟩ :: L) := by
  obtain ⟨O, r, nd⟩ := h
  cases r with
  | @cons _ _ f1 f2 h r => cases h with
    | adr h =>
      have k : Kp (fun b => b ∉ [a] ++ f2) (fun b => b ∉ [a] ++ f2) H (upd H a o) := ⟨fun b u e n => by
        rw [upd_ne (fun z => n (by simp [z]))]
        exact e, fun _ _ _ n => n⟩
      exact ⟨_, .cons (t := ⟨.adr, .ref a, .non⟩) (f1 := [a]) (.adr upd_same) (r.mono k fun b hb u e => by
        rw [upd_ne (ne_in (L := []) nd hb)]
        exact e), nd⟩
theorem Own.adrAt {a L} (h : Own G H (⟨.adr, .ref a, .non⟩ :: L)) : ∃ o, H a = some o := by
  obtain ⟨O, r, nd⟩ := h
  cases r with
  | cons h r => cases h with
    | adr h => exact ⟨_, h⟩
/-- an item behind an owned list -/
theorem Own.append {a c ds v d L} (h : Own G H (⟨.lst c, .ref a, .lst ds⟩ :: ⟨c, v, d⟩ :: L)) : ∃ vs, H a = some (.lst vs) ∧ vs.length = ds.length ∧ Own G (upd H a (.lst (vs ++ [v]))) (⟨.lst c, .ref a, .lst (ds ++ [d])⟩ :: L) := by
  obtain ⟨A, e, w, ha, o⟩ := h.openLst
  subst e
  refine ⟨_, ha, by simp, ?_⟩
  have o2 : Own G (upd H a (.lst ((A ++ [(⟨c, v, d⟩ : Cl)]).map Cl.v))) (⟨.adr, .ref a, .non⟩ :: ((A ++ [(⟨c, v, d⟩ : Cl)]) ++ L)) := by
    refine Own.write ?_
    simpa using o
  have := o2.closeLst (c := c) (fun t ht => by
    rcases List.mem_append.mp ht with ht | ht
    · exact w t ht
    · rw [List.mem_singleton.mp ht]) upd_same
  simpa using this
end
/-! dicts whose keys are numbers and texts -/
theorem RFs.zip_mem {G : Gm} {N : Addr → Prop} {H : Hp} : ∀ {vs ds}, RFs G N H vs ds → ∀ b ∈ vs.zip ds, RF G N H b.1 b.2
  | _, _, .nil, b, h => by simp at h
  | _, _, .cons h r, b, hb => by
    rcases List.mem_cons.mp hb with rfl | hb
    · exact h
    · exact r.zip_mem b hb
def isKy (d : D) : Bool := (keyL d).isSome
def kyD (d : D) : Key := (keyL d).getD (.inl 0)
def dkOk (kvs : List (D × D)) : Bool := kvs.all fun p => isKy p.1
theorem keyL_inj {d e : D} (hd : isKy d = true) (he : isKy e = true) (h : kyD d = kyD e) : d = e := by
  cases d <;> simp [isKy, keyL] at hd <;> cases e <;> simp [isKy, keyL] at he <;> simp [kyD, keyL] at h
  · rw [h]
  · rw [h]
open Classical in
noncomputable def kvGet (kvs : List (D × D)) (k : D) : Option D := (kvs.find? fun p => decide (p.1 = k)).map (·.2)
open Classical in
noncomputable def kvPut (kvs : List (D × D)) (k x : D) : List (D × D) := if k ∈ kvs.map (·.1) then kvs.map (fun p => if p.1 = k then (p.1, x) else p) else kvs ++ [(k, x)]
open Classical in
noncomputable def kvDrop (kvs : List (D × D)) (k : D) : List (D × D) := kvs.filter fun p => !decide (p.1 = k)
/-! rows: the keys with what stands under them -/
open Classical in
noncomputable def putR {α : Type} (rows : List (D × α)) (k : D) (t : α) : List (D × α) := if k ∈ rows.map (·.1) then rows.map (fun r => if r.1 = k then (r.1, t) else r) else rows ++ [(k, t)]
section
variable {α : Type}
theorem find_rows {f : α → V} : ∀ {rows : List (D × α)} {k : D}, (∀ r ∈ rows, isKy r.1 = true) → isKy k = true → valV (rows.map fun r => (kyD r.1, f r.2)) (kyD k) = (open Classical in (rows.find? fun r => decide (r.1 = k)).map fun r => f r.2)
  | [], k, _, _ => rfl
  | r :: rows, k, h, hk => by
    simp only [List.map_cons]
    by_cases e : r.1 = k
    · rw [valV_pos (p := (kyD r.1, f r.2)) (by rw [e]), List.find?_cons_of_pos (by simpa using e)]
      rfl
    · rw [valV_neg (p := (kyD r.1, f r.2)) (fun z => e (keyL_inj (h r (by simp)) hk z)), List.find?_cons_of_neg (by simpa using e)]
      exact find_rows (fun r hr => h r (by simp [hr])) hk
theorem any_rows {f : α → V} {rows : List (D × α)} {k : D} (h : ∀ r ∈ rows, isKy r.1 = true) (hk : isKy k = true) : ((rows.map fun r => (kyD r.1, f r.2)).any fun kv => decide (kv.1 = kyD k)) = true ↔ k ∈ rows.map (·.1) := by
  simp only [List.any_eq_true, List.mem_map, decide_eq_true_eq]
  constructor
  · rintro ⟨x, ⟨r, hr, rfl⟩, e⟩
    exact ⟨r, hr, keyL_inj (h r hr) hk e⟩
  · rintro ⟨r, hr, rfl⟩
    exact ⟨_, ⟨r, hr, rfl⟩, rfl⟩
open Classical in
theorem put_rows {f : α → V} {rows : List (D × α)} {k : D} {t : α} (h : ∀ r ∈ rows, isKy r.1 = true) (hk : isKy k = true) : putK (rows.map fun r => (kyD r.1, f r.2)) (kyD k) (f t) = (putR rows k t).map fun r => (kyD r.1, f r.2) := by
  unfold putK putR
  by_cases hm : k ∈ rows.map (·.1)
  · rw [if_pos ((any_rows h hk).mpr hm), if_pos hm, List.map_map, List.map_map]
    refine List.map_congr_left fun r hr => ?_
    simp only [Function.comp]
    by_cases e : r.1 = k
    · rw [if_pos (by rw [e]), if_pos e]
    · rw [if_neg (fun z => e (keyL_inj (h r hr) hk z)), if_neg e]
  · rw [if_neg (fun z => hm ((any_rows h hk).mp z)), if_neg hm]
    simp
open Classical in
theorem drop_rows {f : α → V} {rows : List (D × α)} {k : D} (h : ∀ r ∈ rows, isKy r.1 = true) (hk : isKy k = true) : dropK (rows.map fun r => (kyD r.1, f r.2)) (kyD k) = (rows.filter fun r => !decide (r.1 = k)).map fun r => (kyD r.1, f r.2) := by
  unfold dropK
  rw [List.filter_map]
  congr 1
  refine List.filter_congr fun r hr => ?_
  simp only [Function.comp]
  by_cases e : r.1 = k
  · simp [e]
  · have : ¬ kyD r.1 = kyD k := fun z => e (keyL_inj (h r hr) hk z)
    simp [e, this]
open Classical in
theorem putR_map {β : Type} (g : α → β) {rows : List (D × α)} {k : D} {t : α} : (putR rows k t).map (fun r => (r.1, g r.2)) = putR (rows.map fun r => (r.1, g r.2)) k (g t) := by
  unfold putR
  have e : (rows.map fun r => (r.1, g r.2)).map (·.1) = rows.map (·.1) := by rw [List.map_map]; rfl
  rw [e]
  split
  · rw [List.map_map, List.map_map]
    refine List.map_congr_left fun r _ => ?_
    simp only [Function.comp]
    split <;> rfl
  · simp
theorem kvPut_eq (kvs : List (D × D)) (k x : D) : kvPut kvs k x = putR kvs k x := rfl
open Classical in
theorem putR_keys {rows : List (D × α)} {k : D} {t : α} (nd : (rows.map (·.1)).Nodup) : ((putR rows k t).map (·.1)).Nodup := by
  unfold putR
  split
  · rw [List.map_map]
    have : ((fun r : D × α => r.1) ∘ fun r : D × α => if r.1 = k then (r.1, t) else r) = fun r => r.1 := by
      funext r
      simp only [Function.comp]
      split <;> rfl
    rw [this]
    exact nd
  · rename_i n
    rw [List.map_append, List.nodup_append]
    refine ⟨nd, by simp, fun a ha b hb => ?_⟩
    simp at hb
    rintro rfl
    exact n (hb ▸ ha)
open Classical in
theorem putR_isKy {rows : List (D × α)} {k : D} {t : α} (h : ∀ r ∈ rows, isKy r.1 = true) (hk : isKy k = true) : ∀ r ∈ putR rows k t, isKy r.1 = true := by
  unfold putR
  split
  · intro r hr
    obtain ⟨r', h', rfl⟩ := List.mem_map.mp hr
    split
    · exact h r' h'
    · exact h r' h'
  · intro r hr
    rcases List.mem_append.mp hr with hr | hr
    · exact h r hr
    · rw [List.mem_singleton.mp hr]; exact hk
open Classical in
/-- what stood under the key goes away -/
theorem putR_perm {rows : List (D × α)} {k : D} {t : α} (nd : (rows.map (·.1)).Nodup) : ∃ old : List α, (t :: rows.map (·.2)).Perm (old ++ (putR rows k t).map (·.2)) ∧ ∀ x ∈ old, x ∈ rows.map (·.2) := by
  unfold putR
  split
  · rename_i hm
    obtain ⟨r, hr, e⟩ := List.mem_map.mp hm
    obtain ⟨r1, r2, er⟩ := List.append_of_mem hr
    subst er
    subst e
    have n1 : ∀ x ∈ r1, x.1 ≠ r.1 := fun x hx e => by
      rw [List.map_append, List.nodup_append] at nd
      exact nd.2.2 x.1 (List.mem_map.mpr ⟨x, hx, rfl⟩) r.1 (by simp) e
    have n2 : ∀ x ∈ r2, x.1 ≠ r.1 := fun x hx e => by
      rw [List.map_append, List.nodup_append, List.map_cons, List.nodup_cons] at nd
      exact nd.2.1.1 (List.mem_map.mpr ⟨x, hx, e⟩)
    have same : ∀ {l : List (D × α)}, (∀ x ∈ l, x.1 ≠ r.1) → l.map (fun x => if x.1 = r.1 then (x.1, t) else x) = l := fun {l} hl => by
      conv => rhs; rw [← List.map_id l]
      exact List.map_congr_left fun x hx => if_neg (hl x hx)
    refine ⟨[r.2], ?_, fun x hx => by rw [List.mem_singleton.mp hx]; simp⟩
    have em : (r1 ++ r :: r2).map (fun x => if x.1 = r.1 then (x.1, t) else x) = r1 ++ (r.1, t) :: r2 := by
      simp only [List.map_append, List.map_cons, same n1, same n2, if_pos]
    rw [em]
    simp only [List.map_append, List.map_cons, List.cons_append, List.nil_append]
    refine (List.Perm.cons t List.perm_middle).trans ?_
    refine (List.Perm.swap _ _ _).trans ?_
    exact List.Perm.cons _ List.perm_middle.symm
  · refine ⟨[], ?_, by simp⟩
    rw [List.map_append]
    exact (List.perm_append_singleton _ _).symm
end
section
variable {G : Gm} {N : Addr → Prop} {H : Hp}
theorem keyL_some {d : D} (h : isKy d = true) : keyL d = some (kyD d) := by
  unfold isKy at h
  unfold kyD
  cases e : keyL d with
  | none => rw [e] at h; cases h
  | some k => rfl
theorem rf_key {d : D} (h : isKy d = true) : RF G N H (kV (kyD d)) d := by
  cases d <;> simp [isKy, keyL] at h
  · exact .int _
  · rename_i x
    have := RF.str (G := G) (N := N) (H := H) ⟨x.toArray⟩
    simpa [kyD, keyL, kV] using this
theorem RX.key_at {v : V} {d : D} (h : isKy d = true) (r : RX G N H v d) : v = kV (kyD d) := by
  cases d <;> simp [isKy, keyL] at h
  · rw [r.int_at]; rfl
  · rw [r.str_at]; rfl
/-- the rows of a dict object -/
theorem rows_of {a : Addr} {o : HO} {es : List En} {vs : List V} (h : DctO G a o es) (ev : es.map En.v = vs) (hk : (es.map En.k).all isKy = true) : o = .dK (((es.map En.k).zip vs).map fun r => (kyD r.1, r.2)) := by
  obtain ⟨nd, h⟩ := h
  rcases h with ⟨ks, rfl, p⟩ | ⟨_, _, _, ne, ht⟩
  · congr 1
    subst ev
    clear nd
    induction p with
    | nil => rfl
    | @cons e x es ks h p ih =>
      simp only [List.map_cons, List.all_cons, Bool.and_eq_true] at hk
      simp only [List.map_cons, List.zip_cons_cons]
      rw [ih hk.2]
      congr 1
      have := h.1
      rw [keyL_some hk.1] at this
      rw [Option.some.inj this, h.2.2]
  · cases es with
    | nil => exact absurd rfl ne
    | cons e es =>
      obtain ⟨xs, ex⟩ := ht e (by simp)
      simp only [List.map_cons, List.all_cons, Bool.and_eq_true, ex] at hk
      exact absurd hk.1 (by simp [isKy, keyL])
theorem zip_rows {L : List Cl} : ∀ {ks : List D}, ks.length = L.length → (ks.zip L).map (·.1) = ks ∧ (ks.zip L).map (·.2) = L ∧ ks.zip (L.map Cl.v) = (ks.zip L).map (fun r => (r.1, r.2.v)) ∧ ks.zip (L.map Cl.d) = (ks.zip L).map (fun r => (r.1, r.2.d)) := by
  induction L with
  | nil => intro ks h; cases ks with
    | nil => simp
    | cons => simp at h
  | cons t L ih => intro ks h; cases ks with
    | nil => simp at h
    | cons k ks =>
      obtain ⟨a, b, c, d⟩ := ih (ks := ks) (by simpa using h)
      simp [a, b, c, d]
/-- an owned dict opened -/
theorem Own.openDctK {c : Sh} {v : V} {kvs : List (D × D)} {L : List Cl} (h : Own G H (⟨.dct c, v, .dct kvs⟩ :: L)) (hk : dkOk kvs = true) :
    ∃ (a : Addr) (rows : List (D × Cl)), v = .ref a ∧ kvs = rows.map (fun r => (r.1, r.2.d)) ∧ (∀ r ∈ rows, r.2.sh = c) ∧ (rows.map (·.1)).Nodup ∧ H a = some (.dK (rows.map fun r => (kyD r.1, r.2.v))) ∧ Own G H (⟨.adr, .ref a, .non⟩ :: (rows.map (·.2) ++ L)) := by
  obtain ⟨O, r, nd⟩ := h
  cases r with
  | cons h r => cases h with
    | @dct a o c es A fp h ob rk q ev ec =>
      have hl : (es.map En.k).length = A.length := by
        have := congrArg List.length ev
        simpa using this.symm
      obtain ⟨z1, z2, z3, z4⟩ := zip_rows hl
      have hall : (es.map En.k).all isKy = true := by
        rw [← z1, List.all_map]
        unfold dkOk at hk
        rw [z4, List.all_map] at hk
        exact hk
      have ho := rows_of ob ev.symm hall
      rw [z3, List.map_map] at ho
      refine ⟨a, (es.map En.k).zip A, rfl, z4, fun x hx => ec x.2 (by rw [← z2]; exact List.mem_map.mpr ⟨x, hx, rfl⟩), by rw [z1]; exact ob.1, by rw [h, ho]; rfl, _, .cons (t := ⟨.adr, .ref a, .non⟩) (f1 := [a]) (.adr h) (by
        rw [z2]
        have z := RTs.append q (show RTs G _ H (L ++ tabC G) _ from r)
        rw [← List.append_assoc] at z
        exact z), nd⟩
theorem rfs_keys : ∀ {ks : List D}, (∀ k ∈ ks, isKy k = true) → RFs G N H (ks.map fun k => kV (kyD k)) ks
  | [], _ => .nil
  | k :: ks, h => .cons (rf_key (h k (by simp))) (rfs_keys fun k hk => h k (by simp [hk]))
/-- its entries -/
def enOf (r : D × V) : En := ⟨r.1, kV (kyD r.1), r.2⟩
theorem dctO_k {a : Addr} {rows : List (D × V)} (nd : (rows.map (·.1)).Nodup) (h : ∀ r ∈ rows, isKy r.1 = true) : DctO G a (.dK (rows.map fun r => (kyD r.1, r.2))) (rows.map enOf) := by
  refine ⟨by rw [List.map_map]; exact nd, .inl ⟨_, rfl, ?_⟩⟩
  clear nd
  induction rows with
  | nil => exact .nil
  | cons r rows ih => exact .cons ⟨keyL_some (h r (by simp)), rfl, rfl⟩ (ih fun r hr => h r (by simp [hr]))
theorem Own.closeDctK {c : Sh} {a : Addr} {rows : List (D × Cl)} {L : List Cl} (hc : ∀ r ∈ rows, r.2.sh = c) (nd : (rows.map (·.1)).Nodup) (hk : ∀ r ∈ rows, isKy r.1 = true) (e : H a = some (.dK (rows.map fun r => (kyD r.1, r.2.v))))
    (h : Own G H (⟨.adr, .ref a, .non⟩ :: (rows.map (·.2) ++ L))) : Own G H (⟨.dct c, .ref a, .dct (rows.map fun r => (r.1, r.2.d))⟩ :: L) := by
  obtain ⟨O, r, ndO⟩ := h
  cases r with
  | cons h r =>
    have r : RTs G _ H ((rows.map (·.2) ++ L) ++ tabC G) _ := r
    rw [List.append_assoc] at r
    obtain ⟨f1, f2, ef, r1, r2⟩ := r.split
    subst ef
    cases h with
    | adr h =>
      have m1 : (rows.map fun r => (r.1, r.2.v)).map (·.1) = rows.map (·.1) := by rw [List.map_map]; rfl
      have ob : DctO G a (.dK (rows.map fun r => (kyD r.1, r.2.v))) ((rows.map fun r => (r.1, r.2.v)).map enOf) := by
        have := dctO_k (G := G) (a := a) (rows := rows.map fun r => (r.1, r.2.v)) (by rw [m1]; exact nd) (fun r hr => by
          obtain ⟨r', h', rfl⟩ := List.mem_map.mp hr
          exact hk r' h')
        rw [List.map_map] at this
        exact this
      have em : ∀ {rows : List (D × Cl)}, rows.map (fun r => (r.1, r.2.d)) = (((rows.map fun r => (r.1, r.2.v)).map enOf).map En.k).zip ((rows.map (·.2)).map Cl.d) := by
        intro rows
        induction rows with
        | nil => rfl
        | cons r rows ih => simp only [List.map_cons, List.zip_cons_cons]; rw [← ih]; rfl
      rw [em]
      refine ⟨_, .cons (t := ⟨.dct c, .ref a, .dct _⟩) (f1 := a :: f1) (f2 := f2) (.dct e ob ?_ r1 ?_ ?_) r2, ndO⟩
      · rw [List.map_map, List.map_map, List.map_map]
        rw [List.map_map]
        have := rfs_keys (G := G) (N := fun b => b ∉ a :: f1 ++ f2) (H := H) (ks := rows.map (·.1)) (fun k hk' => by
          obtain ⟨r, hr, rfl⟩ := List.mem_map.mp hk'
          exact hk r hr)
        rw [List.map_map] at this
        exact this
      · rw [List.map_map, List.map_map, List.map_map]; rfl
      · intro t ht
        obtain ⟨r, hr, rfl⟩ := List.mem_map.mp ht
        exact hc r hr
/-- a dict that is read -/
theorem RX.dctK_at {v : V} {kvs : List (D × D)} (h : RX G N H v (.dct kvs)) (hk : dkOk kvs = true) :
    ∃ (a : Addr) (rows : List (D × V × D)), v = .ref a ∧ kvs = rows.map (fun r => (r.1, r.2.2)) ∧ (rows.map (·.1)).Nodup ∧ H a = some (.dK (rows.map fun r => (kyD r.1, r.2.1))) ∧ ∀ r ∈ rows, RF G N H r.2.1 r.2.2 := by
  have main : ∀ {a : Addr} {o : HO} {es : List En} {ds : List D}, H a = some o → DctO G a o es → RFs G N H (es.map En.v) ds → kvs = (es.map En.k).zip ds → ∃ (a' : Addr) (rows : List (D × V × D)), V.ref a = .ref a' ∧ kvs = rows.map (fun r => (r.1, r.2.2)) ∧ (rows.map (·.1)).Nodup ∧ H a' = some (.dK (rows.map fun r => (kyD r.1, r.2.1))) ∧ ∀ r ∈ rows, RF G N H r.2.1 r.2.2 := by
    intro a o es ds h ob r e
    have hl : (es.map En.k).length = ds.length := by
      have := r.length
      simpa using this
    have hall : (es.map En.k).all isKy = true := by
      unfold dkOk at hk
      rw [e] at hk
      have : ∀ {ks : List D} {ds : List D}, ks.length = ds.length → ((ks.zip ds).all fun p => isKy p.1) = true → ks.all isKy = true := by
        intro ks
        induction ks with
        | nil => intro _ _ _; rfl
        | cons k ks ih => intro ds hl h; cases ds with
          | nil => simp at hl
          | cons d ds =>
            simp only [List.zip_cons_cons, List.all_cons, Bool.and_eq_true] at h ⊢
            exact ⟨h.1, ih (by simpa using hl) h.2⟩
      exact this hl hk
    have ho := rows_of ob rfl hall
    refine ⟨a, (es.map En.k).zip ((es.map En.v).zip ds), rfl, ?_, ?_, ?_, ?_⟩
    · rw [e]
      clear e h ob hall ho
      induction es generalizing ds with
      | nil => rfl
      | cons x es ih => cases ds with
        | nil => rfl
        | cons d ds =>
          simp only [List.map_cons, List.zip_cons_cons]
          cases r with
          | cons _ r => rw [ih r (by simpa using hl)]
    · rw [List.map_fst_zip (by simp [← hl])]
      exact ob.1
    · rw [h, ho]
      congr 2
      clear e h ob hall ho
      induction es generalizing ds with
      | nil => rfl
      | cons x es ih => cases ds with
        | nil => simp at hl
        | cons d ds =>
          simp only [List.map_cons, List.zip_cons_cons]
          cases r with
          | cons _ r => rw [ih r (by simpa using hl)]
    · intro x hx
      have := List.of_mem_zip (a := x.1) (b := x.2) hx
      exact r.zip_mem x.2 this.2
  cases h with
  | fz h =>
    generalize hd : D.dct kvs = d0 at h
    cases h with
    | dct h _ ob _ r =>
      injection hd with hd
      exact main h ob r hd
    | _ => cases hd
  | dct h ob _ r => exact main h ob r rfl
end
end Dt

/-! The value semantics: states, results, and the reading of an expression by it. -/
namespace Dt
abbrev Sg := L2.St
open PySem PySem.Spec PyProof.Rows L2

/-- a slot: what stands there, and how far it is owned -/
abbrev Slot := Option (Sh × D)
/-- an exception: its class's number, its field's value -/
structure Exc where
  c : Nat
  arg : Option (Nat × D)
/-- a step of a path into a thing -/
inductive Stp where
  | fld (f : Nat)
  | ix (i : Nat)
  | ky (k : D)
/-- what an expression gives: a thing, or a place whose thing is looked at later -/
inductive Rv where
  | tmp (sh : Sh) (d : D)
  | ref (i : Nat) (p : List Stp)
abbrev M (α : Type) := List Slot → Option (Except Exc α × List Slot)
def M.ret {α} (a : α) : M α := fun S => some (.ok a, S)
def M.fail {α} : M α := fun _ => none
def M.bnd {α β} (m : M α) (k : α → M β) : M β := fun S => match m S with
  | some (.ok a, S') => k a S'
  | some (.error e, S') => some (.error e, S')
  | none => none
/-- a partial value -/
def M.opt {α} (o : Option α) : M α := fun S => match o with
  | some a => some (.ok a, S)
  | none => none

/-- the claims of a state -/
def cl : List Slot → Sg → List Cl
  | some (sh, d) :: S, some v :: σ => ⟨sh, v, d⟩ :: cl S σ
  | _ :: S, _ :: σ => cl S σ
  | _, _ => []
/-- what is claimed is there -/
def Ag : List Slot → Sg → Prop
  | [], [] => True
  | none :: S, _ :: σ => Ag S σ
  | some _ :: S, some _ :: σ => Ag S σ
  | _, _ => False
theorem Ag.length : ∀ {S σ}, Ag S σ → S.length = σ.length
  | [], [], _ => rfl
  | none :: S, _ :: σ, h => by simp [Ag.length (S := S) (σ := σ) h]
  | some _ :: S, some _ :: σ, h => by simp [Ag.length (S := S) (σ := σ) h]
  | some _ :: S, none :: σ, h => h.elim
  | [], _ :: _, h => h.elim
  | none :: _, [], h => h.elim
  | some _ :: _, [], h => h.elim
theorem Ag.get : ∀ {S : List Slot} {σ : Sg}, Ag S σ → ∀ {i : Nat} {sd : Sh × D}, S[i]? = some (some sd) → ∃ v, σ[i]? = some (some v)
  | none :: S, _ :: σ, h, i + 1, sd, e => by simpa using Ag.get (S := S) (σ := σ) h (by simpa using e)
  | some _ :: S, some v :: σ, h, 0, sd, e => ⟨v, rfl⟩
  | some _ :: S, some _ :: σ, h, i + 1, sd, e => by simpa using Ag.get (S := S) (σ := σ) h (by simpa using e)
  | some _ :: S, none :: σ, h, _, _, _ => h.elim
  | [], _, _, _, _, e => by simp at e
  | none :: _, [], h, _, _, _ => h.elim
  | some _ :: _, [], h, _, _, _ => h.elim
  | none :: S, _ :: σ, h, 0, sd, e => by simp at e
/-- a slot is claimed otherwise -/
theorem Ag.set : ∀ {S : List Slot} {σ : Sg}, Ag S σ → ∀ {i : Nat} {sd : Sh × D} {v}, σ[i]? = some (some v) → Ag (S.set i (some sd)) σ
  | [], [], _, _, _, _, e => by simp at e
  | none :: S, some _ :: σ, h, 0, _, _, _ => h
  | none :: S, none :: σ, h, 0, _, _, e => by simp at e
  | none :: S, _ :: σ, h, i + 1, sd, v, e => Ag.set (S := S) (σ := σ) h (sd := sd) (v := v) (by simpa using e)
  | some _ :: S, some _ :: σ, h, 0, _, _, _ => h
  | some _ :: S, some _ :: σ, h, i + 1, sd, v, e => Ag.set (S := S) (σ := σ) h (sd := sd) (v := v) (by simpa using e)
  | some _ :: S, none :: σ, h, _, _, _, _ => h.elim
  | [], _ :: _, h, _, _, _, _ => h.elim
  | none :: _, [], h, _, _, _, _ => h.elim
  | some _ :: _, [], h, _, _, _, _ => h.elim
theorem Ag.unset : ∀ {S : List Slot} {σ : Sg}, Ag S σ → ∀ {i : Nat}, Ag (S.set i none) σ
  | [], [], _, _ => trivial
  | none :: S, _ :: σ, h, 0 => h
  | none :: S, _ :: σ, h, i + 1 => Ag.unset (S := S) (σ := σ) h
  | some _ :: S, some _ :: σ, h, 0 => h
  | some _ :: S, some _ :: σ, h, i + 1 => Ag.unset (S := S) (σ := σ) h
  | some _ :: S, none :: σ, h, _ => h.elim
  | [], _ :: _, h, _ => h.elim
  | none :: _, [], h, _ => h.elim
  | some _ :: _, [], h, _ => h.elim
/-- a name is stored -/
theorem Ag.store : ∀ {S : List Slot} {σ : Sg}, Ag S σ → ∀ {i : Nat} {sd : Slot} {v}, Ag (S.set i sd) (σ.set i (some v))
  | [], [], _, _, _, _ => trivial
  | none :: S, _ :: σ, h, 0, none, _ => h
  | none :: S, _ :: σ, h, 0, some _, _ => h
  | none :: S, _ :: σ, h, i + 1, _, _ => Ag.store (S := S) (σ := σ) h
  | some _ :: S, some _ :: σ, h, 0, none, _ => h
  | some _ :: S, some _ :: σ, h, 0, some _, _ => h
  | some _ :: S, some _ :: σ, h, i + 1, _, _ => Ag.store (S := S) (σ := σ) h
  | some _ :: S, none :: σ, h, _, _, _ => h.elim
  | [], _ :: _, h, _, _, _ => h.elim
  | none :: _, [], h, _, _, _ => h.elim
  | some _ :: _, [], h, _, _, _ => h.elim
/-- a slot's claim, by itself -/
theorem cl_get : ∀ {S : List Slot} {σ : Sg} {i : Nat} {sh d v}, S[i]? = some (some (sh, d)) → σ[i]? = some (some v) → (cl S σ).Perm (⟨sh, v, d⟩ :: cl (S.set i none) σ)
  | some (sh, d) :: S, some v :: σ, 0, _, _, _, e1, e2 => by
    simp at e1 e2
    obtain ⟨rfl, rfl⟩ := e1
    subst e2
    exact .refl _
  | none :: S, _ :: σ, i + 1, sh, d, v, e1, e2 => by
    have := cl_get (S := S) (σ := σ) (i := i) (sh := sh) (d := d) (v := v) (by simpa using e1) (by simpa using e2)
    simpa [cl] using this
  | some (sh', d') :: S, some v' :: σ, i + 1, sh, d, v, e1, e2 => by
    have := cl_get (S := S) (σ := σ) (i := i) (sh := sh) (d := d) (v := v) (by simpa using e1) (by simpa using e2)
    simp only [cl, List.set_cons_succ]
    exact (this.cons _).trans (List.Perm.swap _ _ _)
  | some (sh', d') :: S, none :: σ, i + 1, sh, d, v, e1, e2 => by
    have := cl_get (S := S) (σ := σ) (i := i) (sh := sh) (d := d) (v := v) (by simpa using e1) (by simpa using e2)
    simpa [cl] using this
  | [], _, _, _, _, _, e, _ => by simp at e
  | _ :: _, [], _, _, _, _, _, e => by simp at e
  | none :: _, _ :: _, 0, _, _, _, e, _ => by simp at e
  | some _ :: _, none :: _, 0, _, _, _, _, e => by simp at e
theorem cl_set : ∀ {S : List Slot} {σ : Sg} {i : Nat} {sh d v}, S.length = σ.length → σ[i]? = some (some v) → (cl (S.set i (some (sh, d))) σ).Perm (⟨sh, v, d⟩ :: cl (S.set i none) σ) := fun {S σ i sh d v} hl e => by
  have hi : i < S.length := by rw [hl]; exact (List.getElem?_eq_some_iff.mp e).1
  have := cl_get (S := S.set i (some (sh, d))) (σ := σ) (i := i) (sh := sh) (d := d) (v := v) (by simp [hi]) e
  simpa using this
theorem cl_none_store : ∀ {S : List Slot} {σ : Sg} {i : Nat} {v}, cl (S.set i none) (σ.set i v) = cl (S.set i none) σ
  | [], _, _, _ => by simp [cl]
  | _ :: _, [], _, _ => by simp [cl]
  | x :: S, y :: σ, 0, v => by simp [cl]
  | none :: S, y :: σ, i + 1, v => by simpa [cl] using cl_none_store (S := S) (σ := σ) (i := i) (v := v)
  | some sd :: S, some y :: σ, i + 1, v => by simpa [cl] using cl_none_store (S := S) (σ := σ) (i := i) (v := v)
  | some sd :: S, none :: σ, i + 1, v => by simpa [cl] using cl_none_store (S := S) (σ := σ) (i := i) (v := v)
theorem cl_unset_sub : ∀ {S : List Slot} {σ : Sg} {i : Nat}, ∃ A, (cl S σ).Perm (A ++ cl (S.set i none) σ)
  | [], _, _ => ⟨[], by simp⟩
  | _ :: _, [], _ => ⟨[], by simp [cl]⟩
  | none :: S, y :: σ, 0 => ⟨[], by simp [cl]⟩
  | some (sh, d) :: S, some v :: σ, 0 => ⟨[⟨sh, v, d⟩], by simp [cl]⟩
  | some (sh, d) :: S, none :: σ, 0 => ⟨[], by simp [cl]⟩
  | none :: S, y :: σ, i + 1 => by
    obtain ⟨A, p⟩ := cl_unset_sub (S := S) (σ := σ) (i := i)
    exact ⟨A, by simpa [cl] using p⟩
  | some (sh, d) :: S, none :: σ, i + 1 => by
    obtain ⟨A, p⟩ := cl_unset_sub (S := S) (σ := σ) (i := i)
    exact ⟨A, by simpa [cl] using p⟩
  | some (sh, d) :: S, some v :: σ, i + 1 => by
    obtain ⟨A, p⟩ := cl_unset_sub (S := S) (σ := σ) (i := i)
    refine ⟨A, ?_⟩
    simp only [cl, List.set_cons_succ]
    exact (p.cons _).trans List.perm_middle.symm
/-- a name is stored: its claim is new, the old one is dropped -/
theorem Own.store {G H S σ i sh v d T} (ag : Ag S σ) (hi : i < S.length) (h : Own G H (⟨sh, v, d⟩ :: (cl S σ ++ T))) : Own G H (cl (S.set i (some (sh, d))) (σ.set i (some v)) ++ T) := by
  obtain ⟨A, p⟩ := cl_unset_sub (S := S) (σ := σ) (i := i)
  have h1 : Own G H (A ++ (⟨sh, v, d⟩ :: (cl (S.set i none) σ ++ T))) := h.perm (((p.append_right T).cons _).trans (by
    rw [List.append_assoc]
    exact List.perm_middle.symm))
  refine (Own.drop h1).perm ?_
  have hs : (σ.set i (some v))[i]? = some (some v) := by
    rw [List.getElem?_set_self (by rw [← ag.length]; exact hi)]
  have q := cl_set (S := S) (σ := σ.set i (some v)) (i := i) (sh := sh) (d := d) (v := v) (by rw [ag.length]; simp) hs
  rw [cl_none_store] at q
  exact (q.append_right T).symm

/-! places -/
/-- from v0 along the path stands v -/
def PathV (G : Gm) (H : Hp) : V → List Stp → V → Prop
  | v0, [], v => v = v0
  | v0, .fld f :: p, v => ∃ a C dx fs w, v0 = .ref a ∧ H a = some (.ins C dx fs) ∧ fs.lookup (G.fld f) = some w ∧ PathV G H w p v
  | v0, .ix i :: p, v => ∃ a vs w, v0 = .ref a ∧ H a = some (.lst vs) ∧ vs[i]? = some w ∧ PathV G H w p v
  | v0, .ky k :: p, v => ∃ a ks w, v0 = .ref a ∧ H a = some (.dK ks) ∧ valV ks (kyD k) = some w ∧ PathV G H w p v
theorem PathV.same {G H H'} (k : Same H H') : ∀ {p v0 v}, PathV G H v0 p v → PathV G H' v0 p v
  | [], _, _, h => h
  | .fld f :: p, _, _, ⟨a, C, dx, fs, w, e, h, l, q⟩ => ⟨a, C, dx, fs, w, e, k _ _ h, l, q.same k⟩
  | .ix i :: p, _, _, ⟨a, vs, w, e, h, l, q⟩ => ⟨a, vs, w, e, k _ _ h, l, q.same k⟩
  | .ky i :: p, _, _, ⟨a, vs, w, e, h, l, q⟩ => ⟨a, vs, w, e, k _ _ h, l, q.same k⟩
/-- what stands along the path -/
noncomputable def pathD : Sh × D → List Stp → Option (Sh × D)
  | sd, [] => some sd
  | (.lst c, .lst ds), .ix i :: p => match ds[i]? with
    | some d => pathD (c, d) p
    | none => none
  | (.dct c, .dct kvs), .ky k :: p => if dkOk kvs = true ∧ isKy k = true then match kvGet kvs k with
      | some d => pathD (c, d) p
      | none => none
    else none
  | (.ins cs, .ins c fs), .fld k :: p => match fs.findIdx? (fun x => x.1 == k) with
    | some j => match cs[j]?, fs[j]? with
      | some sh, some kd => pathD (sh, kd.2) p
      | _, _ => none
    | none => none
  | _, _ => none
def Rv.cls : Rv → V → List Cl
  | .tmp sh d, v => [⟨sh, v, d⟩]
  | .ref _ _, _ => []
def Rv.ok (G : Gm) (σ : Sg) (H : Hp) : Rv → V → Prop
  | .tmp _ _, _ => True
  | .ref i p, v => ∃ v0, σ[i]? = some (some v0) ∧ PathV G H v0 p v
/-- it still holds behind an evaluation; q: which left all as it was -/
def Rv.keeps (q : Bool) : Rv → Bool
  | .tmp _ _ => true
  | .ref _ [] => true
  | .ref _ _ => q
noncomputable def Rv.see (S : List Slot) : Rv → Option (Sh × D)
  | .tmp sh d => some (sh, d)
  | .ref i p => match S[i]? with
    | some (some sd) => pathD sd p
    | _ => none
theorem Rv.ok.keeps {G σ H H'} {q : Bool} : ∀ {r : Rv} {v}, r.ok G σ H v → r.keeps q = true → (q = true → Same H H') → r.ok G σ H' v
  | .tmp _ _, _, _, _, _ => trivial
  | .ref i [], _, ⟨v0, e, h⟩, _, _ => ⟨v0, e, h⟩
  | .ref i (_ :: _), _, ⟨v0, e, h⟩, k, f => ⟨v0, e, h.same (f (by simpa [Rv.keeps] using k))⟩

/-- the exception object's class and own dict -/
def scalV : D → Option V
  | .int i => some (.int i)
  | .str x => some (.str ⟨x.toArray⟩)
  | _ => none
def ExAt (G : Gm) (H : Hp) (ex : Exc) (cv : Value) (od : Option Addr) : Prop :=
  cv = .ref (G.cls ex.c) ∧ (ex.arg.isSome = true → od.isSome = true)
/-- the claim of its dict -/
def exL : Exc → Option Addr → List Cl
  | ⟨_, some (f, d)⟩, some a => [⟨.tab, .ref a, .tup [.int f, d]⟩]
  | _, _ => []
def OwnX (G : Gm) (H : Hp) (ex : Exc) (od : Option Addr) (L : List Cl) : Prop := Own G H (exL ex od ++ L)
section
variable {G : Gm} {H : Hp} {ex : Exc} {od : Option Addr}
theorem OwnX.perm {L L' : List Cl} (p : L.Perm L') (h : OwnX G H ex od L) : OwnX G H ex od L' := Own.perm (p.append_left _) h
theorem OwnX.drop {A L : List Cl} (h : OwnX G H ex od (A ++ L)) : OwnX G H ex od L := by
  unfold OwnX at h ⊢
  refine Own.drop (L := A) (h.perm ?_)
  rw [← List.append_assoc, ← List.append_assoc]
  exact List.perm_append_comm.append_right _
theorem OwnX.dropMid {A B C : List Cl} (h : OwnX G H ex od (A ++ (B ++ C))) : OwnX G H ex od (A ++ C) := by
  refine (OwnX.drop (A := B) (h.perm ?_))
  rw [← List.append_assoc, ← List.append_assoc]
  exact List.perm_append_comm.append_right _
end

/-- the reading of an expression: what m gives; q: nothing that stood is changed; W: what is wanted of an exception -/
def TEm (G : Gm) (W : WX) (q : Bool) (m : M Rv) : TE := fun σ H Q => ∃ S T r S', Ag S σ ∧ Own G H (cl S σ ++ T) ∧ m S = some (r, S') ∧
  match r with
  | .ok rv => ∀ v H', Ag S' σ → Own G H' (rv.cls v ++ (cl S' σ ++ T)) → rv.ok G σ H' v → (q = true → Same H H') → Q v H'
  | .error ex => ∀ cv od H', Ag S' σ → OwnX G H' ex od (cl S' σ ++ T) → ExAt G H' ex cv od → W cv od σ H'
/-- a test's -/
def TTm (G : Gm) (W : WX) (q : Bool) (m : M Bool) : TT := fun σ H Q => ∃ S T r S', Ag S σ ∧ Own G H (cl S σ ++ T) ∧ m S = some (r, S') ∧
  match r with
  | .ok b => ∀ H', Ag S' σ → Own G H' (cl S' σ ++ T) → (q = true → Same H H') → Q b H'
  | .error ex => ∀ cv od H', Ag S' σ → OwnX G H' ex od (cl S' σ ++ T) → ExAt G H' ex cv od → W cv od σ H'
/-- an argument list's -/
def clsA : List Rv → List V → List Cl
  | r :: rs, v :: vs => r.cls v ++ clsA rs vs
  | _, _ => []
def okA (G : Gm) (σ : Sg) (H : Hp) : List Rv → List V → Prop
  | r :: rs, v :: vs => r.ok G σ H v ∧ okA G σ H rs vs
  | [], [] => True
  | _, _ => False
def TAm (G : Gm) (W : WX) (q : Bool) (m : M (List Rv)) : TA := fun σ H Q => ∃ S T r S', Ag S σ ∧ Own G H (cl S σ ++ T) ∧ m S = some (r, S') ∧
  match r with
  | .ok rs => ∀ vs H', Ag S' σ → Own G H' (clsA rs vs ++ (cl S' σ ++ T)) → okA G σ H' rs vs → (q = true → Same H H') → Q vs H'
  | .error ex => ∀ cv od H', Ag S' σ → OwnX G H' ex od (cl S' σ ++ T) → ExAt G H' ex cv od → W cv od σ H'

theorem _root_.L2.PE.imp {X : Cx} {e : Expr} {t t' : TE} (h : PE X e t) (i : ∀ σ H Q, t' σ H Q → t σ H Q) : PE X e t' := ⟨fun pins s σ H Q I q => h.run pins s σ H Q I (i σ H Q q)⟩
theorem _root_.L2.PT.imp {X : Cx} {e : Expr} {t t' : TT} (h : PT X e t) (i : ∀ σ H Q, t' σ H Q → t σ H Q) : PT X e t' := ⟨fun pins s σ H Q I q => h.run pins s σ H Q I (i σ H Q q)⟩
theorem _root_.L2.PA.imp {X : Cx} {es : List Expr} {t t' : TA} (h : PA X es t) (i : ∀ σ H Q, t' σ H Q → t σ H Q) : PA X es t' := ⟨fun pos pins s σ H Q I q => h.run pos pins s σ H Q I (i σ H Q q)⟩
end Dt

/-! Names, constants, operands in a row, operations on what can be read. -/
namespace Dt
noncomputable section
open PySem PySem.Spec PyProof.Rows L2

def mVar (i : Nat) : M Rv := fun S => match S[i]? with
  | some (some (.fz, d)) => some (.ok (.tmp .fz d), S)
  | _ => none
def mFrz (i : Nat) : M Rv := fun S => match S[i]? with
  | some (some (sh, d)) => if sh.whole = true then some (.ok (.tmp .fz d), S.set i (some (.fz, d))) else none
  | _ => none
def mRef (i : Nat) : M Rv := fun S => match S[i]? with
  | some (some _) => some (.ok (.ref i []), S)
  | _ => none
def mCon (d : D) : M Rv := fun S => some (.ok (.tmp .fz d), S)
/-- operands from the left; q: nothing that stood is changed by it -/
def mArgs : List (Bool × M Rv) → M (List Rv)
  | [] => fun S => some (.ok [], S)
  | (q, m) :: ms => fun S => match m S with
    | none => none
    | some (.error e, S1) => some (.error e, S1)
    | some (.ok r, S1) => match mArgs ms S1 with
      | none => none
      | some (.error e, S2) => some (.error e, S2)
      | some (.ok rs, S2) => if r.keeps (ms.all (·.1)) = true then some (.ok (r :: rs), S2) else none
/-- what the operands stand for -/
noncomputable def seeAll (S : List Slot) : List Rv → Option (List D)
  | [] => some []
  | r :: rs => match r.see S with
    | some (sh, d) => if sh.flat = true then match seeAll S rs with
        | some ds => some (d :: ds)
        | none => none
      else none
    | none => none
/-- a function of what is read -/
noncomputable def mFun (f : List D → Option (Sh × D)) (as : M (List Rv)) : M Rv := fun S => match as S with
  | none => none
  | some (.error e, S1) => some (.error e, S1)
  | some (.ok rs, S1) => match seeAll S1 rs with
    | none => none
    | some ds => match f ds with
      | none => none
      | some (sh, d) => some (.ok (.tmp sh d), S1)

section
variable {X : Cx} {G : Gm} {W : WX}
theorem Own.ren {H : Hp} {L L' : List Cl} (h : Own G H L) (p : L.Perm L') : Own G H L' := h.perm p
theorem perm3 {α : Type} (A B C : List α) : (A ++ (B ++ C)).Perm (B ++ (A ++ C)) := by rw [← List.append_assoc, ← List.append_assoc]; exact List.perm_append_comm.append_right _
theorem Own.dropMid {H : Hp} {A B C : List Cl} (h : Own G H (A ++ (B ++ C))) : Own G H (A ++ C) := by
  have h1 : Own G H (B ++ (A ++ C)) := h.perm (by rw [← List.append_assoc, ← List.append_assoc]; exact List.perm_append_comm.append_right _)
  exact h1.drop

theorem pe_mvar {i : Nat} {x : Str} {pos : Pos} (hN : X.N[i]? = some x) (hv : Vis X.env.scope x) (hd : (x == ("__debug__" : Str)) = false) (hcd : (x == ("__classdict__" : Str)) = false) : PE X (.Name x pos) (TEm G W true (mVar i)) := by
  refine (pe_var hN hv hd hcd).imp fun σ H Q h => ?_
  obtain ⟨S, T, r, S', ag, ow, e, k⟩ := h
  unfold mVar at e
  split at e
  · rename_i d hS
    cases e
    obtain ⟨v, hv⟩ := ag.get hS
    refine ⟨v, hv, k v H ag ?_ trivial fun _ => Same.refl H⟩
    have p := (cl_get hS hv).append_right T
    have o2 := (ow.perm p).dup
    exact o2.perm (p.symm.cons _)
  · cases e
theorem pe_mfrz {i : Nat} {x : Str} {pos : Pos} (hN : X.N[i]? = some x) (hv : Vis X.env.scope x) (hd : (x == ("__debug__" : Str)) = false) (hcd : (x == ("__classdict__" : Str)) = false) : PE X (.Name x pos) (TEm G W true (mFrz i)) := by
  refine (pe_var hN hv hd hcd).imp fun σ H Q h => ?_
  obtain ⟨S, T, r, S', ag, ow, e, k⟩ := h
  unfold mFrz at e
  split at e
  · rename_i sh d hS
    split at e
    · rename_i w
      cases e
      obtain ⟨v, hv⟩ := ag.get hS
      refine ⟨v, hv, k v H (ag.set hv) ?_ trivial fun _ => Same.refl H⟩
      have p := (cl_get hS hv).append_right T
      have o2 := ((ow.perm p).freeze w).dup
      exact o2.perm (((cl_set ag.length hv).append_right T).symm.cons _)
    · cases e
  · cases e
theorem pe_mref {i : Nat} {x : Str} {pos : Pos} (hN : X.N[i]? = some x) (hv : Vis X.env.scope x) (hd : (x == ("__debug__" : Str)) = false) (hcd : (x == ("__classdict__" : Str)) = false) : PE X (.Name x pos) (TEm G W true (mRef i)) := by
  refine (pe_var hN hv hd hcd).imp fun σ H Q h => ?_
  obtain ⟨S, T, r, S', ag, ow, e, k⟩ := h
  unfold mRef at e
  split at e
  · rename_i sd hS
    cases e
    obtain ⟨v, hv⟩ := ag.get hS
    exact ⟨v, hv, k v H ag ow ⟨v, hv, rfl⟩ fun _ => Same.refl H⟩
  · cases e
/-- a constant: its value v stands for d over every heap -/
theorem con_ok {σ : Sg} {H : Hp} {Q : VK} {v : V} {d : D} (hc : ∀ (H : Hp) (N : Addr → Prop), RF G N H v d) (h : TEm G W true (mCon d) σ H Q) : Q v H := by
  obtain ⟨S, T, r, S', ag, ow, e, k⟩ := h
  cases e
  obtain ⟨O, o⟩ := ow
  exact k v H ag ⟨O, o.cons (hc _ _)⟩ trivial fun _ => Same.refl H
theorem pe_mint {i j pos} : PE X (.Constant (.int i) j pos) (TEm G W true (mCon (.int i))) := pe_int.imp fun _ _ _ h => con_ok (fun _ _ => .int i) h
theorem pe_mbl {i j pos} : PE X (.Constant (.bool i) j pos) (TEm G W true (mCon (.bl i))) := pe_bl.imp fun _ _ _ h => con_ok (fun _ _ => .bl i) h
theorem pe_mnon {j pos} : PE X (.Constant .none j pos) (TEm G W true (mCon .non)) := pe_non.imp fun _ _ _ h => con_ok (fun _ _ => .non) h
theorem pe_mstr {x : Str} {j pos} : PE X (.Constant (.str x) j pos) (TEm G W true (mCon (.str x.cps.toList))) := pe_str.imp fun _ _ _ h => con_ok (fun _ _ => .str x) h

/-! operands -/
theorem tam_nil {σ : Sg} {H : Hp} {Q : List V → Hp → Prop} (h : TAm G W true (mArgs []) σ H Q) : Q [] H := by
  obtain ⟨S, T, r, S', ag, ow, e, k⟩ := h
  cases e
  exact k [] H ag ow trivial fun _ => Same.refl H
theorem okA.keep {σ : Sg} {H H' : Hp} {q : Bool} : ∀ {rs : List Rv} {vs : List V}, okA G σ H rs vs → Same H H' → okA G σ H' rs vs
  | [], [], _, _ => trivial
  | r :: rs, v :: vs, ⟨h1, h2⟩, k => ⟨h1.keeps (q := true) (by cases r with | tmp => rfl | ref i p => cases p <;> rfl) fun _ => k, okA.keep (q := q) h2 k⟩
  | [], _ :: _, h, _ => h.elim
  | _ :: _, [], h, _ => h.elim
theorem tam_cons {σ : Sg} {H : Hp} {Q : List V → Hp → Prop} {q : Bool} {m : M Rv} {ms : List (Bool × M Rv)} (h : TAm G W (((q, m) :: ms).all (·.1)) (mArgs ((q, m) :: ms)) σ H Q) :
    TEm G W q m σ H fun v H1 => TAm G W (ms.all (·.1)) (mArgs ms) σ H1 fun vs H2 => Q (v :: vs) H2 := by
  obtain ⟨S, T, r, S', ag, ow, e, k⟩ := h
  unfold mArgs at e
  split at e
  · cases e
  · rename_i ex S1 e1
    cases e
    exact ⟨S, T, _, _, ag, ow, e1, k⟩
  · rename_i r1 S1 e1
    refine ⟨S, T, _, S1, ag, ow, e1, fun v H1 ag1 ow1 ok1 s1 => ?_⟩
    have ow1' : Own G H1 (cl S1 σ ++ (r1.cls v ++ T)) := ow1.perm (by rw [← List.append_assoc, ← List.append_assoc]; exact List.perm_append_comm.append_right _)
    split at e
    · cases e
    · rename_i ex S2 e2
      cases e
      exact ⟨S1, _, _, _, ag1, ow1', e2, fun cv od H' ag' ow' x => k cv od H' ag' (OwnX.dropMid ow') x⟩
    · rename_i rs S2 e2
      split at e
      · rename_i hk
        cases e
        refine ⟨S1, _, _, _, ag1, ow1', e2, fun vs H2 ag2 ow2 ok2 s2 => ?_⟩
        refine k (v :: vs) H2 ag2 (ow2.perm ?_) ⟨ok1.keeps hk s2, ok2⟩ fun hq => ?_
        · show (clsA rs vs ++ (cl S' σ ++ (r1.cls v ++ T))).Perm ((r1.cls v ++ clsA rs vs) ++ (cl S' σ ++ T))
          have p1 := perm3 (cl S' σ) (r1.cls v) T
          have p2 := perm3 (clsA rs vs) (r1.cls v) (cl S' σ ++ T)
          rw [List.append_assoc]
          exact (p1.append_left _).trans p2
        · simp only [List.all_cons, Bool.and_eq_true] at hq
          exact (s1 hq.1).trans (s2 hq.2)
      · cases e
theorem pa_mnil : PA X [] (TAm G W true (mArgs [])) := pa_nil.imp fun _ _ _ h => tam_nil h
theorem pa_mcons {e : Expr} {es : List Expr} {q : Bool} {m : M Rv} {ms : List (Bool × M Rv)} (he : PE X e (TEm G W q m)) (hs : PA X es (TAm G W (ms.all (·.1)) (mArgs ms)))
    (hst : starEach (e :: es) X.env = (false, eval e X.env) :: starEach es X.env) : PA X (e :: es) (TAm G W (((q, m) :: ms).all (·.1)) (mArgs ((q, m) :: ms))) := (pa_cons he hs hst).imp fun _ _ _ h => tam_cons h

/-! what is read -/
theorem RTs.mem {N : Addr → Prop} {H : Hp} : ∀ {L : List Cl} {fp}, RTs G N H L fp → ∀ {t}, t ∈ L → ∃ f, RT G N H t.sh t.v t.d f
  | _, _, .nil, _, h => by simp at h
  | _, _, .cons h r, t, ht => by
    rcases List.mem_cons.mp ht with rfl | ht
    · exact ⟨_, h⟩
    · exact r.mem ht
/-- a field by its number, by its name -/
theorem fld_at (inj : ∀ i j, G.fld i = G.fld j → i = j) {k : Nat} : ∀ {ids : List Nat} {L : List Cl} {u : V} {j : Nat}, ids.length = L.length → ((ids.map G.fld).zip (L.map Cl.v)).lookup (G.fld k) = some u →
    (ids.zip (L.map Cl.d)).findIdx? (fun x => x.1 == k) = some j → ∃ t, L[j]? = some t ∧ t.v = u ∧ (ids.zip (L.map Cl.d))[j]? = some (k, t.d)
  | [], _, _, _, _, h, _ => by simp at h
  | i :: ids, [], _, _, hl, _, _ => by simp at hl
  | i :: ids, t :: L, u, j, hl, h, hj => by
    simp only [List.map_cons, List.zip_cons_cons, List.lookup_cons] at h
    simp only [List.map_cons, List.zip_cons_cons, List.findIdx?_cons] at hj
    by_cases e : i = k
    · subst e
      simp at h hj
      subst hj
      exact ⟨t, rfl, h, rfl⟩
    · have e2 : (G.fld k == G.fld i) = false := by
        simp only [beq_eq_false_iff_ne, ne_eq]
        exact fun z => e (inj _ _ z.symm)
      rw [e2] at h
      have e3 : (i == k) = false := by simpa using e
      simp only [e3] at hj
      cases hf : (ids.zip (L.map Cl.d)).findIdx? (fun x => x.1 == k) with
      | none => rw [hf] at hj; simp at hj
      | some j' =>
        rw [hf] at hj
        simp at hj
        subst hj
        obtain ⟨t', h1, h2, h3⟩ := fld_at inj (k := k) (ids := ids) (L := L) (by simpa using hl) h hf
        exact ⟨t', by simpa using h1, h2, by simpa using h3⟩
theorem RT.path {N : Addr → Prop} {H : Hp} : ∀ {p : List Stp} {sh : Sh} {v : V} {d : D} {fp : List Addr}, RT G N H sh v d fp → ∀ {sh2 d2 w}, pathD (sh, d) p = some (sh2, d2) → PathV G H v p w → ∃ f, RT G N H sh2 w d2 f
  | [], _, _, _, fp, h, _, _, _, e, rfl => by
    simp [pathD] at e
    obtain ⟨rfl, rfl⟩ := e
    exact ⟨fp, h⟩
  | .ix i :: p, sh, v, d, fp, h, sh2, d2, w, e, ⟨a, vs, u, ev, ea, eu, q⟩ => by
    cases h with
    | no => cases e
    | fz h => cases e
    | adr h => cases e
    | tab h => cases e
    | set => cases e
    | dct => cases e
    | ins => cases e
    | @lst b c L f h r w' =>
      cases ev
      rw [h] at ea
      cases ea
      show ∃ f, RT G N H sh2 w d2 f
      have e : (match (L.map Cl.d)[i]? with | some d => pathD (c, d) p | none => none) = some (sh2, d2) := e
      rw [List.getElem?_map] at e eu
      cases ht : L[i]? with
      | none => rw [ht] at eu; cases eu
      | some t =>
        rw [ht] at e eu
        cases eu
        have ht' : t ∈ L := List.mem_of_getElem? ht
        obtain ⟨f2, h2⟩ := r.mem ht'
        rw [w' t ht'] at h2
        exact RT.path h2 e q
  | .fld k :: p, sh, v, d, fp, h, sh2, d2, w, e, ⟨a, C, dx, fs, u, ev, ea, eu, q⟩ => by
    cases h with
    | no => cases e
    | fz h => cases e
    | adr h => cases e
    | tab h => cases e
    | set => cases e
    | dct => cases e
    | lst => cases e
    | @ins b c dx' L fp' ids h r hl =>
      cases ev
      rw [h] at ea
      cases ea
      unfold pathD at e
      split at e
      · rename_i j hj
        obtain ⟨t, h1, h2, h3⟩ := fld_at G.inj hl eu hj
        rw [List.getElem?_map, h1, h3] at e
        obtain ⟨f2, h4⟩ := r.mem (List.mem_of_getElem? h1)
        rw [h2] at h4
        exact RT.path h4 e q
      · cases e
  | .ky k :: p, sh, v, d, fp, h, sh2, d2, w, e, ⟨a, ks, u, ev, ea, eu, q⟩ => by
    cases h with
    | no => cases e
    | fz h => cases e
    | adr h => cases e
    | tab h => cases e
    | set => cases e
    | ins => cases e
    | lst => cases e
    | @dct b o c es L fp' h ob rk r hv hc =>
      cases ev
      unfold pathD at e
      split at e
      · rename_i hk
        have hl : (es.map En.k).length = L.length := by
          have := congrArg List.length hv
          simpa using this.symm
        obtain ⟨z1, z2, z3, z4⟩ := zip_rows hl
        have hall : (es.map En.k).all isKy = true := by
          rw [← z1, List.all_map]
          have hk1 := hk.1
          unfold dkOk at hk1
          rw [z4, List.all_map] at hk1
          exact hk1
        have ho := rows_of ob hv.symm hall
        rw [h, ho] at ea
        cases ea
        rw [z3, List.map_map] at eu
        have hks : ∀ r ∈ (es.map En.k).zip L, isKy r.1 = true := fun r hr => List.all_eq_true.mp hall _ (by rw [← z1]; exact List.mem_map.mpr ⟨r, hr, rfl⟩)
        have e1 := find_rows (f := Cl.v) hks hk.2
        have e2 : valV ((es.map En.k).zip L |>.map fun r => (kyD r.1, r.2.v)) (kyD k) = some u := eu
        rw [e1] at e2
        rw [z4] at e
        unfold kvGet at e
        rw [List.find?_map] at e
        cases hf : (open Classical in ((es.map En.k).zip L).find? fun r => decide (r.1 = k)) with
        | none => rw [hf] at e2; cases e2
        | some r0 =>
          rw [hf] at e2
          cases e2
          have hf' : ((es.map En.k).zip L).find? ((fun p : D × D => open Classical in decide (p.1 = k)) ∘ fun r => (r.1, r.2.d)) = some r0 := hf
          rw [hf'] at e
          have hm : r0.2 ∈ L := by rw [← z2]; exact List.mem_map.mpr ⟨r0, List.mem_of_find?_eq_some hf, rfl⟩
          obtain ⟨f2, h2⟩ := r.mem hm
          rw [hc _ hm] at h2
          exact RT.path h2 e q
      · cases e
theorem see_rx' {S : List Slot} {σ : Sg} {H : Hp} {A T : List Cl} {O : List Addr} (ag : Ag S σ) (o : OwnO G H (A ++ (cl S σ ++ T)) O) {r : Rv} {v : V} {sh d} (hA : ∀ t ∈ r.cls v, t ∈ A) (ok : r.ok G σ H v) (e : r.see S = some (sh, d)) (w : sh.flat = true) : RX G (fun a => a ∉ O) H v d := by
  cases r with
  | tmp sh' d' =>
    simp [Rv.see] at e
    obtain ⟨rfl, rfl⟩ := e
    obtain ⟨f, h⟩ := o.1.mem (t := ⟨sh', v, d'⟩) (List.mem_append_left _ (hA _ (by simp [Rv.cls])))
    exact h.rx w
  | ref i p =>
    obtain ⟨v0, ev, pv⟩ := ok
    have e : (match S[i]? with | some (some sd) => pathD sd p | _ => none) = some (sh, d) := e
    cases hS : S[i]? with
    | none => rw [hS] at e; cases e
    | some y => cases y with
      | none => rw [hS] at e; cases e
      | some sd =>
        rw [hS] at e
        obtain ⟨sh0, d0⟩ := sd
        have hm : (⟨sh0, v0, d0⟩ : Cl) ∈ cl S σ := (cl_get hS ev).mem_iff.mpr (by simp)
        obtain ⟨f, h⟩ := o.1.mem (t := ⟨sh0, v0, d0⟩) (List.mem_append_right _ (List.mem_append_left _ hm))
        obtain ⟨f2, h2⟩ := h.path e pv
        exact h2.rx w
inductive RXs (G : Gm) (N : Addr → Prop) (H : Hp) : List V → List D → Prop
  | nil : RXs G N H [] []
  | cons {v d vs ds} : RX G N H v d → RXs G N H vs ds → RXs G N H (v :: vs) (d :: ds)
theorem see_rxs' {S : List Slot} {σ : Sg} {H : Hp} {A T : List Cl} {O : List Addr} (ag : Ag S σ) (o : OwnO G H (A ++ (cl S σ ++ T)) O) : ∀ {rs : List Rv} {vs : List V} {ds}, (∀ t ∈ clsA rs vs, t ∈ A) → okA G σ H rs vs → seeAll S rs = some ds → RXs G (fun a => a ∉ O) H vs ds
  | [], [], ds, _, _, e => by simp [seeAll] at e; subst e; exact .nil
  | r :: rs, v :: vs, ds, hA, ⟨ok, oks⟩, e => by
    unfold seeAll at e
    split at e
    · rename_i sh d e1
      split at e
      · rename_i w
        split at e
        · rename_i ds' e2
          cases e
          exact .cons (see_rx' ag o (fun t ht => hA t (List.mem_append_left _ ht)) ok e1 w) (see_rxs' ag o (fun t ht => hA t (List.mem_append_right _ ht)) oks e2)
        · cases e
      · cases e
    · cases e
  | [], _ :: _, _, _, h, _ => h.elim
  | _ :: _, [], _, _, h, _ => h.elim

theorem see_rx {S : List Slot} {σ : Sg} {H : Hp} {A T : List Cl} {O : List Addr} (ag : Ag S σ) (o : OwnO G H (A ++ (cl S σ ++ T) ++ tabC G) O) {r : Rv} {v : V} {sh d} (hA : ∀ t ∈ r.cls v, t ∈ A) (ok : r.ok G σ H v) (e : r.see S = some (sh, d)) (w : sh.flat = true) : RX G (fun a => a ∉ O) H v d :=
  see_rx' (T := T ++ tabC G) ag (by rw [List.append_assoc, List.append_assoc] at o; exact o) hA ok e w
theorem see_rxs {S : List Slot} {σ : Sg} {H : Hp} {A T : List Cl} {O : List Addr} (ag : Ag S σ) (o : OwnO G H (A ++ (cl S σ ++ T) ++ tabC G) O) {rs : List Rv} {vs : List V} {ds : List D} (hA : ∀ t ∈ clsA rs vs, t ∈ A) (ok : okA G σ H rs vs) (e : seeAll S rs = some ds) : RXs G (fun a => a ∉ O) H vs ds :=
  see_rxs' (T := T ++ tabC G) ag (by rw [List.append_assoc, List.append_assoc] at o; exact o) hA ok e
/-- the operation r gives f of what is read, and leaves all that stood -/
def FunOk (G : Gm) (r : List V → Hp → VK → Prop) (f : List D → Option (Sh × D)) : Prop :=
  ∀ (H : Hp) (L : List Cl) (O : List Addr) (vs : List V) (ds : List D) (sh : Sh) (d : D) (Q : VK), OwnO G H (L ++ tabC G) O → RXs G (fun a => a ∉ O) H vs ds → f ds = some (sh, d) →
    (∀ v H', Same H H' → Own G H' (⟨sh, v, d⟩ :: L) → Q v H') → r vs H Q
theorem tem_fun {σ : Sg} {H : Hp} {Q : VK} {q : Bool} {r : List V → Hp → VK → Prop} {f : List D → Option (Sh × D)} {as : M (List Rv)} (F : FunOk G r f) (h : TEm G W q (mFun f as) σ H Q) : TAm G W q as σ H fun vs H1 => r vs H1 Q := by
  obtain ⟨S, T, re, S', ag, ow, e, k⟩ := h
  unfold mFun at e
  split at e
  · cases e
  · rename_i ex S1 e1
    cases e
    exact ⟨S, T, _, _, ag, ow, e1, k⟩
  · rename_i rs S1 e1
    refine ⟨S, T, _, S1, ag, ow, e1, fun vs H1 ag1 ow1 ok1 s1 => ?_⟩
    split at e
    · cases e
    · rename_i ds e2
      split at e
      · cases e
      · rename_i sh d e3
        cases e
        obtain ⟨O, o⟩ := ow1
        refine F H1 _ O vs ds sh d Q o (see_rxs ag1 o (fun t ht => ht) ok1 e2) e3 fun v H2 s2 o2 => ?_
        exact k v H2 ag1 (Own.dropMid (A := [⟨sh, v, d⟩]) o2) trivial fun hq => (s1 hq).trans s2
/-- two operands -/
def on2 (f : D → D → Option (Sh × D)) : List D → Option (Sh × D)
  | [x, y] => f x y
  | _ => none
def on1 (f : D → Option (Sh × D)) : List D → Option (Sh × D)
  | [x] => f x
  | _ => none
def r2 (r : R2) : List V → Hp → VK → Prop := fun vs H Q => ∃ x y, vs = [x, y] ∧ r x y H Q
def r1 (r : V → Hp → VK → Prop) : List V → Hp → VK → Prop := fun vs H Q => ∃ x, vs = [x] ∧ r x H Q
def Fun2 (G : Gm) (r : R2) (f : D → D → Option (Sh × D)) : Prop := FunOk G (r2 r) (on2 f)
def Fun1 (G : Gm) (r : V → Hp → VK → Prop) (f : D → Option (Sh × D)) : Prop := FunOk G (r1 r) (on1 f)
def mOp2 (f : D → D → Option (Sh × D)) (q1 : Bool) (a : M Rv) (q2 : Bool) (b : M Rv) : M Rv := mFun (on2 f) (mArgs [(q1, a), (q2, b)])
def mOp1 (f : D → Option (Sh × D)) (q1 : Bool) (a : M Rv) : M Rv := mFun (on1 f) (mArgs [(q1, a)])
theorem tem_op2 {σ : Sg} {H : Hp} {Q : VK} {q1 q2 : Bool} {r : R2} {f : D → D → Option (Sh × D)} {a b : M Rv} (F : Fun2 G r f) (h : TEm G W (q1 && q2) (mOp2 f q1 a q2 b) σ H Q) : tOp r (TEm G W q1 a) (TEm G W q2 b) σ H Q := by
  have h1 := tem_fun F h
  have e : (q1 && q2) = (([(q1, a), (q2, b)] : List (Bool × M Rv)).all (·.1)) := by simp
  rw [e] at h1
  have h2 := tam_cons h1
  have mono1 : ∀ (Q1 Q2 : VK) σ H, (∀ v H, Q1 v H → Q2 v H) → TEm G W q1 a σ H Q1 → TEm G W q1 a σ H Q2 := fun Q1 Q2 σ H i ⟨S, T, r, S', ag, ow, e, k⟩ => ⟨S, T, r, S', ag, ow, e, by cases r with
    | ok rv => exact fun v H' x1 x2 x3 x4 => i v H' (k v H' x1 x2 x3 x4)
    | error ex => exact k⟩
  have mono2 : ∀ (Q1 Q2 : VK) σ H, (∀ v H, Q1 v H → Q2 v H) → TEm G W q2 b σ H Q1 → TEm G W q2 b σ H Q2 := fun Q1 Q2 σ H i ⟨S, T, r, S', ag, ow, e, k⟩ => ⟨S, T, r, S', ag, ow, e, by cases r with
    | ok rv => exact fun v H' x1 x2 x3 x4 => i v H' (k v H' x1 x2 x3 x4)
    | error ex => exact k⟩
  refine mono1 _ _ σ H (fun v H1 h3 => ?_) h2
  refine mono2 _ _ σ H1 (fun u H2 h4 => ?_) (tam_cons h3)
  obtain ⟨x, y, e, q⟩ := tam_nil h4
  cases e
  exact q
theorem pe_mop {op : Operator} {r : R2} {f} {a b : Expr} {q1 q2 : Bool} {ma mb : M Rv} {pos : Pos} (ho : OpR X (binaryOp op) r) (F : Fun2 G r f) (ha : PE X a (TEm G W q1 ma)) (hb : PE X b (TEm G W q2 mb)) : PE X (.BinOp a op b pos) (TEm G W (q1 && q2) (mOp2 f q1 ma q2 mb)) :=
  (pe_op ho ha hb).imp fun _ _ _ h => tem_op2 F h
theorem pe_mcmp {op : CmpOp} {r : R2} {f} {a b : Expr} {q1 q2 : Bool} {ma mb : M Rv} {pos : Pos} (ho : OpR X (compareOp op) r) (F : Fun2 G r f) (ha : PE X a (TEm G W q1 ma)) (hb : PE X b (TEm G W q2 mb)) (hm : behindInMarks op b = false) : PE X (.Compare a [op] [b] pos) (TEm G W (q1 && q2) (mOp2 f q1 ma q2 mb)) :=
  (pe_cmpR ho ha hb hm).imp fun _ _ _ h => tem_op2 F h
end
end
end Dt

/-! Operators over data. -/
namespace Dt
noncomputable section
open PySem PySem.Spec PyProof.Rows L2

theorem OpR.or {X : Cx} {f : Value → Value → Sem Value} {r r' : R2} (h : OpR X f r) (h' : OpR X f r') : OpR X f (fun x y H Q => r x y H Q ∨ r' x y H Q) := by
  intro pins s σ H x y v u Q I rx ry q
  rcases q with q | q
  · exact h pins s σ H x y v u Q I rx ry q
  · exact h' pins s σ H x y v u Q I rx ry q
theorem Fun2.mk {G : Gm} {r : R2} {f : D → D → Option (Sh × D)} (h : ∀ (H : Hp) (L : List Cl) (O : List Addr) (v1 v2 : V) (d1 d2 : D) (sh : Sh) (d : D) (Q : VK), OwnO G H (L ++ tabC G) O → RX G (fun a => a ∉ O) H v1 d1 → RX G (fun a => a ∉ O) H v2 d2 → f d1 d2 = some (sh, d) →
    (∀ v H', Same H H' → Own G H' (⟨sh, v, d⟩ :: L) → Q v H') → r v1 v2 H Q) : Fun2 G r f := by
  intro H L O vs ds sh d Q o rx e k
  cases rx with
  | nil => cases e
  | cons h1 rx => cases rx with
    | nil => cases e
    | cons h2 rx => cases rx with
      | nil => exact ⟨_, _, rfl, h H L O _ _ _ _ sh d Q o h1 h2 e k⟩
      | cons h3 rx => cases e
theorem Fun1.mk {G : Gm} {r : V → Hp → VK → Prop} {f : D → Option (Sh × D)} (h : ∀ (H : Hp) (L : List Cl) (O : List Addr) (v1 : V) (d1 : D) (sh : Sh) (d : D) (Q : VK), OwnO G H (L ++ tabC G) O → RX G (fun a => a ∉ O) H v1 d1 → f d1 = some (sh, d) →
    (∀ v H', Same H H' → Own G H' (⟨sh, v, d⟩ :: L) → Q v H') → r v1 H Q) : Fun1 G r f := by
  intro H L O vs ds sh d Q o rx e k
  cases rx with
  | nil => cases e
  | cons h1 rx => cases rx with
    | nil => exact ⟨_, rfl, h H L O _ _ sh d Q o h1 e k⟩
    | cons h2 rx => cases e

/-! numbers -/
def addF : D → D → Option (Sh × D)
  | .int i, .int j => some (.fz, .int (i + j))
  | .str x, .str y => if x.length + y.length ≤ sizeLine then some (.fz, .str (x ++ y)) else none
  | .tup xs, .tup ys => if xs.length + ys.length ≤ sizeLine then some (.fz, .tup (xs ++ ys)) else none
  | .lst xs, .lst ys => if xs.length + ys.length ≤ sizeLine then some (.lst .fz, .lst (xs ++ ys)) else none
  | _, _ => none
def rCatL (K : PySem.W.Frag) : R2 := fun x y H Q => ∃ l b xs zs, x = .ref l ∧ y = .ref b ∧ SqL K H l xs ∧ SqL K H b zs ∧ xs.length + zs.length ≤ sizeLine ∧ ∀ p, H p = none → Q (.ref p) (upd H p (.lst (xs ++ zs)))
theorem op_catL {X : Cx} : OpR X (binaryOp .Add) (rCatL X.K) := by
  intro pins s σ H x y v u Q I rx ry h
  obtain ⟨l, b, xs, zs, rfl, rfl, hH, hB, hz, q⟩ := h
  cases rx
  cases ry
  obtain ⟨its, r, p1, hl⟩ := I.list hH
  obtain ⟨its2, r2, p2, hl2⟩ := I.list hB
  obtain ⟨⟨cls, dd, data, sl⟩, n, ho, hc, hd0, hd⟩ := p1
  obtain ⟨⟨cls2, dd2, data2, sl2⟩, n2, ho2, hc2, hd02, hd2⟩ := p2
  simp only at hc hd hc2 hd2
  subst hc hd hc2 hd2
  have e1 := r.length
  have e2 := r2.length
  refine concat_meets ⟨_, ho, rfl⟩ ⟨_, ho2, rfl⟩ noFill_list_add seq_list_add PySem.F.slot_list_add PySem.F.entry_list_add (PySem.F.args_list_add_2 _ _) (list_addW l b its.toArray its2.toArray n n2 dd dd2 sl sl2 (by rw [List.size_toArray, List.size_toArray]; omega)) ⟨ho, ho2, ?_⟩
  have ea : its.toArray ++ its2.toArray = (its ++ its2).toArray := by simp
  rw [ea]
  exact ⟨.ref _, _, I.lnew (t' := s.toks) (r.append r2) (by rw [List.length_append]; omega), rfl, q _ I.fresh⟩
def rAddD (K : PySem.W.Frag) : R2 := fun x y H Q => rI0 (fun i j => .int (i + j)) x y H Q ∨ (∃ i j, x = .str i ∧ y = .str j ∧ i.length + j.length ≤ sizeLine ∧ Q (.str (i ++ j)) H) ∨ rCatA K x y H Q ∨ rCatL K x y H Q
theorem op_addD {X : Cx} : OpR X (binaryOp .Add) (rAddD X.K) := OpR.or op_add (OpR.or op_add_str (OpR.or op_catA op_catL))
theorem str_app (x y : List Nat) : (⟨x.toArray⟩ : Str) ++ (⟨y.toArray⟩ : Str) = ⟨(x ++ y).toArray⟩ := by
  show Str.append _ _ = _
  simp [Str.append]
theorem str_len (x : List Nat) : (⟨x.toArray⟩ : Str).length = x.length := by simp [Str.length]
theorem fun_add {G : Gm} : Fun2 G (rAddD G.K) addF := Fun2.mk fun H L O v1 v2 d1 d2 sh d Q o h1 h2 e k => by
  unfold addF at e
  split at e
  · cases e
    cases h1.int_at; cases h2.int_at
    exact .inl ⟨_, _, rfl, rfl, k _ H (Same.refl H) ⟨O, o.cons (.int _)⟩⟩
  · split at e
    · rename_i x y hz
      cases e
      cases h1.str_at; cases h2.str_at
      refine .inr (.inl ⟨_, _, rfl, rfl, by rw [str_len, str_len]; exact hz, ?_⟩)
      rw [str_app]
      refine k _ H (Same.refl H) ⟨O, o.cons ?_⟩
      have := RF.str (G := G) (N := fun a => a ∉ O) (H := H) ⟨(x ++ y).toArray⟩
      simpa using this
    · cases e
  · split at e
    · rename_i xs ys hz
      cases e
      obtain ⟨a, vs, rfl, t1, r1⟩ := h1.tup_at
      obtain ⟨b, ws, rfl, t2, r2⟩ := h2.tup_at
      have e1 := r1.length
      have e2 := r2.length
      refine .inr (.inr (.inl ⟨a, b, vs, ws, rfl, rfl, t1, t2, by omega, fun q => ?_, fun q1 q2 => ?_, fun q1 q2 p hp => ?_⟩))
      · have : xs = [] := by rw [q] at e1; exact List.eq_nil_of_length_eq_zero e1.symm
        subst this
        refine k _ H (Same.refl H) ⟨O, o.cons ?_⟩
        cases h2 with
        | fz h => exact h
      · have : ys = [] := by rw [q2] at e2; exact List.eq_nil_of_length_eq_zero e2.symm
        subst this
        refine k _ H (Same.refl H) ⟨O, o.cons ?_⟩
        rw [List.append_nil]
        cases h1 with
        | fz h => exact h
      · exact k _ _ (upd_new hp) ⟨O, o.newTup (r1.append r2) hp⟩
    · cases e
  · split at e
    · rename_i xs ys hz
      cases e
      obtain ⟨a, vs, rfl, t1, r1⟩ := h1.lst_at
      obtain ⟨b, ws, rfl, t2, r2⟩ := h2.lst_at
      have e1 := r1.length
      have e2 := r2.length
      exact .inr (.inr (.inr ⟨a, b, vs, ws, rfl, rfl, t1, t2, by omega, fun p hp => k _ _ (upd_new hp) (o.newLst (r1.append r2) hp)⟩))
    · cases e
  · cases e
def subF : D → D → Option (Sh × D)
  | .int i, .int j => some (.fz, .int (i - j))
  | _, _ => none
theorem fun_sub {G : Gm} : Fun2 G (rI0 fun i j => .int (i - j)) subF := Fun2.mk fun H L O v1 v2 d1 d2 sh d Q o h1 h2 e k => by
  unfold subF at e
  split at e
  · cases e
    cases h1.int_at; cases h2.int_at
    exact ⟨_, _, rfl, rfl, k _ H (Same.refl H) ⟨O, o.cons (.int _)⟩⟩
  · cases e
def mulF : D → D → Option (Sh × D)
  | .int i, .int j => if (-(2 ^ 64) < i ∧ i < 2 ^ 64) ∨ (-(2 ^ 64) < j ∧ j < 2 ^ 64) then some (.fz, .int (i * j)) else none
  | _, _ => none
theorem fun_mul {G : Gm} : Fun2 G (rI CMul fun i j => .int (i * j)) mulF := Fun2.mk fun H L O v1 v2 d1 d2 sh d Q o h1 h2 e k => by
  unfold mulF at e
  split at e
  · split at e
    · rename_i c
      cases e
      cases h1.int_at; cases h2.int_at
      exact ⟨_, _, rfl, rfl, c, k _ H (Same.refl H) ⟨O, o.cons (.int _)⟩⟩
    · cases e
  · cases e
def divF : D → D → Option (Sh × D)
  | .int i, .int j => if 0 < j ∧ j < 1073741824 then some (.fz, .int (i / j)) else none
  | _, _ => none
theorem fun_div {G : Gm} : Fun2 G (rI CDiv fun i j => .int (i / j)) divF := Fun2.mk fun H L O v1 v2 d1 d2 sh d Q o h1 h2 e k => by
  unfold divF at e
  split at e
  · split at e
    · rename_i c
      cases e
      cases h1.int_at; cases h2.int_at
      exact ⟨_, _, rfl, rfl, c, k _ H (Same.refl H) ⟨O, o.cons (.int _)⟩⟩
    · cases e
  · cases e
def modF : D → D → Option (Sh × D)
  | .int i, .int j => if 0 < j then some (.fz, .int (i % j)) else none
  | _, _ => none
theorem fun_mod {G : Gm} : Fun2 G (rI (fun _ j => 0 < j) fun i j => .int (i % j)) modF := Fun2.mk fun H L O v1 v2 d1 d2 sh d Q o h1 h2 e k => by
  unfold modF at e
  split at e
  · split at e
    · rename_i c
      cases e
      cases h1.int_at; cases h2.int_at
      exact ⟨_, _, rfl, rfl, c, k _ H (Same.refl H) ⟨O, o.cons (.int _)⟩⟩
    · cases e
  · cases e
def powF : D → D → Option (Sh × D)
  | .int i, .int j => if 0 ≤ j ∧ j ≤ 1000000 ∧ i.natAbs < 2 ^ 64 then some (.fz, .int (i ^ j.toNat)) else none
  | _, _ => none
theorem fun_pow {G : Gm} : Fun2 G (rI CPow fun i j => .int (i ^ j.toNat)) powF := Fun2.mk fun H L O v1 v2 d1 d2 sh d Q o h1 h2 e k => by
  unfold powF at e
  split at e
  · split at e
    · rename_i c
      cases e
      cases h1.int_at; cases h2.int_at
      exact ⟨_, _, rfl, rfl, c, k _ H (Same.refl H) ⟨O, o.cons (.int _)⟩⟩
    · cases e
  · cases e

/-! data as the library's -/
mutual
def D.py : D → Option PyData
  | .non => some .none
  | .bl b => some (.bool b)
  | .int i => some (.int i)
  | .str x => some (.str ⟨x.toArray⟩)
  | .tup xs => match D.pys xs with
    | some ys => some (.tuple ys)
    | none => none
  | .lst xs => match D.pys xs with
    | some ys => some (.list ys)
    | none => none
  | _ => none
def D.pys : List D → Option (List PyData)
  | [] => some []
  | x :: xs => match D.py x, D.pys xs with
    | some y, some ys => some (y :: ys)
    | _, _ => none
end
mutual
theorem RF.dp {G : Gm} {N : Addr → Prop} {H : Hp} : ∀ {v d}, RF G N H v d → ∀ {p}, d.py = some p → Dp G.K H v p
  | _, _, .non, p, e => by simp [D.py] at e; subst e; exact .non
  | _, _, .bl b, p, e => by simp [D.py] at e; subst e; exact .bl b
  | _, _, .int i, p, e => by simp [D.py] at e; subst e; exact .int i
  | _, _, .str x, p, e => by simp [D.py] at e; subst e; exact .str x
  | _, _, .tup h r, p, e => by
    unfold D.py at e
    split at e
    · rename_i ys eys
      cases e
      exact .tup (h.elim (fun h => .inl h.1) .inr) (RFs.dp r eys)
    · cases e
  | _, _, .lst h r, p, e => by
    unfold D.py at e
    split at e
    · rename_i ys eys
      cases e
      exact .lst (h.elim (fun h => .inl h.1) .inr) (RFs.dp r eys)
    · cases e
  | _, _, .dct .., p, e => by cases e
  | _, _, .set .., p, e => by cases e
  | _, _, .ty _, p, e => by cases e
  | _, _, .cls _, p, e => by cases e
  | _, _, .ins .., p, e => by cases e
theorem RFs.dp {G : Gm} {N : Addr → Prop} {H : Hp} : ∀ {vs ds}, RFs G N H vs ds → ∀ {p}, D.pys ds = some p → DpAll G.K H vs p
  | _, _, .nil, p, e => by simp [D.pys] at e; subst e; exact .nil
  | _, _, .cons h r, p, e => by
    unfold D.pys at e
    split at e
    · rename_i y ys e1 e2
      cases e
      exact .cons (RF.dp h e1) (RFs.dp r e2)
    · cases e
end
theorem RX.dp {G : Gm} {N : Addr → Prop} {H : Hp} {v d p} (h : RX G N H v d) (e : d.py = some p) : Dp G.K H v p := by
  cases h with
  | fz h => exact h.dp e
  | lst h r =>
    unfold D.py at e
    split at e
    · rename_i ys eys
      cases e
      exact .lst (.inl (.inl h)) (r.dp eys)
    · cases e
  | dct h1 h2 h3 h4 => cases e
  | set h1 h2 h3 => cases e
/-- == -/
def eqB (a b : D) : Option Bool := match a.py, b.py with
  | some x, some y => if SeqAt.shaped x = true ∧ SeqAt.shaped y = true then some (PyData.eqv x y) else none
  | _, _ => none
def eqF (a b : D) : Option (Sh × D) := (eqB a b).map fun c => (.fz, .bl c)
def neF (a b : D) : Option (Sh × D) := (eqB a b).map fun c => (.fz, .bl (!c))
theorem fun_eq {G : Gm} : Fun2 G (rEqD G.K) eqF := Fun2.mk fun H L O v1 v2 d1 d2 sh d Q o h1 h2 e k => by
  unfold eqF eqB at e
  split at e
  · rename_i x y e1 e2
    split at e
    · rename_i c
      cases e
      exact ⟨x, y, h1.dp e1, h2.dp e2, c.1, c.2, k _ H (Same.refl H) ⟨O, o.cons (.bl _)⟩⟩
    · cases e
  · cases e
theorem fun_ne {G : Gm} : Fun2 G (rNeD G.K) neF := Fun2.mk fun H L O v1 v2 d1 d2 sh d Q o h1 h2 e k => by
  unfold neF eqB at e
  split at e
  · rename_i x y e1 e2
    split at e
    · rename_i c
      cases e
      exact ⟨x, y, h1.dp e1, h2.dp e2, c.1, c.2, k _ H (Same.refl H) ⟨O, o.cons (.bl _)⟩⟩
    · cases e
  · cases e

/-! subscripts by a number -/
def idxF : D → D → Option (Sh × D)
  | .lst xs, .int i => (atI xs i).map fun d => (.fz, d)
  | .tup xs, .int i => (atI xs i).map fun d => (.fz, d)
  | .str x, .int i => if x.length ≤ sizeLine then (atI x i).map fun c => (.fz, .str [c]) else none
  | _, _ => none
theorem RFs.atI {G : Gm} {N : Addr → Prop} {H : Hp} {vs : List V} {ds : List D} {i : Int} {d : D} (r : RFs G N H vs ds) (e : atI ds i = some d) : ∃ v, atI vs i = some v ∧ RF G N H v d := by
  unfold L2.atI at e ⊢
  rw [r.length]
  cases h : ixN ds.length i with
  | none => rw [h] at e; cases e
  | some j =>
    rw [h] at e
    exact r.get e
theorem fun_idx {G : Gm} : Fun2 G (rIx G.K) idxF := Fun2.mk fun H L O v1 v2 d1 d2 sh d Q o h1 h2 e k => by
  unfold idxF at e
  split at e
  · rename_i xs i
    cases h2.int_at
    obtain ⟨a, vs, rfl, t, r⟩ := h1.lst_at
    cases h : atI xs i with
    | none => rw [h] at e; cases e
    | some d' =>
      rw [h] at e
      cases e
      obtain ⟨v, ev, rv⟩ := r.atI h
      exact .inl ⟨a, vs, i, v, rfl, rfl, t, ev, k _ H (Same.refl H) ⟨O, o.cons rv⟩⟩
  · rename_i xs i
    cases h2.int_at
    obtain ⟨a, vs, rfl, t, r⟩ := h1.tup_at
    cases h : atI xs i with
    | none => rw [h] at e; cases e
    | some d' =>
      rw [h] at e
      cases e
      obtain ⟨v, ev, rv⟩ := r.atI h
      exact .inr (.inl ⟨a, vs, i, v, rfl, rfl, t, ev, k _ H (Same.refl H) ⟨O, o.cons rv⟩⟩)
  · rename_i x i
    cases h2.int_at
    cases h1.str_at
    split at e
    · rename_i hz
      cases h : atI x i with
      | none => rw [h] at e; cases e
      | some c =>
        rw [h] at e
        cases e
        refine .inr (.inr ⟨_, i, c, rfl, rfl, by rw [str_len]; exact hz, by simpa using h, k _ H (Same.refl H) ⟨O, o.cons ?_⟩⟩)
        exact RF.str ⟨#[c]⟩
    · cases e
  · cases e
end
end Dt

/-! Tests; and, or, not; a if t else b. -/
namespace Dt
noncomputable section
open PySem PySem.Spec PyProof.Rows L2

/-- a truth value from an expression -/
def mBool (m : M Rv) : M Bool := fun S => match m S with
  | none => none
  | some (.error e, S1) => some (.error e, S1)
  | some (.ok (.tmp .fz (.bl b)), S1) => some (.ok b, S1)
  | _ => none
def bAnd (a b : M Bool) : M Bool := fun S => match a S with
  | none => none
  | some (.error e, S1) => some (.error e, S1)
  | some (.ok true, S1) => b S1
  | some (.ok false, S1) => some (.ok false, S1)
def bOr (a b : M Bool) : M Bool := fun S => match a S with
  | none => none
  | some (.error e, S1) => some (.error e, S1)
  | some (.ok true, S1) => some (.ok true, S1)
  | some (.ok false, S1) => b S1
def bNot (a : M Bool) : M Bool := fun S => match a S with
  | none => none
  | some (.error e, S1) => some (.error e, S1)
  | some (.ok b, S1) => some (.ok (!b), S1)
def bIf (c : M Bool) (a b : M Rv) : M Rv := fun S => match c S with
  | none => none
  | some (.error e, S1) => some (.error e, S1)
  | some (.ok true, S1) => a S1
  | some (.ok false, S1) => b S1
/-- a truth value as a value -/
def mOfB (a : M Bool) : M Rv := fun S => match a S with
  | none => none
  | some (.error e, S1) => some (.error e, S1)
  | some (.ok b, S1) => some (.ok (.tmp .fz (.bl b)), S1)

theorem andL {a b : Bool} (h : (a && b) = true) : a = true := (Bool.and_eq_true_iff.mp h).1
theorem andR {a b : Bool} (h : (a && b) = true) : b = true := (Bool.and_eq_true_iff.mp h).2
section
variable {X : Cx} {G : Gm} {W : WX} {σ : Sg} {H : Hp} {q q1 q2 q3 : Bool}
theorem tem_mono {m : M Rv} {Q Q' : VK} (h : TEm G W q m σ H Q) (i : ∀ v H, Q v H → Q' v H) : TEm G W q m σ H Q' := by
  obtain ⟨S, T, r, S', ag, ow, e, k⟩ := h
  refine ⟨S, T, r, S', ag, ow, e, ?_⟩
  cases r with
  | ok rv => exact fun v H' x1 x2 x3 x4 => i v H' (k v H' x1 x2 x3 x4)
  | error ex => exact k
theorem ttm_mono {m : M Bool} {Q Q' : Bool → Hp → Prop} (h : TTm G W q m σ H Q) (i : ∀ v H, Q v H → Q' v H) : TTm G W q m σ H Q' := by
  obtain ⟨S, T, r, S', ag, ow, e, k⟩ := h
  refine ⟨S, T, r, S', ag, ow, e, ?_⟩
  cases r with
  | ok rv => exact fun H' x1 x2 x3 => i rv H' (k H' x1 x2 x3)
  | error ex => exact k
theorem Own.bl_head {L : List Cl} {v : V} {b : Bool} (h : Own G H (⟨.fz, v, .bl b⟩ :: L)) : v = .bl b := by
  obtain ⟨O, h⟩ := h
  have := h.head.1
  cases this
  rfl
/-- the value of m is a truth value -/
theorem ttm_val {m : M Rv} {Q : Bool → Hp → Prop} (h : TTm G W q (mBool m) σ H Q) : TEm G W q m σ H fun v H1 => ∃ c, v = .bl c ∧ Q c H1 := by
  obtain ⟨S, T, r, S', ag, ow, e, k⟩ := h
  unfold mBool at e
  split at e
  · cases e
  · rename_i e1
    cases e
    exact ⟨S, T, _, _, ag, ow, e1, k⟩
  · rename_i b S1 e1
    cases e
    refine ⟨S, T, _, _, ag, ow, e1, fun v H' a1 a2 a3 a4 => ⟨b, Own.bl_head a2, k H' a1 (Own.tail a2) a4⟩⟩
  · cases e
theorem pt_mval {e : Expr} {m : M Rv} (h : PE X e (TEm G W q m)) (he : ∀ whole, isTrue e X.env whole = (do let v ← whole; standAt e.pos; holding [v] (truthy v))) : PT X e (TTm G W q (mBool m)) :=
  (pt_val h he).imp fun _ _ _ h => ttm_val h
theorem pt_mcmp {op : CmpOp} {r : R2} {f} {a b : Expr} {ma mb : M Rv} {pos : Pos} (ho : OpR X (compareOp op) r) (F : Fun2 G r f) (ha : PE X a (TEm G W q1 ma)) (hb : PE X b (TEm G W q2 mb)) (hm : behindInMarks op b = false) :
    PT X (.Compare a [op] [b] pos) (TTm G W (q1 && q2) (mBool (mOp2 f q1 ma q2 mb))) := (pt_cmpR ho ha hb hm).imp fun _ _ _ h => tem_op2 F (ttm_val h)
theorem ttm_and {a b : M Bool} {Q : Bool → Hp → Prop} (h : TTm G W (q1 && q2) (bAnd a b) σ H Q) : tAnd (TTm G W q1 a) (TTm G W q2 b) σ H Q := by
  obtain ⟨S, T, r, S', ag, ow, e, k⟩ := h
  unfold bAnd at e
  split at e
  · cases e
  · rename_i e1
    cases e
    exact ⟨S, T, _, _, ag, ow, e1, k⟩
  · rename_i S1 e1
    refine ⟨S, T, _, _, ag, ow, e1, fun H1 a1 a2 a3 => ?_⟩
    refine iteT ?_
    refine ⟨S1, T, r, S', a1, a2, e, ?_⟩
    cases r with
    | ok b => exact fun H2 b1 b2 b3 => k H2 b1 b2 fun hq => (a3 (andL hq)).trans (b3 (andR hq))
    | error ex => exact k
  · rename_i S1 e1
    cases e
    refine ⟨S, T, _, _, ag, ow, e1, fun H1 a1 a2 a3 => ?_⟩
    refine iteF ?_
    exact k H1 a1 a2 fun hq => a3 (andL hq)
theorem ttm_or {a b : M Bool} {Q : Bool → Hp → Prop} (h : TTm G W (q1 && q2) (bOr a b) σ H Q) : tOr (TTm G W q1 a) (TTm G W q2 b) σ H Q := by
  obtain ⟨S, T, r, S', ag, ow, e, k⟩ := h
  unfold bOr at e
  split at e
  · cases e
  · rename_i e1
    cases e
    exact ⟨S, T, _, _, ag, ow, e1, k⟩
  · rename_i S1 e1
    cases e
    refine ⟨S, T, _, _, ag, ow, e1, fun H1 a1 a2 a3 => ?_⟩
    refine iteT ?_
    exact k H1 a1 a2 fun hq => a3 (andL hq)
  · rename_i S1 e1
    refine ⟨S, T, _, _, ag, ow, e1, fun H1 a1 a2 a3 => ?_⟩
    refine iteF ?_
    refine ⟨S1, T, r, S', a1, a2, e, ?_⟩
    cases r with
    | ok b => exact fun H2 b1 b2 b3 => k H2 b1 b2 fun hq => (a3 (andL hq)).trans (b3 (andR hq))
    | error ex => exact k
theorem ttm_not {a : M Bool} {Q : Bool → Hp → Prop} (h : TTm G W q (bNot a) σ H Q) : tNot (TTm G W q a) σ H Q := by
  obtain ⟨S, T, r, S', ag, ow, e, k⟩ := h
  unfold bNot at e
  split at e
  · cases e
  · rename_i e1
    cases e
    exact ⟨S, T, _, _, ag, ow, e1, k⟩
  · rename_i b S1 e1
    cases e
    exact ⟨S, T, _, _, ag, ow, e1, k⟩
theorem pt_mnot {a : Expr} {m : M Bool} {pos : Pos} (h : PT X a (TTm G W q m)) : PT X (.UnaryOp .Not a pos) (TTm G W q (bNot m)) := (pt_not h).imp fun _ _ _ h => ttm_not h
theorem _root_.L2.PW.imp {X : Cx} {e : Expr} {t t' : TT} (h : PW X e t) (i : ∀ σ H Q, t' σ H Q → t σ H Q) : PW X e t' := ⟨fun wh pins s σ H Q I q => h.run wh pins s σ H Q I (i σ H Q q)⟩
theorem pw_mand1 {a : Expr} {m : M Bool} {pos : Pos} (h : PT X a (TTm G W q m)) : PW X (.BoolOp .And [a] pos) (TTm G W q m) := pw_and1 h
theorem pw_mor1 {a : Expr} {m : M Bool} {pos : Pos} (h : PT X a (TTm G W q m)) : PW X (.BoolOp .Or [a] pos) (TTm G W q m) := pw_or1 h
theorem pw_mand {a b : Expr} {rest : List Expr} {m m' : M Bool} {pos : Pos} (h : PT X a (TTm G W q1 m)) (h' : PW X (.BoolOp .And (b :: rest) pos) (TTm G W q2 m')) : PW X (.BoolOp .And (a :: b :: rest) pos) (TTm G W (q1 && q2) (bAnd m m')) := (pw_and h h').imp fun _ _ _ h => ttm_and h
theorem pw_mor {a b : Expr} {rest : List Expr} {m m' : M Bool} {pos : Pos} (h : PT X a (TTm G W q1 m)) (h' : PW X (.BoolOp .Or (b :: rest) pos) (TTm G W q2 m')) : PW X (.BoolOp .Or (a :: b :: rest) pos) (TTm G W (q1 && q2) (bOr m m')) := (pw_or h h').imp fun _ _ _ h => ttm_or h
theorem tem_if {c : M Bool} {a b : M Rv} {Q : VK} (h : TEm G W (q1 && (q2 && q3)) (bIf c a b) σ H Q) : tIf (TTm G W q1 c) (TEm G W q2 a) (TEm G W q3 b) σ H Q := by
  obtain ⟨S, T, r, S', ag, ow, e, k⟩ := h
  unfold bIf at e
  split at e
  · cases e
  · rename_i e1
    cases e
    exact ⟨S, T, _, _, ag, ow, e1, k⟩
  · rename_i S1 e1
    refine ⟨S, T, _, _, ag, ow, e1, fun H1 a1 a2 a3 => ?_⟩
    refine iteT ?_
    refine ⟨S1, T, r, S', a1, a2, e, ?_⟩
    cases r with
    | ok b => exact fun v H2 b1 b2 b3 b4 => k v H2 b1 b2 b3 fun hq => (a3 (andL hq)).trans (b4 (andL (andR hq)))
    | error ex => exact k
  · rename_i S1 e1
    refine ⟨S, T, _, _, ag, ow, e1, fun H1 a1 a2 a3 => ?_⟩
    refine iteF ?_
    refine ⟨S1, T, r, S', a1, a2, e, ?_⟩
    cases r with
    | ok b => exact fun v H2 b1 b2 b3 b4 => k v H2 b1 b2 b3 fun hq => (a3 (andL hq)).trans (b4 (andR (andR hq)))
    | error ex => exact k
theorem pe_mif {c a b : Expr} {pos : Pos} {mc : M Bool} {ma mb : M Rv} (hc : PT X c (TTm G W q1 mc)) (ha : PE X a (TEm G W q2 ma)) (hb : PE X b (TEm G W q3 mb)) : PE X (.IfExp c a b pos) (TEm G W (q1 && (q2 && q3)) (bIf mc ma mb)) :=
  (pe_ifExp hc ha hb).imp fun _ _ _ h => tem_if h
/-- and, or of truth values, as values: all but the last are truth values -/
def vAnd (a b : M Rv) : M Rv := fun S => match mBool a S with
  | none => none
  | some (.error e, S1) => some (.error e, S1)
  | some (.ok true, S1) => b S1
  | some (.ok false, S1) => some (.ok (.tmp .fz (.bl false)), S1)
def vOr (a b : M Rv) : M Rv := fun S => match mBool a S with
  | none => none
  | some (.error e, S1) => some (.error e, S1)
  | some (.ok true, S1) => some (.ok (.tmp .fz (.bl true)), S1)
  | some (.ok false, S1) => b S1
def vNot (a : M Rv) : M Rv := mOfB (bNot (mBool a))
theorem tem_vand {a b : M Rv} {Q : VK} (h : TEm G W (q1 && q2) (vAnd a b) σ H Q) : tAndV (TEm G W q1 a) (TEm G W q2 b) σ H Q := by
  obtain ⟨S, T, r, S', ag, ow, e, k⟩ := h
  unfold vAnd at e
  have main : TTm G W q1 (mBool a) σ H fun c H1 => if c = true then TEm G W q2 b σ H1 Q else Q (.bl false) H1 := by
    split at e
    · cases e
    · rename_i e1
      cases e
      exact ⟨S, T, _, _, ag, ow, e1, k⟩
    · rename_i S1 e1
      refine ⟨S, T, _, _, ag, ow, e1, fun H1 a1 a2 a3 => ?_⟩
      refine iteT ?_
      refine ⟨S1, T, r, S', a1, a2, e, ?_⟩
      cases r with
      | ok b => exact fun v H2 b1 b2 b3 b4 => k v H2 b1 b2 b3 fun hq => (a3 (andL hq)).trans (b4 (andR hq))
      | error ex => exact k
    · rename_i S1 e1
      cases e
      refine ⟨S, T, _, _, ag, ow, e1, fun H1 a1 a2 a3 => ?_⟩
      refine iteF ?_
      exact k _ H1 a1 (Own.blC false a2) trivial fun hq => a3 (andL hq)
  exact ttm_val main
theorem tem_vor {a b : M Rv} {Q : VK} (h : TEm G W (q1 && q2) (vOr a b) σ H Q) : tOrV (TEm G W q1 a) (TEm G W q2 b) σ H Q := by
  obtain ⟨S, T, r, S', ag, ow, e, k⟩ := h
  unfold vOr at e
  have main : TTm G W q1 (mBool a) σ H fun c H1 => if c = true then Q (.bl true) H1 else TEm G W q2 b σ H1 Q := by
    split at e
    · cases e
    · rename_i e1
      cases e
      exact ⟨S, T, _, _, ag, ow, e1, k⟩
    · rename_i S1 e1
      cases e
      refine ⟨S, T, _, _, ag, ow, e1, fun H1 a1 a2 a3 => ?_⟩
      refine iteT ?_
      exact k _ H1 a1 (Own.blC true a2) trivial fun hq => a3 (andL hq)
    · rename_i S1 e1
      refine ⟨S, T, _, _, ag, ow, e1, fun H1 a1 a2 a3 => ?_⟩
      refine iteF ?_
      refine ⟨S1, T, r, S', a1, a2, e, ?_⟩
      cases r with
      | ok b => exact fun v H2 b1 b2 b3 b4 => k v H2 b1 b2 b3 fun hq => (a3 (andL hq)).trans (b4 (andR hq))
      | error ex => exact k
  exact ttm_val main
theorem pe_mand {a b : Expr} {rest : List Expr} {m m' : M Rv} {pos : Pos} (h : PE X a (TEm G W q1 m)) (h' : PE X (.BoolOp .And (b :: rest) pos) (TEm G W q2 m')) : PE X (.BoolOp .And (a :: b :: rest) pos) (TEm G W (q1 && q2) (vAnd m m')) := (pe_and h h').imp fun _ _ _ h => tem_vand h
theorem pe_mor {a b : Expr} {rest : List Expr} {m m' : M Rv} {pos : Pos} (h : PE X a (TEm G W q1 m)) (h' : PE X (.BoolOp .Or (b :: rest) pos) (TEm G W q2 m')) : PE X (.BoolOp .Or (a :: b :: rest) pos) (TEm G W (q1 && q2) (vOr m m')) := (pe_or h h').imp fun _ _ _ h => tem_vor h
theorem pe_mnotv {a : Expr} {m : M Rv} {pos : Pos} (h : PE X a (TEm G W q m)) : PE X (.UnaryOp .Not a pos) (TEm G W q (vNot m)) := by
  refine (pe_not h).imp fun σ H Q h => ?_
  refine ttm_val (m := m) (Q := fun c H1 => Q (.bl (!c)) H1) ?_
  obtain ⟨S, T, r, S', ag, ow, e, k⟩ := h
  unfold vNot mOfB bNot at e
  cases h : mBool m S with
  | none => rw [h] at e; cases e
  | some y =>
    rw [h] at e
    obtain ⟨y, S1⟩ := y
    cases y with
    | error ex => cases e; exact ⟨S, T, _, _, ag, ow, h, k⟩
    | ok b => cases e; exact ⟨S, T, _, _, ag, ow, h, fun H1 a1 a2 a3 => k _ H1 a1 (Own.blC _ a2) trivial a3⟩
end
end
end Dt

/-! Statements. -/
namespace Dt
noncomputable section
open PySem PySem.Spec PyProof.Rows L2

/-- how a statement ends -/
inductive Fl where
  | nx
  | rt (sh : Sh) (d : D)
  | bk
  | ct
/-- slots that stay bound to what the caller handed in -/
abbrev Bw := Nat → Bool
def Kb (B : Bw) (σ σ' : Sg) : Prop := ∀ j, B j = true → σ'[j]? = σ[j]?
theorem Kb.refl {B : Bw} {σ : Sg} : Kb B σ σ := fun _ _ => rfl
theorem Kb.trans {B : Bw} {σ σ' σ'' : Sg} (a : Kb B σ σ') (b : Kb B σ' σ'') : Kb B σ σ'' := fun j h => (b j h).trans (a j h)
theorem Kb.set {B : Bw} {σ : Sg} {i : Nat} {v} (h : B i = false) : Kb B σ (σ.set i v) := fun j hj => by
  rw [List.getElem?_set_ne]
  intro e
  rw [e] at h
  rw [h] at hj
  cases hj
abbrev MS := M Fl
/-- a statement's reading -/
def TSm (G : Gm) (W : WX) (B : Bw) (m : MS) : TS := fun D σ H => ∃ S T r S', Ag S σ ∧ Own G H (cl S σ ++ T) ∧ m S = some (r, S') ∧
  match r with
  | .ok .nx => ∀ σ' H', Ag S' σ' → Own G H' (cl S' σ' ++ T) → Kb B σ σ' → D.nx σ' H'
  | .ok (.rt sh d) => ∀ v σ' H', Ag S' σ' → Own G H' (⟨sh, v, d⟩ :: (cl S' σ' ++ T)) → Kb B σ σ' → D.rt v H'
  | .ok .bk => ∀ σ' H', Ag S' σ' → Own G H' (cl S' σ' ++ T) → Kb B σ σ' → D.bk σ' H'
  | .ok .ct => ∀ σ' H', Ag S' σ' → Own G H' (cl S' σ' ++ T) → Kb B σ σ' → D.ct σ' H'
  | .error ex => ∀ cv od σ' H', Ag S' σ' → OwnX G H' ex od (cl S' σ' ++ T) → Kb B σ σ' → ExAt G H' ex cv od → W cv od σ' H'

/-! the semantics -/
def sPass : MS := fun S => some (.ok .nx, S)
def sSet (B : Bw) (i : Nat) (m : M Rv) : MS := fun S => match m S with
  | none => none
  | some (.error e, S1) => some (.error e, S1)
  | some (.ok (.tmp sh d), S1) => if B i = true then none else if i < S1.length then some (.ok .nx, S1.set i (some (sh, d))) else none
  | _ => none
def sExpr (m : M Rv) : MS := fun S => match m S with
  | none => none
  | some (.error e, S1) => some (.error e, S1)
  | some (.ok _, S1) => some (.ok .nx, S1)
def sRet (m : M Rv) : MS := fun S => match m S with
  | none => none
  | some (.error e, S1) => some (.error e, S1)
  | some (.ok (.tmp sh d), S1) => some (.ok (.rt sh d), S1)
  | _ => none
def sRetN : MS := fun S => some (.ok (.rt .fz .non), S)
def sSeq (a b : MS) : MS := fun S => match a S with
  | some (.ok .nx, S1) => b S1
  | r => r
def sIf (c : M Bool) (a b : MS) : MS := fun S => match c S with
  | none => none
  | some (.error e, S1) => some (.error e, S1)
  | some (.ok true, S1) => a S1
  | some (.ok false, S1) => b S1
def sBreak : MS := fun S => some (.ok .bk, S)
def sCont : MS := fun S => some (.ok .ct, S)
/-- the name's thing is handed out: the slot is empty behind it -/
def mMove (i : Nat) : M Rv := fun S => match S[i]? with
  | some (some (sh, d)) => some (.ok (.tmp sh d), S.set i none)
  | _ => none

section
variable {X : Cx} {G : Gm} {W : WX} {B : Bw} {q q1 q2 : Bool}
theorem _root_.L2.PS.imp {X : Cx} {e : Stmt} {t t' : TS} (h : PS X e t) (i : ∀ D σ H, t' D σ H → t D σ H) : PS X e t' := ⟨fun pins s σ H D I q => h.run pins s σ H D I (i D σ H q)⟩
theorem _root_.L2.PSs.imp {X : Cx} {e : List Stmt} {t t' : TS} (h : PSs X e t) (i : ∀ D σ H, t' D σ H → t D σ H) : PSs X e t' := ⟨fun pins s σ H D I q => h.run pins s σ H D I (i D σ H q)⟩

theorem pe_mmove {i : Nat} {x : Str} {pos : Pos} (hN : X.N[i]? = some x) (hv : Vis X.env.scope x) (hd : (x == ("__debug__" : Str)) = false) (hcd : (x == ("__classdict__" : Str)) = false) : PE X (.Name x pos) (TEm G W true (mMove i)) := by
  refine (pe_var hN hv hd hcd).imp fun σ H Q h => ?_
  obtain ⟨S, T, r, S', ag, ow, e, k⟩ := h
  unfold mMove at e
  split at e
  · rename_i sh d hS
    cases e
    obtain ⟨v, hv⟩ := ag.get hS
    exact ⟨v, hv, k v H ag.unset (ow.perm ((cl_get hS hv).append_right T)) trivial fun _ => Same.refl H⟩
  · cases e
theorem ps_mpass {pos : Pos} : PS X (.Pass pos) (TSm G W B sPass) := ps_pass.imp fun D σ H h => by
  obtain ⟨S, T, r, S', ag, ow, e, k⟩ := h
  cases e
  exact k σ H ag ow Kb.refl
theorem ps_mbreak {pos : Pos} : PS X (.Break pos) (TSm G W B sBreak) := ps_break.imp fun D σ H h => by
  obtain ⟨S, T, r, S', ag, ow, e, k⟩ := h
  cases e
  exact k σ H ag ow Kb.refl
theorem ps_mcont {pos : Pos} : PS X (.Continue pos) (TSm G W B sCont) := ps_continue.imp fun D σ H h => by
  obtain ⟨S, T, r, S', ag, ow, e, k⟩ := h
  cases e
  exact k σ H ag ow Kb.refl
theorem ps_mretN {pos : Pos} : PS X (.Return none pos) (TSm G W B sRetN) := ps_retN.imp fun D σ H h => by
  obtain ⟨S, T, r, S', ag, ow, e, k⟩ := h
  cases e
  exact k .non σ H ag (Own.nonC ow) Kb.refl
theorem tsm_set {D : Ends} {σ : Sg} {H : Hp} {i : Nat} {m : M Rv} (h : TSm G W B (sSet B i m) D σ H) : tAsg (TEm G W q m) (gName i) D σ H := by
  obtain ⟨S, T, r, S', ag, ow, e, k⟩ := h
  unfold sSet at e
  split at e
  · cases e
  · rename_i e1
    cases e
    exact ⟨S, T, _, _, ag, ow, e1, fun cv od H' a1 a2 x => k cv od σ H' a1 a2 Kb.refl x⟩
  · rename_i sh d S1 e1
    split at e
    · cases e
    · rename_i hB
      split at e
      · rename_i hl
        cases e
        refine ⟨S, T, _, _, ag, ow, e1, fun v H' a1 a2 _ _ => ?_⟩
        exact k _ H' (a1.store) (Own.store a1 hl a2) (Kb.set (by simpa using hB))
      · cases e
  · cases e
theorem ps_mset {i : Nat} {x : Str} {e : Expr} {m : M Rv} {pos pos' : Pos} (hN : X.N.Nodup) (hi : X.N[i]? = some x) (hx : Loc X.env.scope x) (he : PE X e (TEm G W q m)) (hs : swapsWith e (some (.Name x pos')) pos.line X.env = pure false) (hf : X.fn x = true ∨ X.env.scope.names.lookup x = some .local) :
    PS X (.Assign [.Name x pos'] e pos) (TSm G W B (sSet B i m)) := (ps_set hN hi hx he hs hf).imp fun _ _ _ h => tsm_set h
theorem ps_mexpr {e : Expr} {m : M Rv} {pos : Pos} (he : PE X e (TEm G W q m)) (hs : swapsWith e none pos.line X.env = pure false) : PS X (.Expr e pos) (TSm G W B (sExpr m)) := (ps_expr he hs).imp fun D σ H h => by
  obtain ⟨S, T, r, S', ag, ow, e, k⟩ := h
  unfold sExpr at e
  split at e
  · cases e
  · rename_i e1
    cases e
    exact ⟨S, T, _, _, ag, ow, e1, fun cv od H' a1 a2 x => k cv od σ H' a1 a2 Kb.refl x⟩
  · rename_i rv S1 e1
    cases e
    exact ⟨S, T, _, _, ag, ow, e1, fun v H' a1 a2 _ _ => k σ H' a1 a2.drop Kb.refl⟩
theorem ps_mret {e : Expr} {m : M Rv} {pos : Pos} (he : PE X e (TEm G W q m)) : PS X (.Return (some e) pos) (TSm G W B (sRet m)) := (ps_ret he).imp fun D σ H h => by
  obtain ⟨S, T, r, S', ag, ow, e, k⟩ := h
  unfold sRet at e
  split at e
  · cases e
  · rename_i e1
    cases e
    exact ⟨S, T, _, _, ag, ow, e1, fun cv od H' a1 a2 x => k cv od σ H' a1 a2 Kb.refl x⟩
  · rename_i rv S1 e1
    cases e
    exact ⟨S, T, _, _, ag, ow, e1, fun v H' a1 a2 _ _ => k v σ H' a1 a2 Kb.refl⟩
  · cases e
theorem tsm_seq {a b : MS} {D : Ends} {σ : Sg} {H : Hp} (h : TSm G W B (sSeq a b) D σ H) : tSeq (TSm G W B a) (TSm G W B b) D σ H := by
  obtain ⟨S, T, r, S', ag, ow, e, k⟩ := h
  unfold sSeq at e
  split at e
  · rename_i S1 e1
    refine ⟨S, T, _, _, ag, ow, e1, fun σ1 H1 a1 a2 kb => ?_⟩
    refine ⟨S1, T, r, S', a1, a2, e, ?_⟩
    cases r with
    | error ex => exact fun cv od σ' H' b1 b2 kb' x => k cv od σ' H' b1 b2 (kb.trans kb') x
    | ok f => cases f with
      | nx => exact fun σ' H' b1 b2 kb' => k σ' H' b1 b2 (kb.trans kb')
      | bk => exact fun σ' H' b1 b2 kb' => k σ' H' b1 b2 (kb.trans kb')
      | ct => exact fun σ' H' b1 b2 kb' => k σ' H' b1 b2 (kb.trans kb')
      | rt sh d => exact fun v σ' H' b1 b2 kb' => k v σ' H' b1 b2 (kb.trans kb')
  · rename_i hne
    refine ⟨S, T, r, S', ag, ow, e, ?_⟩
    cases r with
    | error ex => exact k
    | ok f => cases f with
      | nx => exact absurd e (hne S')
      | bk => exact k
      | ct => exact k
      | rt sh d => exact k
theorem pss_mnil : PSs X [] (TSm G W B sPass) := pss_nil.imp fun D σ H h => by
  obtain ⟨S, T, r, S', ag, ow, e, k⟩ := h
  cases e
  exact k σ H ag ow Kb.refl
theorem pss_mcons {st : Stmt} {rest : List Stmt} {a b : MS} (h : PS X st (TSm G W B a)) (h' : PSs X rest (TSm G W B b)) : PSs X (st :: rest) (TSm G W B (sSeq a b)) := (pss_cons h h').imp fun _ _ _ h => tsm_seq h
theorem tsm_if {c : M Bool} {a b : MS} {D : Ends} {σ : Sg} {H : Hp} (h : TSm G W B (sIf c a b) D σ H) : tIfS (TTm G W q c) (TSm G W B a) (TSm G W B b) D σ H := by
  obtain ⟨S, T, r, S', ag, ow, e, k⟩ := h
  unfold sIf at e
  split at e
  · cases e
  · rename_i e1
    cases e
    exact ⟨S, T, _, _, ag, ow, e1, fun cv od H' a1 a2 x => k cv od σ H' a1 a2 Kb.refl x⟩
  · rename_i S1 e1
    refine ⟨S, T, _, _, ag, ow, e1, fun H1 a1 a2 _ => ?_⟩
    refine iteT ?_
    exact ⟨S1, T, r, S', a1, a2, e, k⟩
  · rename_i S1 e1
    refine ⟨S, T, _, _, ag, ow, e1, fun H1 a1 a2 _ => ?_⟩
    refine iteF ?_
    exact ⟨S1, T, r, S', a1, a2, e, k⟩
theorem ps_mif {c : Expr} {a b : List Stmt} {mc : M Bool} {ma mb : MS} {pos : Pos} (hc : PT X c (TTm G W q mc)) (ha : PSs X a (TSm G W B ma)) (hb : PSs X b (TSm G W B mb)) : PS X (.If c a b pos) (TSm G W B (sIf mc ma mb)) := (ps_if hc ha hb).imp fun _ _ _ h => tsm_if h

/-! while: it ends after some number of turns -/
def whileN (c : M Bool) (b : MS) : Nat → MS
  | 0 => fun _ => none
  | n + 1 => fun S => match c S with
    | none => none
    | some (.error e, S1) => some (.error e, S1)
    | some (.ok false, S1) => some (.ok .nx, S1)
    | some (.ok true, S1) => match b S1 with
      | none => none
      | some (.error e, S2) => some (.error e, S2)
      | some (.ok .bk, S2) => some (.ok .nx, S2)
      | some (.ok (.rt sh d), S2) => some (.ok (.rt sh d), S2)
      | some (.ok _, S2) => whileN c b n S2
open Classical in
noncomputable def sWhile (c : M Bool) (b : MS) : MS := fun S => if h : ∃ n r, whileN c b n S = some r then some h.choose_spec.choose else none
theorem sWhile_some {c : M Bool} {b : MS} {S r} (h : sWhile c b S = some r) : ∃ n, whileN c b n S = some r := by
  unfold sWhile at h
  split at h
  · rename_i x
    refine ⟨x.choose, ?_⟩
    have := x.choose_spec.choose_spec
    rw [this]
    exact h
  · cases h
theorem whileN_mono {c : M Bool} {b : MS} : ∀ {n m S r}, whileN c b n S = some r → n ≤ m → whileN c b m S = some r
  | 0, _, _, _, h, _ => by cases h
  | n + 1, 0, _, _, _, h => by omega
  | n + 1, m + 1, S, r, h, hl => by
    unfold whileN at h ⊢
    split at h
    · cases h
    · exact h
    · exact h
    · split at h
      · cases h
      · exact h
      · exact h
      · exact h
      · rename_i f S2 hb hr e2
        cases f with
        | nx => exact whileN_mono h (by omega)
        | ct => exact whileN_mono h (by omega)
        | bk => exact (hb rfl).elim
        | rt sh d => exact (hr _ _ rfl).elim
theorem sWhile_of {c : M Bool} {b : MS} {S r n} (h : whileN c b n S = some r) : sWhile c b S = some r := by
  unfold sWhile
  have x : ∃ n r, whileN c b n S = some r := ⟨n, r, h⟩
  rw [dif_pos x]
  have h1 := x.choose_spec.choose_spec
  have a1 := whileN_mono h1 (Nat.le_max_left _ n)
  have a2 := whileN_mono h (Nat.le_max_right x.choose n)
  rw [a1] at a2
  exact a2
end
end
end Dt

/-! Loops, targets, comprehensions. -/
namespace Dt
noncomputable section
open PySem PySem.Spec PyProof.Rows L2

/-! targets -/
inductive Tg where
  | nm (i : Nat)
  | tu (is : List Nat)
def bind1 (B : Bw) (i : Nat) (d : D) (S : List Slot) : Option (List Slot) :=
  if B i = true then none else if i < S.length then some (S.set i (some (.fz, d))) else none
def bindAll (B : Bw) : List Nat → List D → List Slot → Option (List Slot)
  | [], [], S => some S
  | i :: is, d :: ds, S => match bind1 B i d S with
    | some S1 => bindAll B is ds S1
    | none => none
  | _, _, _ => none
/-- a frozen thing goes to the target -/
def bindT (B : Bw) : Tg → D → List Slot → Option (List Slot)
  | .nm i, d, S => bind1 B i d S
  | .tu is, .tup ds, S => bindAll B is ds S
  | _, _, _ => none
def Tg.slots : Tg → List Nat
  | .nm i => [i]
  | .tu is => is
/-- only the slots l may have changed -/
def Only1 (l : List Nat) (σ σ' : Sg) : Prop := σ'.length = σ.length ∧ ∀ j, j ∉ l → σ'[j]? = σ[j]?
def TGm (G : Gm) (B : Bw) (t : Tg) : TG := fun v σ H Q => ∃ S T d S', Ag S σ ∧ Own G H (⟨.fz, v, d⟩ :: (cl S σ ++ T)) ∧ bindT B t d S = some S' ∧
  ∀ σ', Ag S' σ' → Own G H (cl S' σ' ++ T) → Kb B σ σ' → Only1 t.slots σ σ' → Q σ' H
def TGms (G : Gm) (B : Bw) (is : List Nat) : TGs := fun vs σ H Q => ∃ S T ds S', Ag S σ ∧ (∃ O, OwnO G H (cl S σ ++ T ++ tabC G) O ∧ RFs G (fun a => a ∉ O) H vs ds) ∧ bindAll B is ds S = some S' ∧
  ∀ σ', Ag S' σ' → Own G H (cl S' σ' ++ T) → Kb B σ σ' → Only1 is σ σ' → Q σ' H
section
variable {X : Cx} {G : Gm} {W : WX} {B : Bw} {q q1 q2 : Bool}
theorem _root_.L2.PG.imp {X : Cx} {e : Expr} {t t' : TG} (h : PG X e t) (i : ∀ v σ H Q, t' v σ H Q → t v σ H Q) : PG X e t' := ⟨fun pins s σ H v u Q I r q => h.run pins s σ H v u Q I r (i v σ H Q q)⟩
theorem _root_.L2.PGs.imp {X : Cx} {e : List Expr} {t t' : TGs} (h : PGs X e t) (i : ∀ v σ H Q, t' v σ H Q → t v σ H Q) : PGs X e t' := ⟨fun pins s σ H v u Q I r q => h.run pins s σ H v u Q I r (i v σ H Q q)⟩
theorem pg_mname {i : Nat} {x : Str} {pos : Pos} (hN : X.N.Nodup) (hi : X.N[i]? = some x) (hx : Loc X.env.scope x) (hf : X.fn x = true ∨ X.env.scope.names.lookup x = some .local) : PG X (.Name x pos) (TGm G B (.nm i)) := (pg_name hN hi hx hf).imp fun v σ H Q h => by
  obtain ⟨S, T, d, S', ag, ow, e, k⟩ := h
  have e : bind1 B i d S = some S' := e
  unfold bind1 at e
  split at e
  · cases e
  · rename_i hB
    split at e
    · rename_i hl
      cases e
      refine k _ ag.store (Own.store ag hl ow) (Kb.set (by simpa using hB)) ⟨by simp, fun j hj => ?_⟩
      rw [List.getElem?_set_ne]
      intro z
      exact hj (by simp [Tg.slots, z])
    · cases e
theorem pgs_mnil : PGs X [] (TGms G B []) := pgs_nil.imp fun vs σ H Q h => by
  obtain ⟨S, T, ds, S', ag, ⟨O, ow, r⟩, e, k⟩ := h
  cases ds with
  | nil =>
    cases e
    cases r
    exact ⟨rfl, k σ ag ⟨O, ow⟩ Kb.refl ⟨rfl, fun _ _ => rfl⟩⟩
  | cons d ds => cases e
theorem pgs_mcons {i : Nat} {is : List Nat} {e : Expr} {es : List Expr} (h1 : PG X e (TGm G B (.nm i))) (h2 : PGs X es (TGms G B is))
    (hs : (assignEach (e :: es) X.env).map (·.2) = assign e X.env :: (assignEach es X.env).map (·.2)) : PGs X (e :: es) (TGms G B (i :: is)) := (pgs_cons h1 h2 hs).imp fun vs σ H Q h => by
  obtain ⟨S, T, ds, S', ag, ⟨O, ow, r⟩, e, k⟩ := h
  cases ds with
  | nil => cases e
  | cons d ds => cases r with
    | @cons v _ vs _ rv r =>
      refine ⟨v, vs, rfl, ?_⟩
      have e : (match bind1 B i d S with | some S1 => bindAll B is ds S1 | none => none) = some S' := e
      cases e1 : bind1 B i d S with
      | none => rw [e1] at e; cases e
      | some S1 =>
        rw [e1] at e
        -- the other items are kept as claims
        obtain ⟨A, w, ea, ed⟩ := r.cls
        have o2 : Own G H (⟨.fz, v, d⟩ :: (cl S σ ++ (A ++ T))) := by
          have := (RTs.ofs (L := A) (by rw [ea, ed]; exact r) w).append ow.1
          have q1 : OwnO G H (A ++ (cl S σ ++ T) ++ tabC G) O := ⟨by simpa [List.append_assoc] using this, ow.2⟩
          have q2 : Own G H (⟨.fz, v, d⟩ :: (A ++ (cl S σ ++ T))) := ⟨O, q1.cons rv⟩
          exact q2.perm ((perm3 A (cl S σ) T).cons _)
        refine ⟨S, A ++ T, d, S1, ag, o2, e1, fun σ1 a1 ow1 kb1 on1 => ?_⟩
        obtain ⟨O1, ow1⟩ := ow1
        have ow1' : Own G H (A ++ (cl S1 σ1 ++ T)) := Own.perm (perm3 _ _ _) ⟨O1, ow1⟩
        obtain ⟨O2, ow2⟩ := ow1'
        rw [List.append_assoc] at ow2
        obtain ⟨rA, ow3⟩ := ow2.heads w
        rw [ea, ed] at rA
        refine ⟨S1, T, ds, S', a1, ⟨O2, ow3, rA⟩, e, fun σ2 a2 o2 kb2 on2 => k σ2 a2 o2 (kb1.trans kb2) ⟨on2.1.trans on1.1, fun j hj => ?_⟩⟩
        rw [on2.2 j (fun z => hj (by simp [z])), on1.2 j (fun z => hj (by simp [Tg.slots] at z; simp [z]))]
theorem bindAll_len {is : List Nat} : ∀ {ds : List D} {S S' : List Slot}, bindAll B is ds S = some S' → is.length = ds.length := by
  induction is with
  | nil => intro ds S S' h; cases ds with
    | nil => rfl
    | cons => cases h
  | cons i is ih => intro ds S S' h; cases ds with
    | nil => cases h
    | cons d ds =>
      have e : (match bind1 B i d S with | some S1 => bindAll B is ds S1 | none => none) = some S' := h
      cases e1 : bind1 B i d S with
      | none => rw [e1] at e; cases e
      | some S1 => rw [e1] at e; simp [ih e]
theorem pg_mtup {is : List Nat} {es : List Expr} {k : Nat} {pos : Pos} (hK : X.K = G.K) (hc : X.calm = true) (h : PGs X es (TGms G B is))
    (hn : (assignEach es X.env).length = is.length) (hst : (assignEach es X.env).findIdx? (·.1) = none) : PG X (.Tuple es k pos) (TGm G B (.tu is)) := (pg_tup hc h hn hst).imp fun v σ H Q h => by
  obtain ⟨S, T, d, S', ag, ow, e, k⟩ := h
  cases d with
  | tup ds =>
    obtain ⟨O, ow⟩ := ow
    obtain ⟨rf, ow'⟩ := ow.head
    obtain ⟨a, vs, rfl, t, r⟩ := RX.tup_at (.fz rf)
    have e : bindAll B is ds S = some S' := e
    exact ⟨a, vs, rfl, by rw [hK]; exact t, by rw [r.length, bindAll_len e], S, T, ds, S', ag, ⟨O, ow', r⟩, e, fun σ' a1 a2 a3 a4 => k σ' a1 a2 a3 a4⟩
  | _ => cases e

/-! what is walked: T0 holds it, ds are its items -/
def ItOk (G : Gm) (J : It) (T0 : List Cl) (ds : List D) : Prop := ∀ (H : Hp) (L : List Cl) (i : Nat), Own G H (T0 ++ L) →
  (∀ d, ds[i]? = some d → J.go i H ∧ ∀ x H', J.yld i H x H' → Own G H' (⟨.fz, x, d⟩ :: (T0 ++ L))) ∧ (ds.length ≤ i → J.stop i H)
def TIm (G : Gm) (W : WX) (m : M (List D)) : TI := fun σ H R => ∃ S T r S', Ag S σ ∧ Own G H (cl S σ ++ T) ∧ m S = some (r, S') ∧
  match r with
  | .ok ds => ∀ J T0 H', ItOk G J T0 ds → Ag S' σ → Own G H' (T0 ++ (cl S' σ ++ T)) → R J H'
  | .error ex => ∀ cv od H', Ag S' σ → OwnX G H' ex od (cl S' σ ++ T) → ExAt G H' ex cv od → W cv od σ H'
theorem _root_.L2.PI.imp {X : Cx} {tg e : Expr} {t t' : TI} (h : PI X tg e t) (i : ∀ σ H R, t' σ H R → t σ H R) : PI X tg e t' := ⟨fun pins s σ H R I q => h.run pins s σ H R I (i σ H R q)⟩
theorem _root_.L2.PI.or {X : Cx} {tg e : Expr} {t t' : TI} (h : PI X tg e t) (h' : PI X tg e t') : PI X tg e (fun σ H R => t σ H R ∨ t' σ H R) := ⟨fun pins s σ H R I q => by
  rcases q with q | q
  · exact h.run pins s σ H R I q
  · exact h'.run pins s σ H R I q⟩
/-- a list, a tuple: its items now; it is frozen -/
def iSeq (m : M Rv) : M (List D) := fun S => match m S with
  | none => none
  | some (.error e, S1) => some (.error e, S1)
  | some (.ok (.tmp sh (.lst ds)), S1) => if sh.whole = true then some (.ok ds, S1) else none
  | some (.ok (.tmp sh (.tup ds)), S1) => if sh.whole = true then some (.ok ds, S1) else none
  | _ => none
theorem itok_lst {a : Addr} {ds : List D} : ItOk G (Itl G.K a) [⟨.fz, .ref a, .lst ds⟩] ds := fun H L i h => by
  obtain ⟨O, o⟩ := h
  obtain ⟨rf, o'⟩ := o.head
  obtain ⟨b, vs, e, s, r⟩ := RX.lst_at (.fz rf)
  cases e
  refine ⟨fun d hd => ?_, fun hl => ⟨vs, s, by rw [r.length]; exact hl⟩⟩
  obtain ⟨v, hv, rv⟩ := r.get hd
  refine ⟨⟨vs, v, s, hv⟩, fun x H' y => ?_⟩
  obtain ⟨e, y⟩ := y
  subst e
  have := y vs s
  rw [hv] at this
  cases this
  exact ⟨O, o.cons rv⟩
theorem itok_tup {a : Addr} {ds : List D} : ItOk G (Itt G.K a) [⟨.fz, .ref a, .tup ds⟩] ds := fun H L i h => by
  obtain ⟨O, o⟩ := h
  obtain ⟨rf, o'⟩ := o.head
  obtain ⟨b, vs, e, s, r⟩ := RX.tup_at (.fz rf)
  cases e
  refine ⟨fun d hd => ?_, fun hl => ⟨vs, s, by rw [r.length]; exact hl⟩⟩
  obtain ⟨v, hv, rv⟩ := r.get hd
  refine ⟨⟨vs, v, s, hv⟩, fun x H' y => ?_⟩
  obtain ⟨e, y⟩ := y
  subst e
  have := y vs s
  rw [hv] at this
  cases this
  exact ⟨O, o.cons rv⟩
theorem pi_mseq {tg l : Expr} {m : M Rv} (hK : X.K = G.K) (hl : PE X l (TEm G W q m)) : PI X tg l (TIm G W (iSeq m)) := (PI.or (pi_list hl) (pi_tup hl)).imp fun σ H R h => by
  obtain ⟨S, T, r, S', ag, ow, e, k⟩ := h
  unfold iSeq at e
  split at e
  · cases e
  · rename_i e1
    cases e
    exact .inl ⟨S, T, _, _, ag, ow, e1, k⟩
  · rename_i sh ds S1 e1
    split at e
    · rename_i w
      cases e
      refine .inl ⟨S, T, _, _, ag, ow, e1, fun v H' a1 a2 _ _ => ?_⟩
      have a3 : Own G H' (⟨.fz, v, .lst ds⟩ :: (cl S' σ ++ T)) := Own.freeze w a2
      obtain ⟨O, o⟩ := id a3
      obtain ⟨a, vs, rfl, s, _⟩ := RX.lst_at (.fz o.head.1)
      rw [hK]
      exact ⟨a, rfl, ⟨vs, s⟩, k _ _ H' itok_lst a1 a3⟩
    · cases e
  · rename_i sh ds S1 e1
    split at e
    · rename_i w
      cases e
      refine .inr ⟨S, T, _, _, ag, ow, e1, fun v H' a1 a2 _ _ => ?_⟩
      have a3 : Own G H' (⟨.fz, v, .tup ds⟩ :: (cl S' σ ++ T)) := Own.freeze w a2
      obtain ⟨O, o⟩ := id a3
      obtain ⟨a, vs, rfl, s, _⟩ := RX.tup_at (.fz o.head.1)
      rw [hK]
      exact ⟨a, rfl, ⟨vs, s⟩, k _ _ H' itok_tup a1 a3⟩
    · cases e
  · cases e
/-- range(b), range(a, b) -/
def rangeD (lo : Int) (n : Nat) : List D := (List.range n).map fun (i : Nat) => .int (lo + (i : Int))
theorem itok_rng {lo : Int} {n : Nat} : ItOk G (Itr lo n) [] (rangeD lo n) := fun H L i h => by
  refine ⟨fun d hd => ?_, fun hl => (show n ≤ i by simpa [rangeD] using hl)⟩
  unfold rangeD at hd
  rw [List.getElem?_map] at hd
  by_cases hi : i < n
  · rw [List.getElem?_range hi] at hd
    cases hd
    refine ⟨hi, fun x H' y => ?_⟩
    obtain ⟨e, y⟩ := y
    subst e y
    exact Own.intC _ h
  · rw [List.getElem?_eq_none (by simpa using hi)] at hd
    cases hd
def okRg (i : Int) : Bool := decide (-(2 ^ 62) ≤ i ∧ i < 2 ^ 62)
def iRng (m : M (List Rv)) : M (List D) := fun S => match m S with
  | none => none
  | some (.error e, S1) => some (.error e, S1)
  | some (.ok rs, S1) => match seeAll S1 rs with
    | some [.int j] => if okRg j = true then some (.ok (rangeD 0 j.toNat), S1) else none
    | some [.int i, .int j] => if okRg i = true ∧ okRg j = true then some (.ok (rangeD i (j - i).toNat), S1) else none
    | _ => none
theorem okRg_at {i : Int} (h : okRg i = true) : -(2 ^ 62) ≤ i ∧ i < 2 ^ 62 := of_decide_eq_true h
theorem tim_rng {σ : Sg} {H : Hp} {R : It → Hp → Prop} {m : M (List Rv)} (h : TIm G W (iRng m) σ H R) : TAm G W q m σ H fun vs H1 =>
    (∃ j : Int, vs = [.int j] ∧ -(2 ^ 62) ≤ j ∧ j < 2 ^ 62 ∧ R (Itr 0 j.toNat) H1) ∨ (∃ i j : Int, vs = [.int i, .int j] ∧ (-(2 ^ 62) ≤ i ∧ i < 2 ^ 62 ∧ -(2 ^ 62) ≤ j ∧ j < 2 ^ 62) ∧ R (Itr i (j - i).toNat) H1) := by
  obtain ⟨S, T, r, S', ag, ow, e, k⟩ := h
  unfold iRng at e
  split at e
  · cases e
  · rename_i e1
    cases e
    exact ⟨S, T, _, _, ag, ow, e1, k⟩
  · rename_i rs S1 e1
    refine ⟨S, T, _, _, ag, ow, e1, fun vs H1 a1 a2 a3 _ => ?_⟩
    obtain ⟨O, o⟩ := id a2
    split at e
    · rename_i j e2
      split at e
      · rename_i c
        cases e
        have rx := see_rxs a1 o (fun t ht => ht) a3 e2
        cases rx with
        | cons h1 rx => cases rx with
          | nil =>
            cases h1.int_at
            have c := okRg_at c
            exact .inl ⟨j, rfl, c.1, c.2, k _ [] H1 itok_rng a1 (Own.drop a2)⟩
      · cases e
    · rename_i i j e2
      split at e
      · rename_i c
        cases e
        have rx := see_rxs a1 o (fun t ht => ht) a3 e2
        cases rx with
        | cons h1 rx => cases rx with
          | cons h2 rx => cases rx with
            | nil =>
              cases h1.int_at
              cases h2.int_at
              have c1 := okRg_at c.1
              have c2 := okRg_at c.2
              exact .inr ⟨i, j, rfl, ⟨c1.1, c1.2, c2.1, c2.2⟩, k _ [] H1 itok_rng a1 (Own.drop a2)⟩
      · cases e
    · cases e
theorem tam_mono {m : M (List Rv)} {σ : Sg} {H : Hp} {Q Q' : List V → Hp → Prop} (h : TAm G W q m σ H Q) (i : ∀ v H, Q v H → Q' v H) : TAm G W q m σ H Q' := by
  obtain ⟨S, T, r, S', ag, ow, e, k⟩ := h
  refine ⟨S, T, r, S', ag, ow, e, ?_⟩
  cases r with
  | ok rv => exact fun v H' x1 x2 x3 x4 => i v H' (k v H' x1 x2 x3 x4)
  | error ex => exact k
theorem clsA_len {rs : List Rv} : ∀ {vs : List V} {σ : Sg} {H : Hp}, okA G σ H rs vs → vs.length = rs.length := by
  induction rs with
  | nil => intro vs σ H h; cases vs with
    | nil => rfl
    | cons => exact h.elim
  | cons r rs ih => intro vs σ H h; cases vs with
    | nil => exact h.elim
    | cons v vs => simp [ih h.2]
theorem mArgs_len : ∀ {ms : List (Bool × M Rv)} {S rs S'}, mArgs ms S = some (.ok rs, S') → rs.length = ms.length
  | [], S, rs, S', h => by cases h; rfl
  | (q, m) :: ms, S, rs, S', h => by
    unfold mArgs at h
    split at h
    · cases h
    · cases h
    · split at h
      · cases h
      · cases h
      · rename_i h2
        split at h
        · cases h
          simp [mArgs_len h2]
        · cases h
theorem pi_mrng1 {tg a : Expr} {p pos : Pos} {m : M Rv} (hg : Gl X "range") (hm : X.mg "range" = none) (ha : PE X a (TEm G W q m)) (hs : starEach [a] X.env = [(false, eval a X.env)]) : PI X tg (.Call (.Name "range" p) [a] [] pos) (TIm G W (iRng (mArgs [(q, m)]))) := by
  have pa : PA X [a] (TAm G W (([(q, m)] : List (Bool × M Rv)).all (·.1)) (mArgs [(q, m)])) := pa_mcons ha pa_mnil hs
  refine (pi_range1 hg hm pa hs).imp fun σ H R h => ?_
  have h1 := tim_rng (q := ([(q, m)] : List (Bool × M Rv)).all (·.1)) h
  obtain ⟨S, T, r, S', ag, ow, e, k⟩ := h1
  refine ⟨S, T, r, S', ag, ow, e, ?_⟩
  cases r with
  | error ex => exact k
  | ok rs =>
      intro vs H' x1 x2 x3 x4
      rcases k vs H' x1 x2 x3 x4 with h | ⟨i, j, e', _⟩
      · exact h
      · have l1 := clsA_len x3
        have l2 := mArgs_len e
        rw [e'] at l1
        simp at l1 l2
        omega
theorem pi_mrng2 {tg a b : Expr} {p pos : Pos} {m m' : M Rv} (hg : Gl X "range") (hm : X.mg "range" = none) (ha : PE X a (TEm G W q1 m)) (hb : PE X b (TEm G W q2 m')) (hs : starEach [a, b] X.env = [(false, eval a X.env), (false, eval b X.env)]) (hs2 : starEach [b] X.env = [(false, eval b X.env)]) :
    PI X tg (.Call (.Name "range" p) [a, b] [] pos) (TIm G W (iRng (mArgs [(q1, m), (q2, m')]))) := by
  have pa : PA X [a, b] (TAm G W (([(q1, m), (q2, m')] : List (Bool × M Rv)).all (·.1)) (mArgs [(q1, m), (q2, m')])) := pa_mcons ha (pa_mcons hb pa_mnil hs2) (by rw [hs, hs2])
  refine (pi_range2 hg hm pa hs hs2).imp fun σ H R h => ?_
  have h1 := tim_rng (q := ([(q1, m), (q2, m')] : List (Bool × M Rv)).all (·.1)) h
  obtain ⟨S, T, r, S', ag, ow, e, k⟩ := h1
  refine ⟨S, T, r, S', ag, ow, e, ?_⟩
  cases r with
  | error ex => exact k
  | ok rs =>
      intro vs H' x1 x2 x3 x4
      rcases k vs H' x1 x2 x3 x4 with ⟨j, e', _⟩ | h
      · have l1 := clsA_len x3
        have l2 := mArgs_len e
        rw [e'] at l1
        simp at l1 l2
        omega
      · exact h
end
end
end Dt

/-! while, for, list comprehensions, assignments to targets. -/
namespace Dt
noncomputable section
open PySem PySem.Spec PyProof.Rows L2

/-- the body for each item -/
def forN (B : Bw) (t : Tg) (b : MS) : List D → MS
  | [] => fun S => some (.ok .nx, S)
  | d :: ds => fun S => match bindT B t d S with
    | none => none
    | some S1 => match b S1 with
      | none => none
      | some (.error e, S2) => some (.error e, S2)
      | some (.ok .bk, S2) => some (.ok .nx, S2)
      | some (.ok (.rt sh d), S2) => some (.ok (.rt sh d), S2)
      | some (.ok _, S2) => forN B t b ds S2
def sFor (B : Bw) (t : Tg) (mi : M (List D)) (b : MS) : MS := fun S => match mi S with
  | none => none
  | some (.error e, S1) => some (.error e, S1)
  | some (.ok ds, S1) => forN B t b ds S1
/-- a tuple's items to names -/
def sBind (B : Bw) (t : Tg) (m : M Rv) : MS := fun S => match m S with
  | none => none
  | some (.error e, S1) => some (.error e, S1)
  | some (.ok (.tmp sh d), S1) => if sh.whole = true then match bindT B t d S1 with
      | some S2 => some (.ok .nx, S2)
      | none => none
    else none
  | _ => none

section
variable {X : Cx} {G : Gm} {W : WX} {B : Bw} {q q1 q2 : Bool}
/-- what a statement's end must give, behind T' ++ T with T' dropped -/
def EndOk (G : Gm) (W : WX) (B : Bw) (D : Ends) (σ : Sg) (T : List Cl) (S' : List Slot) : Except Exc Fl → Prop
  | .ok .nx => ∀ σ' H', Ag S' σ' → Own G H' (cl S' σ' ++ T) → Kb B σ σ' → D.nx σ' H'
  | .ok (.rt sh d) => ∀ v σ' H', Ag S' σ' → Own G H' (⟨sh, v, d⟩ :: (cl S' σ' ++ T)) → Kb B σ σ' → D.rt v H'
  | .ok .bk => ∀ σ' H', Ag S' σ' → Own G H' (cl S' σ' ++ T) → Kb B σ σ' → D.bk σ' H'
  | .ok .ct => ∀ σ' H', Ag S' σ' → Own G H' (cl S' σ' ++ T) → Kb B σ σ' → D.ct σ' H'
  | .error ex => ∀ cv od σ' H', Ag S' σ' → OwnX G H' ex od (cl S' σ' ++ T) → Kb B σ σ' → ExAt G H' ex cv od → W cv od σ' H'
theorem tsm_iff {m : MS} {D : Ends} {σ : Sg} {H : Hp} : TSm G W B m D σ H ↔ ∃ S T r S', Ag S σ ∧ Own G H (cl S σ ++ T) ∧ m S = some (r, S') ∧ EndOk G W B D σ T S' r := by
  constructor
  · rintro ⟨S, T, r, S', ag, ow, e, k⟩
    refine ⟨S, T, r, S', ag, ow, e, ?_⟩
    cases r with
    | error ex => exact k
    | ok f => cases f <;> exact k
  · rintro ⟨S, T, r, S', ag, ow, e, k⟩
    refine ⟨S, T, r, S', ag, ow, e, ?_⟩
    cases r with
    | error ex => exact k
    | ok f => cases f <;> exact k
theorem EndOk.at {D : Ends} {σ σ1 : Sg} {T T1 : List Cl} {S' : List Slot} {r : Except Exc Fl} (k : EndOk G W B D σ T S' r) (kb : Kb B σ σ1) : EndOk G W B D σ1 (T1 ++ T) S' r := by
  cases r with
  | error ex => exact fun cv od σ' H' a1 a2 a3 x => k cv od σ' H' a1 a2.dropMid (kb.trans a3) x
  | ok f => cases f with
    | nx => exact fun σ' H' a1 a2 a3 => k σ' H' a1 a2.dropMid (kb.trans a3)
    | bk => exact fun σ' H' a1 a2 a3 => k σ' H' a1 a2.dropMid (kb.trans a3)
    | ct => exact fun σ' H' a1 a2 a3 => k σ' H' a1 a2.dropMid (kb.trans a3)
    | rt sh d =>
      intro v σ' H' a1 a2 a3
      refine k v σ' H' a1 ?_ (kb.trans a3)
      exact Own.dropMid (A := ⟨sh, v, d⟩ :: cl S' σ') a2

theorem tsm_while {c : M Bool} {b : MS} {D : Ends} {σ : Sg} {H : Hp} (h : TSm G W B (sWhile c b) D σ H) : tWhile (TTm G W q c) (TSm G W B b) D σ H := by
  obtain ⟨S, T, r, S', ag, ow, e, k⟩ := tsm_iff.mp h
  obtain ⟨n, en⟩ := sWhile_some e
  refine ⟨fun n σ1 H1 => ∃ S1, Ag S1 σ1 ∧ Own G H1 (cl S1 σ1 ++ T) ∧ Kb B σ σ1 ∧ whileN c b n S1 = some (r, S'), ⟨n, S, ag, ow, Kb.refl, en⟩, ?_⟩
  rintro m σ1 H1 ⟨S1, a1, o1, kb1, e1⟩
  cases m with
  | zero => cases e1
  | succ m =>
    unfold whileN at e1
    split at e1
    · cases e1
    · rename_i ex S2 e2
      cases e1
      exact ⟨S1, T, _, _, a1, o1, e2, fun cv od H' x1 x2 x => k cv od σ1 H' x1 x2 kb1 x⟩
    · rename_i S2 e2
      cases e1
      refine ⟨S1, T, _, _, a1, o1, e2, fun H' x1 x2 _ => ?_⟩
      refine iteF ?_
      exact k σ1 H' x1 x2 kb1
    · rename_i S2 e2
      refine ⟨S1, T, _, _, a1, o1, e2, fun H2 x1 x2 _ => ?_⟩
      refine iteT ?_
      refine ⟨fun σ3 H3 => ∃ S3, Ag S3 σ3 ∧ Own G H3 (cl S3 σ3 ++ T) ∧ Kb B σ σ3 ∧ whileN c b m S3 = some (r, S'), fun σ3 H3 w => ⟨m, Nat.lt_succ_self _, w⟩, ?_⟩
      rw [tsm_iff]
      split at e1
      · cases e1
      · rename_i e3
        cases e1
        exact ⟨S2, T, _, _, x1, x2, e3, fun cv od σ' H' y1 y2 y3 x => k cv od σ' H' y1 y2 (kb1.trans y3) x⟩
      · rename_i e3
        cases e1
        exact ⟨S2, T, _, _, x1, x2, e3, fun σ' H' y1 y2 y3 => k σ' H' y1 y2 (kb1.trans y3)⟩
      · rename_i e3
        cases e1
        exact ⟨S2, T, _, _, x1, x2, e3, fun v σ' H' y1 y2 y3 => k v σ' H' y1 y2 (kb1.trans y3)⟩
      · rename_i f S3 hb hr e3
        refine ⟨S2, T, _, _, x1, x2, e3, ?_⟩
        cases f with
        | nx => exact fun σ' H' y1 y2 y3 => ⟨S3, y1, y2, kb1.trans y3, e1⟩
        | ct => exact fun σ' H' y1 y2 y3 => ⟨S3, y1, y2, kb1.trans y3, e1⟩
        | bk => exact (hb rfl).elim
        | rt sh d => exact (hr _ _ rfl).elim
theorem ps_mwhile {c : Expr} {body : List Stmt} {mc : M Bool} {mb : MS} {pos : Pos} (hp : PassesOwn (model X.prog X.w) X.A X.env X.xe) (hc : PT X c (TTm G W q mc)) (hb : PSs X body (TSm G W B mb)) : PS X (.While c body [] pos) (TSm G W B (sWhile mc mb)) := (ps_while hp hc hb).imp fun _ _ _ h => tsm_while h

theorem tsm_for {t : Tg} {mi : M (List D)} {b : MS} {D : Ends} {σ : Sg} {H : Hp} (h : TSm G W B (sFor B t mi b) D σ H) : tFor (TIm G W mi) (TGm G B t) (TSm G W B b) D σ H := by
  obtain ⟨S, T, r, S', ag, ow, e, k⟩ := tsm_iff.mp h
  unfold sFor at e
  split at e
  · cases e
  · rename_i e1
    cases e
    exact ⟨S, T, _, _, ag, ow, e1, fun cv od H' x1 x2 x => k cv od σ H' x1 x2 Kb.refl x⟩
  · rename_i ds S0 e0
    refine ⟨S, T, _, _, ag, ow, e0, fun J T0 H0 it a0 o0 => ?_⟩
    have o0' : Own G H0 (cl S0 σ ++ (T0 ++ T)) := o0.perm (perm3 _ _ _)
    refine ⟨fun i m σ1 H1 => m + i = ds.length ∧ ∃ S1, Ag S1 σ1 ∧ Own G H1 (cl S1 σ1 ++ (T0 ++ T)) ∧ Kb B σ σ1 ∧ forN B t b (ds.drop i) S1 = some (r, S'), ⟨ds.length, by simp, S0, a0, o0', Kb.refl, by simpa using e⟩, ?_⟩
    rintro i m σ1 H1 ⟨hm, S1, a1, o1, kb1, e1⟩
    have oi := it H1 (cl S1 σ1 ++ T) i (o1.perm (perm3 _ _ _))
    cases hd : ds.drop i with
    | nil =>
      rw [hd] at e1
      cases e1
      have hl : ds.length ≤ i := List.drop_eq_nil_iff.mp hd
      exact .inl ⟨oi.2 hl, k σ1 H1 a1 o1.dropMid kb1⟩
    | cons d rest =>
      rw [hd] at e1
      have hi : i < ds.length := by
        rcases Nat.lt_or_ge i ds.length with h | h
        · exact h
        · rw [List.drop_eq_nil_iff.mpr h] at hd; cases hd
      have hg : ds[i]? = some d := by
        rw [List.drop_eq_getElem_cons hi] at hd
        cases hd
        exact List.getElem?_eq_getElem hi
      have hr : ds.drop (i + 1) = rest := by
        rw [List.drop_eq_getElem_cons hi] at hd
        cases hd
        rfl
      obtain ⟨go, yl⟩ := oi.1 d hg
      refine .inr ⟨go, fun σ3 H3 => ∃ S3, Ag S3 σ3 ∧ Own G H3 (cl S3 σ3 ++ (T0 ++ T)) ∧ Kb B σ σ3 ∧ forN B t b rest S3 = some (r, S'), fun σ3 H3 ⟨S3, b1, b2, b3, b4⟩ => ⟨m - 1, by omega, by omega, S3, b1, b2, b3, by rw [hr]; exact b4⟩, fun x H2 y => ?_⟩
      have o2 : Own G H2 (⟨.fz, x, d⟩ :: (cl S1 σ1 ++ (T0 ++ T))) := (yl x H2 y).perm ((perm3 _ _ _).cons _)
      have e1 : (match bindT B t d S1 with
        | none => none
        | some S1 => match b S1 with
          | none => none
          | some (.error e, S2) => some (.error e, S2)
          | some (.ok .bk, S2) => some (.ok .nx, S2)
          | some (.ok (.rt sh d), S2) => some (.ok (.rt sh d), S2)
          | some (.ok _, S2) => forN B t b rest S2) = some (r, S') := e1
      split at e1
      · cases e1
      · rename_i S2 eb
        refine ⟨S1, T0 ++ T, d, S2, a1, o2, eb, fun σ2 a2 o2 kb2 _ => ?_⟩
        refine tsm_iff.mpr ?_
        split at e1
        · cases e1
        · rename_i e3
          cases e1
          exact ⟨S2, T0 ++ T, _, _, a2, o2, e3, fun cv od σ' H' y1 y2 y3 x => k cv od σ' H' y1 y2.dropMid ((kb1.trans kb2).trans y3) x⟩
        · rename_i e3
          cases e1
          exact ⟨S2, T0 ++ T, _, _, a2, o2, e3, fun σ' H' y1 y2 y3 => k σ' H' y1 y2.dropMid ((kb1.trans kb2).trans y3)⟩
        · rename_i sh dr S3 e3
          cases e1
          exact ⟨S2, T0 ++ T, _, _, a2, o2, e3, fun v σ' H' y1 y2 y3 => k v σ' H' y1 (Own.dropMid (A := ⟨sh, v, dr⟩ :: cl S' σ') y2) ((kb1.trans kb2).trans y3)⟩
        · rename_i f S3 hb hr e3
          refine ⟨S2, T0 ++ T, _, _, a2, o2, e3, ?_⟩
          cases f with
          | nx => exact fun σ' H' y1 y2 y3 => ⟨S3, y1, y2, (kb1.trans kb2).trans y3, e1⟩
          | ct => exact fun σ' H' y1 y2 y3 => ⟨S3, y1, y2, (kb1.trans kb2).trans y3, e1⟩
          | bk => exact (hb rfl).elim
          | rt sh d => exact (hr _ _ rfl).elim
theorem ps_mfor {tg iter : Expr} {body : List Stmt} {t : Tg} {mi : M (List D)} {mb : MS} {pos : Pos} (hp : PassesOwn (model X.prog X.w) X.A X.env X.xe) (hc : X.calm = true) (hi : PI X tg iter (TIm G W mi)) (hg : PG X tg (TGm G B t)) (hb : PSs X body (TSm G W B mb))
    (hs : ∀ x, foldedSetIterable iter X.env x = pure x) : PS X (.For tg iter body [] pos) (TSm G W B (sFor B t mi mb)) := (ps_for hp hc hi hg hb hs).imp fun _ _ _ h => tsm_for h

theorem tsm_bind {t : Tg} {m : M Rv} {D : Ends} {σ : Sg} {H : Hp} (h : TSm G W B (sBind B t m) D σ H) : tAsg (TEm G W q m) (TGm G B t) D σ H := by
  obtain ⟨S, T, r, S', ag, ow, e, k⟩ := tsm_iff.mp h
  unfold sBind at e
  split at e
  · cases e
  · rename_i e1
    cases e
    exact ⟨S, T, _, _, ag, ow, e1, fun cv od H' x1 x2 x => k cv od σ H' x1 x2 Kb.refl x⟩
  · rename_i sh d S1 e1
    split at e
    · rename_i w
      split at e
      · rename_i S2 e2
        cases e
        exact ⟨S, T, _, _, ag, ow, e1, fun v H' a1 a2 _ _ => ⟨S1, T, d, S', a1, Own.freeze w a2, e2, fun σ' b1 b2 b3 _ => k σ' H' b1 b2 b3⟩⟩
      · cases e
    · cases e
  · cases e
theorem ps_mbind {tg e : Expr} {t : Tg} {m : M Rv} {pos : Pos} (he : PE X e (TEm G W q m)) (hg : PG X tg (TGm G B t)) (hs : swapsWithSole [tg] e pos.line X.env = pure false) (hw : swappedStores [tg] e X.env = pure none)
    (h1 : (assignEach [tg] X.env).map (·.2) = [assign tg X.env]) : PS X (.Assign [tg] e pos) (TSm G W B (sBind B t m)) := (ps_asg he hg hs hw h1).imp fun _ _ _ h => tsm_bind h
end
end
end Dt

/-! List comprehensions. -/
namespace Dt
noncomputable section
open PySem PySem.Spec PyProof.Rows L2

def wipeS (S : List Slot) : List Nat → List Slot
  | [] => S
  | v :: vs => (wipeS S vs).set v none
def restS (S1 S2 : List Slot) : List Nat → List Slot
  | [] => S2
  | v :: vs => (restS S1 S2 vs).set v (S1.getD v none)
theorem wipeS_len (S : List Slot) : ∀ vs, (wipeS S vs).length = S.length
  | [] => rfl
  | v :: vs => by simp [wipeS, wipeS_len S vs]
theorem wipeS_get (S : List Slot) (j : Nat) : ∀ vs, (wipeS S vs)[j]? = if j ∈ vs then (if j < S.length then some none else none) else S[j]?
  | [] => by simp [wipeS]
  | v :: vs => by
    unfold wipeS
    by_cases e : v = j
    · subst e
      by_cases h : v < S.length
      · rw [List.getElem?_set_self (by rw [wipeS_len]; exact h)]
        simp [h]
      · rw [List.getElem?_eq_none (by simp [wipeS_len]; omega)]
        simp [h]
    · rw [List.getElem?_set_ne e, wipeS_get S j vs]
      have : (j ∈ v :: vs) ↔ j ∈ vs := by simp [Ne.symm e]
      simp [this]
theorem wipe_get (S : Sg) (j : Nat) : ∀ vs, (wipe S vs)[j]? = if j ∈ vs then (if j < S.length then some none else none) else S[j]?
  | [] => by simp [wipe]
  | v :: vs => by
    unfold wipe
    by_cases e : v = j
    · subst e
      by_cases h : v < S.length
      · rw [List.getElem?_set_self (by rw [wipe_length]; exact h)]
        simp [h]
      · rw [List.getElem?_eq_none (by simp [wipe_length]; omega)]
        simp [h]
    · rw [List.getElem?_set_ne e, wipe_get S j vs]
      have : (j ∈ v :: vs) ↔ j ∈ vs := by simp [Ne.symm e]
      simp [this]
theorem wipe_only {vs l : List Nat} {σ σ' : Sg} (o : Only1 l σ σ') (h : ∀ j ∈ l, j ∈ vs) : wipe σ' vs = wipe σ vs := by
  refine List.ext_getElem? fun j => ?_
  rw [wipe_get, wipe_get, o.1]
  by_cases hj : j ∈ vs
  · rw [if_pos hj, if_pos hj]
  · rw [if_neg hj, if_neg hj]
    exact o.2 j fun z => hj (h j z)
theorem wipe_wipe {vs : List Nat} {σ : Sg} : wipe (wipe σ vs) vs = wipe σ vs := wipe_only (l := vs) ⟨wipe_length σ vs, fun j hj => by rw [wipe_get, if_neg hj]⟩ fun _ h => h
/-- a slot's claim -/
def clm (S : List Slot) (σ : Sg) (j : Nat) : List Cl := match S[j]?, σ[j]? with
  | some (some (sh, d)), some (some v) => [⟨sh, v, d⟩]
  | _, _ => []
theorem cl_clm : ∀ {S : List Slot} {σ : Sg} {i : Nat}, (cl S σ).Perm (clm S σ i ++ cl (S.set i none) σ)
  | [], _, _ => by simp [clm]
  | _ :: _, [], i => by simp [clm, cl]
  | none :: S, y :: σ, 0 => by simp [clm, cl]
  | some (sh, d) :: S, some v :: σ, 0 => by simp [clm, cl]
  | some (sh, d) :: S, none :: σ, 0 => by simp [clm, cl]
  | none :: S, y :: σ, i + 1 => by simpa [cl, clm] using cl_clm (S := S) (σ := σ) (i := i)
  | some (sh, d) :: S, none :: σ, i + 1 => by simpa [cl, clm] using cl_clm (S := S) (σ := σ) (i := i)
  | some (sh, d) :: S, some v :: σ, i + 1 => by
    have p := cl_clm (S := S) (σ := σ) (i := i)
    simp only [cl, List.set_cons_succ]
    have e : clm (some (sh, d) :: S) (some v :: σ) (i + 1) = clm S σ i := by simp [clm]
    rw [e]
    exact (p.cons _).trans List.perm_middle.symm
def svs (S : List Slot) (σ : Sg) (vs : List Nat) : List Cl := vs.flatMap (clm S σ)
theorem cl_wipe {S : List Slot} {σ : Sg} : ∀ {vs : List Nat}, vs.Nodup → (cl S σ).Perm (svs S σ vs ++ cl (wipeS S vs) σ)
  | [], _ => by simp [svs, wipeS]
  | v :: vs, nd => by
    have nd' := List.nodup_cons.mp nd
    have p := cl_wipe (S := S) (σ := σ) nd'.2
    have p2 := cl_clm (S := wipeS S vs) (σ := σ) (i := v)
    have e : clm (wipeS S vs) σ v = clm S σ v := by
      unfold clm
      rw [wipeS_get, if_neg nd'.1]
    rw [e] at p2
    refine p.trans ?_
    refine (p2.append_left _).trans ?_
    show (svs S σ vs ++ (clm S σ v ++ cl ((wipeS S vs).set v none) σ)).Perm (svs S σ (v :: vs) ++ cl (wipeS S (v :: vs)) σ)
    have e2 : svs S σ (v :: vs) = clm S σ v ++ svs S σ vs := by simp [svs]
    rw [e2, List.append_assoc]
    exact perm3 _ _ _
theorem cl_setnone {S : List Slot} {σ : Sg} {i : Nat} (h : S[i]? = some none) : S.set i none = S := by
  refine List.ext_getElem? fun j => ?_
  by_cases e : i = j
  · subst e
    rw [h]
    exact List.getElem?_set_self (List.getElem?_eq_some_iff.mp h).1
  · rw [List.getElem?_set_ne e]
theorem restS_len (S1 S2 : List Slot) : ∀ vs, (restS S1 S2 vs).length = S2.length
  | [] => rfl
  | v :: vs => by simp [restS, restS_len S1 S2 vs]
theorem restS_get {S1 S2 : List Slot} {j : Nat} : ∀ {vs : List Nat}, j ∉ vs → (restS S1 S2 vs)[j]? = S2[j]?
  | [], _ => rfl
  | v :: vs, h => by
    unfold restS
    rw [List.getElem?_set_ne (fun e => h (by simp [e])), restS_get (vs := vs) fun z => h (by simp [z])]
theorem Ag.setO {S : List Slot} {σ : Sg} (a : Ag S σ) {i : Nat} {x : Slot} (h : ∀ sd, x = some sd → ∃ v, σ[i]? = some (some v)) : Ag (S.set i x) σ := by
  cases x with
  | none => exact a.unset
  | some sd =>
    obtain ⟨v, e⟩ := h sd rfl
    exact a.set e
theorem Ag.rest {S1 S2 : List Slot} {σ : Sg} (a1 : Ag S1 σ) (a2 : Ag S2 σ) : ∀ {vs : List Nat}, Ag (restS S1 S2 vs) σ
  | [] => a2
  | v :: vs => by
    refine (Ag.rest a1 a2 (vs := vs)).setO fun sd e => ?_
    cases h : S1[v]? with
    | none => rw [List.getD_eq_getElem?_getD, h] at e; cases e
    | some y =>
      rw [List.getD_eq_getElem?_getD, h] at e
      have e' : y = some sd := e
      subst e'
      exact a1.get h
theorem cl_rest {S1 S2 : List Slot} {σ : Sg} (hl : S1.length = S2.length) : ∀ {vs : List Nat}, vs.Nodup → (∀ j ∈ vs, S2[j]? = some none ∨ S2.length ≤ j) → (cl (restS S1 S2 vs) σ).Perm (svs S1 σ vs ++ cl S2 σ)
  | [], _, _ => by simp [svs, restS]
  | v :: vs, nd, h => by
    have nd' := List.nodup_cons.mp nd
    have p := cl_rest (σ := σ) hl nd'.2 fun j hj => h j (by simp [hj])
    have e2 : svs S1 σ (v :: vs) = clm S1 σ v ++ svs S1 σ vs := by simp [svs]
    rw [e2, List.append_assoc]
    have hv := restS_get (S1 := S1) (S2 := S2) nd'.1
    rcases h v (by simp) with h0 | h0
    · rw [h0] at hv
      have hlt : v < S2.length := (List.getElem?_eq_some_iff.mp h0).1
      have p2 := cl_clm (S := restS S1 S2 (v :: vs)) (σ := σ) (i := v)
      have e3 : clm (restS S1 S2 (v :: vs)) σ v = clm S1 σ v := by
        unfold clm restS
        rw [List.getElem?_set_self (by rw [restS_len]; exact hlt)]
        rw [List.getD_eq_getElem?_getD]
        cases hs : S1[v]? with
        | none => rw [List.getElem?_eq_none_iff] at hs; omega
        | some y => rfl
      have e4 : (restS S1 S2 (v :: vs)).set v none = restS S1 S2 vs := by
        show ((restS S1 S2 vs).set v (S1.getD v none)).set v none = restS S1 S2 vs
        rw [List.set_set, cl_setnone (σ := σ) hv]
      rw [e3, e4] at p2
      exact p2.trans (p.append_left _)
    · have e5 : restS S1 S2 (v :: vs) = restS S1 S2 vs := by
        show (restS S1 S2 vs).set v (S1.getD v none) = restS S1 S2 vs
        rw [List.set_eq_of_length_le (by rw [restS_len]; exact h0)]
      have e6 : clm S1 σ v = [] := by
        unfold clm
        rw [List.getElem?_eq_none (by omega)]
      rw [e5, e6]
      exact p
theorem cl_congr : ∀ {S : List Slot} {σ σ' : Sg}, σ.length = σ'.length → (∀ (j : Nat) sd, S[j]? = some (some sd) → σ[j]? = σ'[j]?) → cl S σ = cl S σ'
  | [], _, _, _, _ => by simp [cl]
  | _ :: _, [], [], _, _ => rfl
  | _ :: _, [], _ :: _, h, _ => by simp at h
  | _ :: _, _ :: _, [], h, _ => by simp at h
  | none :: S, y :: σ, y' :: σ', h, k => by
    have := cl_congr (S := S) (σ := σ) (σ' := σ') (by simpa using h) fun j sd e => by simpa using k (j + 1) sd (by simpa using e)
    simpa [cl] using this
  | some (sh, d) :: S, y :: σ, y' :: σ', h, k => by
    have := cl_congr (S := S) (σ := σ) (σ' := σ') (by simpa using h) fun j sd e => by simpa using k (j + 1) sd (by simpa using e)
    have e0 : y = y' := by simpa using k 0 (sh, d) rfl
    subst e0
    cases y <;> simp [cl, this]
theorem Ag.congr : ∀ {S : List Slot} {σ σ' : Sg}, Ag S σ → σ.length = σ'.length → (∀ (j : Nat) sd, S[j]? = some (some sd) → σ[j]? = σ'[j]?) → Ag S σ'
  | [], [], [], _, _, _ => trivial
  | [], [], _ :: _, _, h, _ => by simp at h
  | [], _ :: _, _, a, _, _ => a.elim
  | none :: _, [], _, a, _, _ => a.elim
  | some _ :: _, [], _, a, _, _ => a.elim
  | _ :: _, _ :: _, [], _, h, _ => by simp at h
  | none :: S, y :: σ, y' :: σ', a, h, k => Ag.congr (S := S) (σ := σ) (σ' := σ') a (by simpa using h) fun j sd e => by simpa using k (j + 1) sd (by simpa using e)
  | some sd :: S, none :: σ, y' :: σ', a, h, k => a.elim
  | some sd :: S, some v :: σ, y' :: σ', a, h, k => by
    have e0 : some v = y' := by simpa using k 0 sd rfl
    subst e0
    exact Ag.congr (S := S) (σ := σ) (σ' := σ') a (by simpa using h) fun j sd e => by simpa using k (j + 1) sd (by simpa using e)
theorem wipeS_some {S : List Slot} {vs : List Nat} {j : Nat} {sd} (h : (wipeS S vs)[j]? = some (some sd)) : j ∉ vs := fun z => by
  rw [wipeS_get, if_pos z] at h
  split at h <;> cases h
theorem cl_wipe_vals {S : List Slot} {σ : Sg} {vs : List Nat} : cl (wipeS S vs) (wipe σ vs) = cl (wipeS S vs) σ :=
  cl_congr (wipe_length σ vs) fun j sd h => by rw [wipe_get, if_neg (wipeS_some h)]
theorem Ag.wipe {S : List Slot} {σ : Sg} (a : Ag S σ) : ∀ {vs : List Nat}, Ag (wipeS S vs) σ
  | [] => a
  | v :: vs => (Ag.wipe a (vs := vs)).unset
theorem Ag.wipes {S : List Slot} {σ : Sg} {vs : List Nat} (a : Ag S σ) : Ag (wipeS S vs) (L2.wipe σ vs) :=
  (a.wipe (vs := vs)).congr (wipe_length σ vs).symm fun j sd h => by rw [wipe_get, if_neg (wipeS_some h)]

/-! the comprehension -/
/-- an item of shape sh goes into a list whose items are c -/
def fits : Sh → Sh → Bool
  | .fz, sh => sh.whole
  | .lst .fz, .lst .fz => true
  | .dct .fz, .dct .fz => true
  | _, _ => false
def noB : Bw := fun _ => false
def bYes : M Bool := fun S => some (.ok true, S)
/-- its items, one after another -/
def lcN (vs : List Nat) (t : Tg) (tt : M Bool) (me : M Rv) (c : Sh) : List D → List D → List Slot → Option (List D × List Slot)
  | [], acc, S => some (acc, S)
  | d :: ds, acc, S => match bindT noB t d S with
    | none => none
    | some S1 => match tt S1 with
      | some (.ok false, S2) => lcN vs t tt me c ds acc (wipeS S2 vs)
      | some (.ok true, S2) => match me S2 with
        | some (.ok (.tmp sh x), S3) => if fits c sh = true then lcN vs t tt me c ds (acc ++ [x]) (wipeS S3 vs) else none
        | _ => none
      | _ => none
def mLc (vs : List Nat) (t : Tg) (mi : M (List D)) (tt : M Bool) (me : M Rv) (c : Sh) : M Rv := fun S => match mi S with
  | none => none
  | some (.error e, S1) => some (.error e, S1)
  | some (.ok ds, S1) => if ds.length ≤ sizeLine then match lcN vs t tt me c ds [] (wipeS S1 vs) with
      | some (acc, S2) => some (.ok (.tmp (.lst c) (.lst acc)), restS S1 S2 vs)
      | none => none
    else none
abbrev W0 : WX := fun _ _ _ _ => False
section
variable {X : Cx} {G : Gm} {W : WX} {B : Bw} {q q1 q2 : Bool}
theorem Own.fit {H : Hp} {c sh : Sh} {v d L} (f : fits c sh = true) (h : Own G H (⟨sh, v, d⟩ :: L)) : Own G H (⟨c, v, d⟩ :: L) := by
  unfold fits at f
  split at f
  · exact h.freeze f
  · exact h
  · exact h
  · cases f
theorem lcN_wiped {vs : List Nat} {t : Tg} {tt : M Bool} {me : M Rv} {c : Sh} : ∀ {ds acc S r}, lcN vs t tt me c ds acc (wipeS S vs) = some r → ∃ S', r.2 = wipeS S' vs
  | [], acc, S, r, h => by cases h; exact ⟨S, rfl⟩
  | d :: ds, acc, S, r, h => by
    unfold lcN at h
    split at h
    · cases h
    · split at h
      · exact lcN_wiped h
      · split at h
        · split at h
          · exact lcN_wiped h
          · cases h
        · cases h
      · cases h
theorem tem_lc {vs : List Nat} {t : Tg} {mi : M (List D)} {tt : M Bool} {me : M Rv} {c : Sh} {σ : Sg} {H : Hp} {Q : VK} (nd : vs.Nodup) (hts : ∀ j ∈ t.slots, j ∈ vs) (h : TEm G W false (mLc vs t mi tt me c) σ H Q) :
    tLc (TIm G W mi) (TGm G noB t) (TTm G W0 q1 tt) (TEm G W0 q2 me) vs σ H Q := by
  obtain ⟨S, T, r, S', ag, ow, e, k⟩ := h
  unfold mLc at e
  split at e
  · cases e
  · rename_i e1
    cases e
    exact ⟨S, T, _, _, ag, ow, e1, k⟩
  · rename_i ds S1 e1
    split at e
    · rename_i hz
      split at e
      · rename_i acc S2 e2
        cases e
        refine ⟨S, T, _, _, ag, ow, e1, fun J T0 H1 it a1 o1 D hD => ?_⟩
        obtain ⟨Sw, ew⟩ := lcN_wiped e2
        have ew : S2 = wipeS Sw vs := ew
        -- the slots of the block's own names are put aside
        have p1 : (T0 ++ (cl S1 σ ++ T)).Perm (cl (wipeS S1 vs) (wipe σ vs) ++ (T0 ++ (svs S1 σ vs ++ T))) := by
          rw [cl_wipe_vals]
          refine (((cl_wipe (S := S1) (σ := σ) nd).append_right T).append_left T0).trans ?_
          rw [List.append_assoc]
          refine (perm3 _ _ _).trans ?_
          refine (perm3 (svs S1 σ vs) T0 _).trans ?_
          refine ((perm3 (svs S1 σ vs) (cl (wipeS S1 vs) σ) T).append_left T0).trans ?_
          exact perm3 _ _ _
        have o2 := o1.perm p1
        have o3 : Own G (upd H1 D (.lst [])) (⟨.lst c, .ref D, .lst []⟩ :: (cl (wipeS S1 vs) (wipe σ vs) ++ (T0 ++ (svs S1 σ vs ++ T)))) := Own.newLst (A := []) (by simp) o2 hD
        refine ⟨fun i m H' => m + i = ds.length ∧ ∃ Si ac, Ag Si (wipe σ vs) ∧ (∃ Z, Si = wipeS Z vs) ∧ Own G H' (⟨.lst c, .ref D, .lst ac⟩ :: (cl Si (wipe σ vs) ++ (T0 ++ (svs S1 σ vs ++ T)))) ∧ ac.length ≤ i ∧ lcN vs t tt me c (ds.drop i) ac Si = some (acc, S2),
          ⟨ds.length, by simp, _, [], a1.wipes, ⟨S1, rfl⟩, o3, by simp, by simpa using e2⟩, ?_⟩
        rintro i m Hi ⟨hm, Si, ac, ai, ⟨Z, ez⟩, oi, hac, ei⟩
        have oit := it Hi (⟨.lst c, .ref D, .lst ac⟩ :: (cl Si (wipe σ vs) ++ (svs S1 σ vs ++ T))) i (oi.perm (by
          refine ((perm3 _ _ _).cons _).trans ?_
          exact List.perm_middle.symm))
        cases hd : ds.drop i with
        | nil =>
          rw [hd] at ei
          cases ei
          have hl : ds.length ≤ i := List.drop_eq_nil_iff.mp hd
          refine .inl ⟨oit.2 hl, ?_⟩
          have aS : Ag S2 σ := ai.congr (wipe_length σ vs) fun j sd h => by
            rw [ez] at h
            rw [wipe_get, if_neg (wipeS_some h)]
          refine k _ Hi (a1.rest aS) ?_ trivial fun hq => by cases hq
          have ec : cl S2 (wipe σ vs) = cl S2 σ := by rw [ez]; exact cl_wipe_vals
          rw [ec] at oi
          have hS2 : ∀ j ∈ vs, S2[j]? = some none ∨ S2.length ≤ j := fun j hj => by
            rw [ez, wipeS_get, if_pos hj, wipeS_len]
            split
            · exact .inl rfl
            · exact .inr (by omega)
          have pr := cl_rest (S1 := S1) (S2 := S2) (σ := σ) (by rw [a1.length, aS.length]) nd hS2
          refine Own.dropMid (A := [⟨.lst c, .ref D, .lst acc⟩]) (B := T0) (oi.perm (List.Perm.cons _ ?_))
          refine (perm3 _ _ _).trans (List.Perm.append_left T0 ?_)
          rw [← List.append_assoc]
          exact (List.perm_append_comm.trans pr.symm).append_right T
        | cons d rest =>
          rw [hd] at ei
          have hi : i < ds.length := by
            rcases Nat.lt_or_ge i ds.length with h | h
            · exact h
            · rw [List.drop_eq_nil_iff.mpr h] at hd; cases hd
          have hg : ds[i]? = some d := by
            rw [List.drop_eq_getElem_cons hi] at hd
            cases hd
            exact List.getElem?_eq_getElem hi
          have hr : ds.drop (i + 1) = rest := by
            rw [List.drop_eq_getElem_cons hi] at hd
            cases hd
            rfl
          obtain ⟨go, yl⟩ := oit.1 d hg
          refine .inr ⟨go, fun H3 => ∃ Si ac, Ag Si (wipe σ vs) ∧ (∃ Z, Si = wipeS Z vs) ∧ Own G H3 (⟨.lst c, .ref D, .lst ac⟩ :: (cl Si (wipe σ vs) ++ (T0 ++ (svs S1 σ vs ++ T)))) ∧ ac.length ≤ i + 1 ∧ lcN vs t tt me c rest ac Si = some (acc, S2),
            fun H3 ⟨Si, ac, b1, b2, b3, b4, b5⟩ => ⟨m - 1, by omega, by omega, Si, ac, b1, b2, b3, b4, by rw [hr]; exact b5⟩, fun x H2 y => ?_⟩
          have oy : Own G H2 (⟨.fz, x, d⟩ :: (cl Si (wipe σ vs) ++ (⟨.lst c, .ref D, .lst ac⟩ :: (T0 ++ (svs S1 σ vs ++ T))))) := (yl x H2 y).perm (List.Perm.cons _ (by
            refine List.perm_middle.trans ?_
            refine List.Perm.trans ?_ List.perm_middle.symm
            exact (perm3 _ _ _).cons _))
          have ei : (match bindT noB t d Si with
            | none => none
            | some S1 => match tt S1 with
              | some (.ok false, S2) => lcN vs t tt me c rest ac (wipeS S2 vs)
              | some (.ok true, S2) => match me S2 with
                | some (.ok (.tmp sh x), S3) => if fits c sh = true then lcN vs t tt me c rest (ac ++ [x]) (wipeS S3 vs) else none
                | _ => none
              | _ => none) = some (acc, S2) := ei
          split at ei
          · cases ei
          · rename_i S3 e3
            refine ⟨Si, _, d, S3, ai, oy, e3, fun σ2 a2 o2 _ on => ?_⟩
            have ewp : wipe σ2 vs = wipe σ vs := (wipe_only on hts).trans wipe_wipe
            refine ⟨ewp, ?_⟩
            have fin : ∀ {S4 : List Slot} {H4 : Hp} {ac4 : List Dt.D}, Ag S4 σ2 → Own G H4 (⟨.lst c, .ref D, .lst ac4⟩ :: (cl S4 σ2 ++ (T0 ++ (svs S1 σ vs ++ T)))) → ac4.length ≤ i + 1 → lcN vs t tt me c rest ac4 (wipeS S4 vs) = some (acc, S2) →
                ∃ Si ac, Ag Si (wipe σ vs) ∧ (∃ Z, Si = wipeS Z vs) ∧ Own G H4 (⟨.lst c, .ref D, .lst ac⟩ :: (cl Si (wipe σ vs) ++ (T0 ++ (svs S1 σ vs ++ T)))) ∧ ac.length ≤ i + 1 ∧ lcN vs t tt me c rest ac Si = some (acc, S2) := fun {S4 H4 ac4} b1 b2 b3 b4 => by
              refine ⟨wipeS S4 vs, ac4, by rw [← ewp]; exact b1.wipes, ⟨_, rfl⟩, ?_, b3, b4⟩
              rw [← ewp, cl_wipe_vals]
              have pw := cl_wipe (S := S4) (σ := σ2) nd
              refine Own.dropMid (A := [⟨.lst c, .ref D, .lst ac4⟩]) (B := svs S4 σ2 vs) (b2.perm (List.Perm.cons _ ?_))
              refine (pw.append_right _).trans ?_
              rw [List.append_assoc]
              exact .refl _
            split at ei
            · rename_i S4 e4
              refine ⟨S3, _, _, _, a2, o2, e4, fun H4 b1 b2 _ => ?_⟩
              refine iteF ?_
              exact fin b1 (b2.perm List.perm_middle) (by omega) ei
            · rename_i S4 e4
              refine ⟨S3, _, _, _, a2, o2, e4, fun H4 b1 b2 _ => ?_⟩
              refine iteT ?_
              split at ei
              · rename_i sh x S5 e5
                split at ei
                · rename_i hf
                  refine ⟨S4, _, _, _, b1, b2, e5, fun w H5 c1 c2 _ _ => ?_⟩
                  have c3 : Own G H5 (⟨.lst c, .ref D, .lst ac⟩ :: ⟨c, w, x⟩ :: (cl S5 σ2 ++ (T0 ++ (svs S1 σ vs ++ T)))) := (Own.fit hf c2).perm (by
                    refine (List.perm_middle.cons _).trans ?_
                    exact List.Perm.swap _ _ _)
                  obtain ⟨ws, hw, hl, c4⟩ := c3.append
                  refine ⟨ws, hw, by omega, ?_⟩
                  exact fin c1 c4 (by simp; omega) ei
                · cases ei
              · cases ei
            · cases ei
      · cases e
    · cases e
theorem pts_mnil : PTs X [] (TTm G W true bYes) := ⟨fun pins s σ H Q I h => by
  obtain ⟨S, T, r, S', ag, ow, e, k⟩ := h
  cases e
  exact pts_nil.run pins s σ H Q I (k H ag ow fun _ => Same.refl H)⟩
theorem pe_mlc {elt tg iter : Expr} {ifs : List Expr} {scope : Scope} {own : List (Str × Nat)} {pos : Pos} {t : Tg} {mi : M (List D)} {tt : M Bool} {me : M Rv} {c : Sh} (hc : X.calm = true) (hN : X.N.Nodup) (hi : PI X tg iter (TIm G W mi)) (ok : BlkOk X.N X.env.scope scope own)
    (hg : ∀ (s : Shared) (H : Hp) (C : Addr) (cl : List (Str × Addr)) (fp : List Addr), PG (X.blk s H scope (compEnvC scope cl C X.env) fp) tg (TGm G noB t))
    (ht : ∀ (s : Shared) (H : Hp) (C : Addr) (cl : List (Str × Addr)) (fp : List Addr), PTs (X.blk s H scope (compEnvC scope cl C X.env) fp) ifs (TTm G W0 q1 tt))
    (he : ∀ (s : Shared) (H : Hp) (C : Addr) (cl : List (Str × Addr)) (fp : List Addr), PE (X.blk s H scope (compEnvC scope cl C X.env) fp) elt (TEm G W0 q2 me)) (hs : ∀ x, foldedSetIterable iter X.env x = pure x)
    (nd : (own.map (·.2)).Nodup) (hts : ∀ j ∈ t.slots, j ∈ own.map (·.2)) : PE X (.ListComp elt [⟨tg, iter, ifs, 0⟩] scope pos) (TEm G W false (mLc (own.map (·.2)) t mi tt me c)) :=
  (pe_lc hc hN hi ok hg ht he hs).imp fun _ _ _ h => tem_lc nd hts h
theorem ps_msetLc {i : Nat} {y : Str} {py : Pos} {elt tg iter : Expr} {ifs : List Expr} {scope : Scope} {own : List (Str × Nat)} {pos spos : Pos} {t : Tg} {mi : M (List D)} {tt : M Bool} {me : M Rv} {c : Sh} (hc : X.calm = true) (hN : X.N.Nodup) (hy : X.N[i]? = some y) (hyl : X.env.scope.names.lookup y = some .local)
    (hsw : swapsWith (.ListComp elt [⟨tg, iter, ifs, 0⟩] scope pos) (some (.Name y py)) spos.line X.env = pure true) (hi : PI X tg iter (TIm G W mi)) (ok : BlkOk X.N X.env.scope scope own)
    (hg : ∀ (s : Shared) (H : Hp) (C : Addr) (cl : List (Str × Addr)) (fp : List Addr), PG (X.blk s H scope (compEnvC scope cl C X.env) fp) tg (TGm G noB t))
    (ht : ∀ (s : Shared) (H : Hp) (C : Addr) (cl : List (Str × Addr)) (fp : List Addr), PTs (X.blk s H scope (compEnvC scope cl C X.env) fp) ifs (TTm G W0 q1 tt))
    (he : ∀ (s : Shared) (H : Hp) (C : Addr) (cl : List (Str × Addr)) (fp : List Addr), PE (X.blk s H scope (compEnvC scope cl C X.env) fp) elt (TEm G W0 q2 me)) (hs : ∀ x, foldedSetIterable iter X.env x = pure x)
    (nd : (own.map (·.2)).Nodup) (hts : ∀ j ∈ t.slots, j ∈ own.map (·.2)) : PS X (.Assign [.Name y py] (.ListComp elt [⟨tg, iter, ifs, 0⟩] scope pos) spos) (TSm G W B (sSet B i (mLc (own.map (·.2)) t mi tt me c))) := by
  refine (ps_setLc hc hN hy hyl hsw hi ok hg ht he hs).imp fun D σ H h => ?_
  have h1 := tsm_set (q := false) h
  exact tem_lc nd hts h1
end
end
end Dt

/-! Displays; calls of defs; a def by its body. -/
namespace Dt
noncomputable section
open PySem PySem.Spec PyProof.Rows L2

/-- what was made or frozen ahead, each as c -/
def tmps (c : Sh) : List Rv → Option (List D)
  | [] => some []
  | .tmp sh d :: rs => if fits c sh = true then match tmps c rs with
      | some ds => some (d :: ds)
      | none => none
    else none
  | .ref _ _ :: _ => none
def mTup (as : M (List Rv)) : M Rv := fun S => match as S with
  | none => none
  | some (.error e, S1) => some (.error e, S1)
  | some (.ok rs, S1) => if rs.length ≤ 1000 then match tmps .fz rs with
      | some ds => some (.ok (.tmp .fz (.tup ds)), S1)
      | none => none
    else none
def mLst (c : Sh) (as : M (List Rv)) : M Rv := fun S => match as S with
  | none => none
  | some (.error e, S1) => some (.error e, S1)
  | some (.ok rs, S1) => if rs.length ≤ 1000 then match tmps c rs with
      | some ds => some (.ok (.tmp (.lst c) (.lst ds)), S1)
      | none => none
    else none
section
variable {X : Cx} {G : Gm} {W : WX} {B : Bw} {q q1 q2 : Bool}
theorem tmps_cls {c : Sh} {σ : Sg} {H : Hp} {L : List Cl} : ∀ {rs : List Rv} {vs : List V} {ds : List D} {A : List Cl}, tmps c rs = some ds → okA G σ H rs vs → (∀ t ∈ A, t.sh = c) → Own G H (A ++ (clsA rs vs ++ L)) →
    ∃ A' : List Cl, (∀ t ∈ A', t.sh = c) ∧ A'.map Cl.v = vs ∧ A'.map Cl.d = ds ∧ Own G H ((A ++ A') ++ L)
  | [], [], ds, A, e, _, w, o => by
    cases e
    exact ⟨[], by simp, rfl, rfl, by simpa [clsA] using o⟩
  | .tmp sh d :: rs, v :: vs, ds, A, e, ok, w, o => by
    unfold tmps at e
    split at e
    · rename_i f
      split at e
      · rename_i ds' e'
        cases e
        have o1 : Own G H (⟨sh, v, d⟩ :: (A ++ (clsA rs vs ++ L))) := o.perm List.perm_middle
        have o2 : Own G H ((A ++ [⟨c, v, d⟩]) ++ (clsA rs vs ++ L)) := (o1.fit f).perm (by
          rw [List.append_assoc]
          exact List.perm_middle.symm)
        obtain ⟨A', w', e1, e2, o3⟩ := tmps_cls (rs := rs) (vs := vs) e' ok.2 (fun t ht => by
          rcases List.mem_append.mp ht with ht | ht
          · exact w t ht
          · rw [List.mem_singleton.mp ht]) o2
        refine ⟨⟨c, v, d⟩ :: A', fun t ht => ?_, by simp [e1], by simp [e2], by simpa using o3⟩
        rcases List.mem_cons.mp ht with rfl | ht
        · rfl
        · exact w' t ht
      · cases e
    · cases e
  | .ref _ _ :: _, _ :: _, _, _, e, _, _, _ => by cases e
  | [], _ :: _, _, _, _, ok, _, _ => ok.elim
  | _ :: _, [], _, _, _, ok, _, _ => ok.elim
theorem line1000 {n : Nat} (h : n ≤ 1000) : n ≤ sizeLine := Nat.le_of_lt (small1000 h)
theorem pe_mtup {es : List Expr} {as : M (List Rv)} {x1 pos} (ha : PA X es (TAm G W q as)) : PE X (.Tuple es x1 pos) (TEm G W q (mTup as)) := (pe_tup ha).imp fun σ H Q h => by
  obtain ⟨S, T, r, S', ag, ow, e, k⟩ := h
  unfold mTup at e
  split at e
  · cases e
  · rename_i e1
    cases e
    exact ⟨S, T, _, _, ag, ow, e1, k⟩
  · rename_i rs S1 e1
    split at e
    · rename_i hz
      split at e
      · rename_i ds e2
        cases e
        refine ⟨S, T, _, _, ag, ow, e1, fun vs H' a1 a2 a3 a4 => ⟨line1000 (by rw [clsA_len a3]; exact hz), fun p hp => ?_⟩⟩
        obtain ⟨A, w, ev, ed, o⟩ := tmps_cls (A := []) e2 a3 (by simp) a2
        obtain ⟨O, o⟩ := o
        rw [List.nil_append, List.append_assoc] at o
        obtain ⟨rA, o'⟩ := o.heads w
        rw [ev, ed] at rA
        exact k _ _ a1 ⟨O, o'.newTup rA hp⟩ trivial fun hq => (a4 hq).trans (upd_new hp)
      · cases e
    · cases e
theorem pe_mlst {c : Sh} {es : List Expr} {as : M (List Rv)} {pos} (ha : PA X es (TAm G W q as)) : PE X (.List es pos) (TEm G W q (mLst c as)) := (pe_lst ha).imp fun σ H Q h => by
  obtain ⟨S, T, r, S', ag, ow, e, k⟩ := h
  unfold mLst at e
  split at e
  · cases e
  · rename_i e1
    cases e
    exact ⟨S, T, _, _, ag, ow, e1, k⟩
  · rename_i rs S1 e1
    split at e
    · rename_i hz
      split at e
      · rename_i ds e2
        cases e
        refine ⟨S, T, _, _, ag, ow, e1, fun vs H' a1 a2 a3 a4 => ⟨line1000 (by rw [clsA_len a3]; exact hz), fun p hp => ?_⟩⟩
        obtain ⟨A, w, ev, ed, o⟩ := tmps_cls (A := []) e2 a3 (by simp) a2
        have o2 := Own.newLst w (by simpa using o) hp
        rw [ev, ed] at o2
        exact k _ _ a1 o2 trivial fun hq => (a4 hq).trans (upd_new hp)
      · cases e
    · cases e

/-! calls of defs -/
/-- a def by values: what it gives, and what it leaves of the things that were lent -/
abbrev Fs := List (Sh × D) → Option (Except Exc (Sh × D) × List Slot)
/-- the arguments are taken: what was made is handed over, a place (a name) is lent -/
def takeA : List Rv → List Slot → Option (List (Sh × D) × List Slot)
  | [], S => some ([], S)
  | .tmp sh d :: rs, S => match takeA rs S with
    | some (as, S1) => some ((sh, d) :: as, S1)
    | none => none
  | .ref i [] :: rs, S => match S[i]? with
    | some (some sd) => match takeA rs (S.set i none) with
      | some (as, S1) => some (sd :: as, S1)
      | none => none
    | _ => none
  | .ref _ _ :: _, _ => none
/-- what was lent comes back -/
def backA : List Rv → List Slot → List Slot → List Slot
  | .ref i [] :: rs, x :: xs, S => backA rs xs (match x with
    | some sd => S.set i (some sd)
    | none => S)
  | _ :: rs, _ :: xs, S => backA rs xs S
  | _, _, S => S
def mCall (f : Fs) (as : M (List Rv)) : M Rv := fun S => match as S with
  | none => none
  | some (.error e, S1) => some (.error e, S1)
  | some (.ok rs, S1) => match takeA rs S1 with
    | none => none
    | some (ads, S2) => match f ads with
      | none => none
      | some (.error e, xs) => some (.error e, backA rs xs S2)
      | some (.ok (sh, d), xs) => some (.ok (.tmp sh d), backA rs xs S2)
/-- the claims of arguments -/
def clA (as : List (Sh × D)) (vs : List V) : List Cl := cl (as.map some) (vs.map some)
/-- a def's promise -/
def spF (G : Gm) (f : Fs) : Sp := fun vs H Q E => ∃ as T r xs, as.length = vs.length ∧ Own G H (clA as vs ++ T) ∧ f as = some (r, xs) ∧ xs.length = vs.length ∧
  match r with
  | .ok (sh, d) => ∀ v H', Own G H' (⟨sh, v, d⟩ :: (cl xs (vs.map some) ++ T)) → Q v H'
  | .error ex => ∀ cv od H', OwnX G H' ex od (cl xs (vs.map some) ++ T) → ExAt G H' ex cv od → E cv od H'
theorem takeA_cls {σ : Sg} {H : Hp} {T : List Cl} : ∀ {rs : List Rv} {vs : List V} {S : List Slot} {ads S2}, Ag S σ → okA G σ H rs vs → takeA rs S = some (ads, S2) → ads.length = vs.length ∧ Ag S2 σ ∧ (clsA rs vs ++ (cl S σ ++ T)).Perm (clA ads vs ++ (cl S2 σ ++ T))
  | [], [], S, ads, S2, ag, _, e => by
    cases e
    exact ⟨rfl, ag, .refl _⟩
  | .tmp sh d :: rs, v :: vs, S, ads, S2, ag, ok, e => by
    unfold takeA at e
    split at e
    · rename_i as S1 e1
      cases e
      obtain ⟨h1, h2, h3⟩ := takeA_cls ag ok.2 e1
      exact ⟨by simp [h1], h2, h3.cons _⟩
    · cases e
  | .ref i [] :: rs, v :: vs, S, ads, S2, ag, ok, e => by
    unfold takeA at e
    split at e
    · rename_i sd hS
      split at e
      · rename_i as S1 e1
        cases e
        obtain ⟨v0, ev, pv⟩ := ok.1
        have pv : v = v0 := pv
        subst pv
        obtain ⟨h1, h2, h3⟩ := takeA_cls ag.unset ok.2 e1
        refine ⟨by simp [h1], h2, ?_⟩
        obtain ⟨sh, d⟩ := sd
        have p := (cl_get hS ev).append_right T
        show (clsA rs vs ++ (cl S σ ++ T)).Perm (⟨sh, v, d⟩ :: (clA as vs ++ (cl S2 σ ++ T)))
        refine (p.append_left _).trans ?_
        refine List.perm_middle.trans ?_
        exact h3.cons _
      · cases e
    · cases e
  | .ref _ (_ :: _) :: _, _ :: _, _, _, _, _, _, e => by cases e
  | [], _ :: _, _, _, _, _, ok, _ => ok.elim
  | _ :: _, [], _, _, _, _, ok, _ => ok.elim
theorem cl_app1 {x : Slot} {xs : List Slot} {v : V} {vs : List V} : ∃ A, cl (x :: xs) (some v :: vs.map some) = A ++ cl xs (vs.map some) ∧ (∀ sh d, x = some (sh, d) → A = [⟨sh, v, d⟩]) ∧ (x = none → A = []) := by
  cases x with
  | none => exact ⟨[], rfl, by simp, by simp⟩
  | some sd =>
    obtain ⟨sh, d⟩ := sd
    exact ⟨[⟨sh, v, d⟩], rfl, fun sh' d' e => by cases e; rfl, by simp⟩
theorem backA_cls {σ : Sg} {H : Hp} {T : List Cl} : ∀ {rs : List Rv} {vs : List V} {S : List Slot} {xs : List Slot}, Ag S σ → (∀ i, Rv.ref i [] ∈ rs → ∃ v, σ[i]? = some (some v)) → okA G σ H rs vs → xs.length = vs.length → ∀ {L : List Cl}, Own G H (L ++ (cl xs (vs.map some) ++ (cl S σ ++ T))) → Ag (backA rs xs S) σ ∧ Own G H (L ++ (cl (backA rs xs S) σ ++ T))
  | [], [], S, [], ag, _, _, _, L, o => ⟨ag, o⟩
  | r :: rs, v :: vs, S, x :: xs, ag, hv, ok, hl, L, o => by
    have hv' : ∀ i, Rv.ref i [] ∈ rs → ∃ v, σ[i]? = some (some v) := fun i h => hv i (List.mem_cons_of_mem _ h)
    have hl' : xs.length = vs.length := by simpa using hl
    obtain ⟨A, eA, hA1, hA2⟩ := cl_app1 (x := x) (xs := xs) (v := v) (vs := vs)
    have o : Own G H (L ++ (cl (x :: xs) (some v :: vs.map some) ++ (cl S σ ++ T))) := o
    rw [eA, List.append_assoc] at o
    have drop : Own G H (L ++ (cl xs (vs.map some) ++ (cl S σ ++ T))) := o.dropMid
    cases r with
    | tmp sh d => exact backA_cls (rs := rs) ag hv' ok.2 hl' drop
    | ref i p => cases p with
      | cons => exact backA_cls (rs := rs) ag hv' ok.2 hl' drop
      | nil => cases x with
        | none => exact backA_cls (rs := rs) ag hv' ok.2 hl' drop
        | some sd =>
          obtain ⟨sh, d⟩ := sd
          obtain ⟨v0, ev, pv⟩ := ok.1
          have pv : v = v0 := pv
          subst pv
          have eA := hA1 sh d rfl
          subst eA
          refine backA_cls (rs := rs) (S := S.set i (some (sh, d))) (ag.set ev) hv' ok.2 hl' ?_
          -- the old claim of the slot, if any, is dropped
          obtain ⟨Z, pz⟩ := cl_unset_sub (S := S) (σ := σ) (i := i)
          have p1 : (L ++ ([(⟨sh, v, d⟩ : Cl)] ++ (cl xs (vs.map some) ++ (cl S σ ++ T)))).Perm (Z ++ (L ++ (cl xs (vs.map some) ++ (((⟨sh, v, d⟩ : Cl) :: cl (S.set i none) σ) ++ T)))) := by
            refine List.Perm.trans (List.Perm.append_left L (List.Perm.append_left _ (List.Perm.append_left _ (pz.append_right T)))) ?_
            rw [List.append_assoc]
            refine List.Perm.trans (List.Perm.append_left L (List.Perm.append_left _ (perm3 _ _ _))) ?_
            refine List.Perm.trans (List.Perm.append_left L (perm3 _ _ _)) ?_
            refine (perm3 _ _ _).trans (List.Perm.append_left Z (List.Perm.append_left L ?_))
            show ((⟨sh, v, d⟩ : Cl) :: (cl xs (vs.map some) ++ (cl (S.set i none) σ ++ T))).Perm _
            exact List.perm_middle.symm
          have o2 := (o.perm p1).drop
          refine o2.perm (List.Perm.append_left L (List.Perm.append_left _ (List.Perm.append_right T ?_)))
          exact (cl_set ag.length ev).symm
  | [], [], _, _ :: _, _, _, _, hl, _, _ => by simp at hl
  | [], _ :: _, _, _, _, _, ok, _, _, _ => ok.elim
  | _ :: _, [], _, _, _, _, ok, _, _, _ => ok.elim
  | _ :: _, _ :: _, _, [], _, _, _, hl, _, _ => by simp at hl
theorem okA_any {σ : Sg} {H H' : Hp} : ∀ {rs : List Rv} {vs : List V}, (∀ r ∈ rs, ∀ i p, r = Rv.ref i p → p = []) → okA G σ H rs vs → okA G σ H' rs vs
  | [], [], _, _ => trivial
  | r :: rs, v :: vs, h, ok => ⟨by
      cases r with
      | tmp => trivial
      | ref i p =>
        have := h _ (List.mem_cons_self ..) i p rfl
        subst this
        exact ok.1, okA_any (fun r hr => h r (List.mem_cons_of_mem _ hr)) ok.2⟩
  | [], _ :: _, _, ok => ok.elim
  | _ :: _, [], _, ok => ok.elim
theorem takeA_plain : ∀ {rs : List Rv} {S : List Slot} {r}, takeA rs S = some r → ∀ x ∈ rs, ∀ i p, x = Rv.ref i p → p = []
  | [], _, _, _, x, h, _, _, _ => by simp at h
  | .tmp sh d :: rs, S, r, e, x, h, i, p, ex => by
    rcases List.mem_cons.mp h with h | h
    · rw [h] at ex; cases ex
    · unfold takeA at e
      split at e
      · rename_i e1; exact takeA_plain e1 x h i p ex
      · cases e
  | .ref j [] :: rs, S, r, e, x, h, i, p, ex => by
    rcases List.mem_cons.mp h with h | h
    · rw [h] at ex; cases ex; rfl
    · unfold takeA at e
      split at e
      · split at e
        · rename_i e1; exact takeA_plain e1 x h i p ex
        · cases e
      · cases e
  | .ref _ (_ :: _) :: _, _, _, e, _, _, _, _, _ => by cases e
theorem okA_refs {σ : Sg} {H : Hp} : ∀ {rs : List Rv} {vs : List V}, okA G σ H rs vs → ∀ i, Rv.ref i [] ∈ rs → ∃ v, σ[i]? = some (some v)
  | [], [], _, i, h => by simp at h
  | r :: rs, v :: vs, ok, i, h => by
    rcases List.mem_cons.mp h with h | h
    · subst h
      obtain ⟨v0, ev, _⟩ := ok.1
      exact ⟨v0, ev⟩
    · exact okA_refs ok.2 i h
  | [], _ :: _, ok, _, _ => ok.elim
  | _ :: _, [], ok, _, _ => ok.elim
/-- how many things a def hands back -/
def Fs.len (f : Fs) : Prop := ∀ as r xs, f as = some (r, xs) → xs.length = as.length
theorem tem_call {f : Fs} (hf : f.len) {as : M (List Rv)} {σ : Sg} {H : Hp} {Q : VK} (h : TEm G W false (mCall f as) σ H Q) : TAm G W q as σ H fun vs H1 => spF G f vs H1 Q (fun cv od H' => W cv od σ H') := by
  obtain ⟨S, T, r, S', ag, ow, e, k⟩ := h
  unfold mCall at e
  split at e
  · cases e
  · rename_i e1
    cases e
    exact ⟨S, T, _, _, ag, ow, e1, k⟩
  · rename_i rs S1 e1
    refine ⟨S, T, _, _, ag, ow, e1, fun vs H1 a1 a2 a3 _ => ?_⟩
    split at e
    · cases e
    · rename_i ads S2 e2
      obtain ⟨hl, ag2, p⟩ := takeA_cls (T := T) a1 a3 e2
      have pl := takeA_plain e2
      split at e
      · cases e
      · rename_i ex xs e3
        cases e
        refine ⟨ads, cl S2 σ ++ T, _, xs, hl, a2.perm p, e3, by rw [hf _ _ _ e3, hl], fun cv od H' o x => ?_⟩
        obtain ⟨b1, b2⟩ := backA_cls (H := H') (T := T) (L := exL ex od) ag2 (okA_refs a3) (okA_any pl a3) (by rw [hf _ _ _ e3, hl]) o
        exact k cv od H' b1 b2 x
      · rename_i sh d xs e3
        cases e
        refine ⟨ads, cl S2 σ ++ T, _, xs, hl, a2.perm p, e3, by rw [hf _ _ _ e3, hl], fun v H' o => ?_⟩
        obtain ⟨b1, b2⟩ := backA_cls (H := H') (T := T) (L := [⟨sh, v, d⟩]) ag2 (okA_refs a3) (okA_any pl a3) (by rw [hf _ _ _ e3, hl]) o
        exact k v H' b1 b2 trivial fun hq => by cases hq
theorem pe_mcall {k : Nat} {f : Addr} {fd : FuncData} {ps : List Str} {fs : Fs} {x : Str} {p pos : Pos} {e : Expr} {es : List Expr} {as : M (List Rv)} (hf : fs.len) (F : FnOk X.prog X.w X.K X.mg X.base (L2.CX X.prog X.w) k f fd ps (spF G fs)) (hr : Room k X.A) (hg : Gl X x) (hm : X.mg x = some (.ref f)) (hk : PySem.W.keepIn X.K (.ref f) = true)
    (hb : Binds X.K fd ps []) (tk : L2.Takes X W) (ha : PA X (e :: es) (TAm G W q as)) (hdb : (x == ("__debug__" : Str)) = false) (he : starEach (e :: es) X.env = (false, eval e X.env) :: starEach es X.env) (hpl : (backTo pos (starEach es X.env)).any (·.1) = false) :
    PE X (.Call (.Name x p) (e :: es) [] pos) (TEm G W false (mCall fs as)) :=
  (pe_callS (E := WE W) F hr hg hm hk hb (fun σ => passAt tk σ) ha hdb he hpl).imp fun _ _ _ h => tem_call hf h

/-! a def by its body -/
def keepB (B : Bw) : Nat → List Slot → List Slot
  | _, [] => []
  | j, x :: S => (if B j = true then x else none) :: keepB B (j + 1) S
theorem keepB_len {B : Bw} : ∀ {j : Nat} {S : List Slot}, (keepB B j S).length = S.length
  | _, [] => rfl
  | j, x :: S => by simp [keepB, keepB_len]
/-- the body b over n names, the first ones parameters, of which B are lent -/
def fnS (n : Nat) (B : Bw) (b : MS) : Fs := fun as => if as.length ≤ n then match b (as.map some ++ List.replicate (n - as.length) none) with
    | some (.ok (.rt sh d), S) => if S.length = n then some (.ok (sh, d), keepB B 0 (S.take as.length)) else none
    | some (.ok .nx, S) => if S.length = n then some (.ok (.fz, .non), keepB B 0 (S.take as.length)) else none
    | some (.error e, S) => if S.length = n then some (.error e, keepB B 0 (S.take as.length)) else none
    | _ => none
  else none
theorem fnS_len {n : Nat} {B : Bw} {b : MS} : (fnS n B b).len := fun as r xs h => by
  unfold fnS at h
  split at h
  · rename_i hl
    split at h
    all_goals first
      | (split at h
         · cases h
           rw [keepB_len, List.length_take]
           omega
         · cases h)
      | cases h
  · cases h
theorem cl_rep {n : Nat} : ∀ {S : List Slot} {σ : Sg}, S.length = σ.length → cl (S ++ List.replicate n none) (σ ++ List.replicate n none) = cl S σ
  | [], [], _ => by
    induction n with
    | zero => rfl
    | succ n ih => simpa [cl, List.replicate_succ] using ih
  | [], _ :: _, h => by simp at h
  | _ :: _, [], h => by simp at h
  | none :: S, y :: σ, h => by
    have := cl_rep (n := n) (S := S) (σ := σ) (by simpa using h)
    simpa [cl] using this
  | some (sh, d) :: S, none :: σ, h => by
    have := cl_rep (n := n) (S := S) (σ := σ) (by simpa using h)
    simpa [cl] using this
  | some (sh, d) :: S, some v :: σ, h => by
    have := cl_rep (n := n) (S := S) (σ := σ) (by simpa using h)
    simpa [cl] using this
theorem Ag.rep {n : Nat} : ∀ {S : List Slot} {σ : Sg}, Ag S σ → Ag (S ++ List.replicate n none) (σ ++ List.replicate n none)
  | [], [], _ => by
    induction n with
    | zero => trivial
    | succ n ih => simpa [Ag, List.replicate_succ] using ih
  | [], _ :: _, h => h.elim
  | none :: _, [], h => h.elim
  | some _ :: _, [], h => h.elim
  | none :: S, y :: σ, h => Ag.rep (n := n) (S := S) (σ := σ) h
  | some _ :: S, none :: σ, h => h.elim
  | some _ :: S, some v :: σ, h => Ag.rep (n := n) (S := S) (σ := σ) h
theorem Ag.args : ∀ {as : List (Sh × D)} {vs : List V}, as.length = vs.length → Ag (as.map some) (vs.map some)
  | [], [], _ => trivial
  | [], _ :: _, h => by simp at h
  | _ :: _, [], h => by simp at h
  | _ :: as, _ :: vs, h => Ag.args (as := as) (vs := vs) (by simpa using h)
/-- the lent parameters' claims at the end: their slots are bound as they were -/
theorem keep_cls : ∀ {j : Nat} {B : Bw} {S : List Slot} {σ : Sg} {vs : List V}, Ag S σ → (∀ i, B (j + i) = true → ∀ v, vs[i]? = some v → σ[i]? = some (some v)) → vs.length ≤ σ.length → ∃ A, (cl S σ).Perm (A ++ cl (keepB B j (S.take vs.length)) (vs.map some))
  | j, B, S, σ, [], ag, h, _ => ⟨cl S σ, by simp [keepB, cl]⟩
  | j, B, [], σ, v :: vs, ag, h, hl => by
    cases σ with
    | nil => simp at hl
    | cons => exact ag.elim
  | j, B, x :: S, [], v :: vs, ag, h, hl => by simp at hl
  | j, B, x :: S, y :: σ, v :: vs, ag, h, hl => by
    have ag' : Ag S σ := by
      cases x with
      | none => exact ag
      | some _ => cases y with
        | none => exact ag.elim
        | some _ => exact ag
    obtain ⟨A, p⟩ := keep_cls (j := j + 1) (B := B) (S := S) (σ := σ) (vs := vs) ag' (fun i hi w hw => by
      have := h (i + 1) (by rw [← hi]; congr 1; omega) w (by simpa using hw)
      simpa using this) (by simpa using hl)
    have hk : keepB B j ((x :: S).take (v :: vs).length) = (if B j = true then x else none) :: keepB B (j + 1) (S.take vs.length) := by simp [keepB]
    rw [hk]
    cases x with
    | none => exact ⟨A, by simpa [cl] using p⟩
    | some sd =>
      obtain ⟨sh, d⟩ := sd
      cases y with
      | none => exact ag.elim
      | some w =>
        by_cases hb : B j = true
        · rw [if_pos hb]
          have := h 0 (by simpa using hb) v rfl
          simp at this
          subst this
          refine ⟨A, ?_⟩
          show ((⟨sh, w, d⟩ : Cl) :: cl S σ).Perm (A ++ (⟨sh, w, d⟩ :: cl _ _))
          exact (p.cons _).trans List.perm_middle.symm
        · rw [if_neg hb]
          refine ⟨⟨sh, w, d⟩ :: A, ?_⟩
          show ((⟨sh, w, d⟩ : Cl) :: cl S σ).Perm (⟨sh, w, d⟩ :: (A ++ cl _ _))
          exact p.cons _
theorem fn_m {P : Program} {w : World} {K : PySem.W.Frag} {mg : Str → Option Value} {base : Heap} {x qual : Str} {st : Stmt} {f : Addr} {fd : FuncData} {N ps : List Str} {k n : Nat} {b : MS} (F : Fun K x qual st f fd) (S : FnScope N ps (defScope st)) (hn : N.length = n)
    (hbody : ∀ (cdv : Value) (A : Around) (outer : List Env) (s : Shared) (H : Hp) (E : XK), fd.code = cdv → Room k (A.deeper (envOfC qual (defScope st) s.heap.objs.size f cdv)) →
      PSs (cxOf (L2.CX P w) P w K mg base N qual (defScope st) f cdv A outer s H E) (defBody st) (TSm G (fun cv od _ H' => E cv od H') B b)) :
    FnOk P w K mg base (L2.CX P w) (k + 1) f fd ps (fun vs H Q E => vs.length = ps.length ∧ spF G (fnS n B b) vs H Q E) := by
  obtain ⟨oc, od, kV, doc, pm, an, cdv, ct, osl, rfl, lk, hcd⟩ := F.ex
  refine fn_of lk hcd S (fun vs H Q E h => h.1) fun A outer s H vs Q E hr h => ⟨_, hbody cdv A outer s H E rfl hr, ?_⟩
  obtain ⟨hps, as, T, r, xs, hl, o, e, hx, q⟩ := h
  have hpl : ps.length ≤ N.length := by
    have := congrArg List.length S.pre
    rw [List.length_take] at this
    omega
  unfold fnS at e
  have hst : L2.start N vs = vs.map some ++ List.replicate (n - as.length) none := by unfold L2.start; rw [hn, hl]
  have ag : Ag (as.map some ++ List.replicate (n - as.length) none) (L2.start N vs) := by rw [hst]; exact (Ag.args hl).rep
  have ow : Own G H (cl (as.map some ++ List.replicate (n - as.length) none) (L2.start N vs) ++ T) := by
    rw [hst, cl_rep (by simpa using hl)]
    exact o
  have hv : ∀ i v, vs[i]? = some v → (L2.start N vs)[i]? = some (some v) := fun i v hi => by
    rw [hst, List.getElem?_append_left (by rw [List.length_map]; exact (List.getElem?_eq_some_iff.mp hi).1), List.getElem?_map, hi]
    rfl
  have fin : ∀ {S' : List Slot} {σ' : Sg} {H' : Hp} {L : List Cl}, S'.length = n → Ag S' σ' → Own G H' (L ++ (cl S' σ' ++ T)) → Kb B (L2.start N vs) σ' → Own G H' (L ++ (cl (keepB B 0 (S'.take as.length)) (vs.map some) ++ T)) := fun {S' σ' H' L} hS a1 a2 kb => by
    obtain ⟨A, p⟩ := keep_cls (j := 0) (B := B) (vs := vs) a1 (fun i hi v hiv => by
      rw [kb i (by simpa using hi)]
      exact hv i v hiv) (by rw [← a1.length, hS]; omega)
    rw [hl]
    have p2 := List.Perm.append_left L (p.append_right T)
    have o2 := a2.perm p2
    rw [List.append_assoc] at o2
    exact o2.dropMid
  split at e
  · split at e
    · rename_i sh d S' eb
      split at e
      · rename_i hS
        cases e
        exact ⟨_, T, _, _, ag, ow, eb, fun v σ' H' a1 a2 kb => q v H' (fin (L := [⟨sh, v, d⟩]) hS a1 a2 kb)⟩
      · cases e
    · rename_i S' eb
      split at e
      · rename_i hS
        cases e
        exact ⟨_, T, _, _, ag, ow, eb, fun σ' H' a1 a2 kb => q .non H' (Own.nonC (fin (L := []) hS a1 a2 kb))⟩
      · cases e
    · rename_i ex S' eb
      split at e
      · rename_i hS
        cases e
        exact ⟨_, T, _, _, ag, ow, eb, fun cv od σ' H' a1 a2 kb x => q cv od H' (fin (L := exL ex od) hS a1 a2 kb) x⟩
      · cases e
    · cases e
  · cases e
end
end
end Dt

/-! Built-ins. -/
namespace Dt
noncomputable section
open PySem PySem.Spec PyProof.Rows L2

section
variable {X : Cx} {G : Gm} {W : WX} {B : Bw} {q q1 q2 : Bool}
theorem pe_mbi {x : Str} {id : String} {r : List V → Hp → VK → Prop} {f : List D → Option (Sh × D)} {p pos : Pos} {e : Expr} {es : List Expr} {as : M (List Rv)} (hc : CallR X (.builtin id) r) (F : FunOk G r f) (hg : Gl X x) (hm : X.mg x = none) (hv : bootBuiltins x = some (.builtin id)) (ha : PA X (e :: es) (TAm G W q as)) (hn : x ≠ "__name__") (hdb : (x == ("__debug__" : Str)) = false)
    (he : starEach (e :: es) X.env = (false, eval e X.env) :: starEach es X.env) (hpl : (backTo pos (starEach es X.env)).any (·.1) = false) : PE X (.Call (.Name x p) (e :: es) [] pos) (TEm G W q (mFun f as)) :=
  (pe_callB hc hg hm hv ha hn hdb he hpl).imp fun _ _ _ h => tem_fun F h
theorem pe_mty {x : Str} {id : String} {r : List V → Hp → VK → Prop} {f : List D → Option (Sh × D)} {p pos : Pos} {e : Expr} {es : List Expr} {as : M (List Rv)} (hc : CallR X (.type id) r) (F : FunOk G r f) (hg : Gl X x) (hm : X.mg x = none) (hv : bootBuiltins x = some (.type id)) (ha : PA X (e :: es) (TAm G W q as)) (hn : x ≠ "__name__") (hdb : (x == ("__debug__" : Str)) = false)
    (he : starEach (e :: es) X.env = (false, eval e X.env) :: starEach es X.env) (hpl : (backTo pos (starEach es X.env)).any (·.1) = false) : PE X (.Call (.Name x p) (e :: es) [] pos) (TEm G W q (mFun f as)) :=
  (pe_callTy hc hg hm hv ha hn hdb he hpl).imp fun _ _ _ h => tem_fun F h
end
section
variable {G : Gm}
theorem FunOk.one {r : List V → Hp → VK → Prop} {f : D → Option (Sh × D)} (h : ∀ (H : Hp) (L : List Cl) (O : List Addr) (v : V) (d0 : D) (sh : Sh) (d : D) (Q : VK), OwnO G H (L ++ tabC G) O → RX G (fun a => a ∉ O) H v d0 → f d0 = some (sh, d) → (∀ v H', Same H H' → Own G H' (⟨sh, v, d⟩ :: L) → Q v H') → r [v] H Q) : FunOk G r (on1 f) := by
  intro H L O vs ds sh d Q o rx e k
  cases rx with
  | nil => cases e
  | cons h1 rx => cases rx with
    | nil => exact h H L O _ _ sh d Q o h1 e k
    | cons h2 rx => cases e
theorem FunOk.two {r : List V → Hp → VK → Prop} {f : D → D → Option (Sh × D)} (h : ∀ (H : Hp) (L : List Cl) (O : List Addr) (v w : V) (d0 d1 : D) (sh : Sh) (d : D) (Q : VK), OwnO G H (L ++ tabC G) O → RX G (fun a => a ∉ O) H v d0 → RX G (fun a => a ∉ O) H w d1 → f d0 d1 = some (sh, d) → (∀ v H', Same H H' → Own G H' (⟨sh, v, d⟩ :: L) → Q v H') → r [v, w] H Q) : FunOk G r (on2 f) := by
  intro H L O vs ds sh d Q o rx e k
  cases rx with
  | nil => cases e
  | cons h1 rx => cases rx with
    | nil => cases e
    | cons h2 rx => cases rx with
      | nil => exact h H L O _ _ _ _ sh d Q o h1 h2 e k
      | cons h3 rx => cases e

/-- len -/
def lenF : D → Option (Sh × D)
  | .str x => if x.length ≤ sizeLine then some (.fz, .int x.length) else none
  | .lst xs => some (.fz, .int xs.length)
  | .tup xs => some (.fz, .int xs.length)
  | _ => none
def rLenD (K : PySem.W.Frag) : List V → Hp → VK → Prop := fun xs H Q => (∃ p ys, xs = [.ref p] ∧ (SqL K H p ys ∨ SqT K H p ys) ∧ Q (.int ys.length) H) ∨ (∃ z, xs = [.str z] ∧ z.length ≤ sizeLine ∧ Q (.int z.length) H)
theorem call_lenD {X : Cx} : CallR X (.builtin "len") (rLenD X.K) := call_len_seq.or call_len_str
theorem fun_len : FunOk G (rLenD G.K) (on1 lenF) := FunOk.one fun H L O v d0 sh d Q o rx e k => by
  unfold lenF at e
  split at e
  · split at e
    · rename_i hz
      cases e
      cases rx.str_at
      refine .inr ⟨_, rfl, by rw [str_len]; exact hz, ?_⟩
      rw [str_len]
      exact k _ H (Same.refl H) ⟨O, o.cons (.int _)⟩
    · cases e
  · cases e
    obtain ⟨a, vs, rfl, t, r⟩ := rx.lst_at
    refine .inl ⟨a, vs, rfl, .inl t, ?_⟩
    rw [r.length]
    exact k _ H (Same.refl H) ⟨O, o.cons (.int _)⟩
  · cases e
    obtain ⟨a, vs, rfl, t, r⟩ := rx.tup_at
    refine .inl ⟨a, vs, rfl, .inr t, ?_⟩
    rw [r.length]
    exact k _ H (Same.refl H) ⟨O, o.cons (.int _)⟩
  · cases e
def absF : D → Option (Sh × D)
  | .int i => some (.fz, .int (if i < 0 then -i else i))
  | _ => none
theorem fun_abs : FunOk G (fun xs H Q => ∃ i, xs = [.int i] ∧ Q (.int (if i < 0 then -i else i)) H) (on1 absF) := FunOk.one fun H L O v d0 sh d Q o rx e k => by
  unfold absF at e
  split at e
  · cases e
    cases rx.int_at
    exact ⟨_, rfl, k _ H (Same.refl H) ⟨O, o.cons (.int _)⟩⟩
  · cases e
def intF : D → Option (Sh × D)
  | .int i => some (.fz, .int i)
  | .bl b => some (.fz, .int (if b then 1 else 0))
  | _ => none
theorem fun_int : FunOk G (fun xs H Q => (∃ i, xs = [.int i] ∧ Q (.int i) H) ∨ ∃ k, xs = [.bl k] ∧ Q (.int (if k then 1 else 0)) H) (on1 intF) := FunOk.one fun H L O v d0 sh d Q o rx e k => by
  unfold intF at e
  split at e
  · cases e
    cases rx.int_at
    exact .inl ⟨_, rfl, k _ H (Same.refl H) ⟨O, o.cons (.int _)⟩⟩
  · cases e
    cases rx.bl_at
    exact .inr ⟨_, rfl, k _ H (Same.refl H) ⟨O, o.cons (.int _)⟩⟩
  · cases e
def minF : D → D → Option (Sh × D)
  | .int i, .int j => some (.fz, .int (if j < i then j else i))
  | _, _ => none
def maxF : D → D → Option (Sh × D)
  | .int i, .int j => some (.fz, .int (if j > i then j else i))
  | _, _ => none
theorem fun_min : FunOk G (fun xs H Q => ∃ i j, xs = [.int i, .int j] ∧ Q (.int (if j < i then j else i)) H) (on2 minF) := FunOk.two fun H L O v w d0 d1 sh d Q o rx ry e k => by
  unfold minF at e
  split at e
  · cases e
    cases rx.int_at
    cases ry.int_at
    exact ⟨_, _, rfl, k _ H (Same.refl H) ⟨O, o.cons (.int _)⟩⟩
  · cases e
theorem fun_max : FunOk G (fun xs H Q => ∃ i j, xs = [.int i, .int j] ∧ Q (.int (if j > i then j else i)) H) (on2 maxF) := FunOk.two fun H L O v w d0 d1 sh d Q o rx ry e k => by
  unfold maxF at e
  split at e
  · cases e
    cases rx.int_at
    cases ry.int_at
    exact ⟨_, _, rfl, k _ H (Same.refl H) ⟨O, o.cons (.int _)⟩⟩
  · cases e
/-- list(x), tuple(x) of a list or a tuple -/
def listF : D → Option (Sh × D)
  | .lst xs => some (.lst .fz, .lst xs)
  | .tup xs => some (.lst .fz, .lst xs)
  | _ => none
theorem fun_list : FunOk G (fun xs H Q => ∃ p ys, xs = [.ref p] ∧ (SqL G.K H p ys ∨ SqT G.K H p ys) ∧ ∀ l, H l = none → Q (.ref l) (upd H l (.lst ys))) (on1 listF) := FunOk.one fun H L O v d0 sh d Q o rx e k => by
  unfold listF at e
  split at e
  · cases e
    obtain ⟨a, vs, rfl, t, r⟩ := rx.lst_at
    exact ⟨a, vs, rfl, .inl t, fun p hp => k _ _ (upd_new hp) (o.newLst r hp)⟩
  · cases e
    obtain ⟨a, vs, rfl, t, r⟩ := rx.tup_at
    exact ⟨a, vs, rfl, .inr t, fun p hp => k _ _ (upd_new hp) (o.newLst r hp)⟩
  · cases e
def tupF : D → Option (Sh × D)
  | .lst xs => some (.fz, .tup xs)
  | .tup xs => some (.fz, .tup xs)
  | _ => none
theorem fun_tup : FunOk G (fun xs H Q => ∃ p ys, xs = [.ref p] ∧ ((SqL G.K H p ys ∧ ∀ l, H l = none → Q (.ref l) (upd H l (.tup ys))) ∨ (SqT G.K H p ys ∧ Q (.ref p) H))) (on1 tupF) := FunOk.one fun H L O v d0 sh d Q o rx e k => by
  unfold tupF at e
  split at e
  · cases e
    obtain ⟨a, vs, rfl, t, r⟩ := rx.lst_at
    exact ⟨a, vs, rfl, .inl ⟨t, fun p hp => k _ _ (upd_new hp) ⟨O, o.newTup r hp⟩⟩⟩
  · cases e
    cases rx with
    | fz rf =>
      obtain ⟨a, vs, rfl, t, r⟩ := RX.tup_at (.fz rf)
      exact ⟨a, vs, rfl, .inr ⟨t, k _ H (Same.refl H) ⟨O, o.cons rf⟩⟩⟩
  · cases e

/-! order -/
def ltB (a b : D) : Option Bool := match a, b with
  | .int i, .int j => some (decide (i < j))
  | .str x, .str y => some (decide (x < y))
  | .tup xs, .tup ys => match D.py (.tup xs), D.py (.tup ys) with
    | some p, some p' => if PySem.W.alike p p' = true ∧ p.depth ≤ 64 then some (PySem.W.dataLt p p') else none
    | _, _ => none
  | _, _ => none
def ltF (a b : D) : Option (Sh × D) := (ltB a b).map fun c => (.fz, .bl c)
def rLtD (K : PySem.W.Frag) : R2 := fun x y H Q => ∃ d e, Dp K H x (.tuple d) ∧ Dp K H y e ∧ PySem.W.alike (.tuple d) e = true ∧ (PyData.tuple d).depth ≤ 64 ∧ Q (.bl (PySem.W.dataLt (.tuple d) e)) H
theorem op_ltD {X : Cx} (hu : X.A.units + 64 < cLine) : OpR X (compareOp .Lt) (rLtD X.K) := by
  intro pins s σ H x y v u Q I rx ry h
  obtain ⟨d, e, hd, he, al, dp, q⟩ := h
  obtain ⟨as, r1⟩ := Dp.reads I _ x v hd rx
  obtain ⟨bs, r2⟩ := Dp.reads I e y u he ry
  have hm : min (PyData.tuple d).depth e.depth ≤ (PyData.tuple d).depth := Nat.min_le_left _ _
  exact PySem.W.rcLt_alike _ _ _ _ _ _ _ _ r1 r2 al (by intro z; cases z) (by omega) _ _ _ _ ⟨.bl _, H, I, rfl, q⟩
def rLt (K : PySem.W.Frag) : R2 := fun x y H Q => rI0 (fun i j => .bl (decide (i < j))) x y H Q ∨ (∃ i j, x = .str i ∧ y = .str j ∧ Q (.bl (decide (i.cps.toList < j.cps.toList))) H) ∨ rLtD K x y H Q
theorem op_ltA {X : Cx} (hu : X.A.units + 64 < cLine) : OpR X (compareOp .Lt) (rLt X.K) := OpR.or op_lt (OpR.or op_lt_str (op_ltD hu))
theorem fun_lt : Fun2 G (rLt G.K) ltF := Fun2.mk fun H L O v1 v2 d1 d2 sh d Q o h1 h2 e k => by
  unfold ltF ltB at e
  split at e
  · cases e
    cases h1.int_at; cases h2.int_at
    exact .inl ⟨_, _, rfl, rfl, k _ H (Same.refl H) ⟨O, o.cons (.bl _)⟩⟩
  · cases e
    cases h1.str_at; cases h2.str_at
    exact .inr (.inl ⟨_, _, rfl, rfl, k _ H (Same.refl H) ⟨O, o.cons (.bl _)⟩⟩)
  · split at e
    · rename_i p p' e1 e2
      split at e
      · rename_i c
        cases e
        have e3 := e1
        unfold D.py at e3
        split at e3
        · cases e3
          exact .inr (.inr ⟨_, _, h1.dp e1, h2.dp e2, c.1, c.2, k _ H (Same.refl H) ⟨O, o.cons (.bl _)⟩⟩)
        · cases e3
      · cases e
    · cases e
  · cases e
def gtF : D → D → Option (Sh × D)
  | .int i, .int j => some (.fz, .bl (decide (j < i)))
  | _, _ => none
def leF : D → D → Option (Sh × D)
  | .int i, .int j => some (.fz, .bl (decide (i ≤ j)))
  | _, _ => none
def geF : D → D → Option (Sh × D)
  | .int i, .int j => some (.fz, .bl (decide (j ≤ i)))
  | _, _ => none
theorem fun_gt : Fun2 G (rI0 fun i j => .bl (decide (j < i))) gtF := Fun2.mk fun H L O v1 v2 d1 d2 sh d Q o h1 h2 e k => by
  unfold gtF at e
  split at e
  · cases e
    cases h1.int_at; cases h2.int_at
    exact ⟨_, _, rfl, rfl, k _ H (Same.refl H) ⟨O, o.cons (.bl _)⟩⟩
  · cases e
theorem fun_le : Fun2 G (rI0 fun i j => .bl (decide (i ≤ j))) leF := Fun2.mk fun H L O v1 v2 d1 d2 sh d Q o h1 h2 e k => by
  unfold leF at e
  split at e
  · cases e
    cases h1.int_at; cases h2.int_at
    exact ⟨_, _, rfl, rfl, k _ H (Same.refl H) ⟨O, o.cons (.bl _)⟩⟩
  · cases e
theorem fun_ge : Fun2 G (rI0 fun i j => .bl (decide (j ≤ i))) geF := Fun2.mk fun H L O v1 v2 d1 d2 sh d Q o h1 h2 e k => by
  unfold geF at e
  split at e
  · cases e
    cases h1.int_at; cases h2.int_at
    exact ⟨_, _, rfl, rfl, k _ H (Same.refl H) ⟨O, o.cons (.bl _)⟩⟩
  · cases e

/-! isinstance -/
def tyN : D → Option String
  | .non => some "NoneType"
  | .bl _ => some "bool"
  | .int _ => some "int"
  | .str _ => some "str"
  | .tup _ => some "tuple"
  | .lst _ => some "list"
  | _ => none
def isiF : D → D → Option (Sh × D)
  | x, .ty u => match tyN x with
    | some t => (kitB t u).map fun b => (.fz, .bl b)
    | none => none
  | _, _ => none
theorem RX.ty_at {N : Addr → Prop} {H : Hp} {v : V} {n : String} (h : RX G N H v (.ty n)) : v = .ty n := by cases h with | fz h => cases h; rfl
theorem Rd.tyL {K : PySem.W.Frag} {H : Hp} {a : Addr} {vs : List V} (h : SqL K H a vs) : TyX K H (.ref a) (.type "list") := by
  rcases h with (h | ⟨o, h⟩) | ⟨o, its, n, h1, h2, _⟩
  · exact .base (.lst h)
  · exact .base (.frz h)
  · exact .kList h1 h2
theorem Rd.tyT {K : PySem.W.Frag} {H : Hp} {a : Addr} {vs : List V} (h : SqT K H a vs) : TyX K H (.ref a) (.type "tuple") := by
  rcases h with (h | ⟨o, h⟩) | ⟨o, its, n, h1, h2, _⟩
  · exact .base (.tup h)
  · exact .fTuple h
  · exact .kTuple h1 h2
theorem RX.tyx {N : Addr → Prop} {H : Hp} {v : V} {d : D} {t : String} (h : RX G N H v d) (e : tyN d = some t) : TyX G.K H v (.type t) := by
  unfold tyN at e
  split at e
  · cases e; cases h.non_at; exact .base .non
  · cases e; cases h.bl_at; exact .base (.bl _)
  · cases e; cases h.int_at; exact .base (.int _)
  · cases e; cases h.str_at; exact .base (.str _)
  · cases e
    obtain ⟨a, vs, rfl, s, _⟩ := h.tup_at
    exact Rd.tyT s
  · cases e
    obtain ⟨a, vs, rfl, s, _⟩ := h.lst_at
    exact Rd.tyL s
  · cases e
theorem fun_isi : FunOk G (rIsi G.K) (on2 isiF) := FunOk.two fun H L O v w d0 d1 sh d Q o rx ry e k => by
  unfold isiF at e
  split at e
  · rename_i u
    split at e
    · rename_i t et
      cases hb : kitB t u with
      | none => rw [hb] at e; cases e
      | some b =>
        rw [hb] at e
        cases e
        cases ry.ty_at
        exact ⟨v, .ty u, .type t, .type u, b, rfl, .ty u, rx.tyx et, kit_ty hb, k _ H (Same.refl H) ⟨O, o.cons (.bl _)⟩⟩
    · cases e
  · cases e
/-- a built-in type as a value -/
theorem pe_mtyv {X : Cx} {W : WX} {x : Str} {n : String} {pos : Pos} (hg : Gl X x) (hm : X.mg x = none) (hv : bootBuiltins x = some (.type n)) (hn : x ≠ "__name__") (hd : (x == ("__debug__" : Str)) = false) : PE X (.Name x pos) (TEm G W true (mCon (.ty n))) :=
  (pe_bltn (v := .ty n) hg hm hv rfl hn hd).imp fun _ _ _ h => con_ok (fun _ _ => .ty n) h

/-! sorted -/
def pyD (d : D) : PyData := d.py.getD .none
def leD (a b : D) : Bool := PySem.W.dataLe false pyD a b
def sortD (ds : List D) : List D := ds.mergeSort leD
def sortable (ps : List PyData) : Bool := (ps.all fun d => match d with
    | .tuple _ => true
    | _ => false) || ps.all fun d => match d with
    | .none => false
    | .tuple _ => false
    | _ => true
def sortOk (ds : List D) : Bool := match D.pys ds with
  | some ps => (ps.all fun d => ps.all fun d' => PySem.W.alike d d') && sortable ps && decide (ds.length ≤ sizeLine) && ps.all fun d => decide (d.depth ≤ 60)
  | none => false
def sortedF : D → Option (Sh × D)
  | .lst ds => if sortOk ds = true then some (.lst .fz, .lst (sortD ds)) else none
  | _ => none
def rSortD (K : PySem.W.Frag) : List V → Hp → VK → Prop := fun xs H Q => ∃ (a : Addr) (bs : List (V × D)), xs = [.ref a] ∧ SqL K H a (bs.map (·.1)) ∧ (∀ b ∈ bs, Dp K H b.1 (pyD b.2)) ∧ sortOk (bs.map (·.2)) = true ∧
  ∀ p, H p = none → Q (.ref p) (upd H p (.lst ((bs.mergeSort fun a b => leD a.2 b.2).map (·.1))))
theorem pys_map : ∀ {ds : List D} {ps}, D.pys ds = some ps → ds.map pyD = ps
  | [], ps, e => by simp [D.pys] at e; subst e; rfl
  | d :: ds, ps, e => by
    unfold D.pys at e
    split at e
    · rename_i y ys e1 e2
      cases e
      simp [pyD, e1, pys_map e2]
    · cases e
theorem sortable_of {ps : List PyData} (h : sortable ps = true) : SortableT ps := by
  unfold sortable at h
  rw [Bool.or_eq_true] at h
  rcases h with h | h
  · refine .inl fun d hd => ?_
    have := List.all_eq_true.mp h d hd
    split at this
    · exact ⟨_, rfl⟩
    · cases this
  · refine .inr fun d hd => ?_
    have := List.all_eq_true.mp h d hd
    refine ⟨fun e => ?_, fun xs e => ?_⟩
    · subst e; cases this
    · subst e; cases this
theorem each_of_vals {α : Type} {f : α → V} : ∀ {bs : List α} {us : List Value}, Vals (bs.map f) us → PySem.W.EachIs (fun u b => RelV (f b) u) us bs
  | [], _, .nil => .nil
  | _ :: _, _, .cons h r => .cons h (each_of_vals r)
theorem vals_of_each {α : Type} {f : α → V} : ∀ {bs : List α} {us : List Value}, PySem.W.EachIs (fun u b => RelV (f b) u) us bs → Vals (bs.map f) us
  | [], _, .nil => .nil
  | _ :: _, _, .cons h r => .cons h (vals_of_each r)
theorem each_imp_mem {α β : Type} {R R' : α → β → Prop} : ∀ {us : List α} {bs : List β}, PySem.W.EachIs R us bs → (∀ u b, b ∈ bs → R u b → R' u b) → PySem.W.EachIs R' us bs
  | _, _, .nil, _ => .nil
  | _, _, .cons h r, i => .cons (i _ _ (by simp) h) (each_imp_mem r fun u b hb => i u b (by simp [hb]))
theorem call_sortD {X : Cx} (hu : X.A.units + 64 < cLine) : CallR X (.builtin "sorted") (rSortD X.K) := by
  intro pins s σ H vs us Q I r h
  obtain ⟨a, bs, rfl, hs, hd, ok, q⟩ := h
  obtain ⟨its, rv, hl, _⟩ := I.list hs
  rw [Vals.ref1 r]
  unfold sortOk at ok
  split at ok
  · rename_i ps eps
    rw [Bool.and_eq_true, Bool.and_eq_true, Bool.and_eq_true] at ok
    obtain ⟨⟨⟨o1, o2⟩, o3⟩, o4⟩ := ok
    have em : bs.map (fun b => pyD b.2) = ps := by
      have := pys_map eps
      rw [List.map_map] at this
      exact this
    have hal : PySem.W.AllAlike (bs.map fun b => pyD b.2) := by
      rw [em]
      intro d hd d' hd'
      exact List.all_eq_true.mp (List.all_eq_true.mp o1 d hd) d' hd'
    have hlen : bs.length ≤ sizeLine := by simpa using o3
    have ee : PySem.W.EachIs (fun u (b : V × D) => RelV b.1 u) its bs := each_of_vals rv
    refine sorted_dataT (enc := fun (b : V × D) => pyD b.2) (R := fun u (b : V × D) => RelV b.1 u) hl.isList ee (each_imp_mem ee fun u b hb ru => ?_) hal (by rw [em]; exact sortable_of o2) hlen (fun b hb => ?_) fun out ho he => ?_
    · exact Dp.reads I _ _ _ (hd b hb) ru
    · have : pyD b.2 ∈ ps := by rw [← em]; exact List.mem_map.mpr ⟨b, hb, rfl⟩
      have := of_decide_eq_true (List.all_eq_true.mp o4 _ this)
      omega
    · obtain ⟨ep, he'⟩ := PyProof.Rows.sortedAll_at s.heap its out.toArray
      have he2 : PySem.W.EachIs (fun u (b : V × D) => RelV b.1 u) out (bs.mergeSort fun a b => leD a.2 b.2) := he
      have hv := vals_of_each he2
      refine ⟨.ref _, upd H (s.heap.objs.size + 1) (.lst ((bs.mergeSort fun a b => leD a.2 b.2).map (·.1))), I.laid (t' := s.toks) (fun _ _ => PyProof.Rows.sortedAll_old) (Nat.le_succ _) ⟨?_, out, ep, hv, he'⟩, rfl, q _ (I.hok.fresh (Nat.le_succ _))⟩
      rw [List.length_map, List.length_mergeSort]
      exact hlen
  · cases ok
theorem zip_map_fst {α β : Type} : ∀ {l : List α} {r : List β}, l.length = r.length → (l.zip r).map (·.1) = l
  | [], [], _ => rfl
  | [], _ :: _, h => by simp at h
  | _ :: _, [], h => by simp at h
  | _ :: l, _ :: r, h => by simp [zip_map_fst (l := l) (r := r) (by simpa using h)]
theorem zip_map_snd {α β : Type} : ∀ {l : List α} {r : List β}, l.length = r.length → (l.zip r).map (·.2) = r
  | [], [], _ => rfl
  | [], _ :: _, h => by simp at h
  | _ :: _, [], h => by simp at h
  | _ :: l, _ :: r, h => by simp [zip_map_snd (l := l) (r := r) (by simpa using h)]
theorem RFs.of_zip {N : Addr → Prop} {H : Hp} : ∀ {bs : List (V × D)}, (∀ b ∈ bs, RF G N H b.1 b.2) → RFs G N H (bs.map (·.1)) (bs.map (·.2))
  | [], _ => .nil
  | b :: bs, h => .cons (h b (by simp)) (RFs.of_zip fun b hb => h b (by simp [hb]))
theorem sortOk_py {ds : List D} (h : sortOk ds = true) : ∀ d ∈ ds, d.py = some (pyD d) := by
  unfold sortOk at h
  split at h
  · rename_i ps e
    clear h
    induction ds generalizing ps with
    | nil => intro d hd; simp at hd
    | cons x xs ih =>
      unfold D.pys at e
      split at e
      · rename_i y ys e1 e2
        intro d hd
        rcases List.mem_cons.mp hd with rfl | hd
        · rw [pyD, e1]; rfl
        · exact ih ys e2 d hd
      · cases e
  · cases h
theorem fun_sorted : FunOk G (rSortD G.K) (on1 sortedF) := FunOk.one fun H L O v d0 sh d Q o rx e k => by
  unfold sortedF at e
  split at e
  · rename_i ds
    split at e
    · rename_i ok
      cases e
      obtain ⟨a, vs, rfl, t, r⟩ := rx.lst_at
      have hl := r.length
      refine ⟨a, vs.zip ds, rfl, by rw [zip_map_fst hl]; exact t, fun b hb => ?_, by rw [zip_map_snd hl]; exact ok, fun p hp => ?_⟩
      · have rb := r.zip_mem b hb
        exact rb.dp (sortOk_py ok b.2 (by rw [← zip_map_snd hl]; exact List.mem_map.mpr ⟨b, hb, rfl⟩))
      · have rs : RFs G (fun a => a ∉ O) H (((vs.zip ds).mergeSort fun a b => leD a.2 b.2).map (·.1)) (((vs.zip ds).mergeSort fun a b => leD a.2 b.2).map (·.2)) := RFs.of_zip fun b hb => r.zip_mem b ((List.mergeSort_perm _ _).mem_iff.mp hb)
        have em : ((vs.zip ds).mergeSort fun a b => leD a.2 b.2).map (·.2) = sortD ds := by
          unfold sortD
          rw [List.map_mergeSort (s := leD) (by intros; rfl), zip_map_snd hl]
        rw [em] at rs
        exact k _ _ (upd_new hp) (o.newLst rs hp)
    · cases e
  · cases e
end
end
end Dt

/-! Methods of built-in types. -/
namespace Dt
noncomputable section
open PySem PySem.Spec PyProof.Rows L2

/-- the receiver: of the type T -/
def tyM : D → Option String
  | .str _ => some "str"
  | .lst _ => some "list"
  | _ => none
def shOk : Sh → Bool
  | .no => false
  | .adr => false
  | .tab => false
  | _ => true
def mRecv (T : String) (m : M Rv) : M Rv := fun S => match m S with
  | none => none
  | some (.error e, S1) => some (.error e, S1)
  | some (.ok rv, S1) => match rv.see S1 with
    | some (sh, d) => if shOk sh = true ∧ tyM d = some T then some (.ok rv, S1) else none
    | none => none
/-- xs.append(x) -/
def mAppend (as : M (List Rv)) : M Rv := fun S => match as S with
  | none => none
  | some (.error e, S1) => some (.error e, S1)
  | some (.ok [.ref i [], .tmp sh d], S1) => match S1[i]? with
    | some (some (.lst c, .lst ds)) => if fits c sh = true ∧ ds.length < sizeLine then some (.ok (.tmp .fz .non), S1.set i (some (.lst c, .lst (ds ++ [d])))) else none
    | _ => none
  | _ => none
section
variable {X : Cx} {G : Gm} {W : WX} {B : Bw} {q q0 q1 q2 : Bool}
theorem see_rt {S : List Slot} {σ : Sg} {H : Hp} {T : List Cl} {O : List Addr} (ag : Ag S σ) {r : Rv} {v : V} {sh d} (o : OwnO G H (r.cls v ++ (cl S σ ++ T) ++ tabC G) O) (ok : r.ok G σ H v) (e : r.see S = some (sh, d)) : ∃ f, RT G (fun a => a ∉ O) H sh v d f := by
  cases r with
  | tmp sh' d' =>
    cases e
    exact o.1.mem (t := ⟨sh, v, d⟩) (List.mem_append_left _ (List.mem_append_left _ (by simp [Rv.cls])))
  | ref i p =>
    obtain ⟨v0, ev, pv⟩ := ok
    have e : (match S[i]? with | some (some sd) => pathD sd p | _ => none) = some (sh, d) := e
    cases hS : S[i]? with
    | none => rw [hS] at e; cases e
    | some y => cases y with
      | none => rw [hS] at e; cases e
      | some sd =>
        rw [hS] at e
        obtain ⟨sh0, d0⟩ := sd
        have hm : (⟨sh0, v0, d0⟩ : Cl) ∈ cl S σ := (cl_get hS ev).mem_iff.mpr (by simp)
        obtain ⟨f, h⟩ := o.1.mem (t := ⟨sh0, v0, d0⟩) (List.mem_append_left _ (List.mem_append_right _ (List.mem_append_left _ hm)))
        exact h.path e pv
theorem RT.tyv {N : Addr → Prop} {H : Hp} {sh v d fp T} (h : RT G N H sh v d fp) (w : shOk sh = true) (e : tyM d = some T) : tyV G.K T v H := by
  unfold tyM at e
  split at e
  · cases e
    cases h with
    | no => cases w
    | adr => cases w
    | tab => cases w
    | fz h => cases h; rfl
  · cases e
    cases h with
    | no => cases w
    | adr => cases w
    | tab => cases w
    | lst h r e => exact .inl ⟨rfl, _, .inl (.inl h)⟩
    | fz h =>
      obtain ⟨a, vs, rfl, s, _⟩ := RX.lst_at (.fz h)
      exact .inl ⟨rfl, _, s⟩
  · cases e
theorem tem_recv {T : String} {m : M Rv} {σ : Sg} {H : Hp} {Q : VK} (h : TEm G W q (mRecv T m) σ H Q) : TEm G W q m σ H fun x H1 => tyV G.K T x H1 ∧ Q x H1 := by
  obtain ⟨S, T', r, S', ag, ow, e, k⟩ := h
  unfold mRecv at e
  split at e
  · cases e
  · rename_i e1
    cases e
    exact ⟨S, T', _, _, ag, ow, e1, k⟩
  · rename_i rv S1 e1
    split at e
    · rename_i sh d e2
      split at e
      · rename_i c
        cases e
        refine ⟨S, T', _, _, ag, ow, e1, fun v H' a1 a2 a3 a4 => ⟨?_, k v H' a1 a2 a3 a4⟩⟩
        obtain ⟨O, o⟩ := a2
        obtain ⟨f, rt⟩ := see_rt a1 o a3 e2
        exact rt.tyv c.1 c.2
      · cases e
    · cases e
/-- what a method's rule asks, from receiver and arguments in a row -/
theorem tem_meth {T : String} {m : M Rv} {ms : List (Bool × M Rv)} {σ : Sg} {H : Hp} {r : V → List V → Hp → VK → Prop} {Q : VK} (h : TAm G W (((q0, mRecv T m) :: ms).all (·.1)) (mArgs ((q0, mRecv T m) :: ms)) σ H fun vs H2 => ∃ x xs, vs = x :: xs ∧ r x xs H2 Q) :
    tBM G.K T r (TEm G W q0 m) (TAm G W (ms.all (·.1)) (mArgs ms)) σ H Q := by
  have h1 := tem_recv (tam_cons h)
  refine tem_mono h1 fun x H1 ⟨ty, h2⟩ => ⟨ty, ?_⟩
  refine tam_mono h2 fun xs H2 ⟨x', xs', e, h3⟩ => ?_
  cases e
  exact h3
theorem tem_meth0 {T : String} {m : M Rv} {σ : Sg} {H : Hp} {r : V → List V → Hp → VK → Prop} {Q : VK} (h : TAm G W (([(q0, mRecv T m)] : List (Bool × M Rv)).all (·.1)) (mArgs [(q0, mRecv T m)]) σ H fun vs H2 => ∃ x xs, vs = x :: xs ∧ r x xs H2 Q) :
    tBM0 G.K T r (TEm G W q0 m) σ H Q := by
  have h1 := tem_recv (tam_cons h)
  refine tem_mono h1 fun x H1 ⟨ty, h2⟩ => ⟨ty, ?_⟩
  obtain ⟨x', xs', e, h3⟩ := tam_nil h2
  cases e
  exact h3
def rRecv (r : V → List V → Hp → VK → Prop) : List V → Hp → VK → Prop := fun vs H Q => ∃ x xs, vs = x :: xs ∧ r x xs H Q
theorem pe_mmeth {T id : String} {name : Str} {o e : Expr} {es : List Expr} {apos cpos : Pos} {r : V → List V → Hp → VK → Prop} {f : List D → Option (Sh × D)} {m : M Rv} {ms : List (Bool × M Rv)} (hK : X.K = G.K) (pa : PlainAttrs T) (slot : PySem.Slot T name id) (hty : typeOf (.builtin id) = pure (.type "method_descriptor")) (hm : MtR X id r) (F : FunOk G (rRecv r) f)
    (ho : PE X o (TEm G W q0 m)) (ha : PA X (e :: es) (TAm G W (ms.all (·.1)) (mArgs ms))) (hbase : attributeBase o name X.env (eval o X.env) = eval o X.env)
    (hfew : ((backTo cpos (starEach (e :: es) X.env)).all (fun x => !x.1) && (backToKw cpos (keywordEach [] X.env)).all (fun x => x.1.isSome)
      && decide ((e :: es).length + ([] : List Keyword).length + (if ([] : List Keyword).isEmpty then 0 else 1) < 30)) = true)
    (hline : (apos.endLine == cpos.line) = true) (hs : starEach (e :: es) X.env = (false, eval e X.env) :: starEach es X.env) (hplain : (backTo cpos (starEach es X.env)).any (·.1) = false) :
    PE X (.Call (.Attribute o name apos) (e :: es) [] cpos) (TEm G W (((q0, mRecv T m) :: ms).all (·.1)) (mFun f (mArgs ((q0, mRecv T m) :: ms)))) := by
  refine (pe_bm pa slot hty hm ho ha hbase hfew hline hs hplain).imp fun σ H Q h => ?_
  rw [hK]
  exact tem_meth (tem_fun F h)
theorem pe_mmeth0 {T id : String} {name : Str} {o : Expr} {apos cpos : Pos} {r : V → List V → Hp → VK → Prop} {f : List D → Option (Sh × D)} {m : M Rv} (hK : X.K = G.K) (pa : PlainAttrs T) (slot : PySem.Slot T name id) (hty : typeOf (.builtin id) = pure (.type "method_descriptor")) (hm : MtR X id r) (F : FunOk G (rRecv r) f)
    (ho : PE X o (TEm G W q0 m)) (hbase : attributeBase o name X.env (eval o X.env) = eval o X.env) (hline : (apos.endLine == cpos.line) = true) :
    PE X (.Call (.Attribute o name apos) [] [] cpos) (TEm G W (([(q0, mRecv T m)] : List (Bool × M Rv)).all (·.1)) (mFun f (mArgs [(q0, mRecv T m)]))) := by
  refine (pe_bm0 pa slot hty hm ho hbase hline).imp fun σ H Q h => ?_
  rw [hK]
  exact tem_meth0 (tem_fun F h)
theorem tem_append {as : M (List Rv)} {σ : Sg} {H : Hp} {Q : VK} (h : TEm G W false (mAppend as) σ H Q) : TAm G W q as σ H fun vs H2 => ∃ x xs, vs = x :: xs ∧ rAppend x xs H2 Q := by
  obtain ⟨S, T, r, S', ag, ow, e, k⟩ := h
  unfold mAppend at e
  split at e
  · cases e
  · rename_i e1
    cases e
    exact ⟨S, T, _, _, ag, ow, e1, k⟩
  · rename_i i sh d S1 e1
    split at e
    · rename_i c ds hS
      split at e
      · rename_i hc
        cases e
        refine ⟨S, T, _, _, ag, ow, e1, fun vs H1 a1 a2 a3 _ => ?_⟩
        cases vs with
        | nil => exact a3.elim
        | cons v vs => cases vs with
          | nil => exact a3.2.elim
          | cons w vs => cases vs with
            | cons => exact a3.2.2.elim
            | nil =>
              obtain ⟨v0, ev, pv⟩ := a3.1
              have pv : v = v0 := pv
              subst pv
              have o1 : Own G H1 (⟨sh, w, d⟩ :: (cl S1 σ ++ T)) := a2
              have p := (cl_get hS ev).append_right T
              have o2 : Own G H1 (⟨.lst c, v, .lst ds⟩ :: ⟨c, w, d⟩ :: (cl (S1.set i none) σ ++ T)) := ((o1.fit hc.1).perm (p.cons _)).perm (List.Perm.swap _ _ _)
              have : ∃ a, v = .ref a := by
                obtain ⟨O, o⟩ := o2
                obtain ⟨f, rt⟩ := o.1.mem (t := ⟨.lst c, v, .lst ds⟩) (by simp)
                cases rt
                exact ⟨_, rfl⟩
              obtain ⟨a, rfl⟩ := this
              obtain ⟨vs, ha, hl, o3⟩ := o2.append
              refine ⟨.ref a, [w], rfl, a, vs, w, rfl, rfl, ha, by rw [hl]; exact hc.2, ?_⟩
              refine k .non _ (a1.set ev) (Own.nonC (o3.perm ?_)) trivial fun hq => by cases hq
              exact ((cl_set a1.length ev).append_right T).symm
      · cases e
    · cases e
  · cases e
theorem mt_appendR : MtR X "list.append" rAppend := mt_append
theorem pe_mappend {o e : Expr} {apos cpos : Pos} {m : M Rv} {ms : List (Bool × M Rv)} (hK : X.K = G.K) (ho : PE X o (TEm G W q0 m)) (ha : PA X [e] (TAm G W (ms.all (·.1)) (mArgs ms))) (hbase : attributeBase o "append" X.env (eval o X.env) = eval o X.env)
    (hfew : ((backTo cpos (starEach [e] X.env)).all (fun x => !x.1) && (backToKw cpos (keywordEach [] X.env)).all (fun x => x.1.isSome)
      && decide (([e] : List Expr).length + ([] : List Keyword).length + (if ([] : List Keyword).isEmpty then 0 else 1) < 30)) = true)
    (hline : (apos.endLine == cpos.line) = true) (hs : starEach [e] X.env = (false, eval e X.env) :: starEach [] X.env) (hplain : (backTo cpos (starEach [] X.env)).any (·.1) = false) :
    PE X (.Call (.Attribute o "append" apos) [e] [] cpos) (TEm G W false (mAppend (mArgs ((q0, mRecv "list" m) :: ms)))) := by
  refine (pe_bm PySem.F.plainAttrs_list PySem.F.slot_list_append PySem.F.type_list_append mt_appendR ho ha hbase hfew hline hs hplain).imp fun σ H Q h => ?_
  rw [hK]
  exact tem_meth (tem_append h)
/-- the first place of an equal one -/
def findB (y : D) : List D → Option Nat
  | [] => none
  | x :: xs => match eqB x y with
    | some true => some 0
    | some false => (findB y xs).map (· + 1)
    | none => none
def shp2 (x y : D) : Bool := match x.py, y.py with | some p, some p' => SeqAt.shaped p && SeqAt.shaped p' | _, _ => false
def indexF : D → D → Option (Sh × D)
  | .lst xs, y => if shp2 (.lst xs) y = true then (findB y xs).map fun j => (.fz, .int (j : Nat)) else none
  | _, _ => none
theorem findB_at {y : D} {p' : PyData} (hy : y.py = some p') : ∀ {xs : List D} {j ps}, findB y xs = some j → D.pys xs = some ps → ∃ z, ps[j]? = some z ∧ PyData.eqv z p' = true ∧ ∀ (m : Nat) z', m < j → ps[m]? = some z' → PyData.eqv z' p' = false
  | [], j, ps, h, _ => by cases h
  | x :: xs, j, ps, h, hp => by
    unfold D.pys at hp
    split at hp
    · rename_i z zs e1 e2
      cases hp
      unfold findB at h
      have hb : ∀ b, eqB x y = some b → PyData.eqv z p' = b := fun b hb => by
        unfold eqB at hb
        rw [e1, hy] at hb
        simp only at hb
        split at hb
        · cases hb; rfl
        · cases hb
      split at h
      · rename_i e3
        cases h
        exact ⟨z, rfl, hb _ e3, fun m z' hm => by omega⟩
      · rename_i e3
        cases e4 : findB y xs with
        | none => rw [e4] at h; cases h
        | some j' =>
          rw [e4] at h
          cases h
          obtain ⟨z2, h1, h2, h3⟩ := findB_at hy e4 e2
          refine ⟨z2, by simpa using h1, h2, fun m z' hm hz => ?_⟩
          cases m with
          | zero => simp at hz; subst hz; exact hb _ e3
          | succ m => exact h3 m z' (Nat.lt_of_succ_lt_succ hm) (by simpa using hz)
      · cases h
    · cases hp
theorem fun_index : FunOk G (rRecv (rIndexD G.K)) (on2 indexF) := FunOk.two fun H L O v w d0 d1 sh d Q o rx ry e k => by
  unfold indexF at e
  split at e
  · rename_i xs
    split at e
    · rename_i c
      cases ej : findB d1 xs with
      | none => rw [ej] at e; cases e
      | some j =>
        rw [ej] at e
        cases e
        unfold shp2 at c
        split at c
        · rename_i p p' e1 e2
          rw [Bool.and_eq_true] at c
          have e3 := e1
          unfold D.py at e3
          split at e3
          · rename_i ps eps
            cases e3
            obtain ⟨z, h1, h2, h3⟩ := findB_at e2 ej eps
            obtain ⟨a, vs, rfl, t, r⟩ := rx.lst_at
            exact ⟨.ref a, [w], rfl, a, w, p', ps, j, z, rfl, rfl, rx.dp e1, ry.dp e2, c.1, c.2, h1, h2, h3, k _ H (Same.refl H) ⟨O, o.cons (.int _)⟩⟩
          · cases e3
        · cases c
    · cases e
  · cases e
end
end
end Dt

/-! The written part's own tuples; the ends. -/
namespace Dt
noncomputable section
open PySem PySem.Spec PyProof.Rows L2
section
variable {X : Cx} {G : Gm} {W : WX} {B : Bw} {q q0 q1 q2 : Bool}
/-- a global name of the text whose value is known -/
theorem pe_mglob {x : Str} {v : V} {u : Value} {d : D} {pos : Pos} (hg : Gl X x) (hm : X.mg x = some u) (r : RelV v u) (hc : ∀ (H : Hp) (N : Addr → Prop), RF G N H v d) (hd : (x == ("__debug__" : Str)) = false) : PE X (.Name x pos) (TEm G W true (mCon d)) :=
  (pe_glob hg hm r hd).imp fun _ _ _ h => con_ok hc h
theorem takes_fn {P : Program} {w : World} {K : PySem.W.Frag} {mg : Str → Option Value} {base : Heap} {N : List Str} {qual : Str} {scope : Scope} {f : Addr} {cd : Value} {A : Around} {outer : List Env} {s : Shared} {H : Hp} {E : XK} :
    L2.Takes (cxOf (L2.CX P w) P w K mg base N qual scope f cd A outer s H E) (fun cv od _ H' => E cv od H') := L2.takes_of rfl rfl rfl rfl
/-- the first place of a text -/
def findS (z : List Nat) : List (List Nat) → Option Nat
  | [] => none
  | y :: ys => if y = z then some 0 else (findS z ys).map (· + 1)
def conIndexF (ys : List (List Nat)) : D → Option (Sh × D)
  | .str z => (findS z ys).map fun j => (.fz, .int (j : Nat))
  | _ => none
theorem findS_at {z : List Nat} : ∀ {ys : List (List Nat)} {j}, findS z ys = some j → ys[j]? = some z ∧ ∀ m, m < j → ys[m]? ≠ some z
  | [], j, h => by cases h
  | y :: ys, j, h => by
    unfold findS at h
    split at h
    · rename_i e; cases h; exact ⟨by rw [e]; rfl, fun m hm => by omega⟩
    · rename_i e
      cases e4 : findS z ys with
      | none => rw [e4] at h; cases h
      | some j' =>
        rw [e4] at h; cases h
        obtain ⟨h1, h2⟩ := findS_at e4
        refine ⟨by simpa using h1, fun m hm => ?_⟩
        cases m with
        | zero => intro e'; exact e (by simpa using e')
        | succ m => intro e'; exact h2 m (Nat.lt_of_succ_lt_succ hm) (by simpa using e')
theorem fun_conIndex {a : Addr} {ys : List Str} (kt : KTup G.K a (ys.map V.str)) : FunOk G (fun xs H Q => ∃ p, ∃ zs : List Str, ∃ z j, V.ref a = .ref p ∧ xs = [.str z] ∧ SqT G.K H p (zs.map V.str) ∧ zs[j]? = some z ∧ (∀ m, m < j → zs[m]? ≠ some z) ∧ Q (.int (j : Nat)) H) (on1 (conIndexF (ys.map fun s => s.cps.toList))) := FunOk.one fun H L O v d0 sh d Q o rx e k => by
  unfold conIndexF at e
  split at e
  · rename_i z
    cases ej : findS z (ys.map fun s => s.cps.toList) with
    | none => rw [ej] at e; cases e
    | some j =>
      rw [ej] at e; cases e
      obtain ⟨h1, h2⟩ := findS_at ej
      have hi : ∀ {y : Str}, y.cps.toList = z ↔ y = ⟨z.toArray⟩ := fun {y} => ⟨fun e => by cases y; subst e; simp, fun e => by rw [e]⟩
      refine ⟨a, ys, ⟨z.toArray⟩, j, rfl, by rw [rx.str_at], .inr kt, ?_, fun m hm e => ?_, k _ H (Same.refl H) ⟨O, o.cons (.int _)⟩⟩
      · rw [List.getElem?_map] at h1
        cases hj : ys[j]? with
        | none => rw [hj] at h1; cases h1
        | some y => rw [hj] at h1; simp only [Option.map_some, Option.some.injEq] at h1; rw [hi.mp h1]
      · refine h2 m hm ?_
        rw [List.getElem?_map, e]
        rfl
  · cases e
theorem pe_mconIndex {x : Str} {a : Addr} {ys : List Str} {p0 apos cpos : Pos} {e : Expr} {m : M Rv} (hK : X.K = G.K) (hg : Gl X x) (hm : X.mg x = some (.ref a)) (kt : KTup G.K a (ys.map V.str)) (kd : ∃ o, G.K.lookup a = some o ∧ o.cls = .type "tuple" ∧ o.dict = none) (hd : (x == ("__debug__" : Str)) = false) (ha : PE X e (TEm G W q m))
    (hbase : attributeBase (.Name x p0) "index" X.env (eval (.Name x p0) X.env) = eval (.Name x p0) X.env)
    (hfew : ((backTo cpos (starEach [e] X.env)).all (fun x => !x.1) && (backToKw cpos (keywordEach [] X.env)).all (fun x => x.1.isSome)
      && decide (([e] : List Expr).length + ([] : List Keyword).length + (if ([] : List Keyword).isEmpty then 0 else 1) < 30)) = true)
    (hline : (apos.endLine == cpos.line) = true) (hs : starEach [e] X.env = (false, eval e X.env) :: starEach [] X.env) (hplain : (backTo cpos (starEach [] X.env)).any (·.1) = false) :
    PE X (.Call (.Attribute (.Name x p0) "index" apos) [e] [] cpos) (TEm G W (([(q, m)] : List (Bool × M Rv)).all (·.1)) (mFun (on1 (conIndexF (ys.map fun s => s.cps.toList))) (mArgs [(q, m)]))) := by
  refine (pe_bm PySem.F.plainAttrs_tuple PySem.F.slot_tuple_index PySem.F.type_tuple_index mt_tup_index (pe_glob (v := .ref a) hg hm rfl hd) (pa_mcons ha pa_mnil hs) hbase hfew hline hs hplain).imp fun σ H Q h => ?_
  obtain ⟨o, h1, h2, h3⟩ := kd
  refine ⟨.inr (.inl ⟨rfl, o, by rw [hK]; exact h1, h2, h3⟩), ?_⟩
  rw [hK]
  exact tem_fun (fun_conIndex kt) h
theorem takes_0 {X : Cx} : L2.Takes X (fun _ _ _ _ => False) := fun _ _ ⟨_, _, _, _, _, _, _, _, _, _, _, _, _, _, _, _, w⟩ => w.elim
end
/-- a def of p parameters, n names -/
def fnP (p n : Nat) (B : Bw) (b : MS) : Fs := fun as => if as.length = p then fnS n B b as else none
theorem fnP_len {p n : Nat} {B : Bw} {b : MS} : (fnP p n B b).len := fun as r xs h => by
  unfold fnP at h
  split at h
  · exact fnS_len _ _ _ h
  · cases h
theorem fn_p {P : Program} {w : World} {K : PySem.W.Frag} {mg : Str → Option Value} {base : Heap} {G : Gm} {x qual : Str} {st : Stmt} {f : Addr} {fd : FuncData} {N ps : List Str} {k p n : Nat} {B : Bw} {b : MS} (F : Fun K x qual st f fd) (S : FnScope N ps (defScope st)) (hp : ps.length = p) (hn : N.length = n)
    (hbody : ∀ (cdv : Value) (A : Around) (outer : List Env) (s : Shared) (H : Hp) (E : XK), fd.code = cdv → Room k (A.deeper (envOfC qual (defScope st) s.heap.objs.size f cdv)) →
      PSs (cxOf (L2.CX P w) P w K mg base N qual (defScope st) f cdv A outer s H E) (defBody st) (TSm G (fun cv od _ H' => E cv od H') B b)) :
    FnOk P w K mg base (L2.CX P w) (k + 1) f fd ps (spF G (fnP p n B b)) := by
  refine (fn_m F S hn hbody).imp fun vs H Q E h => ?_
  obtain ⟨as, T, r, xs, hl, o, e, hx, q⟩ := h
  unfold fnP at e
  split at e
  · rename_i c
    exact ⟨by rw [hp, ← hl, c], as, T, r, xs, hl, o, e, hx, q⟩
  · cases e
theorem tabs_rts {G : Gm} {N : Addr → Prop} {H : Hp} : ∀ {l : List Addr}, (∀ P ∈ l, GxR.TabG H P) → RTs G N H (l.map fun P => ⟨.tab, .ref P, .non⟩) l
  | [], _ => .nil
  | P :: l, h => .cons (t := ⟨.tab, .ref P, .non⟩) (f1 := [P]) (.tab (.inl ⟨rfl, h P (by simp)⟩)) (tabs_rts fun Q hQ => h Q (by simp [hQ]))
/-- the script as the law's argument -/
theorem sp_script {G : Gm} {fs : Fs} {H : Hp} {a : Addr} {ns : List Int} (hS : SqL G.K H a (ns.map V.int)) (hT : ∀ P ∈ G.tabs, GxR.TabG H P) (hN : G.tabs.Nodup) (h : ∃ xs, fs [(.fz, .lst (ns.map D.int))] = some (.ok (.fz, .bl true), xs)) (hf : fs.len) :
    spF G fs [.ref a] H (fun v _ => v = .bl true) fun _ _ _ => False := by
  obtain ⟨xs, h⟩ := h
  have hr : ∀ ns : List Int, RFs G (fun b => b ∉ G.tabs) H (ns.map V.int) (ns.map D.int) := fun ns => by
    induction ns with
    | nil => exact .nil
    | cons i ns ih => exact .cons (.int i) ih
  refine ⟨[(.fz, .lst (ns.map D.int))], [], .ok (.fz, .bl true), xs, rfl, ⟨[] ++ G.tabs, .cons (t := ⟨.fz, .ref a, .lst (ns.map D.int)⟩) (f1 := []) (.fz (.lst ?_ (hr ns))) (tabs_rts hT), hN⟩, h, hf _ _ _ h, fun v H' o => ?_⟩
  · rcases hS with r | r
    · refine .inl ⟨r, fun hm => ?_⟩
      obtain ⟨ps, e, _⟩ := hT a hm
      rcases r with r | ⟨o, r⟩
      · rw [r] at e; cases e
      · rw [r] at e; cases e
    · exact .inr r
  · obtain ⟨O, o⟩ := o
    cases o.head.1
    rfl
end
end Dt

/-! The rules in short, as the printer writes them. -/
namespace Dt
noncomputable section
open PySem PySem.Spec PyProof.Rows L2
section
variable {X : Cx} {G : Gm} {W : WX} {B : Bw} {q q0 q1 q2 : Bool} {a b e : Expr} {ma mb m : M Rv} {pos p : Pos}

theorem ir (i : Nat) {x : Str} (hN : X.N[i]? = some x := by rfl) (hv : Vis X.env.scope x := by first | exact Or.inl rfl | exact Or.inr (Or.inl rfl) | exact Or.inr (Or.inr rfl)) (hd : (x == ("__debug__" : Str)) = false := by decide) (hcd : (x == ("__classdict__" : Str)) = false := by decide) : PE X (.Name x pos) (TEm G W true (mRef i)) := pe_mref hN hv hd hcd
theorem iz (i : Nat) {x : Str} (hN : X.N[i]? = some x := by rfl) (hv : Vis X.env.scope x := by first | exact Or.inl rfl | exact Or.inr (Or.inl rfl) | exact Or.inr (Or.inr rfl)) (hd : (x == ("__debug__" : Str)) = false := by decide) (hcd : (x == ("__classdict__" : Str)) = false := by decide) : PE X (.Name x pos) (TEm G W true (mFrz i)) := pe_mfrz hN hv hd hcd
theorem iv (i : Nat) {x : Str} (hN : X.N[i]? = some x := by rfl) (hv : Vis X.env.scope x := by first | exact Or.inl rfl | exact Or.inr (Or.inl rfl) | exact Or.inr (Or.inr rfl)) (hd : (x == ("__debug__" : Str)) = false := by decide) (hcd : (x == ("__classdict__" : Str)) = false := by decide) : PE X (.Name x pos) (TEm G W true (mVar i)) := pe_mvar hN hv hd hcd
theorem im (i : Nat) {x : Str} (hN : X.N[i]? = some x := by rfl) (hv : Vis X.env.scope x := by first | exact Or.inl rfl | exact Or.inr (Or.inl rfl) | exact Or.inr (Or.inr rfl)) (hd : (x == ("__debug__" : Str)) = false := by decide) (hcd : (x == ("__classdict__" : Str)) = false := by decide) : PE X (.Name x pos) (TEm G W true (mMove i)) := pe_mmove hN hv hd hcd
theorem o_add (hK : X.K = G.K) (ha : PE X a (TEm G W q1 ma)) (hb : PE X b (TEm G W q2 mb)) : PE X (.BinOp a .Add b pos) (TEm G W (q1 && q2) (mOp2 addF q1 ma q2 mb)) := pe_mop (op_addD) (hK ▸ fun_add) ha hb
theorem o_sub (ha : PE X a (TEm G W q1 ma)) (hb : PE X b (TEm G W q2 mb)) : PE X (.BinOp a .Sub b pos) (TEm G W (q1 && q2) (mOp2 subF q1 ma q2 mb)) := pe_mop op_sub fun_sub ha hb
theorem o_mul (ha : PE X a (TEm G W q1 ma)) (hb : PE X b (TEm G W q2 mb)) : PE X (.BinOp a .Mult b pos) (TEm G W (q1 && q2) (mOp2 mulF q1 ma q2 mb)) := pe_mop op_mul fun_mul ha hb
theorem o_div (ha : PE X a (TEm G W q1 ma)) (hb : PE X b (TEm G W q2 mb)) : PE X (.BinOp a .FloorDiv b pos) (TEm G W (q1 && q2) (mOp2 divF q1 ma q2 mb)) := pe_mop op_fdiv fun_div ha hb
theorem o_mod (ha : PE X a (TEm G W q1 ma)) (hb : PE X b (TEm G W q2 mb)) : PE X (.BinOp a .Mod b pos) (TEm G W (q1 && q2) (mOp2 modF q1 ma q2 mb)) := pe_mop op_mod fun_mod ha hb
theorem o_pow (ha : PE X a (TEm G W q1 ma)) (hb : PE X b (TEm G W q2 mb)) : PE X (.BinOp a .Pow b pos) (TEm G W (q1 && q2) (mOp2 powF q1 ma q2 mb)) := pe_mop op_pow fun_pow ha hb
theorem c_eq (hK : X.K = G.K) (hu : X.A.units + 64 < cLine) (ha : PE X a (TEm G W q1 ma)) (hb : PE X b (TEm G W q2 mb)) (hm : behindInMarks (.Eq) b = false) : PE X (.Compare a [.Eq] [b] pos) (TEm G W (q1 && q2) (mOp2 eqF q1 ma q2 mb)) := pe_mcmp (op_eqD hu) (hK ▸ fun_eq) ha hb hm
theorem t_eq (hK : X.K = G.K) (hu : X.A.units + 64 < cLine) (ha : PE X a (TEm G W q1 ma)) (hb : PE X b (TEm G W q2 mb)) (hm : behindInMarks (.Eq) b = false) : PT X (.Compare a [.Eq] [b] pos) (TTm G W (q1 && q2) (mBool (mOp2 eqF q1 ma q2 mb))) := pt_mcmp (op_eqD hu) (hK ▸ fun_eq) ha hb hm
theorem c_ne (hK : X.K = G.K) (hu : X.A.units + 64 < cLine) (ha : PE X a (TEm G W q1 ma)) (hb : PE X b (TEm G W q2 mb)) (hm : behindInMarks (.NotEq) b = false) : PE X (.Compare a [.NotEq] [b] pos) (TEm G W (q1 && q2) (mOp2 neF q1 ma q2 mb)) := pe_mcmp (op_neD hu) (hK ▸ fun_ne) ha hb hm
theorem t_ne (hK : X.K = G.K) (hu : X.A.units + 64 < cLine) (ha : PE X a (TEm G W q1 ma)) (hb : PE X b (TEm G W q2 mb)) (hm : behindInMarks (.NotEq) b = false) : PT X (.Compare a [.NotEq] [b] pos) (TTm G W (q1 && q2) (mBool (mOp2 neF q1 ma q2 mb))) := pt_mcmp (op_neD hu) (hK ▸ fun_ne) ha hb hm
theorem c_lt (hK : X.K = G.K) (hu : X.A.units + 64 < cLine) (ha : PE X a (TEm G W q1 ma)) (hb : PE X b (TEm G W q2 mb)) (hm : behindInMarks (.Lt) b = false) : PE X (.Compare a [.Lt] [b] pos) (TEm G W (q1 && q2) (mOp2 ltF q1 ma q2 mb)) := pe_mcmp (op_ltA hu) (hK ▸ fun_lt) ha hb hm
theorem t_lt (hK : X.K = G.K) (hu : X.A.units + 64 < cLine) (ha : PE X a (TEm G W q1 ma)) (hb : PE X b (TEm G W q2 mb)) (hm : behindInMarks (.Lt) b = false) : PT X (.Compare a [.Lt] [b] pos) (TTm G W (q1 && q2) (mBool (mOp2 ltF q1 ma q2 mb))) := pt_mcmp (op_ltA hu) (hK ▸ fun_lt) ha hb hm
theorem c_gt (ha : PE X a (TEm G W q1 ma)) (hb : PE X b (TEm G W q2 mb)) (hm : behindInMarks (.Gt) b = false) : PE X (.Compare a [.Gt] [b] pos) (TEm G W (q1 && q2) (mOp2 gtF q1 ma q2 mb)) := pe_mcmp op_gt fun_gt ha hb hm
theorem t_gt (ha : PE X a (TEm G W q1 ma)) (hb : PE X b (TEm G W q2 mb)) (hm : behindInMarks (.Gt) b = false) : PT X (.Compare a [.Gt] [b] pos) (TTm G W (q1 && q2) (mBool (mOp2 gtF q1 ma q2 mb))) := pt_mcmp op_gt fun_gt ha hb hm
theorem c_le (ha : PE X a (TEm G W q1 ma)) (hb : PE X b (TEm G W q2 mb)) (hm : behindInMarks (.LtE) b = false) : PE X (.Compare a [.LtE] [b] pos) (TEm G W (q1 && q2) (mOp2 leF q1 ma q2 mb)) := pe_mcmp op_le fun_le ha hb hm
theorem t_le (ha : PE X a (TEm G W q1 ma)) (hb : PE X b (TEm G W q2 mb)) (hm : behindInMarks (.LtE) b = false) : PT X (.Compare a [.LtE] [b] pos) (TTm G W (q1 && q2) (mBool (mOp2 leF q1 ma q2 mb))) := pt_mcmp op_le fun_le ha hb hm
theorem c_ge (ha : PE X a (TEm G W q1 ma)) (hb : PE X b (TEm G W q2 mb)) (hm : behindInMarks (.GtE) b = false) : PE X (.Compare a [.GtE] [b] pos) (TEm G W (q1 && q2) (mOp2 geF q1 ma q2 mb)) := pe_mcmp op_ge fun_ge ha hb hm
theorem t_ge (ha : PE X a (TEm G W q1 ma)) (hb : PE X b (TEm G W q2 mb)) (hm : behindInMarks (.GtE) b = false) : PT X (.Compare a [.GtE] [b] pos) (TTm G W (q1 && q2) (mBool (mOp2 geF q1 ma q2 mb))) := pt_mcmp op_ge fun_ge ha hb hm
theorem o_idx (hK : X.K = G.K) (ha : PE X a (TEm G W q1 ma)) (hb : PE X b (TEm G W q2 mb)) (hs : PlainIx b) : PE X (.Subscript a b pos) (TEm G W (q1 && q2) (mOp2 idxF q1 ma q2 mb)) := (pe_ix ix_seq ha hb hs).imp fun _ _ _ h => tem_op2 (hK ▸ fun_idx) h
theorem f_len {es : List Expr} {as : M (List Rv)} (hK : X.K = G.K) (hg : Gl X "len") (hm : X.mg "len" = none) (ha : PA X (e :: es) (TAm G W q as)) (he : starEach (e :: es) X.env = (false, eval e X.env) :: starEach es X.env) (hpl : (backTo pos (starEach es X.env)).any (·.1) = false) : PE X (.Call (.Name "len" p) (e :: es) [] pos) (TEm G W q (mFun (on1 lenF) as)) :=
  pe_mbi call_lenD (hK ▸ fun_len) hg hm (by decide +kernel) ha (by decide) (by decide) he hpl
theorem f_abs {es : List Expr} {as : M (List Rv)} (hg : Gl X "abs") (hm : X.mg "abs" = none) (ha : PA X (e :: es) (TAm G W q as)) (he : starEach (e :: es) X.env = (false, eval e X.env) :: starEach es X.env) (hpl : (backTo pos (starEach es X.env)).any (·.1) = false) : PE X (.Call (.Name "abs" p) (e :: es) [] pos) (TEm G W q (mFun (on1 absF) as)) :=
  pe_mbi call_abs fun_abs hg hm (by decide +kernel) ha (by decide) (by decide) he hpl
theorem f_int {es : List Expr} {as : M (List Rv)} (hg : Gl X "int") (hm : X.mg "int" = none) (ha : PA X (e :: es) (TAm G W q as)) (he : starEach (e :: es) X.env = (false, eval e X.env) :: starEach es X.env) (hpl : (backTo pos (starEach es X.env)).any (·.1) = false) : PE X (.Call (.Name "int" p) (e :: es) [] pos) (TEm G W q (mFun (on1 intF) as)) :=
  pe_mty call_int1 fun_int hg hm (by decide +kernel) ha (by decide) (by decide) he hpl
theorem f_min {es : List Expr} {as : M (List Rv)} (hc : X.calm = true) (hg : Gl X "min") (hm : X.mg "min" = none) (ha : PA X (e :: es) (TAm G W q as)) (he : starEach (e :: es) X.env = (false, eval e X.env) :: starEach es X.env) (hpl : (backTo pos (starEach es X.env)).any (·.1) = false) : PE X (.Call (.Name "min" p) (e :: es) [] pos) (TEm G W q (mFun (on2 minF) as)) :=
  pe_mbi (call_min2 hc) fun_min hg hm (by decide +kernel) ha (by decide) (by decide) he hpl
theorem f_max {es : List Expr} {as : M (List Rv)} (hc : X.calm = true) (hg : Gl X "max") (hm : X.mg "max" = none) (ha : PA X (e :: es) (TAm G W q as)) (he : starEach (e :: es) X.env = (false, eval e X.env) :: starEach es X.env) (hpl : (backTo pos (starEach es X.env)).any (·.1) = false) : PE X (.Call (.Name "max" p) (e :: es) [] pos) (TEm G W q (mFun (on2 maxF) as)) :=
  pe_mbi (call_max2 hc) fun_max hg hm (by decide +kernel) ha (by decide) (by decide) he hpl
theorem f_list {es : List Expr} {as : M (List Rv)} (hK : X.K = G.K) (hg : Gl X "list") (hm : X.mg "list" = none) (ha : PA X (e :: es) (TAm G W q as)) (he : starEach (e :: es) X.env = (false, eval e X.env) :: starEach es X.env) (hpl : (backTo pos (starEach es X.env)).any (·.1) = false) : PE X (.Call (.Name "list" p) (e :: es) [] pos) (TEm G W q (mFun (on1 listF) as)) :=
  pe_mty call_list_of (hK ▸ fun_list) hg hm (by decide +kernel) ha (by decide) (by decide) he hpl
theorem f_tuple {es : List Expr} {as : M (List Rv)} (hK : X.K = G.K) (hg : Gl X "tuple") (hm : X.mg "tuple" = none) (ha : PA X (e :: es) (TAm G W q as)) (he : starEach (e :: es) X.env = (false, eval e X.env) :: starEach es X.env) (hpl : (backTo pos (starEach es X.env)).any (·.1) = false) : PE X (.Call (.Name "tuple" p) (e :: es) [] pos) (TEm G W q (mFun (on1 tupF) as)) :=
  pe_mty call_tuple_of (hK ▸ fun_tup) hg hm (by decide +kernel) ha (by decide) (by decide) he hpl
theorem f_sorted {es : List Expr} {as : M (List Rv)} (hK : X.K = G.K) (hu : X.A.units + 64 < cLine) (hg : Gl X "sorted") (hm : X.mg "sorted" = none) (ha : PA X (e :: es) (TAm G W q as)) (he : starEach (e :: es) X.env = (false, eval e X.env) :: starEach es X.env) (hpl : (backTo pos (starEach es X.env)).any (·.1) = false) : PE X (.Call (.Name "sorted" p) (e :: es) [] pos) (TEm G W q (mFun (on1 sortedF) as)) :=
  pe_mbi (call_sortD hu) (hK ▸ fun_sorted) hg hm (by decide +kernel) ha (by decide) (by decide) he hpl
theorem f_isinstance {es : List Expr} {as : M (List Rv)} (hK : X.K = G.K) (hg : Gl X "isinstance") (hm : X.mg "isinstance" = none) (ha : PA X (e :: es) (TAm G W q as)) (he : starEach (e :: es) X.env = (false, eval e X.env) :: starEach es X.env) (hpl : (backTo pos (starEach es X.env)).any (·.1) = false) : PE X (.Call (.Name "isinstance" p) (e :: es) [] pos) (TEm G W q (mFun (on2 isiF) as)) :=
  pe_mbi call_isi (hK ▸ fun_isi) hg hm (by decide +kernel) ha (by decide) (by decide) he hpl
/-- a text's signs -/
def S (s : String) : List Nat := (Str.ofString s).cps.toList
theorem room65 {k : Nat} {A : Around} (r : Room k A) : A.units + 65 < cLine := by have := r.un; omega
theorem pn : PA X [] (TAm G W true (mArgs [])) := pa_mnil
theorem pc {es : List Expr} {ms : List (Bool × M Rv)} (he : PE X e (TEm G W q m)) (hs : PA X es (TAm G W (ms.all (·.1)) (mArgs ms)))
    (hst : starEach (e :: es) X.env = (false, eval e X.env) :: starEach es X.env := by rfl) : PA X (e :: es) (TAm G W (((q, m) :: ms).all (·.1)) (mArgs ((q, m) :: ms))) := pa_mcons he hs hst
theorem tv (h : PE X e (TEm G W q m)) (he : ∀ whole, isTrue e X.env whole = (do let v ← whole; standAt e.pos; holding [v] (truthy v)) := by intro _; rfl) : PT X e (TTm G W q (mBool m)) := pt_mval h he
theorem s_set {i : Nat} {x : Str} {pos' : Pos} (hN : X.N.Nodup) (he : PE X e (TEm G W q m)) (hi : X.N[i]? = some x := by rfl) (hx : Loc X.env.scope x := by first | exact Or.inl rfl | exact Or.inr rfl) (hs : swapsWith e (some (.Name x pos')) pos.line X.env = pure false := by rfl) (hf : X.fn x = true ∨ X.env.scope.names.lookup x = some .local := by first | exact .inl rfl | exact .inr rfl) :
    PS X (.Assign [.Name x pos'] e pos) (TSm G W B (sSet B i m)) := ps_mset hN hi hx he hs hf
theorem s_expr (he : PE X e (TEm G W q m)) (hs : swapsWith e none pos.line X.env = pure false := by rfl) : PS X (.Expr e pos) (TSm G W B (sExpr m)) := ps_mexpr he hs
theorem g_nm {i : Nat} {x : Str} (hN : X.N.Nodup) (hi : X.N[i]? = some x := by rfl) (hx : Loc X.env.scope x := by first | exact Or.inl rfl | exact Or.inr rfl) (hf : X.fn x = true ∨ X.env.scope.names.lookup x = some .local := by first | exact .inl rfl | exact .inr rfl) : PG X (.Name x pos) (TGm G B (.nm i)) := pg_mname hN hi hx hf
theorem s_for {tg iter : Expr} {body : List Stmt} {t : Tg} {mi : M (List D)} {mb : MS} (hp : PassesOwn (model X.prog X.w) X.A X.env X.xe) (hc : X.calm = true) (hi : PI X tg iter (TIm G W mi)) (hg : PG X tg (TGm G B t)) (hb : PSs X body (TSm G W B mb))
    (hs : ∀ x, foldedSetIterable iter X.env x = pure x := by intro _; rfl) : PS X (.For tg iter body [] pos) (TSm G W B (sFor B t mi mb)) := ps_mfor hp hc hi hg hb hs
theorem i_rng1 {tg : Expr} (hg : Gl X "range") (hm : X.mg "range" = none) (ha : PE X a (TEm G W q m)) (hs : starEach [a] X.env = [(false, eval a X.env)] := by rfl) : PI X tg (.Call (.Name "range" p) [a] [] pos) (TIm G W (iRng (mArgs [(q, m)]))) := pi_mrng1 hg hm ha hs
theorem i_rng2 {tg : Expr} {m' : M Rv} (hg : Gl X "range") (hm : X.mg "range" = none) (ha : PE X a (TEm G W q1 m)) (hb : PE X b (TEm G W q2 m')) (hs : starEach [a, b] X.env = [(false, eval a X.env), (false, eval b X.env)] := by rfl) (hs2 : starEach [b] X.env = [(false, eval b X.env)] := by rfl) :
    PI X tg (.Call (.Name "range" p) [a, b] [] pos) (TIm G W (iRng (mArgs [(q1, m), (q2, m')]))) := pi_mrng2 hg hm ha hb hs hs2
theorem f_call {k : Nat} {f : Addr} {fd : FuncData} {ps : List Str} {fs : Fs} {x : Str} {es : List Expr} {as : M (List Rv)} (hf : fs.len) (hg : Gl X x) (F : FnOk X.prog X.w X.K X.mg X.base (L2.CX X.prog X.w) k f fd ps (spF G fs)) (hr : Room k X.A) (hm : X.mg x = some (.ref f)) (hk : PySem.W.keepIn X.K (.ref f) = true)
    (hb : Binds X.K fd ps []) (tk : L2.Takes X W) (ha : PA X (e :: es) (TAm G W q as)) (hdb : (x == ("__debug__" : Str)) = false := by decide) (he : starEach (e :: es) X.env = (false, eval e X.env) :: starEach es X.env := by rfl) (hpl : (backTo pos (starEach es X.env)).any (·.1) = false := by rfl) :
    PE X (.Call (.Name x p) (e :: es) [] pos) (TEm G W false (mCall fs as)) := pe_mcall hf F hr hg hm hk hb tk ha hdb he hpl
theorem m_append {o : Expr} {apos : Pos} {ms : List (Bool × M Rv)} (hK : X.K = G.K) (ho : PE X o (TEm G W q0 m)) (ha : PA X [e] (TAm G W (ms.all (·.1)) (mArgs ms))) (hbase : attributeBase o "append" X.env (eval o X.env) = eval o X.env := by rfl)
    (hfew : ((backTo pos (starEach [e] X.env)).all (fun x => !x.1) && (backToKw pos (keywordEach [] X.env)).all (fun x => x.1.isSome)
      && decide (([e] : List Expr).length + ([] : List Keyword).length + (if ([] : List Keyword).isEmpty then 0 else 1) < 30)) = true := by rfl)
    (hline : (apos.endLine == pos.line) = true := by rfl) (hs : starEach [e] X.env = (false, eval e X.env) :: starEach [] X.env := by rfl) (hplain : (backTo pos (starEach [] X.env)).any (·.1) = false := by rfl) :
    PE X (.Call (.Attribute o "append" apos) [e] [] pos) (TEm G W false (mAppend (mArgs ((q0, mRecv "list" m) :: ms)))) := pe_mappend hK ho ha hbase hfew hline hs hplain
theorem m_index {o : Expr} {apos : Pos} {ms : List (Bool × M Rv)} (hK : X.K = G.K) (hu : X.A.units + 65 < cLine) (ho : PE X o (TEm G W q0 m)) (ha : PA X [e] (TAm G W (ms.all (·.1)) (mArgs ms))) (hbase : attributeBase o "index" X.env (eval o X.env) = eval o X.env := by rfl)
    (hfew : ((backTo pos (starEach [e] X.env)).all (fun x => !x.1) && (backToKw pos (keywordEach [] X.env)).all (fun x => x.1.isSome)
      && decide (([e] : List Expr).length + ([] : List Keyword).length + (if ([] : List Keyword).isEmpty then 0 else 1) < 30)) = true := by rfl)
    (hline : (apos.endLine == pos.line) = true := by rfl) (hs : starEach [e] X.env = (false, eval e X.env) :: starEach [] X.env := by rfl) (hplain : (backTo pos (starEach [] X.env)).any (·.1) = false := by rfl) :
    PE X (.Call (.Attribute o "index" apos) [e] [] pos) (TEm G W (((q0, mRecv "list" m) :: ms).all (·.1)) (mFun (on2 indexF) (mArgs ((q0, mRecv "list" m) :: ms)))) :=
  pe_mmeth hK PySem.F.plainAttrs_list PySem.F.slot_list_index PySem.F.type_list_index (mt_indexD hu) (hK ▸ fun_index) ho ha hbase hfew hline hs hplain
theorem m_conIndex {x : Str} {a : Addr} {ys : List Str} {p0 apos : Pos} (hK : X.K = G.K) (hg : Gl X x) (hm : X.mg x = some (.ref a)) (kt : KTup G.K a (ys.map V.str)) (kd : ∃ o, G.K.lookup a = some o ∧ o.cls = .type "tuple" ∧ o.dict = none) (ha : PE X e (TEm G W q m)) (hd : (x == ("__debug__" : Str)) = false := by decide) 
    (hbase : attributeBase (.Name x p0) "index" X.env (eval (.Name x p0) X.env) = eval (.Name x p0) X.env := by rfl)
    (hfew : ((backTo pos (starEach [e] X.env)).all (fun x => !x.1) && (backToKw pos (keywordEach [] X.env)).all (fun x => x.1.isSome)
      && decide (([e] : List Expr).length + ([] : List Keyword).length + (if ([] : List Keyword).isEmpty then 0 else 1) < 30)) = true := by rfl)
    (hline : (apos.endLine == pos.line) = true := by rfl) (hs : starEach [e] X.env = (false, eval e X.env) :: starEach [] X.env := by rfl) (hplain : (backTo pos (starEach [] X.env)).any (·.1) = false := by rfl) :
    PE X (.Call (.Attribute (.Name x p0) "index" apos) [e] [] pos) (TEm G W (([(q, m)] : List (Bool × M Rv)).all (·.1)) (mFun (on1 (conIndexF (ys.map fun s => s.cps.toList))) (mArgs [(q, m)]))) :=
  pe_mconIndex hK hg hm kt kd hd ha hbase hfew hline hs hplain
theorem s_lc {i : Nat} {y : Str} {py : Pos} {elt tg iter : Expr} {ifs : List Expr} {scope : Scope} {own : List (Str × Nat)} {vs : List Nat} {spos : Pos} {t : Tg} {mi : M (List D)} {tt : M Bool} {me : M Rv} {c : Sh} (hc : X.calm = true) (hN : X.N.Nodup) 
    (hi : PI X tg iter (TIm G W mi)) (ok : BlkOk X.N X.env.scope scope own)
    (hg : ∀ (s : Shared) (H : Hp) (C : Addr) (cl : List (Str × Addr)) (fp : List Addr), PG (X.blk s H scope (compEnvC scope cl C X.env) fp) tg (TGm G noB t))
    (ht : ∀ (s : Shared) (H : Hp) (C : Addr) (cl : List (Str × Addr)) (fp : List Addr), PTs (X.blk s H scope (compEnvC scope cl C X.env) fp) ifs (TTm G W0 q1 tt))
    (he : ∀ (s : Shared) (H : Hp) (C : Addr) (cl : List (Str × Addr)) (fp : List Addr), PE (X.blk s H scope (compEnvC scope cl C X.env) fp) elt (TEm G W0 q2 me)) (hk : X.env.scope.kind = .function) (hl : (py.line == pos.line) = true) (hany : (scope.names.any fun (n, k) => n == y && (k == .local || k == .cell)) = false) (nd : (own.map (·.2)).Nodup) (hts : ∀ j ∈ t.slots, j ∈ own.map (·.2)) (hvs : own.map (·.2) = vs)
    (hy : X.N[i]? = some y := by rfl) (hyl : X.env.scope.names.lookup y = some .local := by rfl) (hle : (py.line == spos.line) = true := by rfl) (hpp : spos.line = pos.line := by rfl) (hs : ∀ x, foldedSetIterable iter X.env x = pure x := by intro _; rfl) : PS X (.Assign [.Name y py] (.ListComp elt [⟨tg, iter, ifs, 0⟩] scope pos) spos) (TSm G W B (sSet B i (mLc vs t mi tt me c))) :=
  hvs ▸ ps_msetLc hc hN hy hyl (sw_true hk hyl hl hany) hi ok hg ht he hs nd hts
theorem e_lc {elt tg iter : Expr} {ifs : List Expr} {scope : Scope} {own : List (Str × Nat)} {vs : List Nat} {t : Tg} {mi : M (List D)} {tt : M Bool} {me : M Rv} {c : Sh} (hc : X.calm = true) (hN : X.N.Nodup) (hi : PI X tg iter (TIm G W mi)) (ok : BlkOk X.N X.env.scope scope own)
    (hg : ∀ (s : Shared) (H : Hp) (C : Addr) (cl : List (Str × Addr)) (fp : List Addr), PG (X.blk s H scope (compEnvC scope cl C X.env) fp) tg (TGm G noB t))
    (ht : ∀ (s : Shared) (H : Hp) (C : Addr) (cl : List (Str × Addr)) (fp : List Addr), PTs (X.blk s H scope (compEnvC scope cl C X.env) fp) ifs (TTm G W0 q1 tt))
    (he : ∀ (s : Shared) (H : Hp) (C : Addr) (cl : List (Str × Addr)) (fp : List Addr), PE (X.blk s H scope (compEnvC scope cl C X.env) fp) elt (TEm G W0 q2 me)) (nd : (own.map (·.2)).Nodup) (hts : ∀ j ∈ t.slots, j ∈ own.map (·.2)) (hvs : own.map (·.2) = vs) (hs : ∀ x, foldedSetIterable iter X.env x = pure x := by intro _; rfl)
    : PE X (.ListComp elt [⟨tg, iter, ifs, 0⟩] scope pos) (TEm G W false (mLc vs t mi tt me c)) := hvs ▸ pe_mlc hc hN hi ok hg ht he hs nd hts
theorem ifs_0 : PTs X [] (TTm G W true bYes) := pts_mnil
theorem ifs_1 {tt : M Bool} (h : PT X e (TTm G W q tt)) : PTs X [e] (TTm G W q tt) := pts_one h
end
end
end Dt

/-! The end of a law. -/
namespace Dt
noncomputable section
open PySem PySem.W PyProof.Rows L2
/-- the fields' names by number: those of the text first -/
def fldOf (l : List Str) (i : Nat) : Str := match l[i]? with
  | some x => x
  | none => ⟨(List.replicate (i + 1000) 0).toArray⟩
theorem fldOf_inj (l : List Str) (nd : l.Nodup) (hl : (l.all fun x : Str => decide (x.cps.size < 1000)) = true) : ∀ i j, fldOf l i = fldOf l j → i = j := fun i j e => by
  have small : ∀ {k : Nat} {x : Str}, l[k]? = some x → x.cps.size < 1000 := fun {k x} h => by
    have := List.all_eq_true.mp hl x (List.mem_of_getElem? h)
    simpa using this
  unfold fldOf at e
  cases hi : l[i]? with
  | some x => cases hj : l[j]? with
    | some y =>
      rw [hi, hj] at e
      simp only at e
      subst e
      have h1 : i < l.length := (List.getElem?_eq_some_iff.mp hi).1
      exact (List.getElem?_inj h1 nd).mp (hi.trans hj.symm)
    | none =>
      rw [hi, hj] at e
      simp only at e
      have := small hi
      rw [e] at this
      simp at this
      omega
  | none => cases hj : l[j]? with
    | some y =>
      rw [hi, hj] at e
      simp only at e
      have := small hj
      rw [← e] at this
      simp at this
      omega
    | none =>
      rw [hi, hj] at e
      simp only [Str.mk.injEq] at e
      have := congrArg Array.size e
      simp at this
      exact this
theorem law_walk {l : PySem.W.OpenLaw} {n k : Nat} {q : Program} {loose : List Str} {XP : (Str → Option Value) → Heap → Prop} {YP : World → Heap → Prop} {d : DefRec} {K : Params → PySem.W.Frag} {x : Str} (fs : Fs)
    (hn : l.most = some n) (hn2 : n ≤ sizeLine) (hdf : d.params.defaults = []) (hr : Room k callerA)
    (hY : ∀ (w : World) (h : Heap), YP w h → (K w.params).In h)
    (F : ∀ (w : World) (mg : Str → Option Value) (fa : Addr) (h : Heap), (K w.params).In h → h.Ns mainGlobals mg → mg d.name = some (.ref fa) →
      ∃ (G : Gm) (fd : FuncData), (G.K = K w.params ∧ G.tabs = []) ∧ (∀ (s : Shared) (u : Value), BindsTo s fd ⟨[u], []⟩ [(x, u)]) ∧
        ∀ base : Heap, (K w.params).In base → base.Ns mainGlobals mg → FnOk l.prog w (K w.params) mg base (L2.CX l.prog w) k fa fd [x] (spF G fs))
    (hf : fs.len) (h : ∀ ns : List Int, ns.length ≤ n → ∃ xs, fs [(.fz, .lst (ns.map D.int))] = some (.ok (.fz, .bl true), xs)) :
    PySem.W.WalkO q loose XP YP l.row.toRowW d [] (fun f vs => PySem.call f vs) :=
  walk_of (K := K) (CX := fun w => L2.CX l.prog w) (sp := fun w vs H Q E => ∀ G : Gm, G.K = K w.params ∧ G.tabs = [] → spF G fs vs H Q E) hn hn2 hdf hr hY
    (fun w mg fa h h1 h2 h3 => let ⟨G, fd, e, hb, hF⟩ := F w mg fa h h1 h2 h3
      ⟨fd, hb, fun base b1 b2 => (hF base b1 b2).imp fun vs H Q E hs => hs G e⟩)
    (fun w H a ns hl _ hS G e => sp_script (by rw [e.1]; exact hS) (by rw [e.2]; simp) (by rw [e.2]; exact List.nodup_nil) (h ns hl) hf)
    (fun w H s e s' h => let ⟨_, _, _, _, _, _, _, _, _, _, _, _, h⟩ := h; h)
end
end Dt

/-! How cores are computed. -/
namespace Dt
noncomputable section
open PySem PySem.Spec PyProof.Rows L2

abbrev XP := Exc → List Slot → Prop
/-- what m does from S on: X of an exception, Q of a value -/
@[irreducible] def Ev {α : Type} (m : M α) (S : List Slot) (X : XP) (Q : α → List Slot → Prop) : Prop := match m S with
  | none => False
  | some (.error e, S1) => X e S1
  | some (.ok r, S1) => Q r S1
/-- a statement's ends -/
structure Kn where
  ex : XP
  nx : List Slot → Prop
  rt : Sh → D → List Slot → Prop
  bk : List Slot → Prop
  ct : List Slot → Prop
def Kn.at (K : Kn) : Fl → List Slot → Prop
  | .nx => K.nx
  | .rt sh d => K.rt sh d
  | .bk => K.bk
  | .ct => K.ct
@[irreducible] def Es (m : MS) (S : List Slot) (K : Kn) : Prop := Ev m S K.ex K.at
@[irreducible] def Ef (f : Fs) (as : List (Sh × D)) (X : XP) (Q : Sh → D → List Slot → Prop) : Prop := match f as with
  | none => False
  | some (.error e, xs) => X e xs
  | some (.ok (sh, d), xs) => Q sh d xs
theorem ev_congr {α : Type} {m m' : M α} {S S' : List Slot} {X : XP} {Q : α → List Slot → Prop} (h : m = m') (h' : S = S') : Ev m S X Q = Ev m' S' X Q := by rw [h, h']
theorem es_congr {m m' : MS} {S S' : List Slot} {K : Kn} (h : m = m') (h' : S = S') : Es m S K = Es m' S' K := by rw [h, h']
theorem ef_congr {f : Fs} {as as' : List (Sh × D)} {X : XP} {Q : Sh → D → List Slot → Prop} (h' : as = as') : Ef f as X Q = Ef f as' X Q := by rw [h']
section
variable {α : Type} {m : M α} {S S1 : List Slot} {X X' : XP} {Q Q' : α → List Slot → Prop}
theorem Ev.ok (e : m S = some (.ok r, S1)) : Ev m S X Q ↔ Q r S1 := by unfold Ev; rw [e]
theorem Ev.err {x : Exc} (e : m S = some (.error x, S1)) : Ev m S X Q ↔ X x S1 := by unfold Ev; rw [e]
theorem Ev.no (e : m S = none) : Ev m S X Q ↔ False := by unfold Ev; rw [e]
theorem Ev.mono (h : Ev m S X Q) (iX : ∀ x S1, X x S1 → X' x S1) (i : ∀ r S1, Q r S1 → Q' r S1) : Ev m S X' Q' := by
  unfold Ev at h ⊢
  split at h
  · exact h
  · exact iX _ _ h
  · exact i _ _ h
theorem Ev.monoQ (h : Ev m S X Q) (i : ∀ r S1, Q r S1 → Q' r S1) : Ev m S X Q' := h.mono (fun _ _ h => h) i
theorem Ev.ex (h : Ev m S X Q) : (∃ e S1, m S = some (.error e, S1) ∧ X e S1) ∨ ∃ r S1, m S = some (.ok r, S1) ∧ Q r S1 := by
  unfold Ev at h
  split at h
  · exact h.elim
  · exact .inl ⟨_, _, by assumption, h⟩
  · exact .inr ⟨_, _, by assumption, h⟩
end
def noX : XP := fun _ _ => False
theorem Ef.ex {f : Fs} {as : List (Sh × D)} {X : XP} {Q : Sh → D → List Slot → Prop} (h : Ef f as X Q) : (∃ e xs, f as = some (.error e, xs) ∧ X e xs) ∨ ∃ sh d xs, f as = some (.ok (sh, d), xs) ∧ Q sh d xs := by
  unfold Ef at h
  split at h
  · exact h.elim
  · exact .inl ⟨_, _, by assumption, h⟩
  · exact .inr ⟨_, _, _, by assumption, h⟩
theorem Ef.ok {f : Fs} {as : List (Sh × D)} {Q : Sh → D → List Slot → Prop} (h : Ef f as noX Q) : ∃ sh d xs, f as = some (.ok (sh, d), xs) ∧ Q sh d xs := by
  rcases h.ex with ⟨_, _, _, h⟩ | h
  · exact h.elim
  · exact h
theorem of_ef {f : Fs} {as : List (Sh × D)} {sh : Sh} {d : D} {xs : List Slot} (h : Ef f as noX fun sh' d' xs' => sh' = sh ∧ d' = d ∧ xs' = xs) : f as = some (.ok (sh, d), xs) := by
  obtain ⟨sh', d', xs', e, h1, h2, h3⟩ := h.ok
  rw [e, h1, h2, h3]
theorem ef_ok {f : Fs} {as : List (Sh × D)} {sh : Sh} {d : D} {xs : List Slot} {X : XP} {Q : Sh → D → List Slot → Prop} (e : f as = some (.ok (sh, d), xs)) : Ef f as X Q ↔ Q sh d xs := by
  unfold Ef
  rw [e]
/-- a def's body, run -/
theorem Ef.fn {p n : Nat} {B : Bw} {b : MS} {as : List (Sh × D)} {X : XP} {Q : Sh → D → List Slot → Prop} (hl : as.length = p) (hn : p ≤ n)
    (h : Es b (as.map some ++ List.replicate (n - p) none) ⟨fun e S => S.length = n ∧ X e (keepB B 0 (S.take p)), fun S => S.length = n ∧ Q .fz .non (keepB B 0 (S.take p)), fun sh d S => S.length = n ∧ Q sh d (keepB B 0 (S.take p)), fun _ => False, fun _ => False⟩) : Ef (fnP p n B b) as X Q := by
  unfold Es at h
  unfold Ef fnP fnS
  rw [if_pos hl, if_pos (by omega), hl]
  rcases h.ex with ⟨e, S, h1, h2, h3⟩ | ⟨fl, S, h1, h2⟩
  · rw [h1]; simp only [if_pos h2]; exact h3
  · rw [h1]
    cases fl with
    | nx => obtain ⟨h2, h3⟩ := h2; simp only [if_pos h2]; exact h3
    | rt sh d => obtain ⟨h2, h3⟩ := h2; simp only [if_pos h2]; exact h3
    | bk => exact h2.elim
    | ct => exact h2.elim

/-! statements -/
section
variable {B : Bw} {S : List Slot} {K : Kn} {m : M Rv} {i : Nat} {a b : MS}
@[simp] theorem ev_seq : Es (sSeq a b) S K ↔ Es a S ⟨K.ex, fun S1 => Es b S1 K, K.rt, K.bk, K.ct⟩ := by
  unfold Es Ev sSeq
  cases a S with
  | none => exact Iff.rfl
  | some x =>
    obtain ⟨r, S1⟩ := x
    cases r with
    | error e => exact Iff.rfl
    | ok fl => cases fl <;> exact Iff.rfl
@[simp] theorem ev_pass : Es sPass S K ↔ K.nx S := by unfold Es Ev; exact Iff.rfl
@[simp] theorem ev_brk : Es sBreak S K ↔ K.bk S := by unfold Es Ev; exact Iff.rfl
@[simp] theorem ev_cont : Es sCont S K ↔ K.ct S := by unfold Es Ev; exact Iff.rfl
@[simp] theorem ev_retN : Es sRetN S K ↔ K.rt .fz .non S := by unfold Es Ev; exact Iff.rfl
/-- what is kept: a thing, no place -/
def Tmp (r : Rv) (P : Sh → D → Prop) : Prop := match r with
  | .tmp sh d => P sh d
  | .ref _ _ => False
@[simp] theorem tmp_e {sh : Sh} {d : D} {P : Sh → D → Prop} : Tmp (.tmp sh d) P ↔ P sh d := Iff.rfl
theorem tmp_congr {r r' : Rv} {P : Sh → D → Prop} (h : r = r') : Tmp r P = Tmp r' P := by rw [h]
@[simp] theorem ev_set : Es (sSet B i m) S K ↔ Ev m S K.ex fun r S1 => Tmp r fun sh d => B i = false ∧ i < S1.length ∧ K.nx (S1.set i (some (sh, d))) := by
  unfold Es Ev sSet
  cases m S with
  | none => exact Iff.rfl
  | some x =>
    obtain ⟨r, S1⟩ := x
    cases r with
    | error e => exact Iff.rfl
    | ok rv => cases rv with
      | ref => exact Iff.rfl
      | tmp sh d =>
        by_cases hb : B i = true
        · simp [hb]
        · by_cases hi : i < S1.length
          · simp [hb, hi]; exact Iff.rfl
          · simp [hb, hi]
@[simp] theorem ev_expr : Es (sExpr m) S K ↔ Ev m S K.ex fun _ S1 => K.nx S1 := by
  unfold Es Ev sExpr
  cases m S with
  | none => exact Iff.rfl
  | some x =>
    obtain ⟨r, S1⟩ := x
    cases r <;> exact Iff.rfl
@[simp] theorem ev_ret : Es (sRet m) S K ↔ Ev m S K.ex fun r S1 => Tmp r fun sh d => K.rt sh d S1 := by
  unfold Es Ev sRet
  cases m S with
  | none => exact Iff.rfl
  | some x =>
    obtain ⟨r, S1⟩ := x
    cases r with
    | error e => exact Iff.rfl
    | ok rv => cases rv <;> exact Iff.rfl
@[simp] theorem ev_if {c : M Bool} : Es (sIf c a b) S K ↔ Ev c S K.ex fun t S1 => if t = true then Es a S1 K else Es b S1 K := by
  unfold Es Ev sIf
  cases c S with
  | none => exact Iff.rfl
  | some x =>
    obtain ⟨r, S1⟩ := x
    cases r with
    | error e => exact Iff.rfl
    | ok t => cases t <;> simp
@[simp] theorem ev_for {t : Tg} {mi : M (List D)} : Es (sFor B t mi b) S K ↔ Ev mi S K.ex fun ds S1 => Es (forN B t b ds) S1 K := by
  unfold Es Ev sFor
  cases mi S with
  | none => exact Iff.rfl
  | some x =>
    obtain ⟨r, S1⟩ := x
    cases r <;> exact Iff.rfl
/-- a loop by its invariant: I k S at the start of turn k -/
theorem ev_forN {t : Tg} (I : Nat → List Slot → Prop) : ∀ {ds : List D} {S : List Slot} {k0 : Nat}, I k0 S →
    (∀ k d S, ds[k]? = some d → I (k0 + k) S → ∃ S1, bindT B t d S = some S1 ∧ Es b S1 ⟨K.ex, I (k0 + k + 1), K.rt, K.nx, I (k0 + k + 1)⟩) →
    (∀ S, I (k0 + ds.length) S → K.nx S) → Es (forN B t b ds) S K
  | [], S, k0, h0, _, he => by
    unfold Es Ev forN
    exact he S h0
  | d :: ds, S, k0, h0, st, he => by
    obtain ⟨S1, e1, h1⟩ := st 0 d S rfl h0
    have go : ∀ S2, I (k0 + 1) S2 → Es (forN B t b ds) S2 K := fun S2 h => ev_forN I h (fun k d S hd hI => by
      have := st (k + 1) d S (by simpa using hd) (by rw [show k0 + (k + 1) = k0 + 1 + k by omega]; exact hI)
      rw [show k0 + (k + 1) + 1 = k0 + 1 + k + 1 by omega] at this
      exact this) (fun S hI => he S (by rw [List.length_cons, show k0 + (ds.length + 1) = k0 + 1 + ds.length by omega]; exact hI))
    unfold Es Ev forN
    rw [e1]
    unfold Es at h1
    rcases h1.ex with ⟨e, S2, h2, h3⟩ | ⟨fl, S2, h2, h3⟩
    · simp only [h2]; exact h3
    · simp only [h2]
      have go2 := go S2
      unfold Es Ev at go2
      cases fl with
      | nx => exact go2 h3
      | ct => exact go2 h3
      | bk => exact h3
      | rt => exact h3
/-- a cut behind a statement -/
theorem ev_cut (P : List Slot → Prop) (h1 : Es a S ⟨noX, P, fun _ _ _ => False, fun _ => False, fun _ => False⟩) (h2 : ∀ S1, P S1 → Es b S1 K) : Es (sSeq a b) S K := by
  rw [ev_seq]
  unfold Es at h1
  unfold Es
  refine h1.mono (fun _ _ h => h.elim) fun fl S1 h => ?_
  cases fl with
  | nx =>
    have h3 := h2 S1 h
    unfold Es at h3
    exact h3
  | rt => exact h.elim
  | bk => exact h.elim
  | ct => exact h.elim
/-- either way -/
theorem ev_two {c : M Bool} (h : Ev c S noX fun _ S1 => S1 = S) (ha : Es a S K) (hb : Es b S K) : Es (sIf c a b) S K := by
  rw [ev_if]
  refine h.mono (fun _ _ h => h.elim) fun t S1 h => ?_
  subst h
  cases t
  · exact hb
  · exact ha
end

/-! expressions: what simp computes -/
def Evo (o : Option (Sh × D)) (K : Sh → D → Prop) : Prop := match o with
  | none => False
  | some (sh, d) => K sh d
theorem evo_congr {o o' : Option (Sh × D)} {K : Sh → D → Prop} (h : o = o') : Evo o K = Evo o' K := by rw [h]
@[simp] theorem evo_n {K : Sh → D → Prop} : Evo none K ↔ False := Iff.rfl
@[simp] theorem evo_s {sh : Sh} {d : D} {K : Sh → D → Prop} : Evo (some (sh, d)) K ↔ K sh d := Iff.rfl
@[simp] theorem evo_if {c : Prop} [Decidable c] {a b : Option (Sh × D)} {K : Sh → D → Prop} : Evo (if c then a else b) K ↔ if c then Evo a K else Evo b K := by
  split <;> exact Iff.rfl
theorem Evo.ex {o : Option (Sh × D)} {K : Sh → D → Prop} (h : Evo o K) : ∃ sh d, o = some (sh, d) ∧ K sh d := by
  cases o with
  | none => exact h.elim
  | some x => exact ⟨x.1, x.2, rfl, h⟩
def Evd (o : Option D) (K : D → Prop) : Prop := match o with
  | none => False
  | some d => K d
theorem evd_congr {o o' : Option D} {K : D → Prop} (h : o = o') : Evd o K = Evd o' K := by rw [h]
@[simp] theorem evd_n {K : D → Prop} : Evd none K ↔ False := Iff.rfl
@[simp] theorem evd_s {d : D} {K : D → Prop} : Evd (some d) K ↔ K d := Iff.rfl
@[simp] theorem evd_if {c : Prop} [Decidable c] {a b : Option D} {K : D → Prop} : Evd (if c then a else b) K ↔ if c then Evd a K else Evd b K := by
  split <;> exact Iff.rfl
@[simp] theorem evo_map {o : Option D} {K : Sh → D → Prop} : Evo (o.map fun d => (.fz, d)) K ↔ Evd o fun d => K .fz d := by cases o <;> exact Iff.rfl
@[simp] theorem evd_map {α : Type} {f : α → D} {o : Option α} {K : D → Prop} : Evd (o.map f) K ↔ ∃ x, o = some x ∧ K (f x) := by cases o <;> simp
/-- what stands in a slot -/
def Evl (o : Option Slot) (K : Sh → D → Prop) : Prop := match o with
  | some (some (sh, d)) => K sh d
  | _ => False
theorem evl_congr {o o' : Option Slot} {K : Sh → D → Prop} (h : o = o') : Evl o K = Evl o' K := by rw [h]
@[simp] theorem evl_s {sh : Sh} {d : D} {K : Sh → D → Prop} : Evl (some (some (sh, d))) K ↔ K sh d := Iff.rfl
/-- the things that are looked at -/
def Evv (o : Option (List D)) (K : List D → Prop) : Prop := match o with
  | some ds => K ds
  | none => False
theorem evv_congr {o o' : Option (List D)} {K : List D → Prop} (h : o = o') : Evv o K = Evv o' K := by rw [h]
@[simp] theorem evv_s {ds : List D} {K : List D → Prop} : Evv (some ds) K ↔ K ds := Iff.rfl
@[simp] theorem evv_n {K : List D → Prop} : Evv none K ↔ False := Iff.rfl
/-- the truth value behind an expression -/
def Evb (r : Rv) (K : Bool → Prop) : Prop := match r with
  | .tmp .fz (.bl b) => K b
  | _ => False
theorem evb_congr {r r' : Rv} {K : Bool → Prop} (h : r = r') : Evb r K = Evb r' K := by rw [h]
@[simp] theorem evb_s {b : Bool} {K : Bool → Prop} : Evb (.tmp .fz (.bl b)) K ↔ K b := Iff.rfl
/-- the items of a sequence -/
def Evs (r : Rv) (K : List D → Prop) : Prop := match r with
  | .tmp sh (.lst ds) => sh.whole = true ∧ K ds
  | .tmp sh (.tup ds) => sh.whole = true ∧ K ds
  | _ => False
theorem evs_congr {r r' : Rv} {K : List D → Prop} (h : r = r') : Evs r K = Evs r' K := by rw [h]
@[simp] theorem evs_l {sh : Sh} {ds : List D} {K : List D → Prop} : Evs (.tmp sh (.lst ds)) K ↔ sh.whole = true ∧ K ds := Iff.rfl
@[simp] theorem evs_t {sh : Sh} {ds : List D} {K : List D → Prop} : Evs (.tmp sh (.tup ds)) K ↔ sh.whole = true ∧ K ds := Iff.rfl
def Evr (o : Option (List D)) (K : List D → Prop) : Prop := match o with
  | some [.int j] => okRg j = true ∧ K (rangeD 0 j.toNat)
  | some [.int i, .int j] => okRg i = true ∧ okRg j = true ∧ K (rangeD i (j - i).toNat)
  | _ => False
theorem evr_congr {o o' : Option (List D)} {K : List D → Prop} (h : o = o') : Evr o K = Evr o' K := by rw [h]
@[simp] theorem evr1 {j : Int} {K : List D → Prop} : Evr (some [.int j]) K ↔ okRg j = true ∧ K (rangeD 0 j.toNat) := Iff.rfl
@[simp] theorem evr2 {i j : Int} {K : List D → Prop} : Evr (some [.int i, .int j]) K ↔ okRg i = true ∧ okRg j = true ∧ K (rangeD i (j - i).toNat) := Iff.rfl
def Eva (o : Option (List (Sh × D) × List Slot)) (K : List (Sh × D) → List Slot → Prop) : Prop := match o with
  | some (as, S) => K as S
  | none => False
theorem eva_congr {o o' : Option (List (Sh × D) × List Slot)} {K : List (Sh × D) → List Slot → Prop} (h : o = o') : Eva o K = Eva o' K := by rw [h]
@[simp] theorem eva_s {as : List (Sh × D)} {S : List Slot} {K : List (Sh × D) → List Slot → Prop} : Eva (some (as, S)) K ↔ K as S := Iff.rfl
section
variable {S S1 : List Slot} {X : XP} {Q : Rv → List Slot → Prop} {QB : Bool → List Slot → Prop} {QA : List Rv → List Slot → Prop} {QI : List D → List Slot → Prop}
@[simp] theorem e_ref {i : Nat} : Ev (mRef i) S X Q ↔ Evl S[i]? fun _ _ => Q (.ref i []) S := by
  unfold Ev mRef Evl
  cases S[i]? with
  | none => exact Iff.rfl
  | some x => cases x <;> exact Iff.rfl
@[simp] theorem e_var {i : Nat} : Ev (mVar i) S X Q ↔ Evl S[i]? fun sh d => sh = .fz ∧ Q (.tmp .fz d) S := by
  unfold Ev mVar Evl
  cases S[i]? with
  | none => exact Iff.rfl
  | some x => cases x with
    | none => exact Iff.rfl
    | some y =>
      obtain ⟨sh, d⟩ := y
      cases sh <;> simp
@[simp] theorem e_frz {i : Nat} : Ev (mFrz i) S X Q ↔ Evl S[i]? fun sh d => sh.whole = true ∧ Q (.tmp .fz d) (S.set i (some (.fz, d))) := by
  unfold Ev mFrz Evl
  cases S[i]? with
  | none => exact Iff.rfl
  | some x => cases x with
    | none => exact Iff.rfl
    | some y =>
      obtain ⟨sh, d⟩ := y
      by_cases h : sh.whole = true
      · simp [h]
      · simp [h]
@[simp] theorem e_mov {i : Nat} : Ev (mMove i) S X Q ↔ Evl S[i]? fun sh d => Q (.tmp sh d) (S.set i none) := by
  unfold Ev mMove Evl
  cases S[i]? with
  | none => exact Iff.rfl
  | some x => cases x <;> exact Iff.rfl
@[simp] theorem e_con {d : D} : Ev (mCon d) S X Q ↔ Q (.tmp .fz d) S := by unfold Ev; exact Iff.rfl
@[simp] theorem e_args0 : Ev (mArgs []) S X QA ↔ QA [] S := by unfold Ev; exact Iff.rfl
@[simp] theorem e_args1 {q : Bool} {m : M Rv} {ms : List (Bool × M Rv)} : Ev (mArgs ((q, m) :: ms)) S X QA ↔ Ev m S X fun r S1 => Ev (mArgs ms) S1 X fun rs S2 => r.keeps (ms.all (·.1)) = true ∧ QA (r :: rs) S2 := by
  unfold Ev
  simp only [mArgs]
  cases m S with
  | none => exact Iff.rfl
  | some x =>
    obtain ⟨r, S1⟩ := x
    cases r with
    | error e => exact Iff.rfl
    | ok r =>
      simp only
      cases mArgs ms S1 with
      | none => exact Iff.rfl
      | some y =>
        obtain ⟨rs, S2⟩ := y
        cases rs with
        | error e => exact Iff.rfl
        | ok rs =>
          by_cases h : r.keeps (ms.all (·.1)) = true
          · simp [h]
          · simp [h]
@[simp] theorem e_fun {f : List D → Option (Sh × D)} {as : M (List Rv)} : Ev (mFun f as) S X Q ↔ Ev as S X fun rs S1 => Evv (seeAll S1 rs) fun ds => Evo (f ds) fun sh d => Q (.tmp sh d) S1 := by
  unfold Ev mFun
  cases as S with
  | none => exact Iff.rfl
  | some x =>
    obtain ⟨r, S1⟩ := x
    cases r with
    | error e => exact Iff.rfl
    | ok rs =>
      simp only
      cases seeAll S1 rs with
      | none => exact Iff.rfl
      | some ds =>
        simp only [evv_s]
        cases f ds with
        | none => exact Iff.rfl
        | some y => exact Iff.rfl
@[simp] theorem e_op2 {f : D → D → Option (Sh × D)} {q1 q2 : Bool} {a b : M Rv} : Ev (mOp2 f q1 a q2 b) S X Q ↔ Ev (mFun (on2 f) (mArgs [(q1, a), (q2, b)])) S X Q := by unfold Ev; exact Iff.rfl
@[simp] theorem e_see0 : seeAll S [] = some [] := (rfl)
def consO (d : D) : Option (List D) → Option (List D)
  | some ds => some (d :: ds)
  | none => none
@[simp] theorem consO_s {d : D} {ds : List D} : consO d (some ds) = some (d :: ds) := (rfl)
@[simp] theorem e_seeT {sh : Sh} {d : D} {rs : List Rv} : seeAll S (.tmp sh d :: rs) = if sh.flat = true then consO d (seeAll S rs) else none := by
  show (if sh.flat = true then _ else none) = _
  split
  · cases seeAll S rs <;> rfl
  · rfl
def seeO (o : Option Slot) (k : Option (List D)) : Option (List D) := match o with
  | some (some (sh, d)) => if sh.flat = true then consO d k else none
  | _ => none
@[simp] theorem seeO_s {sh : Sh} {d : D} {k : Option (List D)} : seeO (some (some (sh, d))) k = if sh.flat = true then consO d k else none := (rfl)
@[simp] theorem e_seeR {i : Nat} {rs : List Rv} : seeAll S (.ref i [] :: rs) = seeO S[i]? (seeAll S rs) := by
  have h : seeAll S (.ref i [] :: rs) = match (Rv.ref i []).see S with
    | some (sh, d) => if sh.flat = true then match seeAll S rs with
          | some ds => some (d :: ds)
          | none => none
        else none
    | none => none := rfl
  rw [h]
  have h2 : (Rv.ref i []).see S = match S[i]? with
    | some (some sd) => some sd
    | _ => none := by
    show (match S[i]? with
      | some (some sd) => pathD sd []
      | _ => none) = _
    cases S[i]? with
    | none => rfl
    | some x => cases x <;> rfl
  rw [h2]
  generalize seeAll S rs = k
  cases S[i]? with
  | none => rfl
  | some x => cases x with
    | none => rfl
    | some sd =>
      obtain ⟨sh, d⟩ := sd
      simp only [seeO_s]
      split
      · cases k <;> rfl
      · rfl
@[simp] theorem k_tmp {q : Bool} {sh : Sh} {d : D} : (Rv.tmp sh d).keeps q = true := (rfl)
@[simp] theorem k_ref {q : Bool} {i : Nat} : (Rv.ref i []).keeps q = true := (rfl)
@[simp] theorem w_fz : Sh.whole .fz = true := by simp [Sh.whole]
@[simp] theorem w_lst {c : Sh} : Sh.whole (.lst c) = c.whole := by simp [Sh.whole]
@[simp] theorem w_dct {c : Sh} : Sh.whole (.dct c) = c.whole := by simp [Sh.whole]
@[simp] theorem fl_fz : Sh.flat .fz = true := (rfl)
@[simp] theorem fl_lst : Sh.flat (.lst .fz) = true := (rfl)
@[simp] theorem fl_dct : Sh.flat (.dct .fz) = true := (rfl)
@[simp] theorem ft_fz {sh : Sh} : fits .fz sh = sh.whole := by cases sh <;> rfl
@[simp] theorem ft_lst : fits (.lst .fz) (.lst .fz) = true := (rfl)
@[simp] theorem on2_e {f : D → D → Option (Sh × D)} {x y : D} : on2 f [x, y] = f x y := (rfl)
@[simp] theorem on1_e {f : D → Option (Sh × D)} {x : D} : on1 f [x] = f x := (rfl)
@[simp] theorem add_int {i j : Int} : addF (.int i) (.int j) = some (.fz, .int (i + j)) := (rfl)
@[simp] theorem sub_int {i j : Int} : subF (.int i) (.int j) = some (.fz, .int (i - j)) := (rfl)
/-- a small number -/
def smI (i : Int) : Bool := decide (-(2 ^ 64) < i ∧ i < 2 ^ 64)
@[simp] theorem smI_e {i : Int} : smI i = true ↔ -18446744073709551616 < i ∧ i < 18446744073709551616 := by
  unfold smI
  exact decide_eq_true_iff
@[simp] theorem mul_int {i j : Int} : mulF (.int i) (.int j) = if smI i = true ∨ smI j = true then some (.fz, .int (i * j)) else none := by
  unfold mulF smI
  simp only [decide_eq_true_eq]
@[simp] theorem div_int {i j : Int} : divF (.int i) (.int j) = if 0 < j ∧ j < 1073741824 then some (.fz, .int (i / j)) else none := (rfl)
@[simp] theorem mod_int {i j : Int} : modF (.int i) (.int j) = if 0 < j then some (.fz, .int (i % j)) else none := (rfl)
@[simp] theorem pow_int {i j : Int} : powF (.int i) (.int j) = if 0 ≤ j ∧ j ≤ 1000000 ∧ i.natAbs < 2 ^ 64 then some (.fz, .int (i ^ j.toNat)) else none := (rfl)
@[simp] theorem lt_int {i j : Int} : ltF (.int i) (.int j) = some (.fz, .bl (decide (i < j))) := (rfl)
@[simp] theorem gt_int {i j : Int} : gtF (.int i) (.int j) = some (.fz, .bl (decide (j < i))) := (rfl)
@[simp] theorem le_int {i j : Int} : leF (.int i) (.int j) = some (.fz, .bl (decide (i ≤ j))) := (rfl)
@[simp] theorem ge_int {i j : Int} : geF (.int i) (.int j) = some (.fz, .bl (decide (j ≤ i))) := (rfl)
@[simp] theorem idx_lst {xs : List D} {i : Int} : idxF (.lst xs) (.int i) = (L2.atI xs i).map fun d => (.fz, d) := (rfl)
@[simp] theorem idx_tup {xs : List D} {i : Int} : idxF (.tup xs) (.int i) = (L2.atI xs i).map fun d => (.fz, d) := (rfl)
@[simp] theorem len_lst {xs : List D} : lenF (.lst xs) = some (.fz, .int xs.length) := (rfl)
@[simp] theorem len_tup {xs : List D} : lenF (.tup xs) = some (.fz, .int xs.length) := (rfl)
@[simp] theorem len_str {x : List Nat} : lenF (.str x) = if x.length ≤ sizeLine then some (.fz, .int x.length) else none := (rfl)
@[simp] theorem abs_int {i : Int} : absF (.int i) = some (.fz, .int (if i < 0 then -i else i)) := (rfl)
@[simp] theorem int_int {i : Int} : intF (.int i) = some (.fz, .int i) := (rfl)
@[simp] theorem min_int {i j : Int} : minF (.int i) (.int j) = some (.fz, .int (if j < i then j else i)) := (rfl)
@[simp] theorem max_int {i j : Int} : maxF (.int i) (.int j) = some (.fz, .int (if j > i then j else i)) := (rfl)
@[simp] theorem tup_lst {xs : List D} : tupF (.lst xs) = some (.fz, .tup xs) := (rfl)
@[simp] theorem tup_tup {xs : List D} : tupF (.tup xs) = some (.fz, .tup xs) := (rfl)
@[simp] theorem list_lst {xs : List D} : listF (.lst xs) = some (.lst .fz, .lst xs) := (rfl)
@[simp] theorem list_tup {xs : List D} : listF (.tup xs) = some (.lst .fz, .lst xs) := (rfl)
@[simp] theorem e_bool {m : M Rv} : Ev (mBool m) S X QB ↔ Ev m S X fun r S1 => Evb r fun b => QB b S1 := by
  unfold Ev mBool
  cases m S with
  | none => exact Iff.rfl
  | some x =>
    obtain ⟨r, S1⟩ := x
    cases r with
    | error e => exact Iff.rfl
    | ok r => cases r with
      | ref => exact Iff.rfl
      | tmp sh d => cases sh <;> cases d <;> exact Iff.rfl
@[simp] theorem e_and {a b : M Bool} : Ev (bAnd a b) S X QB ↔ Ev a S X fun t S1 => if t = true then Ev b S1 X QB else QB false S1 := by
  unfold Ev bAnd
  cases a S with
  | none => exact Iff.rfl
  | some x =>
    obtain ⟨r, S1⟩ := x
    cases r with
    | error e => exact Iff.rfl
    | ok t => cases t <;> simp
@[simp] theorem e_or {a b : M Bool} : Ev (bOr a b) S X QB ↔ Ev a S X fun t S1 => if t = true then QB true S1 else Ev b S1 X QB := by
  unfold Ev bOr
  cases a S with
  | none => exact Iff.rfl
  | some x =>
    obtain ⟨r, S1⟩ := x
    cases r with
    | error e => exact Iff.rfl
    | ok t => cases t <;> simp
@[simp] theorem e_not {a : M Bool} : Ev (bNot a) S X QB ↔ Ev a S X fun t S1 => QB (!t) S1 := by
  unfold Ev bNot
  cases a S with
  | none => exact Iff.rfl
  | some x =>
    obtain ⟨r, S1⟩ := x
    cases r <;> exact Iff.rfl
@[simp] theorem e_ofB {a : M Bool} : Ev (mOfB a) S X Q ↔ Ev a S X fun t S1 => Q (.tmp .fz (.bl t)) S1 := by
  unfold Ev mOfB
  cases a S with
  | none => exact Iff.rfl
  | some x =>
    obtain ⟨r, S1⟩ := x
    cases r <;> exact Iff.rfl
@[simp] theorem e_vnot {a : M Rv} : Ev (vNot a) S X Q ↔ Ev (mOfB (bNot (mBool a))) S X Q := by unfold Ev; exact Iff.rfl
@[simp] theorem e_vand {a b : M Rv} : Ev (vAnd a b) S X Q ↔ Ev (mBool a) S X fun t S1 => if t = true then Ev b S1 X Q else Q (.tmp .fz (.bl false)) S1 := by
  unfold Ev vAnd
  cases mBool a S with
  | none => exact Iff.rfl
  | some x =>
    obtain ⟨r, S1⟩ := x
    cases r with
    | error e => exact Iff.rfl
    | ok t => cases t <;> simp
@[simp] theorem e_vor {a b : M Rv} : Ev (vOr a b) S X Q ↔ Ev (mBool a) S X fun t S1 => if t = true then Q (.tmp .fz (.bl true)) S1 else Ev b S1 X Q := by
  unfold Ev vOr
  cases mBool a S with
  | none => exact Iff.rfl
  | some x =>
    obtain ⟨r, S1⟩ := x
    cases r with
    | error e => exact Iff.rfl
    | ok t => cases t <;> simp
@[simp] theorem e_if {c : M Bool} {a b : M Rv} : Ev (bIf c a b) S X Q ↔ Ev c S X fun t S1 => if t = true then Ev a S1 X Q else Ev b S1 X Q := by
  unfold Ev bIf
  cases c S with
  | none => exact Iff.rfl
  | some x =>
    obtain ⟨r, S1⟩ := x
    cases r with
    | error e => exact Iff.rfl
    | ok t => cases t <;> simp
@[simp] theorem e_yes : Ev bYes S X QB ↔ QB true S := by unfold Ev; exact Iff.rfl
@[simp] theorem e_tmps0 {c : Sh} : tmps c [] = some [] := (rfl)
@[simp] theorem e_tmps1 {c sh : Sh} {d : D} {rs : List Rv} : tmps c (.tmp sh d :: rs) = if fits c sh = true then consO d (tmps c rs) else none := by
  show (if fits c sh = true then _ else none) = _
  split
  · cases tmps c rs <;> rfl
  · rfl
@[simp] theorem e_tup {as : M (List Rv)} : Ev (mTup as) S X Q ↔ Ev as S X fun rs S1 => rs.length ≤ 1000 ∧ Evv (tmps .fz rs) fun ds => Q (.tmp .fz (.tup ds)) S1 := by
  unfold Ev mTup
  cases as S with
  | none => exact Iff.rfl
  | some x =>
    obtain ⟨r, S1⟩ := x
    cases r with
    | error e => exact Iff.rfl
    | ok rs =>
      by_cases h : rs.length ≤ 1000
      · simp only [if_pos h]
        cases tmps .fz rs <;> simp [h]
      · simp [h]
@[simp] theorem e_lst {c : Sh} {as : M (List Rv)} : Ev (mLst c as) S X Q ↔ Ev as S X fun rs S1 => rs.length ≤ 1000 ∧ Evv (tmps c rs) fun ds => Q (.tmp (.lst c) (.lst ds)) S1 := by
  unfold Ev mLst
  cases as S with
  | none => exact Iff.rfl
  | some x =>
    obtain ⟨r, S1⟩ := x
    cases r with
    | error e => exact Iff.rfl
    | ok rs =>
      by_cases h : rs.length ≤ 1000
      · simp only [if_pos h]
        cases tmps c rs <;> simp [h]
      · simp [h]
@[simp] theorem e_call {f : Fs} {as : M (List Rv)} : Ev (mCall f as) S X Q ↔ Ev as S X fun rs S1 => Eva (takeA rs S1) fun ads S2 => Ef f ads (fun e xs => X e (backA rs xs S2)) fun sh d xs => Q (.tmp sh d) (backA rs xs S2) := by
  unfold Ev mCall
  cases as S with
  | none => exact Iff.rfl
  | some x =>
    obtain ⟨r, S1⟩ := x
    cases r with
    | error e => exact Iff.rfl
    | ok rs =>
      simp only
      cases takeA rs S1 with
      | none => exact Iff.rfl
      | some y =>
        obtain ⟨ads, S2⟩ := y
        simp only [eva_s]
        unfold Ef
        cases f ads with
        | none => exact Iff.rfl
        | some z =>
          obtain ⟨r, xs⟩ := z
          cases r with
          | error e => exact Iff.rfl
          | ok sd => obtain ⟨sh, d⟩ := sd; exact Iff.rfl
@[simp] theorem e_take0 : takeA [] S = some ([], S) := (rfl)
def takeO (sd : Sh × D) : Option (List (Sh × D) × List Slot) → Option (List (Sh × D) × List Slot)
  | some (as, S) => some (sd :: as, S)
  | none => none
@[simp] theorem takeO_s {sd : Sh × D} {as : List (Sh × D)} {S : List Slot} : takeO sd (some (as, S)) = some (sd :: as, S) := (rfl)
@[simp] theorem e_takeT {sh : Sh} {d : D} {rs : List Rv} : takeA (.tmp sh d :: rs) S = takeO (sh, d) (takeA rs S) := by
  rw [takeA]
  generalize takeA rs S = k
  cases k with
  | none => rfl
  | some x => obtain ⟨a, b⟩ := x; rfl
def takeR (o : Option Slot) (k : Option (List (Sh × D) × List Slot)) : Option (List (Sh × D) × List Slot) := match o with
  | some (some sd) => takeO sd k
  | _ => none
@[simp] theorem takeR_s {sd : Sh × D} {k : Option (List (Sh × D) × List Slot)} : takeR (some (some sd)) k = takeO sd k := (rfl)
@[simp] theorem e_takeR {i : Nat} {rs : List Rv} : takeA (.ref i [] :: rs) S = takeR S[i]? (takeA rs (S.set i none)) := by
  rw [takeA]
  generalize takeA rs (S.set i none) = k
  cases S[i]? with
  | none => rfl
  | some x => cases x with
    | none => rfl
    | some sd =>
      simp only [takeR]
      cases k with
      | none => rfl
      | some x => obtain ⟨a, b⟩ := x; rfl
@[simp] theorem e_back0 {xs : List Slot} : backA [] xs S = S := by cases xs <;> rfl
@[simp] theorem e_backT {sh : Sh} {d : D} {rs : List Rv} {x : Slot} {xs : List Slot} : backA (.tmp sh d :: rs) (x :: xs) S = backA rs xs S := (rfl)
@[simp] theorem e_backR {i : Nat} {rs : List Rv} {sd : Sh × D} {xs : List Slot} : backA (.ref i [] :: rs) (some sd :: xs) S = backA rs xs (S.set i (some sd)) := (rfl)
/-- what an expression stands for -/
def Evx (r : Rv) (S : List Slot) (K : Sh → D → Prop) : Prop := match r.see S with
  | some (sh, d) => K sh d
  | none => False
theorem evx_congr {r r' : Rv} {S S' : List Slot} {K : Sh → D → Prop} (h : r = r') (h' : S = S') : Evx r S K = Evx r' S' K := by rw [h, h']
@[simp] theorem evx_t {sh : Sh} {d : D} {K : Sh → D → Prop} : Evx (.tmp sh d) S K ↔ K sh d := Iff.rfl
@[simp] theorem evx_r {i : Nat} {K : Sh → D → Prop} : Evx (.ref i []) S K ↔ Evl S[i]? K := by
  have h2 : (Rv.ref i []).see S = match S[i]? with
    | some (some sd) => some sd
    | _ => none := by
    show (match S[i]? with
      | some (some sd) => pathD sd []
      | _ => none) = _
    cases S[i]? with
    | none => rfl
    | some x => cases x <;> rfl
  unfold Evx
  rw [h2]
  cases S[i]? with
  | none => exact Iff.rfl
  | some x => cases x <;> exact Iff.rfl
@[simp] theorem e_recv {T : String} {m : M Rv} : Ev (mRecv T m) S X Q ↔ Ev m S X fun r S1 => Evx r S1 fun sh d => shOk sh = true ∧ tyM d = some T ∧ Q r S1 := by
  unfold Ev mRecv
  cases m S with
  | none => exact Iff.rfl
  | some x =>
    obtain ⟨r, S1⟩ := x
    cases r with
    | error e => exact Iff.rfl
    | ok rv =>
      simp only [Evx]
      cases rv.see S1 with
      | none => exact Iff.rfl
      | some y =>
        obtain ⟨sh, d⟩ := y
        by_cases h1 : shOk sh = true
        · by_cases h2 : tyM d = some T
          · simp [h1, h2]
          · simp [h1, h2]
        · simp [h1]
def Evp (sh : Sh) (d : D) (K : Sh → List D → Prop) : Prop := match sh, d with
  | .lst c, .lst ds => K c ds
  | _, _ => False
@[simp] theorem evp_e {c : Sh} {ds : List D} {K : Sh → List D → Prop} : Evp (.lst c) (.lst ds) K ↔ K c ds := Iff.rfl
theorem evp_congr {sh sh' : Sh} {d d' : D} {K : Sh → List D → Prop} (h : sh = sh') (h' : d = d') : Evp sh d K = Evp sh' d' K := by rw [h, h']
def Eap (rs : List Rv) (S1 : List Slot) (Q : Rv → List Slot → Prop) : Prop := match rs with
  | [.ref i [], .tmp sh d] => Evl S1[i]? fun sh' d' => Evp sh' d' fun c ds => fits c sh = true ∧ ds.length < sizeLine ∧ Q (.tmp .fz .non) (S1.set i (some (.lst c, .lst (ds ++ [d]))))
  | _ => False
theorem eap_congr {rs rs' : List Rv} {S1 S2 : List Slot} {Q : Rv → List Slot → Prop} (h : rs = rs') (h' : S1 = S2) : Eap rs S1 Q = Eap rs' S2 Q := by rw [h, h']
@[simp] theorem eap_e {i : Nat} {sh : Sh} {d : D} : Eap [.ref i [], .tmp sh d] S1 Q ↔ Evl S1[i]? fun sh' d' => Evp sh' d' fun c ds => fits c sh = true ∧ ds.length < sizeLine ∧ Q (.tmp .fz .non) (S1.set i (some (.lst c, .lst (ds ++ [d])))) := Iff.rfl
@[simp] theorem e_append {as : M (List Rv)} : Ev (mAppend as) S X Q ↔ Ev as S X fun rs S1 => Eap rs S1 Q := by
  unfold Ev mAppend
  cases as S with
  | none => exact Iff.rfl
  | some x =>
    obtain ⟨r, S1⟩ := x
    cases r with
    | error e => exact Iff.rfl
    | ok rs =>
      cases rs with
      | nil => exact Iff.rfl
      | cons r rs => cases r with
        | tmp => exact Iff.rfl
        | ref i p => cases p with
          | cons => exact Iff.rfl
          | nil => cases rs with
            | nil => exact Iff.rfl
            | cons r2 rs => cases r2 with
              | ref => exact Iff.rfl
              | tmp sh d => cases rs with
                | cons => exact Iff.rfl
                | nil =>
                  simp only [Eap]
                  cases S1[i]? with
                  | none => exact Iff.rfl
                  | some y => cases y with
                    | none => exact Iff.rfl
                    | some z =>
                      obtain ⟨sh2, d2⟩ := z
                      cases sh2 <;> cases d2 <;> try exact Iff.rfl
                      rename_i c ds
                      simp only [evl_s, evp_e]
                      by_cases h1 : fits c sh = true
                      · by_cases h2 : ds.length < sizeLine
                        · simp [h1, h2]
                        · simp [h1, h2]
                      · simp [h1]
@[simp] theorem tyM_lst {ds : List D} : tyM (.lst ds) = some "list" := (rfl)
@[simp] theorem tyM_str {ds : List Nat} : tyM (.str ds) = some "str" := (rfl)
@[simp] theorem shOk_fz : shOk .fz = true := (rfl)
@[simp] theorem shOk_lst {c : Sh} : shOk (.lst c) = true := (rfl)
@[simp] theorem noB_e {i : Nat} : noB i = false := (rfl)
@[simp] theorem e_iseq {m : M Rv} : Ev (iSeq m) S X QI ↔ Ev m S X fun r S1 => Evs r fun ds => QI ds S1 := by
  unfold Ev iSeq
  cases m S with
  | none => exact Iff.rfl
  | some x =>
    obtain ⟨r, S1⟩ := x
    cases r with
    | error e => exact Iff.rfl
    | ok r => cases r with
      | ref => exact Iff.rfl
      | tmp sh d =>
        cases d <;> try exact Iff.rfl
        · by_cases h : sh.whole = true
          · simp [h]
          · simp [h]
        · by_cases h : sh.whole = true
          · simp [h]
          · simp [h]
@[simp] theorem e_irng {m : M (List Rv)} : Ev (iRng m) S X QI ↔ Ev m S X fun rs S1 => Evr (seeAll S1 rs) fun ds => QI ds S1 := by
  unfold Ev iRng
  cases m S with
  | none => exact Iff.rfl
  | some x =>
    obtain ⟨r, S1⟩ := x
    cases r with
    | error e => exact Iff.rfl
    | ok rs =>
      simp only [Evr]
      generalize seeAll S1 rs = o
      cases o with
      | none => exact Iff.rfl
      | some l => cases l with
        | nil => exact Iff.rfl
        | cons x l => cases x <;> try exact Iff.rfl
                      cases l with
                      | nil =>
                        rename_i j
                        by_cases h : okRg j = true
                        · simp [h]
                        · simp only [if_neg h, h]; simp
                      | cons y l => cases y <;> try exact Iff.rfl
                                    cases l with
                                    | cons => exact Iff.rfl
                                    | nil =>
                                      rename_i i j
                                      by_cases h : okRg i = true ∧ okRg j = true
                                      · simp only [if_pos h]; simp only [h.1, h.2, true_and]
                                      · simp only [if_neg h]
                                        exact ⟨fun x => x.elim, fun x => h ⟨x.1, x.2.1⟩⟩
@[simp] theorem bind_nm {B : Bw} {i : Nat} {d : D} : bindT B (.nm i) d S = if B i = true then none else if i < S.length then some (S.set i (some (.fz, d))) else none := (rfl)
@[simp] theorem keep0 {B : Bw} {j : Nat} : keepB B j [] = [] := (rfl)
@[simp] theorem keep1 {B : Bw} {j : Nat} {x : Slot} : keepB B j (x :: S) = (if B j = true then x else none) :: keepB B (j + 1) S := (rfl)
@[simp] theorem noX_e {e : Exc} : noX e S = False := (rfl)
end
end
end Dt

/-! Places, ranges, equality, comprehensions. -/
namespace Dt
noncomputable section
open PySem PySem.Spec PyProof.Rows L2

@[simp] theorem atI_nn {α : Type} {xs : List α} {i : Int} (h : 0 ≤ i) : L2.atI xs i = xs[i.toNat]? := by
  unfold L2.atI L2.ixN
  rw [if_pos h]
  by_cases h1 : i < xs.length
  · rw [if_pos h1]; rfl
  · rw [if_neg h1, List.getElem?_eq_none (by omega)]; rfl
@[simp] theorem atI_cast {α : Type} {xs : List α} {k : Nat} : L2.atI xs (k : Int) = xs[k]? := by rw [atI_nn (by omega)]; simp
@[simp] theorem range_get {lo : Int} {n k : Nat} : (rangeD lo n)[k]? = if k < n then some (.int (lo + k)) else none := by
  unfold rangeD
  rw [List.getElem?_map]
  by_cases h : k < n
  · rw [List.getElem?_range h, if_pos h]; rfl
  · rw [List.getElem?_eq_none (by simpa using h), if_neg h]; rfl
@[simp] theorem range_len {lo : Int} {n : Nat} : (rangeD lo n).length = n := by simp [rangeD]
theorem mem_range {d : D} {lo : Int} {n : Nat} : d ∈ rangeD lo n ↔ ∃ k : Nat, k < n ∧ d = .int (lo + k) := by
  unfold rangeD
  simp only [List.mem_map, List.mem_range]
  constructor
  · rintro ⟨k, h, rfl⟩; exact ⟨k, h, rfl⟩
  · rintro ⟨k, h, rfl⟩; exact ⟨k, h, rfl⟩
theorem okRg_of {i : Int} (h1 : -4611686018427387904 ≤ i) (h2 : i < 4611686018427387904) : okRg i = true := by
  unfold okRg
  exact decide_eq_true ⟨h1, h2⟩
@[simp] theorem okRg_e {i : Int} : okRg i = true ↔ -4611686018427387904 ≤ i ∧ i < 4611686018427387904 := by
  unfold okRg
  exact decide_eq_true_iff
theorem okRg_nat {n : Nat} (h : n ≤ 1000000) : okRg (n : Int) = true := okRg_of (by omega) (by omega)

/-! equality of data without truth values -/
def okS (x : List Nat) : Bool := x.all (· < 0x110000)
mutual
def pl : Nat → D → Bool
  | 0, _ => false
  | _ + 1, .non => true
  | _ + 1, .int _ => true
  | _ + 1, .str x => okS x
  | n + 1, .tup xs => pls n xs
  | n + 1, .lst xs => pls n xs
  | _ + 1, _ => false
def pls : Nat → List D → Bool
  | _, [] => true
  | n, x :: xs => pl n x && pls n xs
end
theorem pls_iff {n : Nat} : ∀ {xs : List D}, pls n xs = true ↔ ∀ x ∈ xs, pl n x = true
  | [] => by simp [pls]
  | x :: xs => by simp [pls, pls_iff (xs := xs)]
mutual
theorem pl_py : ∀ {n : Nat} {d : D}, pl n d = true → ∃ p, d.py = some p ∧ p.canLay0 = true ∧ p.depth ≤ n
  | 0, _, h => by simp [pl] at h
  | n + 1, .non, h => ⟨_, rfl, rfl, by simp [PyData.depth]⟩
  | n + 1, .int i, h => ⟨_, rfl, rfl, by simp [PyData.depth]⟩
  | n + 1, .str x, h => ⟨_, rfl, by simpa [PyData.canLay0, PyData.strOk, pl, okS] using h, by simp [PyData.depth]⟩
  | n + 1, .tup xs, h => by
    obtain ⟨ps, e, c, d⟩ := pls_py (n := n) (xs := xs) (by simpa [pl] using h)
    exact ⟨.tuple ps, by simp [D.py, e], by simpa [PyData.canLay0] using c, by simp [PyData.depth]; omega⟩
  | n + 1, .lst xs, h => by
    obtain ⟨ps, e, c, d⟩ := pls_py (n := n) (xs := xs) (by simpa [pl] using h)
    exact ⟨.list ps, by simp [D.py, e], by simpa [PyData.canLay0] using c, by simp [PyData.depth]; omega⟩
  | n + 1, .bl _, h => by simp [pl] at h
  | n + 1, .dct _, h => by simp [pl] at h
  | n + 1, .set _, h => by simp [pl] at h
  | n + 1, .ins _ _, h => by simp [pl] at h
  | n + 1, .ty _, h => by simp [pl] at h
  | n + 1, .cls _, h => by simp [pl] at h
theorem pls_py : ∀ {n : Nat} {xs : List D}, pls n xs = true → ∃ ps, D.pys xs = some ps ∧ PyData.canLayAll0 ps = true ∧ PyData.depthAll ps ≤ n
  | n, [], h => ⟨[], rfl, rfl, by simp [PyData.depthAll]⟩
  | n, x :: xs, h => by
    simp only [pls, Bool.and_eq_true] at h
    obtain ⟨p, e1, c1, d1⟩ := pl_py h.1
    obtain ⟨ps, e2, c2, d2⟩ := pls_py h.2
    exact ⟨p :: ps, by simp [D.pys, e1, e2], by simp [PyData.canLayAll0, c1, c2], by simp [PyData.depthAll]; omega⟩
end
mutual
theorem eqv_pl : ∀ {n m : Nat} {a b : D} {p p' : PyData}, pl n a = true → pl m b = true → a.py = some p → b.py = some p' → (PyData.eqv p p' = true ↔ a = b)
  | 0, _, _, _, _, _, h, _, _, _ => by simp [pl] at h
  | _ + 1, 0, _, _, _, _, _, h, _, _ => by simp [pl] at h
  | n + 1, m + 1, .tup xs, .tup ys, p, p', h, h', e, e' => by
    obtain ⟨ps, e1, _⟩ := pls_py (n := n) (xs := xs) (by simpa [pl] using h)
    obtain ⟨qs, e2, _⟩ := pls_py (n := m) (xs := ys) (by simpa [pl] using h')
    simp only [D.py, e1, e2, Option.some.injEq] at e e'
    subst e; subst e'
    have := eqvs_pl (n := n) (m := m) (xs := xs) (ys := ys) (by simpa [pl] using h) (by simpa [pl] using h') e1 e2
    simpa [PyData.eqv] using this
  | n + 1, m + 1, .lst xs, .lst ys, p, p', h, h', e, e' => by
    obtain ⟨ps, e1, _⟩ := pls_py (n := n) (xs := xs) (by simpa [pl] using h)
    obtain ⟨qs, e2, _⟩ := pls_py (n := m) (xs := ys) (by simpa [pl] using h')
    simp only [D.py, e1, e2, Option.some.injEq] at e e'
    subst e; subst e'
    have := eqvs_pl (n := n) (m := m) (xs := xs) (ys := ys) (by simpa [pl] using h) (by simpa [pl] using h') e1 e2
    simpa [PyData.eqv] using this
  | n + 1, m + 1, .tup xs, .non, p, p', h, h', e, e' => by
    obtain ⟨ps, e1, _⟩ := pls_py (n := n) (xs := xs) (by simpa [pl] using h)
    simp only [D.py, e1, Option.some.injEq] at e e'; subst e; subst e'; simp [PyData.eqv]
  | n + 1, m + 1, .tup xs, .int _, p, p', h, h', e, e' => by
    obtain ⟨ps, e1, _⟩ := pls_py (n := n) (xs := xs) (by simpa [pl] using h)
    simp only [D.py, e1, Option.some.injEq] at e e'; subst e; subst e'; simp [PyData.eqv]
  | n + 1, m + 1, .tup xs, .str _, p, p', h, h', e, e' => by
    obtain ⟨ps, e1, _⟩ := pls_py (n := n) (xs := xs) (by simpa [pl] using h)
    simp only [D.py, e1, Option.some.injEq] at e e'; subst e; subst e'; simp [PyData.eqv]
  | n + 1, m + 1, .tup xs, .lst ys, p, p', h, h', e, e' => by
    obtain ⟨ps, e1, _⟩ := pls_py (n := n) (xs := xs) (by simpa [pl] using h)
    obtain ⟨qs, e2, _⟩ := pls_py (n := m) (xs := ys) (by simpa [pl] using h')
    simp only [D.py, e1, e2, Option.some.injEq] at e e'; subst e; subst e'; simp [PyData.eqv]
  | n + 1, m + 1, .lst xs, .non, p, p', h, h', e, e' => by
    obtain ⟨ps, e1, _⟩ := pls_py (n := n) (xs := xs) (by simpa [pl] using h)
    simp only [D.py, e1, Option.some.injEq] at e e'; subst e; subst e'; simp [PyData.eqv]
  | n + 1, m + 1, .lst xs, .int _, p, p', h, h', e, e' => by
    obtain ⟨ps, e1, _⟩ := pls_py (n := n) (xs := xs) (by simpa [pl] using h)
    simp only [D.py, e1, Option.some.injEq] at e e'; subst e; subst e'; simp [PyData.eqv]
  | n + 1, m + 1, .lst xs, .str _, p, p', h, h', e, e' => by
    obtain ⟨ps, e1, _⟩ := pls_py (n := n) (xs := xs) (by simpa [pl] using h)
    simp only [D.py, e1, Option.some.injEq] at e e'; subst e; subst e'; simp [PyData.eqv]
  | n + 1, m + 1, .lst xs, .tup ys, p, p', h, h', e, e' => by
    obtain ⟨ps, e1, _⟩ := pls_py (n := n) (xs := xs) (by simpa [pl] using h)
    obtain ⟨qs, e2, _⟩ := pls_py (n := m) (xs := ys) (by simpa [pl] using h')
    simp only [D.py, e1, e2, Option.some.injEq] at e e'; subst e; subst e'; simp [PyData.eqv]
  | n + 1, m + 1, .non, .tup ys, p, p', h, h', e, e' => by
    obtain ⟨qs, e2, _⟩ := pls_py (n := m) (xs := ys) (by simpa [pl] using h')
    simp only [D.py, e2, Option.some.injEq] at e e'; subst e; subst e'; simp [PyData.eqv]
  | n + 1, m + 1, .int _, .tup ys, p, p', h, h', e, e' => by
    obtain ⟨qs, e2, _⟩ := pls_py (n := m) (xs := ys) (by simpa [pl] using h')
    simp only [D.py, e2, Option.some.injEq] at e e'; subst e; subst e'; simp [PyData.eqv]
  | n + 1, m + 1, .str _, .tup ys, p, p', h, h', e, e' => by
    obtain ⟨qs, e2, _⟩ := pls_py (n := m) (xs := ys) (by simpa [pl] using h')
    simp only [D.py, e2, Option.some.injEq] at e e'; subst e; subst e'; simp [PyData.eqv]
  | n + 1, m + 1, .non, .lst ys, p, p', h, h', e, e' => by
    obtain ⟨qs, e2, _⟩ := pls_py (n := m) (xs := ys) (by simpa [pl] using h')
    simp only [D.py, e2, Option.some.injEq] at e e'; subst e; subst e'; simp [PyData.eqv]
  | n + 1, m + 1, .int _, .lst ys, p, p', h, h', e, e' => by
    obtain ⟨qs, e2, _⟩ := pls_py (n := m) (xs := ys) (by simpa [pl] using h')
    simp only [D.py, e2, Option.some.injEq] at e e'; subst e; subst e'; simp [PyData.eqv]
  | n + 1, m + 1, .str _, .lst ys, p, p', h, h', e, e' => by
    obtain ⟨qs, e2, _⟩ := pls_py (n := m) (xs := ys) (by simpa [pl] using h')
    simp only [D.py, e2, Option.some.injEq] at e e'; subst e; subst e'; simp [PyData.eqv]
  | n + 1, m + 1, .non, .non, p, p', h, h', e, e' => by cases e; cases e'; simp [PyData.eqv]
  | n + 1, m + 1, .non, .int _, p, p', h, h', e, e' => by cases e; cases e'; simp [PyData.eqv]
  | n + 1, m + 1, .non, .str _, p, p', h, h', e, e' => by cases e; cases e'; simp [PyData.eqv]
  | n + 1, m + 1, .int _, .non, p, p', h, h', e, e' => by cases e; cases e'; simp [PyData.eqv]
  | n + 1, m + 1, .int _, .int _, p, p', h, h', e, e' => by cases e; cases e'; simp [PyData.eqv]
  | n + 1, m + 1, .int _, .str _, p, p', h, h', e, e' => by cases e; cases e'; simp [PyData.eqv]
  | n + 1, m + 1, .str _, .non, p, p', h, h', e, e' => by cases e; cases e'; simp [PyData.eqv]
  | n + 1, m + 1, .str _, .int _, p, p', h, h', e, e' => by cases e; cases e'; simp [PyData.eqv]
  | n + 1, m + 1, .str _, .str _, p, p', h, h', e, e' => by cases e; cases e'; simp [PyData.eqv]
  | n + 1, m + 1, .bl _, _, p, p', h, h', e, e' => by simp [pl] at h
  | n + 1, m + 1, .dct _, _, p, p', h, h', e, e' => by simp [pl] at h
  | n + 1, m + 1, .set _, _, p, p', h, h', e, e' => by simp [pl] at h
  | n + 1, m + 1, .ins _ _, _, p, p', h, h', e, e' => by simp [pl] at h
  | n + 1, m + 1, .ty _, _, p, p', h, h', e, e' => by simp [pl] at h
  | n + 1, m + 1, .cls _, _, p, p', h, h', e, e' => by simp [pl] at h
  | n + 1, m + 1, _, .bl _, p, p', h, h', e, e' => by simp [pl] at h'
  | n + 1, m + 1, _, .dct _, p, p', h, h', e, e' => by simp [pl] at h'
  | n + 1, m + 1, _, .set _, p, p', h, h', e, e' => by simp [pl] at h'
  | n + 1, m + 1, _, .ins _ _, p, p', h, h', e, e' => by simp [pl] at h'
  | n + 1, m + 1, _, .ty _, p, p', h, h', e, e' => by simp [pl] at h'
  | n + 1, m + 1, _, .cls _, p, p', h, h', e, e' => by simp [pl] at h'
theorem eqvs_pl : ∀ {n m : Nat} {xs ys : List D} {ps ps' : List PyData}, pls n xs = true → pls m ys = true → D.pys xs = some ps → D.pys ys = some ps' → (PyData.eqvAll ps ps' = true ↔ xs = ys)
  | _, _, [], [], _, _, _, _, e, e' => by cases e; cases e'; simp [PyData.eqvAll]
  | n, m, [], y :: ys, _, _, h, h', e, e' => by
    cases e
    simp only [pls, Bool.and_eq_true] at h'
    obtain ⟨p, e1, _⟩ := pl_py h'.1
    obtain ⟨qs, e2, _⟩ := pls_py h'.2
    simp only [D.pys, e1, e2, Option.some.injEq] at e'
    subst e'; simp [PyData.eqvAll]
  | n, m, x :: xs, [], _, _, h, h', e, e' => by
    cases e'
    simp only [pls, Bool.and_eq_true] at h
    obtain ⟨p, e1, _⟩ := pl_py h.1
    obtain ⟨qs, e2, _⟩ := pls_py h.2
    simp only [D.pys, e1, e2, Option.some.injEq] at e
    subst e; simp [PyData.eqvAll]
  | n, m, x :: xs, y :: ys, _, _, h, h', e, e' => by
    simp only [pls, Bool.and_eq_true] at h h'
    obtain ⟨p, e1, _⟩ := pl_py h.1
    obtain ⟨ps, e2, _⟩ := pls_py h.2
    obtain ⟨q, e3, _⟩ := pl_py h'.1
    obtain ⟨qs, e4, _⟩ := pls_py h'.2
    simp only [D.pys, e1, e2, e3, e4, Option.some.injEq] at e e'
    subst e; subst e'
    simp only [PyData.eqvAll, Bool.and_eq_true, eqv_pl h.1 h'.1 e1 e3, eqvs_pl h.2 h'.2 e2 e4, List.cons.injEq]
end
open Classical in
theorem eqB_pl {n m : Nat} {a b : D} (ha : pl n a = true) (hb : pl m b = true) (hn : n ≤ 64) (hm : m ≤ 64) : eqB a b = some (decide (a = b)) := by
  obtain ⟨p, e1, c1, d1⟩ := pl_py ha
  obtain ⟨q, e2, c2, d2⟩ := pl_py hb
  unfold eqB
  simp only [e1, e2]
  have s1 : SeqAt.shaped p = true := by simp [SeqAt.shaped, c1]; omega
  have s2 : SeqAt.shaped q = true := by simp [SeqAt.shaped, c2]; omega
  rw [if_pos ⟨s1, s2⟩]
  congr 1
  have := eqv_pl ha hb e1 e2
  by_cases h : a = b
  · rw [this.mpr h]; simp [h]
  · have : ¬ PyData.eqv p q = true := fun x => h (this.mp x)
    simp [h]; simpa using this
@[simp] theorem eqF_int {i j : Int} : eqF (.int i) (.int j) = some (.fz, .bl (decide (i = j))) := by
  unfold eqF
  rw [eqB_pl (n := 1) (m := 1) rfl rfl (by omega) (by omega)]
  by_cases h : i = j
  · simp [h]
  · simp [h]
@[simp] theorem neF_int {i j : Int} : neF (.int i) (.int j) = some (.fz, .bl (!decide (i = j))) := by
  unfold neF
  rw [eqB_pl (n := 1) (m := 1) rfl rfl (by omega) (by omega)]
  by_cases h : i = j
  · simp [h]
  · simp [h]
theorem eqF_str {x y : List Nat} (hx : okS x = true) (hy : okS y = true) : eqF (.str x) (.str y) = some (.fz, .bl (decide (x = y))) := by
  unfold eqF
  rw [eqB_pl (n := 1) (m := 1) (by simpa [pl] using hx) (by simpa [pl] using hy) (by omega) (by omega)]
  by_cases h : x = y
  · simp [h]
  · simp [h]
theorem neF_str {x y : List Nat} (hx : okS x = true) (hy : okS y = true) : neF (.str x) (.str y) = some (.fz, .bl (!decide (x = y))) := by
  unfold neF
  rw [eqB_pl (n := 1) (m := 1) (by simpa [pl] using hx) (by simpa [pl] using hy) (by omega) (by omega)]
  by_cases h : x = y
  · simp [h]
  · simp [h]
@[simp] theorem eqF_bl {b c : Bool} : eqF (.bl b) (.bl c) = some (.fz, .bl (b == c)) := by
  cases b <;> cases c <;> rfl
@[simp] theorem neF_bl {b c : Bool} : neF (.bl b) (.bl c) = some (.fz, .bl (!(b == c))) := by
  cases b <;> cases c <;> rfl

/-! comprehensions -/
theorem lc_inv {vs : List Nat} {t : Tg} {tt : M Bool} {me : M Rv} {c : Sh} (J : List Slot → Prop) (p : D → Bool) (g : D → D) : ∀ {ds acc : List D} {S : List Slot}, J S →
    (∀ d ∈ ds, ∀ S, J S → ∃ S1 S2, bindT noB t d S = some S1 ∧ tt S1 = some (.ok (p d), S2) ∧ (p d = true → ∃ sh S3, me S2 = some (.ok (.tmp sh (g d)), S3) ∧ fits c sh = true ∧ J (wipeS S3 vs)) ∧ (p d = false → J (wipeS S2 vs))) →
    ∃ S', lcN vs t tt me c ds acc S = some (acc ++ (ds.filter p).map g, S') ∧ J S'
  | [], acc, S, hJ, _ => ⟨S, by simp [lcN], hJ⟩
  | d :: ds, acc, S, hJ, st => by
    obtain ⟨S1, S2, e1, e2, h1, h2⟩ := st d (by simp) S hJ
    unfold lcN
    simp only [e1, e2]
    cases hp : p d with
    | false =>
      obtain ⟨S', e, hJ'⟩ := lc_inv J p g (ds := ds) (acc := acc) (h2 hp) fun d hd => st d (by simp [hd])
      exact ⟨S', by simp [hp, e], hJ'⟩
    | true =>
      obtain ⟨sh, S3, e3, hf, hJ3⟩ := h1 hp
      obtain ⟨S', e, hJ'⟩ := lc_inv J p g (ds := ds) (acc := acc ++ [g d]) hJ3 fun d hd => st d (by simp [hd])
      exact ⟨S', by simp [hp, e3, hf, e], hJ'⟩
/-- a comprehension whose turns leave the slots as they are -/
theorem lc_fix {vs : List Nat} {t : Tg} {mi : M (List D)} {tt : M Bool} {me : M Rv} {c : Sh} {S S1 : List Slot} {ds : List D} (p : D → Bool) (g : D → D) (hm : mi S = some (.ok ds, S1)) (hl : ds.length ≤ sizeLine)
    (st : ∀ d ∈ ds, ∃ S2 S3, bindT noB t d (wipeS S1 vs) = some S2 ∧ tt S2 = some (.ok (p d), S3) ∧ (p d = true → ∃ sh S4, me S3 = some (.ok (.tmp sh (g d)), S4) ∧ fits c sh = true ∧ wipeS S4 vs = wipeS S1 vs) ∧ (p d = false → wipeS S3 vs = wipeS S1 vs)) :
    mLc vs t mi tt me c S = some (.ok (.tmp (.lst c) (.lst ((ds.filter p).map g))), restS S1 (wipeS S1 vs) vs) := by
  obtain ⟨S', e, hJ⟩ := lc_inv (vs := vs) (t := t) (tt := tt) (me := me) (c := c) (fun S' => S' = wipeS S1 vs) p g (ds := ds) (acc := []) rfl (fun d hd S hS => by subst hS; exact st d hd)
  subst hJ
  unfold mLc
  simp only [hm, if_pos hl, e, List.nil_append]
/-- the same, as simp meets it -/
theorem ev_lc {vs : List Nat} {t : Tg} {mi : M (List D)} {tt : M Bool} {me : M Rv} {c : Sh} {S : List Slot} {X : XP} {Q : Rv → List Slot → Prop} (p : D → Bool) (g : D → D)
    (h : Ev mi S X fun ds S1 => ds.length ≤ sizeLine ∧
        (∀ d ∈ ds, ∃ S2, bindT noB t d (wipeS S1 vs) = some S2 ∧ Ev tt S2 noX fun b S3 => b = p d ∧ (p d = true → Ev me S3 noX fun r S4 => Tmp r fun sh x => x = g d ∧ fits c sh = true ∧ wipeS S4 vs = wipeS S1 vs) ∧ (p d = false → wipeS S3 vs = wipeS S1 vs)) ∧
        Q (.tmp (.lst c) (.lst ((ds.filter p).map g))) (restS S1 (wipeS S1 vs) vs)) : Ev (mLc vs t mi tt me c) S X Q := by
  rcases h.ex with ⟨e, S1, h1, h2⟩ | ⟨ds, S1, h1, hl, st, q⟩
  · refine (Ev.err (x := e) (S1 := S1) ?_).mpr h2
    unfold mLc
    simp only [h1]
  · refine (Ev.ok (lc_fix (vs := vs) (t := t) (tt := tt) (me := me) (c := c) p g h1 hl fun d hd => ?_)).mpr q
    obtain ⟨S2, e2, h2⟩ := st d hd
    rcases h2.ex with ⟨_, _, _, h⟩ | ⟨b, S3, e3, rfl, h3, h4⟩
    · exact h.elim
    refine ⟨S2, S3, e2, e3, fun hp => ?_, h4⟩
    rcases (h3 hp).ex with ⟨_, _, _, h⟩ | ⟨r, S4, e4, h5⟩
    · exact h.elim
    cases r with
    | ref => exact h5.elim
    | tmp sh x =>
      obtain ⟨rfl, hf, hw⟩ := h5
      exact ⟨_, S4, e4, hf, hw⟩
@[simp] theorem wipe0 {S : List Slot} : wipeS S [] = S := (rfl)
@[simp] theorem wipe1 {S : List Slot} {v : Nat} {vs : List Nat} : wipeS S (v :: vs) = (wipeS S vs).set v none := (rfl)
@[simp] theorem rest0 {S S' : List Slot} : restS S S' [] = S' := (rfl)
@[simp] theorem rest1 {S S' : List Slot} {v : Nat} {vs : List Nat} : restS S S' (v :: vs) = (restS S S' vs).set v (S.getD v none) := (rfl)
/-- a comprehension whose items keep P -/
theorem lc_all {vs : List Nat} {t : Tg} {tt : M Bool} {me : M Rv} {c : Sh} (J : List Slot → Prop) (P : D → Prop) : ∀ {ds acc : List D} {S : List Slot}, J S → (∀ x ∈ acc, P x) →
    (∀ d ∈ ds, ∀ S, J S → ∃ S1, bindT noB t d S = some S1 ∧ Ev tt S1 noX fun b S2 => (b = true → Ev me S2 noX fun r S3 => Tmp r fun sh x => P x ∧ fits c sh = true ∧ J (wipeS S3 vs)) ∧ (b = false → J (wipeS S2 vs))) →
    ∃ xs S', lcN vs t tt me c ds acc S = some (xs, S') ∧ J S' ∧ (∀ x ∈ xs, P x) ∧ xs.length ≤ acc.length + ds.length
  | [], acc, S, hJ, hP, _ => ⟨acc, S, by simp [lcN], hJ, hP, by simp⟩
  | d :: ds, acc, S, hJ, hP, st => by
    obtain ⟨S1, e1, h1⟩ := st d (by simp) S hJ
    rcases h1.ex with ⟨_, _, _, h⟩ | ⟨b, S2, e2, h2, h3⟩
    · exact h.elim
    unfold lcN
    simp only [e1, e2]
    cases b with
    | false =>
      obtain ⟨xs, S', e, hJ', hx, hl⟩ := lc_all J P (ds := ds) (acc := acc) (h3 rfl) hP fun d hd => st d (by simp [hd])
      exact ⟨xs, S', by simp [e], hJ', hx, by simp; omega⟩
    | true =>
      rcases (h2 rfl).ex with ⟨_, _, _, h⟩ | ⟨r, S3, e3, h4⟩
      · exact h.elim
      cases r with
      | ref => exact h4.elim
      | tmp sh x =>
        obtain ⟨px, hf, hJ3⟩ := h4
        obtain ⟨xs, S', e, hJ', hx, hl⟩ := lc_all J P (ds := ds) (acc := acc ++ [x]) hJ3 (fun y hy => by
          rcases List.mem_append.mp hy with h | h
          · exact hP y h
          · simp at h; subst h; exact px) fun d hd => st d (by simp [hd])
        exact ⟨xs, S', by simp [e3, hf, e], hJ', hx, by simp at hl ⊢; omega⟩
theorem ev_lcE {vs : List Nat} {t : Tg} {mi : M (List D)} {tt : M Bool} {me : M Rv} {c : Sh} {S : List Slot} {X : XP} {Q : Rv → List Slot → Prop} (P : D → Prop)
    (h : Ev mi S X fun ds S1 => ds.length ≤ sizeLine ∧
        (∀ d ∈ ds, ∃ S2, bindT noB t d (wipeS S1 vs) = some S2 ∧ Ev tt S2 noX fun b S3 => (b = true → Ev me S3 noX fun r S4 => Tmp r fun sh x => P x ∧ fits c sh = true ∧ wipeS S4 vs = wipeS S1 vs) ∧ (b = false → wipeS S3 vs = wipeS S1 vs)) ∧
        ∀ xs : List D, (∀ x ∈ xs, P x) → xs.length ≤ ds.length → Q (.tmp (.lst c) (.lst xs)) (restS S1 (wipeS S1 vs) vs)) : Ev (mLc vs t mi tt me c) S X Q := by
  rcases h.ex with ⟨e, S1, h1, h2⟩ | ⟨ds, S1, h1, hl, st, q⟩
  · refine (Ev.err (x := e) (S1 := S1) ?_).mpr h2
    unfold mLc
    simp only [h1]
  · obtain ⟨xs, S', e2, rfl, hx, hlx⟩ := lc_all (vs := vs) (t := t) (tt := tt) (me := me) (c := c) (fun S' => S' = wipeS S1 vs) P (ds := ds) (acc := []) rfl (by simp) (fun d hd S hS => by
      subst hS
      exact st d hd)
    refine (Ev.ok (r := .tmp (.lst c) (.lst xs)) (S1 := restS S1 (wipeS S1 vs) vs) ?_).mpr (q xs hx (by simpa using hlx))
    unfold mLc
    simp only [h1, if_pos hl, e2]
theorem sizeLine_le {n : Nat} (h : n ≤ 16777216) : n ≤ sizeLine := h
theorem sizeLine_lt {n : Nat} (h : n < 16777216) : n < sizeLine := h
theorem sortOk_str {xs : List D} (h : ∀ x ∈ xs, ∃ w, x = .str w) (hl : xs.length ≤ sizeLine) : sortOk xs = true := by
  have key : ∀ xs : List D, (∀ x ∈ xs, ∃ w, x = .str w) → ∃ ps, D.pys xs = some ps ∧ ∀ p ∈ ps, ∃ y, p = PyData.str y := fun xs => by
    induction xs with
    | nil => exact fun _ => ⟨[], rfl, by simp⟩
    | cons x xs ih =>
      intro h
      obtain ⟨ps, e, hp⟩ := ih fun y hy => h y (by simp [hy])
      obtain ⟨w, rfl⟩ := h x (by simp)
      exact ⟨_, by simp only [D.pys, D.py, e]; rfl, by
        intro p hp'
        rcases List.mem_cons.mp hp' with rfl | hp'
        · exact ⟨_, rfl⟩
        · exact hp p hp'⟩
  obtain ⟨ps, e, hp⟩ := key xs h
  unfold sortOk
  rw [e]
  simp only [Bool.and_eq_true, List.all_eq_true, decide_eq_true_eq]
  refine ⟨⟨⟨fun d hd d' hd' => ?_, ?_⟩, hl⟩, fun d hd => ?_⟩
  · obtain ⟨y, rfl⟩ := hp d hd; obtain ⟨y', rfl⟩ := hp d' hd'; rfl
  · unfold sortable
    rw [Bool.or_eq_true]
    refine .inr (List.all_eq_true.mpr fun d hd => ?_)
    obtain ⟨y, rfl⟩ := hp d hd
    rfl
  · obtain ⟨y, rfl⟩ := hp d hd
    show (0 : Nat) ≤ 60
    decide
theorem mem_sort {xs : List D} {x : D} : x ∈ sortD xs ↔ x ∈ xs := (List.mergeSort_perm xs leD).mem_iff
theorem len_sort {xs : List D} : (sortD xs).length = xs.length := (List.mergeSort_perm xs leD).length_eq
theorem sorted_str {xs : List D} (h : ∀ x ∈ xs, ∃ w, x = .str w) (hl : xs.length ≤ sizeLine) : sortedF (.lst xs) = some (.lst .fz, .lst (sortD xs)) := if_pos (sortOk_str h hl)
theorem all_str {xs : List D} {P : List Nat → Prop} (h : ∀ x ∈ xs, ∃ w, P w ∧ x = .str w) : ∃ ws : List (List Nat), xs = ws.map D.str ∧ ∀ w ∈ ws, P w := by
  induction xs with
  | nil => exact ⟨[], rfl, by simp⟩
  | cons x xs ih =>
    obtain ⟨ws, rfl, hw⟩ := ih fun y hy => h y (by simp [hy])
    obtain ⟨w, pw, rfl⟩ := h x (by simp)
    exact ⟨w :: ws, rfl, by
      intro v hv
      rcases List.mem_cons.mp hv with rfl | hv
      · exact pw
      · exact hw v hv⟩
theorem atI_some {α : Type} {xs : List α} {i : Int} (h0 : 0 ≤ i) (h1 : i < xs.length) : ∃ x ∈ xs, L2.atI xs i = some x := by
  rw [atI_nn h0]
  have : i.toNat < xs.length := by omega
  exact ⟨xs[i.toNat], List.getElem_mem _, List.getElem?_eq_getElem this⟩
theorem sizeI {i : Int} (h : i ≤ 16777216) : i ≤ (sizeLine : Int) := h
end
end Dt

/-! What is never reached; in; chains of comparisons; op=; unary minus; None. -/
namespace Dt
noncomputable section
open PySem PySem.Spec PyProof.Rows L2
def mFail {α : Type} : M α := fun _ => none
section
variable {X : Cx} {G : Gm} {W : WX} {B : Bw} {q q0 q1 q2 q3 : Bool} {a b c e : Expr} {ma mb mc m : M Rv} {pos p : Pos}
theorem e_fail : PE X e (TEm G W true mFail) := ⟨fun pins s σ H Q I ⟨_, _, _, _, _, _, e, _⟩ => by cases e⟩
theorem t_fail : PT X e (TTm G W true mFail) := ⟨fun pins s σ H Q I ⟨_, _, _, _, _, _, e, _⟩ => by cases e⟩
theorem s_fail {st : Stmt} : PS X st (TSm G W B mFail) := ⟨fun pins s σ H D I ⟨_, _, _, _, _, _, e, _⟩ => by cases e⟩

/-! in -/
def shB (p : PyData) : Bool := SeqAt.shaped p
def inB (x y : D) : Option Bool := match y with
  | .lst ys => match x.py, D.pys ys with
    | some p, some ps => if SeqAt.shaped p = true ∧ SeqAt.shaped (.list ps) = true then some (ps.any fun z => PyData.eqv z p) else none
    | _, _ => none
  | .tup ys => match x.py, D.pys ys with
    | some p, some ps => if SeqAt.shaped p = true ∧ SeqAt.shaped (.tuple ps) = true then some (ps.any fun z => PyData.eqv z p) else none
    | _, _ => none
  | .str z => match x with
    | .str [k] => some (decide (k ∈ z))
    | _ => none
  | _ => none
def inF (x y : D) : Option (Sh × D) := (inB x y).map fun c => (.fz, .bl c)
def notInF (x y : D) : Option (Sh × D) := (inB x y).map fun c => (.fz, .bl (!c))
def rInT (K : PySem.W.Frag) (n : Bool) : R2 := fun x y H Q => ∃ d ds, Dp K H x d ∧ Dp K H y (.tuple ds) ∧ SeqAt.shaped d = true ∧ SeqAt.shaped (.tuple ds) = true ∧ Q (.bl (if n = true then !ds.any fun z => PyData.eqv z d else ds.any fun z => PyData.eqv z d)) H
theorem room_in_tup {A : Around} {d : PyData} {xs : List PyData} (h : SeqAt.shaped d = true) (hu : A.units + 65 < cLine) : A.units + 1 + min (PyData.depthAll xs) d.depth < cLine := by
  have h1 := SeqAt.depth_of_shaped h
  have h2 : min (PyData.depthAll xs) d.depth ≤ d.depth := Nat.min_le_right _ _
  omega
theorem op_inT (hu : X.A.units + 65 < cLine) : OpR X (compareOp .In) (rInT X.K false) := by
  intro pins s σ H x y v u Q I rx ry h
  obtain ⟨d, ds, hd, he, sd, se, q⟩ := h
  obtain ⟨as, r1⟩ := Dp.reads I d x v hd rx
  obtain ⟨bs, r2⟩ := Dp.reads I (.tuple ds) y u he ry
  exact SeqAt.in_tuple_reads r2 r1 (SeqAt.canLay_of_shaped se) (SeqAt.canLay_of_shaped sd) (room_in_tup sd hu) ⟨.bl _, H, I, rfl, q⟩
theorem op_notInT (hu : X.A.units + 65 < cLine) : OpR X (compareOp .NotIn) (rInT X.K true) := by
  intro pins s σ H x y v u Q I rx ry h
  obtain ⟨d, ds, hd, he, sd, se, q⟩ := h
  obtain ⟨as, r1⟩ := Dp.reads I d x v hd rx
  obtain ⟨bs, r2⟩ := Dp.reads I (.tuple ds) y u he ry
  exact SeqAt.notIn_tuple_reads r2 r1 (SeqAt.canLay_of_shaped se) (SeqAt.canLay_of_shaped sd) (room_in_tup sd hu) ⟨.bl _, H, I, rfl, q⟩
def rInSg (n : Bool) : R2 := fun x y H Q => ∃ (c : Nat) (z : Str), x = .str ⟨#[c]⟩ ∧ y = .str z ∧ Q (.bl (if n = true then !decide (c ∈ z.cps.toList) else decide (c ∈ z.cps.toList))) H
def rInA (K : PySem.W.Frag) : R2 := fun x y H Q => rInD K x y H Q ∨ rInT K false x y H Q ∨ rInSg false x y H Q
def rNotInA (K : PySem.W.Frag) : R2 := fun x y H Q => rNotInD K x y H Q ∨ rInT K true x y H Q ∨ rInSg true x y H Q
theorem op_inA (hu : X.A.units + 65 < cLine) : OpR X (compareOp .In) (rInA X.K) := OpR.or (op_inD hu) (OpR.or (op_inT hu) op_in_sign)
theorem op_notInA (hu : X.A.units + 65 < cLine) : OpR X (compareOp .NotIn) (rNotInA X.K) := OpR.or (op_notInD hu) (OpR.or (op_notInT hu) op_notIn_sign)
theorem fun_in : Fun2 G (rInA G.K) inF := Fun2.mk fun H L O v1 v2 d1 d2 sh d Q o h1 h2 e k => by
  unfold inF inB at e
  split at e
  · rename_i ys
    split at e
    · rename_i pd pds e1 e2
      split at e
      · rename_i c
        cases e
        exact .inl ⟨pd, pds, h1.dp e1, h2.dp (by unfold D.py; rw [e2]), c.1, c.2, k _ H (Same.refl H) ⟨O, o.cons (.bl _)⟩⟩
      · cases e
    · cases e
  · rename_i ys
    split at e
    · rename_i pd pds e1 e2
      split at e
      · rename_i c
        cases e
        exact .inr (.inl ⟨pd, pds, h1.dp e1, h2.dp (by unfold D.py; rw [e2]), c.1, c.2, k _ H (Same.refl H) ⟨O, o.cons (.bl _)⟩⟩)
      · cases e
    · cases e
  · rename_i z
    split at e
    · rename_i s
      cases e
      cases h1.str_at; cases h2.str_at
      exact .inr (.inr ⟨s, _, rfl, rfl, k _ H (Same.refl H) ⟨O, o.cons (.bl _)⟩⟩)
    · cases e
  · cases e
theorem fun_notIn : Fun2 G (rNotInA G.K) notInF := Fun2.mk fun H L O v1 v2 d1 d2 sh d Q o h1 h2 e k => by
  unfold notInF inB at e
  split at e
  · rename_i ys
    split at e
    · rename_i pd pds e1 e2
      split at e
      · rename_i c
        cases e
        exact .inl ⟨pd, pds, h1.dp e1, h2.dp (by unfold D.py; rw [e2]), c.1, c.2, k _ H (Same.refl H) ⟨O, o.cons (.bl _)⟩⟩
      · cases e
    · cases e
  · rename_i ys
    split at e
    · rename_i pd pds e1 e2
      split at e
      · rename_i c
        cases e
        exact .inr (.inl ⟨pd, pds, h1.dp e1, h2.dp (by unfold D.py; rw [e2]), c.1, c.2, k _ H (Same.refl H) ⟨O, o.cons (.bl _)⟩⟩)
      · cases e
    · cases e
  · rename_i z
    split at e
    · rename_i s
      cases e
      cases h1.str_at; cases h2.str_at
      exact .inr (.inr ⟨s, _, rfl, rfl, k _ H (Same.refl H) ⟨O, o.cons (.bl _)⟩⟩)
    · cases e
  · cases e
theorem c_in (hK : X.K = G.K) (hu : X.A.units + 65 < cLine) (ha : PE X a (TEm G W q1 ma)) (hb : PE X b (TEm G W q2 mb)) (hm : behindInMarks .In b = false) : PE X (.Compare a [.In] [b] pos) (TEm G W (q1 && q2) (mOp2 inF q1 ma q2 mb)) := pe_mcmp (op_inA hu) (hK ▸ fun_in) ha hb hm
theorem t_in (hK : X.K = G.K) (hu : X.A.units + 65 < cLine) (ha : PE X a (TEm G W q1 ma)) (hb : PE X b (TEm G W q2 mb)) (hm : behindInMarks .In b = false) : PT X (.Compare a [.In] [b] pos) (TTm G W (q1 && q2) (mBool (mOp2 inF q1 ma q2 mb))) := pt_mcmp (op_inA hu) (hK ▸ fun_in) ha hb hm
theorem c_notin (hK : X.K = G.K) (hu : X.A.units + 65 < cLine) (ha : PE X a (TEm G W q1 ma)) (hb : PE X b (TEm G W q2 mb)) (hm : behindInMarks .NotIn b = false) : PE X (.Compare a [.NotIn] [b] pos) (TEm G W (q1 && q2) (mOp2 notInF q1 ma q2 mb)) := pe_mcmp (op_notInA hu) (hK ▸ fun_notIn) ha hb hm
theorem t_notin (hK : X.K = G.K) (hu : X.A.units + 65 < cLine) (ha : PE X a (TEm G W q1 ma)) (hb : PE X b (TEm G W q2 mb)) (hm : behindInMarks .NotIn b = false) : PT X (.Compare a [.NotIn] [b] pos) (TTm G W (q1 && q2) (mBool (mOp2 notInF q1 ma q2 mb))) := pt_mcmp (op_notInA hu) (hK ▸ fun_notIn) ha hb hm

/-! None -/
def isNB (x y : D) : Option Bool := match x, y with
  | .non, .non => some true
  | .bl _, .non => some false
  | .int _, .non => some false
  | .str _, .non => some false
  | .tup _, .non => some false
  | .lst _, .non => some false
  | .dct _, .non => some false
  | .ins _ _, .non => some false
  | _, _ => none
def isNF (x y : D) : Option (Sh × D) := (isNB x y).map fun c => (.fz, .bl c)
def notNF (x y : D) : Option (Sh × D) := (isNB x y).map fun c => (.fz, .bl (!c))
theorem RX.ref_at {N : Addr → Prop} {H : Hp} {v : V} {d : D} (h : RX G N H v d) (e : (match d with | .tup _ => true | .lst _ => true | .dct _ => true | .ins _ _ => true | _ => false) = true) : ∃ a, v = .ref a := by
  cases h with
  | fz h => cases h <;> first | exact ⟨_, rfl⟩ | cases e
  | lst => exact ⟨_, rfl⟩
  | dct => exact ⟨_, rfl⟩
  | set => exact ⟨_, rfl⟩
theorem isN_at {N : Addr → Prop} {H : Hp} {v w : V} {d e : D} {c : Bool} (h : RX G N H v d) (h' : RX G N H w e) (hc : isNB d e = some c) : w = .non ∧ decide (v = .non) = c := by
  unfold isNB at hc
  split at hc
  all_goals first
    | cases hc
    | skip
  · cases h.non_at; cases h'.non_at; exact ⟨rfl, rfl⟩
  · cases h.bl_at; cases h'.non_at; exact ⟨rfl, rfl⟩
  · cases h.int_at; cases h'.non_at; exact ⟨rfl, rfl⟩
  · cases h.str_at; cases h'.non_at; exact ⟨rfl, rfl⟩
  all_goals
    obtain ⟨a, rfl⟩ := h.ref_at rfl
    cases h'.non_at
    exact ⟨rfl, rfl⟩
theorem fun_isN : Fun2 G (fun x y H Q => y = .non ∧ Q (.bl (decide (x = .non))) H) isNF := Fun2.mk fun H L O v1 v2 d1 d2 sh d Q o h1 h2 e k => by
  unfold isNF at e
  cases hc : isNB d1 d2 with
  | none => rw [hc] at e; cases e
  | some c =>
    rw [hc] at e
    cases e
    obtain ⟨z1, z2⟩ := isN_at h1 h2 hc
    exact ⟨z1, by rw [z2]; exact k _ H (Same.refl H) ⟨O, o.cons (.bl _)⟩⟩
theorem fun_notN : Fun2 G (fun x y H Q => y = .non ∧ Q (.bl (!decide (x = .non))) H) notNF := Fun2.mk fun H L O v1 v2 d1 d2 sh d Q o h1 h2 e k => by
  unfold notNF at e
  cases hc : isNB d1 d2 with
  | none => rw [hc] at e; cases e
  | some c =>
    rw [hc] at e
    cases e
    obtain ⟨z1, z2⟩ := isN_at h1 h2 hc
    exact ⟨z1, by rw [z2]; exact k _ H (Same.refl H) ⟨O, o.cons (.bl _)⟩⟩
theorem c_is (ha : PE X a (TEm G W q1 ma)) (hb : PE X b (TEm G W q2 mb)) (hm : behindInMarks .Is b = false) : PE X (.Compare a [.Is] [b] pos) (TEm G W (q1 && q2) (mOp2 isNF q1 ma q2 mb)) := pe_mcmp op_isN fun_isN ha hb hm
theorem t_is (ha : PE X a (TEm G W q1 ma)) (hb : PE X b (TEm G W q2 mb)) (hm : behindInMarks .Is b = false) : PT X (.Compare a [.Is] [b] pos) (TTm G W (q1 && q2) (mBool (mOp2 isNF q1 ma q2 mb))) := pt_mcmp op_isN fun_isN ha hb hm
theorem c_isnot (ha : PE X a (TEm G W q1 ma)) (hb : PE X b (TEm G W q2 mb)) (hm : behindInMarks .IsNot b = false) : PE X (.Compare a [.IsNot] [b] pos) (TEm G W (q1 && q2) (mOp2 notNF q1 ma q2 mb)) := pe_mcmp op_notN fun_notN ha hb hm
theorem t_isnot (ha : PE X a (TEm G W q1 ma)) (hb : PE X b (TEm G W q2 mb)) (hm : behindInMarks .IsNot b = false) : PT X (.Compare a [.IsNot] [b] pos) (TTm G W (q1 && q2) (mBool (mOp2 notNF q1 ma q2 mb))) := pt_mcmp op_notN fun_notN ha hb hm

/-! unary minus -/
def negF : D → Option (Sh × D)
  | .int i => some (.fz, .int (-i))
  | _ => none
theorem fun_neg : Fun1 G (rU fun i => .int (-i)) negF := Fun1.mk fun H L O v d0 sh d Q o rx e k => by
  unfold negF at e
  split at e
  · cases e
    cases rx.int_at
    exact ⟨_, rfl, k _ H (Same.refl H) ⟨O, o.cons (.int _)⟩⟩
  · cases e
theorem tem_op1 {σ : Sg} {H : Hp} {Q : VK} {r : V → Hp → VK → Prop} {f : D → Option (Sh × D)} {a : M Rv} (F : Fun1 G r f) (h : TEm G W q1 (mOp1 f q1 a) σ H Q) : tUn r (TEm G W q1 a) σ H Q := by
  have h1 := tem_fun F h
  have e : q1 = (([(q1, a)] : List (Bool × M Rv)).all (·.1)) := by simp
  have h2 : TAm G W (([(q1, a)] : List (Bool × M Rv)).all (·.1)) (mArgs [(q1, a)]) σ H fun vs H1 => r1 r vs H1 Q := by rw [← e]; exact h1
  have h3 := tam_cons h2
  refine tem_mono h3 fun x H1 h => ?_
  obtain ⟨x', e', h'⟩ := tam_nil h
  cases e'
  exact h'
theorem o_neg (ha : PE X a (TEm G W q1 ma)) : PE X (.UnaryOp .USub a pos) (TEm G W q1 (mOp1 negF q1 ma)) := (pe_un un_neg ha).imp fun _ _ _ h => tem_op1 fun_neg h
/-- and, or as values: the last one -/
theorem v_one {op : BoolOp} (h : PE X a (TEm G W q m)) : PE X (.BoolOp op [a] pos) (TEm G W q m) := pe_one h

/-! a ≤ x < c, x a name -/
theorem ref_var {i : Nat} {σ : Sg} {H : Hp} {Q : VK} (h : TEm G W true (mRef i) σ H Q) : tVar i σ H Q := by
  obtain ⟨S, T, r, S', ag, ow, e, k⟩ := h
  unfold mRef at e
  split at e
  · rename_i sd hS
    cases e
    obtain ⟨v, hv⟩ := ag.get hS
    exact ⟨v, hv, k v H ag ow ⟨v, hv, rfl⟩ fun _ => Same.refl H⟩
  · cases e
theorem ttm_chain {i : Nat} {r r' : R2} {f f' : D → D → Option (Sh × D)} {σ : Sg} {H : Hp} {Q : Bool → Hp → Prop} (F : Fun2 G r f) (F' : Fun2 G r' f') (h : TTm G W ((q1 && true) && (true && q3)) (bAnd (mBool (mOp2 f q1 ma true (mRef i))) (mBool (mOp2 f' true (mRef i) q3 mc))) σ H Q) :
    tTest (tChain r r' (TEm G W q1 ma) (tVar i) (TEm G W q3 mc)) σ H Q := by
  have h1 := ttm_val (ttm_and h)
  by_cases hy : ∃ y, σ[i]? = some (some y)
  · obtain ⟨y, ey⟩ := hy
    have h1' : TEm G W (q1 && true) (mOp2 f q1 ma true (mRef i)) σ H fun z H3 => ∃ k, z = .bl k ∧
        (if k = true then TEm G W q3 mc σ H3 fun w H4 => r' y w H4 fun x H' => ∃ k, x = .bl k ∧ Q k H' else ∃ k', V.bl false = .bl k' ∧ Q k' H3) := tem_mono h1 fun v H1 ⟨k, ek, hk⟩ => ⟨k, ek, by
      cases k with
      | true =>
        have h6 := tem_op2 F' (ttm_val hk)
        obtain ⟨y', ey', h7⟩ := ref_var h6
        rw [ey] at ey'
        cases ey'
        exact h7
      | false => exact ⟨false, rfl, hk⟩⟩
    refine tem_mono (tem_op2 F h1') fun x H1 h3 => ?_
    obtain ⟨y', ey', h4⟩ := ref_var h3
    rw [ey] at ey'
    cases ey'
    exact ⟨y, ey, h4⟩
  · refine tem_mono (tem_op2 F h1) fun x H1 h3 => ?_
    obtain ⟨y, ey, _⟩ := ref_var h3
    exact absurd ⟨y, ey⟩ hy
theorem op_ltI {X : Cx} : OpR X (compareOp .Lt) (rI0 fun i j => .bl (decide (i < j))) := op_lt
def ltIF : D → D → Option (Sh × D)
  | .int i, .int j => some (.fz, .bl (decide (i < j)))
  | _, _ => none
theorem fun_ltI : Fun2 G (rI0 fun i j => .bl (decide (i < j))) ltIF := Fun2.mk fun H L O v1 v2 d1 d2 sh d Q o h1 h2 e k => by
  unfold ltIF at e
  split at e
  · cases e
    cases h1.int_at; cases h2.int_at
    exact ⟨_, _, rfl, rfl, k _ H (Same.refl H) ⟨O, o.cons (.bl _)⟩⟩
  · cases e
theorem t_chain {op op' : CmpOp} {r r' : R2} {f f' : D → D → Option (Sh × D)} {x : Str} (i : Nat) (ho : OpR X (compareOp op) r) (ho' : OpR X (compareOp op') r') (F : Fun2 G r f) (F' : Fun2 G r' f') (ha : PE X a (TEm G W q1 ma)) (hc : PE X c (TEm G W q3 mc))
    (hN : X.N[i]? = some x := by rfl) (hv : Vis X.env.scope x := by first | exact Or.inl rfl | exact Or.inr (Or.inl rfl) | exact Or.inr (Or.inr rfl)) (hd : (x == ("__debug__" : Str)) = false := by decide) (hcd : (x == ("__classdict__" : Str)) = false := by decide)
    (hm : lastMarks [op, op'] [.Name x p, c] = false := by with_unfolding_all rfl) :
    PT X (.Compare a [op, op'] [.Name x p, c] pos) (TTm G W ((q1 && true) && (true && q3)) (bAnd (mBool (mOp2 f q1 ma true (mRef i))) (mBool (mOp2 f' true (mRef i) q3 mc)))) :=
  (pt_chain ho ho' ha (pe_var hN hv hd hcd) hc hm).imp fun _ _ _ h => ttm_chain F F' h

/-! x += e of whole numbers -/
theorem tsm_aug {i : Nat} {r : R2} {f : D → D → Option (Sh × D)} {D : Ends} {σ : Sg} {H : Hp} (F : Fun2 G r f) (h : TSm G W B (sSet B i (mOp2 f true (mRef i) q m)) D σ H) : tAug i (TEm G W q m) (fun x y H Q => r x y H Q) D σ H := by
  have h1 := tsm_set (q := true && q) h
  have h2 := tem_op2 F h1
  obtain ⟨x, ex, h3⟩ := ref_var h2
  exact ⟨x, ex, h3⟩
theorem s_aug {i : Nat} {x : Str} {op : Operator} {r : R2} {f : D → D → Option (Sh × D)} {pos' : Pos} (hN : X.N.Nodup) (ho : PIp X op (fun x y H Q => r x y H Q)) (F : Fun2 G r f) (he : PE X e (TEm G W q m)) (hi : X.N[i]? = some x := by rfl) (hx : Loc X.env.scope x := by first | exact Or.inl rfl | exact Or.inr rfl) (hf : X.fn x = true ∨ X.env.scope.names.lookup x = some .local := by first | exact .inl rfl | exact .inr rfl) :
    PS X (.AugAssign (.Name x pos') op e pos) (TSm G W B (sSet B i (mOp2 f true (mRef i) q m))) := (ps_aug hN hi hx he ho hf).imp fun _ _ _ h => tsm_aug F h
theorem ip_addI {X : Cx} : PIp X .Add (fun x y H Q => rI0 (fun i j => .int (i + j)) x y H Q) := ip_add
theorem ip_subI {X : Cx} : PIp X .Sub (fun x y H Q => rI0 (fun i j => .int (i - j)) x y H Q) := ip_sub
def addIF : D → D → Option (Sh × D)
  | .int i, .int j => some (.fz, .int (i + j))
  | _, _ => none
theorem fun_addI : Fun2 G (rI0 fun i j => .int (i + j)) addIF := Fun2.mk fun H L O v1 v2 d1 d2 sh d Q o h1 h2 e k => by
  unfold addIF at e
  split at e
  · cases e
    cases h1.int_at; cases h2.int_at
    exact ⟨_, _, rfl, rfl, k _ H (Same.refl H) ⟨O, o.cons (.int _)⟩⟩
  · cases e
end
end
end Dt

/-! Instances: opening and closing what is owned; places within things. -/
namespace Dt
noncomputable section
open PySem PySem.Spec PyProof.Rows L2
section
variable {G : Gm} {H H' : Hp}
theorem Own.openIns {a cs c fs L} (h : Own G H (⟨.ins cs, .ref a, .ins c fs⟩ :: L)) : ∃ (A : List Cl) (ids : List Nat) (dx : Addr), cs = A.map Cl.sh ∧ fs = ids.zip (A.map Cl.d) ∧ ids.length = A.length ∧
    H a = some (.ins (G.cls c) dx ((ids.map G.fld).zip (A.map Cl.v))) ∧ Own G H (⟨.adr, .ref a, .non⟩ :: (A ++ L)) := by
  obtain ⟨O, r, nd⟩ := h
  cases r with
  | cons h r => cases h with
    | @ins b c dx A fp ids h q hl => exact ⟨A, ids, dx, rfl, rfl, hl, h, _, .cons (t := ⟨.adr, .ref a, .non⟩) (f1 := [a]) (.adr h) (by
      have z := RTs.append q (show RTs G _ H (L ++ tabC G) _ from r)
      rw [← List.append_assoc] at z
      exact z), nd⟩
theorem Own.closeIns {a c dx} {A L : List Cl} {ids : List Nat} (hl : ids.length = A.length) (e : H a = some (.ins (G.cls c) dx ((ids.map G.fld).zip (A.map Cl.v)))) (h : Own G H (⟨.adr, .ref a, .non⟩ :: (A ++ L))) :
    Own G H (⟨.ins (A.map Cl.sh), .ref a, .ins c (ids.zip (A.map Cl.d))⟩ :: L) := by
  obtain ⟨O, r, nd⟩ := h
  cases r with
  | cons h r =>
    have r : RTs G _ H ((A ++ L) ++ tabC G) _ := r
    rw [List.append_assoc] at r
    obtain ⟨f1, f2, ef, r1, r2⟩ := r.split
    subst ef
    cases h with
    | adr h => exact ⟨_, .cons (t := ⟨.ins (A.map Cl.sh), .ref a, .ins c (ids.zip (A.map Cl.d))⟩) (f1 := a :: f1) (f2 := f2) (.ins e r1 hl) r2, nd⟩
/-- the thing at a path replaced -/
def updD : Sh × D → List Stp → D → D
  | _, [], d3 => d3
  | (.lst c, .lst ds), .ix i :: p, d3 => match ds[i]? with
    | some d => .lst (ds.set i (updD (c, d) p d3))
    | none => .lst ds
  | (.ins cs, .ins c fs), .fld k :: p, d3 => match fs.findIdx? (fun x => x.1 == k) with
    | some j => match cs[j]?, fs[j]? with
      | some sh, some kd => .ins c (fs.set j (k, updD (sh, kd.2) p d3))
      | _, _ => .ins c fs
    | none => .ins c fs
  | (.dct c, .dct kvs), .ky k :: p, d3 => match kvGet kvs k with
    | some d => .dct (kvPut kvs k (updD (c, d) p d3))
    | none => .dct kvs
  | (_, d), _, _ => d
theorem take_drop_perm {α : Type} {A : List α} {i : Nat} {t : α} (h : A[i]? = some t) : A = A.take i ++ t :: A.drop (i + 1) := by
  obtain ⟨hi, rfl⟩ := List.getElem?_eq_some_iff.mp h
  simp
theorem set_mid {α : Type} {A : List α} {i : Nat} {t u : α} (h : A[i]? = some t) : A.set i u = A.take i ++ u :: A.drop (i + 1) := by
  obtain ⟨hi, rfl⟩ := List.getElem?_eq_some_iff.mp h
  rw [List.set_eq_take_append_cons_drop, if_pos hi]
theorem zip_set {α β : Type} {k : α} {y : β} : ∀ {l1 : List α} {l2 : List β} {j : Nat}, l1[j]? = some k → (l1.zip l2).set j (k, y) = l1.zip (l2.set j y)
  | [], _, _, h => by simp at h
  | a :: l1, [], j, h => by simp
  | a :: l1, b :: l2, 0, h => by simp at h; subst h; simp
  | a :: l1, b :: l2, j + 1, h => by simp at h; simp [zip_set h]
theorem kvPut_mid {l1 l2 : List (D × D)} {k d x : D} (n1 : ∀ y ∈ l1, y.1 ≠ k) (n2 : ∀ y ∈ l2, y.1 ≠ k) : kvPut (l1 ++ (k, d) :: l2) k x = l1 ++ (k, x) :: l2 := by
  have same : ∀ {l : List (D × D)}, (∀ y ∈ l, y.1 ≠ k) → (open Classical in l.map (fun p => if p.1 = k then (p.1, x) else p)) = l := fun {l} hl => by
    conv => rhs; rw [← List.map_id l]
    exact List.map_congr_left fun y hy => if_neg (hl y hy)
  unfold kvPut
  rw [if_pos (by simp)]
  simp only [List.map_append, List.map_cons, same n1, same n2, if_pos]
/-- a thing within a thing taken out, to be put back changed: its shape and its object stay -/
theorem Own.focus : ∀ {p : List Stp} {sh : Sh} {v : V} {d : D} {L : List Cl} {sh2 : Sh} {d2 : D} {w : V}, Own G H (⟨sh, v, d⟩ :: L) → pathD (sh, d) p = some (sh2, d2) → PathV G H v p w →
    ∃ C : List Cl, Own G H (⟨sh2, w, d2⟩ :: (C ++ L)) ∧ ∀ (H' : Hp) (L' : List Cl) (d3 : D), (∀ t ∈ C, t.sh = .adr → ∀ a, t.v = .ref a → H' a = H a) → Own G H' (⟨sh2, w, d3⟩ :: (C ++ L')) → Own G H' (⟨sh, v, updD (sh, d) p d3⟩ :: L')
  | [], sh, v, d, L, _, _, _, o, e, rfl => by
    cases e
    exact ⟨[], o, fun H' L' d3 _ o' => by simpa [updD] using o'⟩
  | .ix i :: p, sh, v, d, L, sh2, d2, w, o, e, ⟨a, vs, u, ev, ea, eu, q⟩ => by
    subst ev
    cases sh <;> cases d <;> try cases e
    rename_i c ds
    obtain ⟨A, hds, hc, hA, oA⟩ := o.openLst
    subst hds
    rw [hA] at ea
    cases ea
    have e' : (match (A.map Cl.d)[i]? with | some d => pathD (c, d) p | none => none) = some (sh2, d2) := e
    rw [List.getElem?_map] at e' eu
    cases ht : A[i]? with
    | none => rw [ht] at eu; cases eu
    | some t =>
      rw [ht] at e' eu
      cases eu
      have hts : t.sh = c := hc t (List.mem_of_getElem? ht)
      have o1 : Own G H (⟨c, t.v, t.d⟩ :: (⟨.adr, .ref a, .non⟩ :: (A.take i ++ A.drop (i + 1)) ++ L)) := by
        refine oA.perm ?_
        have hA' := take_drop_perm ht
        have : (⟨c, t.v, t.d⟩ : Cl) = t := by rw [← hts]
        rw [this]
        conv => lhs; rw [hA']
        simp only [List.append_assoc, List.cons_append]
        refine (List.Perm.cons _ List.perm_middle).trans ?_
        exact List.Perm.swap _ _ _
      obtain ⟨C, o2, back⟩ := Own.focus o1 e' q
      refine ⟨C ++ (⟨.adr, .ref a, .non⟩ :: (A.take i ++ A.drop (i + 1))), ?_, fun H' L' d3 hfr o3 => ?_⟩
      · refine o2.perm ?_
        simp
      · have o4 := back H' (⟨.adr, .ref a, .non⟩ :: (A.take i ++ A.drop (i + 1)) ++ L') d3 (fun t ht => hfr t (List.mem_append_left _ ht)) (o3.perm (by simp))
        have ea' : H' a = some (.lst (A.map Cl.v)) := by
          rw [hfr ⟨.adr, .ref a, .non⟩ (List.mem_append_right _ (by simp)) rfl a rfl]
          exact hA
        have hset : (A.set i ⟨c, t.v, updD (c, t.d) p d3⟩).map Cl.v = A.map Cl.v := by
          rw [List.map_set]
          have : (A.map Cl.v)[i]? = some t.v := by rw [List.getElem?_map, ht]; rfl
          obtain ⟨hi, hv⟩ := List.getElem?_eq_some_iff.mp this
          simp only
          rw [← hv]
          exact List.set_getElem_self hi
        have o5 : Own G H' (⟨.adr, .ref a, .non⟩ :: (A.set i ⟨c, t.v, updD (c, t.d) p d3⟩ ++ L')) := by
          refine o4.perm ?_
          rw [set_mid ht]
          simp only [List.append_assoc, List.cons_append]
          refine (List.Perm.swap _ _ _).trans ?_
          exact List.Perm.cons _ List.perm_middle.symm
        have o6 := o5.closeLst (c := c) (fun t' ht' => by
          rcases List.mem_or_eq_of_mem_set ht' with h | h
          · exact hc t' h
          · rw [h]) (by rw [hset]; exact ea')
        have : updD (.lst c, .lst (A.map Cl.d)) (.ix i :: p) d3 = .lst ((A.set i ⟨c, t.v, updD (c, t.d) p d3⟩).map Cl.d) := by
          simp only [updD, List.getElem?_map, ht, Option.map_some, List.map_set]
        rw [this]
        exact o6
  | .fld k :: p, sh, v, d, L, sh2, d2, w, o, e, ⟨a, C0, dx0, fs0, u, ev, ea, eu, q⟩ => by
    subst ev
    cases sh <;> cases d <;> try cases e
    rename_i cs c fs
    obtain ⟨A, ids, dx, hcs, hfs, hl, hA, oA⟩ := o.openIns
    subst hcs; subst hfs
    rw [hA] at ea
    cases ea
    unfold pathD at e
    split at e
    · rename_i j hj
      obtain ⟨t, ht, htv, hk⟩ := fld_at G.inj hl eu hj
      rw [List.getElem?_map, ht, hk] at e
      have e' : pathD (t.sh, t.d) p = some (sh2, d2) := e
      rw [← htv] at q
      have o1 : Own G H (⟨t.sh, t.v, t.d⟩ :: (⟨.adr, .ref a, .non⟩ :: (A.take j ++ A.drop (j + 1)) ++ L)) := by
        refine oA.perm ?_
        have hA' := take_drop_perm ht
        show List.Perm _ (t :: _)
        conv => lhs; rw [hA']
        simp only [List.append_assoc, List.cons_append]
        refine (List.Perm.cons _ List.perm_middle).trans ?_
        exact List.Perm.swap _ _ _
      obtain ⟨C, o2, back⟩ := Own.focus o1 e' q
      refine ⟨C ++ (⟨.adr, .ref a, .non⟩ :: (A.take j ++ A.drop (j + 1))), ?_, fun H' L' d3 hfr o3 => ?_⟩
      · refine o2.perm ?_
        simp
      · have o4 := back H' (⟨.adr, .ref a, .non⟩ :: (A.take j ++ A.drop (j + 1)) ++ L') d3 (fun t ht => hfr t (List.mem_append_left _ ht)) (o3.perm (by simp))
        have ea' : H' a = some (.ins (G.cls c) dx0 ((ids.map G.fld).zip (A.map Cl.v))) := by
          rw [hfr ⟨.adr, .ref a, .non⟩ (List.mem_append_right _ (by simp)) rfl a rfl]
          exact hA
        have hset : ∀ {β : Type} (f : Cl → β), f ⟨t.sh, t.v, updD (t.sh, t.d) p d3⟩ = f t → (A.set j ⟨t.sh, t.v, updD (t.sh, t.d) p d3⟩).map f = A.map f := fun f hf => by
          rw [List.map_set, hf]
          have : (A.map f)[j]? = some (f t) := by rw [List.getElem?_map, ht]; rfl
          obtain ⟨hi, hv⟩ := List.getElem?_eq_some_iff.mp this
          rw [← hv]
          exact List.set_getElem_self hi
        have o5 : Own G H' (⟨.adr, .ref a, .non⟩ :: (A.set j ⟨t.sh, t.v, updD (t.sh, t.d) p d3⟩ ++ L')) := by
          refine o4.perm ?_
          rw [set_mid ht]
          simp only [List.append_assoc, List.cons_append]
          refine (List.Perm.swap _ _ _).trans ?_
          exact List.Perm.cons _ List.perm_middle.symm
        have o6 := o5.closeIns (c := c) (dx := dx0) (ids := ids) (by simpa using hl) (by rw [hset Cl.v rfl]; exact ea')
        rw [hset Cl.sh rfl] at o6
        have : updD (.ins (A.map Cl.sh), .ins c (ids.zip (A.map Cl.d))) (.fld k :: p) d3 = .ins c (ids.zip ((A.set j ⟨t.sh, t.v, updD (t.sh, t.d) p d3⟩).map Cl.d)) := by
          simp only [updD, hj, List.getElem?_map, ht, Option.map_some, hk, List.map_set]
          congr 1
          have hz : (ids.zip (A.map Cl.d))[j]? = some (k, t.d) := hk
          have hk2 : ids[j]? = some k := by
            have := (List.getElem?_eq_some_iff.mp hz)
            obtain ⟨hj1, hj2⟩ := this
            simp only [List.getElem_zip, Prod.mk.injEq] at hj2
            simp only [List.length_zip] at hj1
            rw [List.getElem?_eq_getElem (by omega)]
            rw [hj2.1]
          exact zip_set hk2
        rw [this]
        exact o6
    · cases e
  | .ky k :: p, sh, v, d, L, sh2, d2, w, o, e, ⟨a, ks, u, ev, ea, eu, q⟩ => by
    subst ev
    cases sh <;> cases d <;> try cases e
    rename_i c kvs
    unfold pathD at e
    split at e
    · rename_i hk
      obtain ⟨a', rows, ea', ekvs, hc, nd, hA, oA⟩ := o.openDctK hk.1
      cases ea'
      rw [hA] at ea
      cases ea
      have hks : ∀ r ∈ rows, isKy r.1 = true := fun r hr => by
        have hk1 := hk.1
        rw [ekvs] at hk1
        unfold dkOk at hk1
        exact List.all_eq_true.mp hk1 (r.1, r.2.d) (List.mem_map.mpr ⟨r, hr, rfl⟩)
      rw [find_rows (f := Cl.v) hks hk.2] at eu
      rw [ekvs] at e
      unfold kvGet at e
      rw [List.find?_map] at e
      cases hf : (open Classical in rows.find? fun r => decide (r.1 = k)) with
      | none => rw [hf] at eu; cases eu
      | some r0 =>
        rw [hf] at eu
        cases eu
        have hf' : rows.find? ((fun p : D × D => open Classical in decide (p.1 = k)) ∘ fun r => (r.1, r.2.d)) = some r0 := hf
        rw [hf'] at e
        have e' : pathD (c, r0.2.d) p = some (sh2, d2) := e
        have hr0 := List.mem_of_find?_eq_some hf
        have ek : r0.1 = k := by
          have := List.find?_some hf
          simpa using this
        have hgk : kvGet kvs k = some r0.2.d := by
          rw [ekvs]
          unfold kvGet
          rw [List.find?_map, hf']
          rfl
        have ec := hc r0 hr0
        obtain ⟨r1, r2, er⟩ := List.append_of_mem hr0
        subst er
        have o1 : Own G H (⟨c, r0.2.v, r0.2.d⟩ :: (⟨.adr, .ref a, .non⟩ :: (r1.map (·.2) ++ r2.map (·.2)) ++ L)) := by
          have : (⟨c, r0.2.v, r0.2.d⟩ : Cl) = r0.2 := by rw [← ec]
          rw [this]
          refine oA.perm ?_
          simp only [List.map_append, List.map_cons, List.append_assoc, List.cons_append]
          refine (List.Perm.cons _ List.perm_middle).trans ?_
          exact List.Perm.swap _ _ _
        obtain ⟨C, o2, back⟩ := Own.focus o1 e' q
        refine ⟨C ++ (⟨.adr, .ref a, .non⟩ :: (r1.map (·.2) ++ r2.map (·.2))), o2.perm (by simp), fun H' L' d3 hfr o3 => ?_⟩
        have o4 := back H' (⟨.adr, .ref a, .non⟩ :: (r1.map (·.2) ++ r2.map (·.2)) ++ L') d3 (fun t ht => hfr t (List.mem_append_left _ ht)) (o3.perm (by simp))
        have n1 : ∀ x ∈ r1, x.1 ≠ k := fun x hx z => by
          rw [List.map_append, List.nodup_append] at nd
          exact nd.2.2 x.1 (List.mem_map.mpr ⟨x, hx, rfl⟩) r0.1 (by simp) (z.trans ek.symm)
        have n2 : ∀ x ∈ r2, x.1 ≠ k := fun x hx z => by
          rw [List.map_append, List.nodup_append, List.map_cons, List.nodup_cons] at nd
          exact nd.2.1.1 (List.mem_map.mpr ⟨x, hx, z.trans ek.symm⟩)
        have ea' : H' a = some (.dK ((r1 ++ (r0.1, (⟨c, r0.2.v, updD (c, r0.2.d) p d3⟩ : Cl)) :: r2).map fun r => (kyD r.1, r.2.v))) := by
          rw [hfr ⟨.adr, .ref a, .non⟩ (List.mem_append_right _ (by simp)) rfl a rfl, hA]
          simp
        have o5 := Own.closeDctK (c := c) (rows := r1 ++ (r0.1, (⟨c, r0.2.v, updD (c, r0.2.d) p d3⟩ : Cl)) :: r2) (L := L') (fun r hr => by
            rcases List.mem_append.mp hr with hr | hr
            · exact hc r (by simp [hr])
            · rcases List.mem_cons.mp hr with rfl | hr
              · rfl
              · exact hc r (by simp [hr])) (by simpa using nd) (fun r hr => by
            rcases List.mem_append.mp hr with hr | hr
            · exact hks r (by simp [hr])
            · rcases List.mem_cons.mp hr with rfl | hr
              · exact hks r0 (by simp)
              · exact hks r (by simp [hr])) ea' (o4.perm (by
            simp only [List.map_append, List.map_cons, List.append_assoc, List.cons_append]
            refine (List.Perm.swap _ _ _).trans ?_
            exact List.Perm.cons _ List.perm_middle.symm))
        have : updD (.dct c, .dct kvs) (.ky k :: p) d3 = .dct ((r1 ++ (r0.1, (⟨c, r0.2.v, updD (c, r0.2.d) p d3⟩ : Cl)) :: r2).map fun r => (r.1, r.2.d)) := by
          simp only [updD, hgk]
          rw [ekvs]
          simp only [List.map_append, List.map_cons]
          rw [ek]
          rw [kvPut_mid (fun y hy => ?_) (fun y hy => ?_)]
          · obtain ⟨x, hx, rfl⟩ := List.mem_map.mp hy
            exact n1 x hx
          · obtain ⟨x, hx, rfl⟩ := List.mem_map.mp hy
            exact n2 x hx
        rw [this]
        exact o5
    · cases e
end
end
end Dt

/-! Instances: fields, methods, making. -/
namespace Dt
noncomputable section
open PySem PySem.Spec PyProof.Rows L2
/-- o.f: of a shared instance its thing, of an owned one the place -/
def mFld (c k : Nat) (m : M Rv) : M Rv := fun S => match m S with
  | none => none
  | some (.error e, S1) => some (.error e, S1)
  | some (.ok rv, S1) => match rv.see S1 with
    | some (.fz, .ins c' fs) => if c' = c then match fs.lookup k with
        | some d => some (.ok (.tmp .fz d), S1)
        | none => none
      else none
    | some (.ins cs, .ins c' fs) => if c' = c ∧ (fs.lookup k).isSome = true then match rv with
        | .ref i p => some (.ok (.ref i (p ++ [.fld k])), S1)
        | .tmp _ _ => none
      else none
    | _ => none
section
variable {X : Cx} {G : Gm} {W : WX} {B : Bw} {q q0 q1 q2 : Bool}
theorem fld_fz (inj : ∀ i j, G.fld i = G.fld j → i = j) {N : Addr → Prop} {H : Hp} {k : Nat} : ∀ {ids : List Nat} {vs : List V} {ds : List D} {d : D}, RFs G N H vs ds → (ids.zip ds).lookup k = some d → ∃ u, ((ids.map G.fld).zip vs).lookup (G.fld k) = some u ∧ RF G N H u d
  | [], _, _, _, _, h => by simp at h
  | _ :: _, [], _, _, .nil, h => by simp at h
  | i :: ids, v :: vs, d0 :: ds, d, .cons r rs, h => by
    simp only [List.zip_cons_cons, List.lookup_cons] at h
    simp only [List.map_cons, List.zip_cons_cons, List.lookup_cons]
    by_cases e : k = i
    · subst e
      simp at h ⊢
      subst h
      exact r
    · have e1 : (k == i) = false := by simpa using e
      have e2 : (G.fld k == G.fld i) = false := by
        simp only [beq_eq_false_iff_ne, ne_eq]
        exact fun z => e (inj _ _ z)
      rw [e1] at h
      rw [e2]
      exact fld_fz inj rs h
theorem fld_ex (inj : ∀ i j, G.fld i = G.fld j → i = j) {k : Nat} : ∀ {ids : List Nat} {L : List Cl}, ids.length = L.length → ((ids.zip (L.map Cl.d)).lookup k).isSome = true → ∃ u, ((ids.map G.fld).zip (L.map Cl.v)).lookup (G.fld k) = some u
  | [], _, _, h => by simp at h
  | _ :: _, [], hl, _ => by simp at hl
  | i :: ids, t :: L, hl, h => by
    simp only [List.map_cons, List.zip_cons_cons, List.lookup_cons] at h ⊢
    by_cases e : k = i
    · subst e
      simp
    · have e1 : (k == i) = false := by simpa using e
      have e2 : (G.fld k == G.fld i) = false := by
        simp only [beq_eq_false_iff_ne, ne_eq]
        exact fun z => e (inj _ _ z)
      rw [e1] at h
      rw [e2]
      exact fld_ex inj (by simpa using hl) h
theorem PathV.snoc {H : Hp} {s : Stp} : ∀ {p : List Stp} {v w u : V}, PathV G H v p w → PathV G H w [s] u → PathV G H v (p ++ [s]) u
  | [], _, _, _, rfl, h => h
  | .fld f :: p, _, _, _, ⟨a, C, dx, fs, w, e, h, l, q⟩, h2 => ⟨a, C, dx, fs, w, e, h, l, q.snoc h2⟩
  | .ix i :: p, _, _, _, ⟨a, vs, w, e, h, l, q⟩, h2 => ⟨a, vs, w, e, h, l, q.snoc h2⟩
  | .ky i :: p, _, _, _, ⟨a, vs, w, e, h, l, q⟩, h2 => ⟨a, vs, w, e, h, l, q.snoc h2⟩
theorem RT.insF {N : Addr → Prop} {H : Hp} {v : V} {c : Nat} {fs : List (Nat × D)} {f : List Addr} (h : RT G N H .fz v (.ins c fs) f) : ∃ (a dx : Addr) (ids : List Nat) (vs : List V) (ds : List D), v = .ref a ∧ H a = some (.ins (G.cls c) dx ((ids.map G.fld).zip vs)) ∧ fs = ids.zip ds ∧ RFs G N H vs ds := by
  cases h with
  | fz h => cases h with
    | ins h1 h2 h3 h4 => exact ⟨_, _, _, _, _, rfl, h1, rfl, h3⟩
theorem RT.insO {N : Addr → Prop} {H : Hp} {v : V} {c : Nat} {cs : List Sh} {fs : List (Nat × D)} {f : List Addr} (h : RT G N H (.ins cs) v (.ins c fs) f) : ∃ (a dx : Addr) (ids : List Nat) (L : List Cl), v = .ref a ∧ H a = some (.ins (G.cls c) dx ((ids.map G.fld).zip (L.map Cl.v))) ∧ fs = ids.zip (L.map Cl.d) ∧ ids.length = L.length := by
  cases h with
  | ins h1 h2 h3 => exact ⟨_, _, _, _, rfl, h1, rfl, h3⟩
theorem RT.lstO {N : Addr → Prop} {H : Hp} {v : V} {c : Sh} {ds : List D} {f : List Addr} (h : RT G N H (.lst c) v (.lst ds) f) : ∃ (a : Addr) (vs : List V), v = .ref a ∧ H a = some (.lst vs) ∧ vs.length = ds.length := by
  cases h with
  | lst h1 h2 h3 => exact ⟨_, _, rfl, h1, by simp⟩
theorem tem_fld {c k : Nat} {m : M Rv} {σ : Sg} {H : Hp} {Q : VK} (cl' : Cls G.K (G.cls c)) (na : NoAttr G.K (G.cls c) (G.fld k)) (h : TEm G W q (mFld c k m) σ H Q) : tFld G.K (TEm G W q m) (G.fld k) σ H Q := by
  obtain ⟨S, T, r, S', ag, ow, e, kk⟩ := h
  unfold mFld at e
  split at e
  · cases e
  · rename_i e1
    cases e
    exact ⟨S, T, _, _, ag, ow, e1, kk⟩
  · rename_i rv S1 e1
    split at e
    · rename_i c' fs e2
      split at e
      · rename_i hc
        subst hc
        split at e
        · rename_i d hd
          cases e
          refine ⟨S, T, _, _, ag, ow, e1, fun v H' a1 a2 a3 a4 => ?_⟩
          obtain ⟨O, o⟩ := a2
          obtain ⟨f, rt⟩ := see_rt a1 o a3 e2
          obtain ⟨a, dx, ids, vs, ds, hv, hH, hfs, rs⟩ := rt.insF
          subst hfs
          obtain ⟨u, hu, ru⟩ := fld_fz G.inj rs hd
          refine ⟨a, _, dx, _, u, hv, hH, cl', na, hu, kk u H' a1 ?_ trivial a4⟩
          have o2 : Own G H' (⟨.fz, u, d⟩ :: (rv.cls v ++ (cl S' σ ++ T))) := ⟨O, o.cons ru⟩
          have o3 : Own G H' (([⟨.fz, u, d⟩] : List Cl) ++ (rv.cls v ++ (cl S' σ ++ T))) := o2
          exact o3.dropMid
        · cases e
      · cases e
    · rename_i cs c' fs e2
      split at e
      · rename_i hc
        obtain ⟨hc, hs⟩ := hc
        subst hc
        split at e
        · rename_i i p e3
          cases e
          refine ⟨S, T, _, _, ag, ow, e1, fun v H' a1 a2 a3 a4 => ?_⟩
          obtain ⟨O, o⟩ := id a2
          obtain ⟨f, rt⟩ := see_rt a1 o a3 e2
          obtain ⟨a, dx, ids, L, hv, hH, hfs, hl⟩ := rt.insO
          subst hfs
          obtain ⟨u, hu⟩ := fld_ex G.inj hl hs
          obtain ⟨v0, ev, pv⟩ := a3
          exact ⟨a, _, dx, _, u, hv, hH, cl', na, hu, kk u H' a1 a2 ⟨v0, ev, pv.snoc ⟨a, _, dx, _, u, hv, hH, hu, rfl⟩⟩ a4⟩
        · cases e
      · cases e
    · cases e
theorem pe_mfld {c k : Nat} {e : Expr} {m : M Rv} {pos : Pos} (hK : X.K = G.K) (cl' : Cls G.K (G.cls c)) (na : NoAttr G.K (G.cls c) (G.fld k)) (he : PE X e (TEm G W q m)) {f : Str} (hf : G.fld k = f) (hb : attributeBase e f X.env (eval e X.env) = eval e X.env) : PE X (.Attribute e f pos) (TEm G W q (mFld c k m)) := by
  subst hf
  refine (pe_fld he hb).imp fun σ H Q h => ?_
  rw [hK]
  exact tem_fld cl' na h

/-! x[i] of an owned list of owned things: the place -/
def mIxP (a b : M Rv) : M Rv := fun S => match a S with
  | none => none
  | some (.error e, S1) => some (.error e, S1)
  | some (.ok (.tmp _ _), S1) => none
  | some (.ok (.ref i p), S1) => match b S1 with
    | none => none
    | some (.error e, S2) => some (.error e, S2)
    | some (.ok r2, S2) => match (Rv.ref i p).see S2, r2.see S2 with
      | some (.lst c, .lst ds), some (sh, .int j) => if 0 ≤ j ∧ j < ds.length ∧ shOk sh = true then some (.ok (.ref i (p ++ [.ix j.toNat])), S2) else none
      | _, _ => none
theorem tem_ixp {a b : M Rv} {σ : Sg} {H : Hp} {Q : VK} (h : TEm G W true (mIxP a b) σ H Q) : tOp (rIxL G.K) (TEm G W true a) (TEm G W true b) σ H Q := by
  obtain ⟨S, T, r, S', ag, ow, e, kk⟩ := h
  unfold mIxP at e
  split at e
  · cases e
  · rename_i e1
    cases e
    exact ⟨S, T, _, _, ag, ow, e1, kk⟩
  · cases e
  · rename_i i p S1 e1
    split at e
    · cases e
    · rename_i e2
      cases e
      refine ⟨S, T, _, _, ag, ow, e1, fun v H1 a1 a2 a3 a4 => ?_⟩
      exact ⟨S1, T, _, _, a1, a2, e2, fun cv od H2 b1 b2 b3 => kk cv od H2 b1 b2 b3⟩
    · rename_i r2 S2 e2
      split at e
      · rename_i c ds sh j e3 e4
        split at e
        · rename_i hj
          cases e
          refine ⟨S, T, _, _, ag, ow, e1, fun v H1 a1 a2 a3 a4 => ?_⟩
          refine ⟨S1, T, _, _, a1, a2, e2, fun w H2 b1 b2 b3 b4 => ?_⟩
          have k1 : Same H1 H2 := b4 rfl
          have a3' : (Rv.ref i p).ok G σ H2 v := by
            obtain ⟨v0, ev, pv⟩ := a3
            exact ⟨v0, ev, pv.same k1⟩
          obtain ⟨O, o⟩ := id b2
          obtain ⟨f2, rt2⟩ := see_rt b1 o b3 e4
          have ew : w = .int j := by
            cases rt2 with
            | no => exact absurd hj.2.2 (by simp [shOk])
            | adr => exact absurd hj.2.2 (by simp [shOk])
            | tab => exact absurd hj.2.2 (by simp [shOk])
            | fz h => cases h; rfl
          subst ew
          have bdrop : Own G H2 (cl S' σ ++ T) := Own.drop b2
          obtain ⟨O2, o2⟩ := id bdrop
          obtain ⟨f1, rt1⟩ := see_rt (r := .ref i p) (v := v) b1 (T := T) (by simpa [Rv.cls] using o2) a3' e3
          obtain ⟨la, vs, hv, hH, hl⟩ := rt1.lstO
          have hlt : j.toNat < vs.length := by
            have := hj.2.1
            omega
          obtain ⟨v0, ev, pv⟩ := a3'
          refine ⟨la, vs, j, vs[j.toNat], hv, rfl, .inl (.inl hH), ?_, kk _ H2 b1 ?_ ⟨v0, ev, pv.snoc ⟨la, _, _, hv, hH, List.getElem?_eq_getElem hlt, rfl⟩⟩ fun _ => (a4 rfl).trans k1⟩
          · rw [atI_nn hj.1]
            exact List.getElem?_eq_getElem hlt
          · simpa [Rv.cls] using bdrop
        · cases e
      · cases e
theorem pe_mixp {a b : Expr} {ma mb : M Rv} {pos : Pos} (hK : X.K = G.K) (ha : PE X a (TEm G W true ma)) (hb : PE X b (TEm G W true mb)) (hs : PlainIx b) : PE X (.Subscript a b pos) (TEm G W true (mIxP ma mb)) := by
  refine (pe_ix ix_list ha hb hs).imp fun σ H Q h => ?_
  rw [hK]
  exact tem_ixp h
end
end
end Dt

/-! Methods, making of instances, fields stored, append at a place. -/
namespace Dt
noncomputable section
open PySem PySem.Spec PyProof.Rows L2
/-- an instance of the class c, whose fields have numbers below n -/
def mInst (c n : Nat) (m : M Rv) : M Rv := fun S => match m S with
  | none => none
  | some (.error e, S1) => some (.error e, S1)
  | some (.ok rv, S1) => match rv.see S1 with
    | some (sh, .ins c' fs) => if c' = c ∧ shOk sh = true ∧ (fs.all fun x => decide (x.1 < n)) = true then some (.ok rv, S1) else none
    | _ => none
/-- C(e, ..): f is the class's __init__ -/
def mMake (c : Nat) (f : Fs) (as : M (List Rv)) : M Rv := fun S => match as S with
  | none => none
  | some (.error e, S1) => some (.error e, S1)
  | some (.ok rs, S1) => match takeA rs S1 with
    | none => none
    | some (ads, S2) => match f ((.ins [], .ins c []) :: ads) with
      | some (.error e, _ :: xs) => some (.error e, backA rs xs S2)
      | some (.ok (.fz, .non), some (sh, d) :: xs) => some (.ok (.tmp sh d), backA rs xs S2)
      | _ => none
section
variable {X : Cx} {G : Gm} {W : WX} {B : Bw} {q q0 q1 q2 : Bool}
theorem lookup_no {n : Nat} {mm : Str} (hn : ∀ i, i < n → G.fld i ≠ mm) : ∀ {ids : List Nat} {vs : List V}, (∀ i ∈ ids, i < n) → ((ids.map G.fld).zip vs).lookup mm = none
  | [], _, _ => rfl
  | _ :: _, [], _ => by simp
  | i :: ids, v :: vs, h => by
    simp only [List.map_cons, List.zip_cons_cons, List.lookup_cons]
    have e : (mm == G.fld i) = false := by
      simp only [beq_eq_false_iff_ne, ne_eq]
      exact fun z => hn i (h i (by simp)) z.symm
    rw [e]
    exact lookup_no hn fun j hj => h j (by simp [hj])
theorem ids_lt {n : Nat} : ∀ {ids : List Nat} {ds : List D}, ids.length = ds.length → ((ids.zip ds).all fun x => decide (x.1 < n)) = true → ∀ i ∈ ids, i < n
  | [], _, _, _, i, h => by simp at h
  | _ :: _, [], hl, _, _, _ => by simp at hl
  | i :: ids, d :: ds, hl, h, j, hj => by
    simp only [List.zip_cons_cons, List.all_cons, Bool.and_eq_true, decide_eq_true_eq] at h
    rcases List.mem_cons.mp hj with rfl | hj
    · exact h.1
    · exact ids_lt (by simpa using hl) h.2 j hj
theorem RT.insA {N : Addr → Prop} {H : Hp} {sh : Sh} {v : V} {c n : Nat} {fs : List (Nat × D)} {f : List Addr} (h : RT G N H sh v (.ins c fs) f) (w : shOk sh = true) (hf : (fs.all fun x => decide (x.1 < n)) = true) {mm : Str} (hn : ∀ i, i < n → G.fld i ≠ mm) :
    ∃ (a dx : Addr) (gs : List (Str × V)), v = .ref a ∧ H a = some (.ins (G.cls c) dx gs) ∧ gs.lookup mm = none := by
  cases h with
  | no => cases w
  | adr => cases w
  | tab => cases w
  | fz h => cases h with
    | ins h1 h2 h3 h4 => exact ⟨_, _, _, rfl, h1, lookup_no hn (ids_lt h4 hf)⟩
  | ins h1 h2 h3 => exact ⟨_, _, _, rfl, h1, lookup_no hn (ids_lt (by simpa using h3) hf)⟩
theorem tem_inst {c n : Nat} {mm : Str} (hn : ∀ i, i < n → G.fld i ≠ mm) {m : M Rv} {σ : Sg} {H : Hp} {Q : VK} (h : TEm G W q (mInst c n m) σ H Q) : TEm G W q m σ H fun x H1 => (∃ a dx fs, x = .ref a ∧ H1 a = some (.ins (G.cls c) dx fs) ∧ fs.lookup mm = none) ∧ Q x H1 := by
  obtain ⟨S, T, r, S', ag, ow, e, k⟩ := h
  unfold mInst at e
  split at e
  · cases e
  · rename_i e1
    cases e
    exact ⟨S, T, _, _, ag, ow, e1, k⟩
  · rename_i rv S1 e1
    split at e
    · rename_i sh c' fs e2
      split at e
      · rename_i hc
        obtain ⟨hc, hw, hf⟩ := hc
        subst hc
        cases e
        refine ⟨S, T, _, _, ag, ow, e1, fun v H' a1 a2 a3 a4 => ⟨?_, k v H' a1 a2 a3 a4⟩⟩
        obtain ⟨O, o⟩ := id a2
        obtain ⟨f, rt⟩ := see_rt a1 o a3 e2
        exact rt.insA hw hf hn
      · cases e
    · cases e
section
variable {CX : CXT} {k : Nat} {f C : Addr} {fd : FuncData} {ps : List Str} {sp : Sp} {E : Sg → XK} {x m : Str} {p pos apos : Pos} {e o : Expr} {es : List Expr} {ta : TE} {t : TA}
def tMethW (C : Addr) (m : Str) (sp : Sp) (E : Sg → XK) (ta : TE) (t : TA) : TE := fun σ H Q => ta σ H fun x H1 => ∃ a dx fs, x = .ref a ∧ H1 a = some (.ins C dx fs) ∧ fs.lookup m = none ∧ t σ H1 fun vs H2 => sp (x :: vs) H2 Q (E σ)
theorem pe_methW {pl : Sem Bool} (he : PE X o ta) (c : Cls X.K C) (hm : Meth X.K C m f) (F : FnOk X.prog X.w X.K X.mg X.base CX k f fd ps sp) (hr : Room k X.A) (hb : Binds X.K fd ps []) (hx : ∀ σ, PassesAt CX X σ (E σ)) (ha : PA X (e :: es) t)
    (hst : starEach (e :: es) X.env = (false, eval e X.env) :: starEach es X.env := by rfl) (hpl : (backTo pos (starEach es X.env)).any (·.1) = false := by rfl)
    (ht : eval (.Call (.Attribute o m apos) (e :: es) [] pos) X.env = (do
      let ov ← eval o X.env
      standAt apos.atName
      let (f, first) ← holding [ov] (getMethod ov m pl)
      callWith pos f first (backTo pos (starEach (e :: es) X.env)) (backToKw pos (keywordEach [] X.env))) := by rfl) :
    PE X (.Call (.Attribute o m apos) (e :: es) [] pos) (tMethW C m sp E ta t) := by
  refine ⟨fun pins s σ H Q I h => ?_⟩
  refine PySem.W.methodCall_KW (pl := pl) (thn (he.run pins s σ H _ I h) fun u s1 ⟨x, H1, I1, rx, a, dx, fs, ex, ea, l, q⟩ => ?_) ht
  subst ex
  obtain rfl : u = Value.ref a := rx
  refine getmeth_ok I1 ea c hm l ?_
  refine PySem.W.callWith_K (first := [.ref a]) (h₀ := X.base) I.ok.mod.kin hm.kp (thn (ha.run pos pins s1 σ H1 _ I1 q) fun us s2 ⟨vs, H2, I2, r, q2⟩ => ⟨I2.kIn, ?_⟩) hst hpl
  exact run_fnS (us := .ref a :: us) (vs := .ref a :: vs) F hr hb (hx σ) I2 (.cons rfl r) q2
theorem pe_methW0 {pl : Sem Bool} (he : PE X o ta) (c : Cls X.K C) (hm : Meth X.K C m f) (F : FnOk X.prog X.w X.K X.mg X.base CX k f fd ps sp) (hr : Room k X.A) (hb : Binds X.K fd ps []) (hx : ∀ σ, PassesAt CX X σ (E σ))
    (ht : eval (.Call (.Attribute o m apos) [] [] pos) X.env = (do
      let ov ← eval o X.env
      standAt apos.atName
      let (f, first) ← holding [ov] (getMethod ov m pl)
      callWith pos f first (backTo pos (starEach [] X.env)) (backToKw pos (keywordEach [] X.env))) := by rfl) :
    PE X (.Call (.Attribute o m apos) [] [] pos) (tMethW C m sp E ta tNil) := by
  refine ⟨fun pins s σ H Q I h => ?_⟩
  refine PySem.W.methodCall_KW (pl := pl) (thn (he.run pins s σ H _ I h) fun u s1 ⟨x, H1, I1, rx, a, dx, fs, ex, ea, l, q⟩ => ?_) ht
  subst ex
  obtain rfl : u = Value.ref a := rx
  refine getmeth_ok I1 ea c hm l ?_
  exact PySem.W.callWith_K0 (first := [.ref a]) I1.kIn hm.kp (run_fnS (us := [.ref a]) (vs := [.ref a]) F hr hb (hx σ) I1 (.cons rfl .nil) q)
def tMakeW (C : Addr) (sp : Sp) (E : Sg → XK) (t : TA) : TE := fun σ H Q => t σ H fun vs H1 => ∀ x dx, H1 x = none → H1 dx = none → dx ≠ x →
  sp (.ref x :: vs) (upd (upd H1 dx (.own x)) x (.ins C dx [])) (fun v H2 => v = .non ∧ Q (.ref x) H2) (E σ)
theorem run_makeW {pins : List (Addr × Obj)} {σ : Sg} {H : Hp} {s : Shared} {Q : VK} {us : List Value} {vs : List V} (M : Mk X.K C f) (F : FnOk X.prog X.w X.K X.mg X.base CX k f fd ps sp) (hr : Room (k + 1) X.A) (hb : Binds X.K fd ps [])
    (hx : ∀ σ, PassesAt CX X σ (E σ)) (I : Inv X pins σ H s) (r : Vals vs us)
    (h : ∀ x dx, H x = none → H dx = none → dx ≠ x → sp (.ref x :: vs) (upd (upd H dx (.own x)) x (.ins C dx [])) (fun v H2 => v = .non ∧ Q (.ref x) H2) (E σ)) :
    wpAny (model X.prog X.w) X.A (call (.ref C) us) (EP X pins σ Q) X.xe s := by
  have hq := h (s.heap.objs.size + 1) s.heap.objs.size (I.hok.fresh (Nat.le_succ _)) (I.hok.fresh (Nat.le_refl _)) (Nat.ne_of_lt (Nat.lt_succ_self _))
  have I2 := Inv.made (C := C) I
  have r2 : Vals (V.ref (s.heap.objs.size + 1) :: vs) (Value.ref (s.heap.objs.size + 1) :: us) := .cons rfl r
  have hl : (Value.ref (s.heap.objs.size + 1) :: us).length = ps.length := by
    have e := r2.length
    rw [F.len _ _ _ _ hq] at e
    exact e.symm
  have b := hb _ (Value.ref (s.heap.objs.size + 1) :: us) I2.kIn (by rw [List.append_nil]; exact hl)
  rw [List.append_nil] at b
  refine wpAny_call (make_map (f := f) I.kIn M.makes M.init (beq_iff_eq.mp M.fn) (codeAny_mono (F.run _ X.stack _ _ ⟨Value.ref (s.heap.objs.size + 1) :: us, []⟩ (Value.ref (s.heap.objs.size + 1) :: us) _ _ (E σ) (hr.make C us [])
    (I2.env0.make C us []) b r2 hq) fun r s' hq' => ?_))
  cases r with
  | error e => exact hx σ pins _ _ e s' I2 hq'
  | ok fl =>
    cases fl with
    | ret u =>
      obtain ⟨v, H', I3, rv, ev, q3⟩ := I2.after hq'
      subst ev
      exact ⟨rv, ⟨V.ref (s.heap.objs.size + 1), H', I3, rfl, q3⟩⟩
    | next => exact False.elim hq'
    | brk => exact False.elim hq'
    | cont => exact False.elim hq'
theorem pe_makeW (M : Mk X.K C f) (F : FnOk X.prog X.w X.K X.mg X.base CX k f fd ps sp) (hr : Room (k + 1) X.A) (hg : Gl X x) (hm : X.mg x = some (.ref C)) (hb : Binds X.K fd ps []) (hx : ∀ σ, PassesAt CX X σ (E σ))
    (ha : PA X (e :: es) t) (hdb : (x == ("__debug__" : Str)) = false := by decide) (he : starEach (e :: es) X.env = (false, eval e X.env) :: starEach es X.env := by rfl) (hpl : (backTo pos (starEach es X.env)).any (·.1) = false := by rfl) :
    PE X (.Call (.Name x p) (e :: es) [] pos) (tMakeW C sp E t) := by
  refine ⟨fun pins s σ H Q I h => ?_⟩
  refine wpAny_Call_Name_kw (ld_glob I hg hm ?_ hdb)
  refine PySem.W.callWith_K (h₀ := X.base) I.ok.mod.kin M.kp (thn (ha.run pos pins s σ H _ I h) fun us s1 ⟨vs, H1, I1, r, q⟩ => ⟨I1.kIn, ?_⟩) he hpl
  exact run_makeW M F hr hb hx I1 r q
end
theorem Own.newIns {H : Hp} {L : List Cl} {x dx : Addr} {c : Nat} (h : Own G H L) (hx : H x = none) (hdx : H dx = none) (ne : dx ≠ x) : Own G (upd (upd H dx (.own x)) x (.ins (G.cls c) dx [])) (⟨.ins [], .ref x, .ins c []⟩ :: L) := by
  have s1 : Same H (upd H dx (.own x)) := upd_new hdx
  have hx' : upd H dx (.own x) x = none := by rw [upd_ne ne.symm]; exact hx
  have s2 : Same (upd H dx (.own x)) (upd (upd H dx (.own x)) x (.ins (G.cls c) dx [])) := upd_new hx'
  have ss := s1.trans s2
  obtain ⟨O, o⟩ := h
  have np : x ∉ O := o.notin hx
  obtain ⟨r, nd⟩ := o
  have k : Kp (fun a => a ∉ O) (fun a => a ∉ [x] ++ O) H (upd (upd H dx (.own x)) x (.ins (G.cls c) dx [])) := ⟨fun a o e _ => ss a o e, fun a o e n => by
    simp only [List.singleton_append, List.mem_cons, not_or]
    exact ⟨ne_of_none e hx, n⟩⟩
  have rins : RT G (fun a => a ∉ [x] ++ O) (upd (upd H dx (.own x)) x (.ins (G.cls c) dx [])) (.ins []) (.ref x) (.ins c []) [x] := RT.ins (L := []) (ids := []) (dx := dx) upd_same .nil rfl
  exact ⟨[x] ++ O, .cons (t := ⟨.ins [], .ref x, .ins c []⟩) (f1 := [x]) rins (r.mono k fun a _ o e => ss a o e), List.nodup_cons.mpr ⟨np, nd⟩⟩
theorem tem_make {c : Nat} {f : Fs} (hf : f.len) {as : M (List Rv)} {σ : Sg} {H : Hp} {Q : VK} (h : TEm G W false (mMake c f as) σ H Q) : tMakeW (G.cls c) (spF G f) (WE W) (TAm G W q as) σ H Q := by
  obtain ⟨S, T, r, S', ag, ow, e, k⟩ := h
  unfold mMake at e
  split at e
  · cases e
  · rename_i e1
    cases e
    exact ⟨S, T, _, _, ag, ow, e1, k⟩
  · rename_i rs S1 e1
    refine ⟨S, T, _, _, ag, ow, e1, fun vs H1 a1 a2 a3 _ => ?_⟩
    intro x dx hx hdx ne
    split at e
    · cases e
    · rename_i ads S2 e2
      obtain ⟨hl, ag2, p⟩ := takeA_cls (T := T) a1 a3 e2
      have pl := takeA_plain e2
      have o1 : Own G (upd (upd H1 dx (.own x)) x (.ins (G.cls c) dx [])) (clA ((.ins [], .ins c []) :: ads) (.ref x :: vs) ++ (cl S2 σ ++ T)) := (a2.perm p).newIns hx hdx ne
      split at e
      · rename_i ex x0 xs e3
        cases e
        have hlx : xs.length = vs.length := by have := hf _ _ _ e3; simp at this; omega
        refine ⟨(.ins [], .ins c []) :: ads, cl S2 σ ++ T, _, x0 :: xs, by simp [hl], o1, e3, by simp [hlx], fun cv od H' o x' => ?_⟩
        have o' : OwnX G H' ex od (cl xs (vs.map some) ++ (cl S2 σ ++ T)) := by
          cases x0 with
          | none => exact o
          | some y =>
            obtain ⟨sh, d⟩ := y
            exact OwnX.drop (A := [⟨sh, .ref x, d⟩]) o
        obtain ⟨b1, b2⟩ := backA_cls (H := H') (T := T) (L := exL ex od) ag2 (okA_refs a3) (okA_any pl a3) hlx o'
        exact k cv od H' b1 b2 x'
      · rename_i sh d xs e3
        cases e
        have hlx : xs.length = vs.length := by have := hf _ _ _ e3; simp at this; omega
        refine ⟨(.ins [], .ins c []) :: ads, cl S2 σ ++ T, _, some (sh, d) :: xs, by simp [hl], o1, e3, by simp [hlx], fun v H' o => ?_⟩
        have o0 : Own G H' (⟨.fz, v, .non⟩ :: (⟨sh, .ref x, d⟩ :: (cl xs (vs.map some) ++ (cl S2 σ ++ T)))) := o
        have hv : v = .non := by
          obtain ⟨O, oo⟩ := id o0
          cases oo.head.1
          rfl
        subst hv
        obtain ⟨b1, b2⟩ := backA_cls (H := H') (T := T) (L := [⟨sh, .ref x, d⟩]) ag2 (okA_refs a3) (okA_any pl a3) hlx (Own.tail o0)
        exact ⟨rfl, k _ H' b1 b2 trivial fun hq => by cases hq⟩
      · cases e
/-- making an instance -/
theorem e_make {k c : Nat} {f : Addr} {fd : FuncData} {ps : List Str} {fs : Fs} {x : Str} {p pos : Pos} {e : Expr} {es : List Expr} {as : M (List Rv)} (hf : fs.len) (hg : Gl X x) (F : FnOk X.prog X.w X.K X.mg X.base (L2.CX X.prog X.w) k f fd ps (spF G fs)) (hr : Room (k + 1) X.A) (hm : X.mg x = some (.ref (G.cls c))) (hM : Mk X.K (G.cls c) f)
    (hb : L2.Binds X.K fd ps []) (tk : L2.Takes X W) (ha : PA X (e :: es) (TAm G W q as)) (hdb : (x == ("__debug__" : Str)) = false := by decide) (he : starEach (e :: es) X.env = (false, eval e X.env) :: starEach es X.env := by rfl) (hpl : (backTo pos (starEach es X.env)).any (·.1) = false := by rfl) :
    PE X (.Call (.Name x p) (e :: es) [] pos) (TEm G W false (mMake c fs as)) := (pe_makeW (E := WE W) hM F hr hg hm hb (fun σ => passAt tk σ) ha hdb he hpl).imp fun _ _ _ h => tem_make hf h
theorem tem_methW {c n : Nat} {mm : Str} (hn : ∀ i, i < n → G.fld i ≠ mm) {f : Fs} (hf : f.len) {m : M Rv} {ms : List (Bool × M Rv)} {σ : Sg} {H : Hp} {Q : VK} (h : TEm G W false (mCall f (mArgs ((q0, mInst c n m) :: ms))) σ H Q) :
    tMethW (G.cls c) mm (spF G f) (WE W) (TEm G W q0 m) (TAm G W (ms.all (·.1)) (mArgs ms)) σ H Q := by
  have h1 := tam_cons (tem_call (q := ((q0, mInst c n m) :: ms).all (·.1)) hf h)
  exact tem_mono (tem_inst hn h1) fun x H1 ⟨⟨a, dx, fs, e1, e2, e3⟩, h2⟩ => ⟨a, dx, fs, e1, e2, e3, h2⟩
/-- o.m(e, ..) -/
theorem e_meth {k c n : Nat} {f : Addr} {fd : FuncData} {ps : List Str} {fs : Fs} {mm : Str} {pl : Sem Bool} {apos pos : Pos} {o e : Expr} {es : List Expr} {m : M Rv} {ms : List (Bool × M Rv)} (hf : fs.len) (F : FnOk X.prog X.w X.K X.mg X.base (L2.CX X.prog X.w) k f fd ps (spF G fs)) (hr : Room k X.A)
    (hc : Cls X.K (G.cls c)) (hM : Meth X.K (G.cls c) mm f) (hn : ∀ i, i < n → G.fld i ≠ mm) (hb : L2.Binds X.K fd ps []) (tk : L2.Takes X W) (ho : PE X o (TEm G W q0 m)) (ha : PA X (e :: es) (TAm G W (ms.all (·.1)) (mArgs ms)))
    (hst : starEach (e :: es) X.env = (false, eval e X.env) :: starEach es X.env := by rfl) (hpl : (backTo pos (starEach es X.env)).any (·.1) = false := by rfl)
    (ht : eval (.Call (.Attribute o mm apos) (e :: es) [] pos) X.env = (do
      let ov ← eval o X.env
      standAt apos.atName
      let (f, first) ← holding [ov] (getMethod ov mm pl)
      callWith pos f first (backTo pos (starEach (e :: es) X.env)) (backToKw pos (keywordEach [] X.env))) := by rfl) :
    PE X (.Call (.Attribute o mm apos) (e :: es) [] pos) (TEm G W false (mCall fs (mArgs ((q0, mInst c n m) :: ms)))) := (pe_methW (E := WE W) ho hc hM F hr hb (fun σ => passAt tk σ) ha hst hpl ht).imp fun _ _ _ h => tem_methW hn hf h
theorem e_meth0 {k c n : Nat} {f : Addr} {fd : FuncData} {ps : List Str} {fs : Fs} {mm : Str} {pl : Sem Bool} {apos pos : Pos} {o : Expr} {m : M Rv} (hf : fs.len) (F : FnOk X.prog X.w X.K X.mg X.base (L2.CX X.prog X.w) k f fd ps (spF G fs)) (hr : Room k X.A)
    (hc : Cls X.K (G.cls c)) (hM : Meth X.K (G.cls c) mm f) (hn : ∀ i, i < n → G.fld i ≠ mm) (hb : L2.Binds X.K fd ps []) (tk : L2.Takes X W) (ho : PE X o (TEm G W q0 m))
    (ht : eval (.Call (.Attribute o mm apos) [] [] pos) X.env = (do
      let ov ← eval o X.env
      standAt apos.atName
      let (f, first) ← holding [ov] (getMethod ov mm pl)
      callWith pos f first (backTo pos (starEach [] X.env)) (backToKw pos (keywordEach [] X.env))) := by rfl) :
    PE X (.Call (.Attribute o mm apos) [] [] pos) (TEm G W false (mCall fs (mArgs [(q0, mInst c n m)]))) := (pe_methW0 (E := WE W) ho hc hM F hr hb (fun σ => passAt tk σ) ht).imp fun _ _ _ h => tem_mono (tem_methW hn hf h) fun x H1 ⟨a, dx, fs, e1, e2, e3, h2⟩ => ⟨a, dx, fs, e1, e2, e3, tam_nil h2⟩
end
end
end Dt

/-! Fields stored; append at a place. -/
namespace Dt
noncomputable section
open PySem PySem.Spec PyProof.Rows L2
/-- self.f = e, self the name in the slot i -/
def putFD (k : Nat) (sh : Sh) (d : D) (cs : List Sh) (fs : List (Nat × D)) : List Sh × List (Nat × D) := match fs.findIdx? (fun x => x.1 == k) with
  | some j => (cs.set j sh, fs.set j (k, d))
  | none => (cs ++ [sh], fs ++ [(k, d)])
def sFldSet (i c k : Nat) (m : M Rv) : MS := fun S => match m S with
  | none => none
  | some (.error e, S1) => some (.error e, S1)
  | some (.ok (.tmp sh d), S1) => match S1[i]? with
    | some (some (.ins cs, .ins c' fs)) => if c' = c ∧ fs.length < 1000 then some (.ok .nx, S1.set i (some (.ins (putFD k sh d cs fs).1, .ins c (putFD k sh d cs fs).2))) else none
    | _ => none
  | _ => none
/-- append at a place within a name's thing -/
def mAppendP (as : M (List Rv)) : M Rv := fun S => match as S with
  | none => none
  | some (.error e, S1) => some (.error e, S1)
  | some (.ok [.ref i p, .tmp sh d], S1) => match S1[i]? with
    | some (some sd) => match pathD sd p with
      | some (.lst c, .lst ds) => if fits c sh = true ∧ ds.length < sizeLine then some (.ok (.tmp .fz .non), S1.set i (some (sd.1, updD sd p (.lst (ds ++ [d]))))) else none
      | _ => none
    | _ => none
  | _ => none
section
variable {X : Cx} {G : Gm} {W : WX} {B : Bw} {q q0 q1 q2 : Bool}
theorem putF_old (inj : ∀ i j, G.fld i = G.fld j → i = j) {k : Nat} {y : V} : ∀ {ids : List Nat} {vs : List V} {j : Nat}, ids.length = vs.length → ids.findIdx? (fun i => i == k) = some j → putF (G.fld k) y ((ids.map G.fld).zip vs) = (ids.map G.fld).zip (vs.set j y)
  | [], _, _, _, h => by simp at h
  | _ :: _, [], _, hl, _ => by simp at hl
  | i :: ids, v :: vs, j, hl, h => by
    simp only [List.findIdx?_cons] at h
    simp only [List.map_cons, List.zip_cons_cons, putF]
    by_cases e : i = k
    · subst e
      simp at h
      subst h
      simp
    · have e1 : (i == k) = false := by simpa using e
      have e2 : ¬ G.fld i = G.fld k := fun z => e (inj _ _ z)
      rw [e1] at h
      rw [if_neg e2]
      cases hf : ids.findIdx? (fun i => i == k) with
      | none => rw [hf] at h; simp at h
      | some j' =>
        rw [hf] at h
        simp at h
        subst h
        rw [putF_old inj (by simpa using hl) hf]
        simp
theorem putF_new (inj : ∀ i j, G.fld i = G.fld j → i = j) {k : Nat} {y : V} : ∀ {ids : List Nat} {vs : List V}, ids.length = vs.length → ids.findIdx? (fun i => i == k) = none → putF (G.fld k) y ((ids.map G.fld).zip vs) = ((ids ++ [k]).map G.fld).zip (vs ++ [y])
  | [], [], _, _ => by simp [putF]
  | [], _ :: _, hl, _ => by simp at hl
  | _ :: _, [], hl, _ => by simp at hl
  | i :: ids, v :: vs, hl, h => by
    simp only [List.findIdx?_cons] at h
    simp only [List.map_cons, List.zip_cons_cons, putF, List.cons_append]
    by_cases e : i = k
    · subst e
      simp at h
    · have e1 : (i == k) = false := by simpa using e
      have e2 : ¬ G.fld i = G.fld k := fun z => e (inj _ _ z)
      rw [e1] at h
      rw [if_neg e2]
      have h' : ids.findIdx? (fun i => i == k) = none := by
        cases hf : ids.findIdx? (fun i => i == k) with
        | none => rfl
        | some j => rw [hf] at h; simp at h
      rw [putF_new inj (by simpa using hl) h']
theorem findIdx_zip {k : Nat} : ∀ {ids : List Nat} {ds : List D}, ids.length = ds.length → (ids.zip ds).findIdx? (fun x => x.1 == k) = ids.findIdx? (fun i => i == k)
  | [], [], _ => rfl
  | [], _ :: _, hl => by simp at hl
  | _ :: _, [], hl => by simp at hl
  | i :: ids, d :: ds, hl => by
    simp only [List.zip_cons_cons, List.findIdx?_cons]
    rw [findIdx_zip (by simpa using hl)]
theorem findIdx_lt {k : Nat} : ∀ {ids : List Nat} {j : Nat}, ids.findIdx? (fun i => i == k) = some j → j < ids.length ∧ ids[j]? = some k
  | [], _, h => by simp at h
  | i :: ids, j, h => by
    simp only [List.findIdx?_cons] at h
    by_cases e : i = k
    · subst e
      simp at h
      subst h
      simp
    · have e1 : (i == k) = false := by simpa using e
      rw [e1] at h
      cases hf : ids.findIdx? (fun i => i == k) with
      | none => rw [hf] at h; simp at h
      | some j' =>
        rw [hf] at h
        simp at h
        subst h
        obtain ⟨h1, h2⟩ := findIdx_lt hf
        exact ⟨by simpa using h1, by simpa using h2⟩
/-- a field of an owned instance is stored -/
theorem Own.putF {H : Hp} {cs : List Sh} {v0 y : V} {c k : Nat} {fs : List (Nat × D)} {sh : Sh} {d : D} {L : List Cl} (h : Own G H (⟨.ins cs, v0, .ins c fs⟩ :: ⟨sh, y, d⟩ :: L)) :
    ∃ (a dx : Addr) (gs : List (Str × V)), v0 = .ref a ∧ H a = some (.ins (G.cls c) dx gs) ∧ gs.length = fs.length ∧
      Own G (upd H a (.ins (G.cls c) dx (L2.putF (G.fld k) y gs))) (⟨.ins (putFD k sh d cs fs).1, v0, .ins c (putFD k sh d cs fs).2⟩ :: L) := by
  have hv : ∃ a, v0 = .ref a := by
    obtain ⟨O, o⟩ := id h
    obtain ⟨f, rt⟩ := o.1.mem (t := ⟨.ins cs, v0, .ins c fs⟩) (by simp)
    obtain ⟨a, _, _, _, e, _⟩ := rt.insO
    exact ⟨a, e⟩
  obtain ⟨a, rfl⟩ := hv
  obtain ⟨A, ids, dx, hcs, hfs, hl, hA, oA⟩ := h.openIns
  subst hcs; subst hfs
  refine ⟨a, dx, _, rfl, hA, by simp, ?_⟩
  have hz : (ids.zip (A.map Cl.d)).findIdx? (fun x => x.1 == k) = ids.findIdx? (fun i => i == k) := findIdx_zip (by simpa using hl)
  unfold putFD
  rw [hz]
  cases hk : ids.findIdx? (fun i => i == k) with
  | some j =>
    obtain ⟨hj, hjk⟩ := findIdx_lt hk
    have hjA : j < A.length := by omega
    have ht : A[j]? = some A[j] := List.getElem?_eq_getElem hjA
    rw [putF_old G.inj (by simpa using hl) hk]
    have o1 : Own G H (⟨.adr, .ref a, .non⟩ :: ((A.set j ⟨sh, y, d⟩) ++ L)) := by
      have p : (⟨.adr, .ref a, .non⟩ :: (A ++ (⟨sh, y, d⟩ :: L)) : List Cl).Perm (A[j] :: (⟨.adr, .ref a, .non⟩ :: ((A.set j ⟨sh, y, d⟩) ++ L))) := by
        rw [set_mid ht]
        conv => lhs; rw [take_drop_perm ht]
        simp only [List.append_assoc, List.cons_append]
        refine (List.Perm.cons _ List.perm_middle).trans ?_
        refine (List.Perm.swap _ _ _).trans (List.Perm.cons _ (List.Perm.cons _ ?_))
        refine List.Perm.append_left _ ?_
        exact List.perm_middle
      exact Own.tail (oA.perm p)
    have o2 := (o1.write (o := .ins (G.cls c) dx ((ids.map G.fld).zip ((A.set j ⟨sh, y, d⟩).map Cl.v)))).closeIns (c := c) (dx := dx) (ids := ids) (by simpa using hl) upd_same
    have e1 : (A.set j ⟨sh, y, d⟩).map Cl.v = (A.map Cl.v).set j y := by rw [List.map_set]
    have e2 : (A.set j ⟨sh, y, d⟩).map Cl.sh = (A.map Cl.sh).set j sh := by rw [List.map_set]
    have e3 : ids.zip ((A.set j ⟨sh, y, d⟩).map Cl.d) = (ids.zip (A.map Cl.d)).set j (k, d) := by rw [List.map_set]; exact (zip_set hjk).symm
    rw [e1, e2, e3] at o2
    exact o2
  | none =>
    rw [putF_new G.inj (by simpa using hl) hk]
    have o1 : Own G H (⟨.adr, .ref a, .non⟩ :: ((A ++ [⟨sh, y, d⟩]) ++ L)) := by simpa using oA
    have o2 := (o1.write (o := .ins (G.cls c) dx (((ids ++ [k]).map G.fld).zip ((A ++ [(⟨sh, y, d⟩ : Cl)]).map Cl.v)))).closeIns (c := c) (dx := dx) (ids := ids ++ [k]) (by simp [hl]) upd_same
    simp only [List.map_append, List.map_cons, List.map_nil] at o2 ⊢
    have e3 : (ids ++ [k]).zip (A.map Cl.d ++ [d]) = ids.zip (A.map Cl.d) ++ [(k, d)] := by
      rw [List.zip_append (by simpa using hl)]
      rfl
    rw [e3] at o2
    exact o2
theorem tsm_fld {i c k : Nat} {m : M Rv} {D : Ends} {σ : Sg} {H : Hp} (hc : Cls G.K (G.cls c)) (na : NoAttr G.K (G.cls c) (G.fld k)) (h : TSm G W B (sFldSet i c k m) D σ H) : sFld G.K (tVar i) (TEm G W q m) (G.fld k) D σ H := by
  obtain ⟨S, T, r, S', ag, ow, e, kk⟩ := h
  unfold sFldSet at e
  split at e
  · cases e
  · rename_i e1
    cases e
    exact ⟨S, T, _, _, ag, ow, e1, fun cv od H' x1 x2 x => kk cv od σ H' x1 x2 Kb.refl x⟩
  · rename_i sh d S1 e1
    split at e
    · rename_i cs c' fs hS
      split at e
      · rename_i hh
        obtain ⟨hh, hlt⟩ := hh
        subst hh
        cases e
        refine ⟨S, T, _, _, ag, ow, e1, fun y H1 a1 a2 a3 a4 => ?_⟩
        obtain ⟨v0, ev⟩ := a1.get hS
        refine ⟨v0, ev, ?_⟩
        have p := (cl_get hS ev).append_right T
        have o1 : Own G H1 (⟨.ins cs, v0, .ins c' fs⟩ :: ⟨sh, y, d⟩ :: (cl (S1.set i none) σ ++ T)) := by
          have : Own G H1 (⟨sh, y, d⟩ :: (cl S1 σ ++ T)) := a2
          exact (this.perm (p.cons _)).perm (List.Perm.swap _ _ _)
        obtain ⟨a, dx, gs, hv, hA, hlen, o2⟩ := o1.putF (k := k)
        refine ⟨a, _, dx, gs, hv, hA, hc, na, by omega, ?_⟩
        refine kk σ _ (a1.set ev) (o2.perm ?_) Kb.refl
        exact ((cl_set a1.length ev).append_right T).symm
      · cases e
    · cases e
  · cases e
theorem s_fld {i c k : Nat} {x f : Str} {e : Expr} {m : M Rv} {pos p1 p2 : Pos} (hK : X.K = G.K) (hc : Cls G.K (G.cls c)) (na : NoAttr G.K (G.cls c) (G.fld k)) (hf : G.fld k = f) (he : PE X e (TEm G W q m)) (hN : X.N[i]? = some x := by rfl) (hv : Vis X.env.scope x := by first | exact Or.inl rfl | exact Or.inr (Or.inl rfl) | exact Or.inr (Or.inr rfl)) (hd : (x == ("__debug__" : Str)) = false := by decide) (hcd : (x == ("__classdict__" : Str)) = false := by decide)
    (hs : swapsWith e (some (.Attribute (.Name x p1) f p2)) pos.line X.env = pure false := by rfl) : PS X (.Assign [.Attribute (.Name x p1) f p2] e pos) (TSm G W B (sFldSet i c k m)) := by
  subst hf
  refine (ps_fld (pe_var hN hv hd hcd) he hs).imp fun D σ H h => ?_
  rw [hK]
  exact tsm_fld hc na h
theorem RTs.memfp {N : Addr → Prop} {H : Hp} : ∀ {L : List Cl} {fp : List Addr}, RTs G N H L fp → ∀ {t : Cl}, t ∈ L → ∃ f, RT G N H t.sh t.v t.d f ∧ ∀ a ∈ f, a ∈ fp
  | _, _, .nil, _, h => by simp at h
  | _, _, .cons (f1 := f1) (f2 := f2) h r, t, ht => by
    rcases List.mem_cons.mp ht with rfl | ht
    · exact ⟨_, h, fun a ha => List.mem_append_left _ ha⟩
    · obtain ⟨f, h1, h2⟩ := r.memfp ht
      exact ⟨f, h1, fun a ha => List.mem_append_right _ (h2 a ha)⟩
theorem Own.apart {H : Hp} {c : Sh} {b : Addr} {ds : List D} {L : List Cl} (h : Own G H (⟨.lst c, .ref b, .lst ds⟩ :: L)) {t : Cl} (ht : t ∈ L) (hs : t.sh = .adr) {a : Addr} (hv : t.v = .ref a) : a ≠ b := by
  obtain ⟨O, r, nd⟩ := h
  cases r with
  | @cons _ _ f1 f2 h r =>
    have hb : b ∈ f1 := by
      cases h with
      | lst => simp
    obtain ⟨f, h1, h2⟩ := RTs.memfp r (t := t) (List.mem_append_left _ ht)
    have ha : a ∈ f := by
      rw [hs, hv] at h1
      cases h1 with
      | adr => simp
    intro e
    subst e
    exact (List.nodup_append.mp nd).2.2 _ hb _ (h2 _ ha) rfl
theorem tem_appendP {as : M (List Rv)} {σ : Sg} {H : Hp} {Q : VK} (h : TEm G W false (mAppendP as) σ H Q) : TAm G W q as σ H fun vs H2 => ∃ x xs, vs = x :: xs ∧ rAppend x xs H2 Q := by
  obtain ⟨S, T, r, S', ag, ow, e, k⟩ := h
  unfold mAppendP at e
  split at e
  · cases e
  · rename_i e1
    cases e
    exact ⟨S, T, _, _, ag, ow, e1, k⟩
  · rename_i i p sh d S1 e1
    split at e
    · rename_i sd hS
      split at e
      · rename_i c ds hp
        split at e
        · rename_i hc
          cases e
          refine ⟨S, T, _, _, ag, ow, e1, fun vs H1 a1 a2 a3 _ => ?_⟩
          cases vs with
          | nil => exact a3.elim
          | cons v vs => cases vs with
            | nil => exact a3.2.elim
            | cons w vs => cases vs with
              | cons => exact a3.2.2.elim
              | nil =>
                obtain ⟨v0, ev, pv⟩ := a3.1
                obtain ⟨sh0, d0⟩ := sd
                have o1 : Own G H1 (⟨sh, w, d⟩ :: (cl S1 σ ++ T)) := a2
                have pm := (cl_get hS ev).append_right T
                have o2 : Own G H1 (⟨sh0, v0, d0⟩ :: ⟨c, w, d⟩ :: (cl (S1.set i none) σ ++ T)) := ((o1.fit hc.1).perm (pm.cons _)).perm (List.Perm.swap _ _ _)
                obtain ⟨C, o3, back⟩ := o2.focus hp pv
                have o4 : Own G H1 (⟨.lst c, v, .lst ds⟩ :: ⟨c, w, d⟩ :: (C ++ (cl (S1.set i none) σ ++ T))) := by
                  refine o3.perm (List.Perm.cons _ ?_)
                  exact List.perm_middle
                have hv : ∃ a, v = .ref a := by
                  obtain ⟨O, o⟩ := id o4
                  obtain ⟨f, rt⟩ := o.1.mem (t := ⟨.lst c, v, .lst ds⟩) (by simp)
                  obtain ⟨a, _, e, _⟩ := rt.lstO
                  exact ⟨a, e⟩
                obtain ⟨a, rfl⟩ := hv
                obtain ⟨vs, ha, hl, o5⟩ := o4.append
                refine ⟨.ref a, [w], rfl, a, vs, w, rfl, rfl, ha, by rw [hl]; exact hc.2, ?_⟩
                have fr : ∀ t ∈ C, t.sh = .adr → ∀ b, t.v = .ref b → upd H1 a (.lst (vs ++ [w])) b = H1 b := fun t ht hs b hb => upd_ne (o4.apart (t := t) (by simp [ht]) hs hb)
                have o6 := back _ (cl (S1.set i none) σ ++ T) (.lst (ds ++ [d])) fr o5
                refine k .non _ (a1.set ev) (Own.nonC (o6.perm ?_)) trivial fun hq => by cases hq
                exact ((cl_set a1.length ev).append_right T).symm
        · cases e
      · cases e
    · cases e
  · cases e
theorem m_appendP {o e : Expr} {m : M Rv} {pos apos : Pos} {ms : List (Bool × M Rv)} (hK : X.K = G.K) (ho : PE X o (TEm G W q0 m)) (ha : PA X [e] (TAm G W (ms.all (·.1)) (mArgs ms))) (hbase : attributeBase o "append" X.env (eval o X.env) = eval o X.env := by rfl)
    (hfew : ((backTo pos (starEach [e] X.env)).all (fun x => !x.1) && (backToKw pos (keywordEach [] X.env)).all (fun x => x.1.isSome)
      && decide (([e] : List Expr).length + ([] : List Keyword).length + (if ([] : List Keyword).isEmpty then 0 else 1) < 30)) = true := by rfl)
    (hline : (apos.endLine == pos.line) = true := by rfl) (hs : starEach [e] X.env = (false, eval e X.env) :: starEach [] X.env := by rfl) (hplain : (backTo pos (starEach [] X.env)).any (·.1) = false := by rfl) :
    PE X (.Call (.Attribute o "append" apos) [e] [] pos) (TEm G W false (mAppendP (mArgs ((q0, mRecv "list" m) :: ms)))) := by
  refine (pe_bm PySem.F.plainAttrs_list PySem.F.slot_list_append PySem.F.type_list_append mt_appendR ho ha hbase hfew hline hs hplain).imp fun σ H Q h => ?_
  rw [hK]
  exact tem_meth (tem_appendP h)
end
end
end Dt

/-! How the cores of DtS to DtW are computed. -/
namespace Dt
noncomputable section
open PySem PySem.Spec PyProof.Rows L2
section
variable {S S1 : List Slot} {X : XP} {Q : Rv → List Slot → Prop} {QB : Bool → List Slot → Prop} {QA : List Rv → List Slot → Prop} {QI : List D → List Slot → Prop} {K : Kn} {B : Bw}
@[simp] theorem e_failR : Ev (mFail : M Rv) S X Q ↔ False := by unfold Ev; exact Iff.rfl
@[simp] theorem e_failB : Ev (mFail : M Bool) S X QB ↔ False := by unfold Ev; exact Iff.rfl
@[simp] theorem e_failS : Es (mFail : MS) S K ↔ False := by unfold Es Ev; exact Iff.rfl
@[simp] theorem e_op1 {f : D → Option (Sh × D)} {q1 : Bool} {a : M Rv} : Ev (mOp1 f q1 a) S X Q ↔ Ev (mFun (on1 f) (mArgs [(q1, a)])) S X Q := by unfold Ev; exact Iff.rfl
@[simp] theorem neg_int {i : Int} : negF (.int i) = some (.fz, .int (-i)) := (rfl)
@[simp] theorem ltI_int {i j : Int} : ltIF (.int i) (.int j) = some (.fz, .bl (decide (i < j))) := (rfl)
@[simp] theorem addI_int {i j : Int} : addIF (.int i) (.int j) = some (.fz, .int (i + j)) := (rfl)
@[simp] theorem isN_n : isNF .non .non = some (.fz, .bl true) := (rfl)
@[simp] theorem isN_i {i : Int} : isNF (.int i) .non = some (.fz, .bl false) := (rfl)
@[simp] theorem isN_b {i : Bool} : isNF (.bl i) .non = some (.fz, .bl false) := (rfl)
@[simp] theorem isN_s {x : List Nat} : isNF (.str x) .non = some (.fz, .bl false) := (rfl)
@[simp] theorem isN_t {x : List D} : isNF (.tup x) .non = some (.fz, .bl false) := (rfl)
@[simp] theorem isN_l {x : List D} : isNF (.lst x) .non = some (.fz, .bl false) := (rfl)
@[simp] theorem notN_n : notNF .non .non = some (.fz, .bl false) := (rfl)
@[simp] theorem notN_i {i : Int} : notNF (.int i) .non = some (.fz, .bl true) := (rfl)
@[simp] theorem notN_b {i : Bool} : notNF (.bl i) .non = some (.fz, .bl true) := (rfl)
@[simp] theorem notN_s {x : List Nat} : notNF (.str x) .non = some (.fz, .bl true) := (rfl)
@[simp] theorem notN_t {x : List D} : notNF (.tup x) .non = some (.fz, .bl true) := (rfl)
@[simp] theorem notN_l {x : List D} : notNF (.lst x) .non = some (.fz, .bl true) := (rfl)
open Classical in
theorem any_pl {n m : Nat} {x : D} {p : PyData} (hx : pl n x = true) (e : x.py = some p) : ∀ {ys : List D} {ps : List PyData}, pls m ys = true → D.pys ys = some ps → ps.any (fun z => PyData.eqv z p) = decide (x ∈ ys)
  | [], ps, _, e2 => by cases e2; simp
  | y :: ys, ps, h, e2 => by
    simp only [pls, Bool.and_eq_true] at h
    obtain ⟨q, e3, _⟩ := pl_py h.1
    obtain ⟨qs, e4, _⟩ := pls_py h.2
    simp only [D.pys, e3, e4, Option.some.injEq] at e2
    subst e2
    rw [List.any_cons, any_pl hx e h.2 e4]
    have := eqv_pl h.1 hx e3 e
    by_cases hy : y = x
    · rw [this.mpr hy]; simp [hy]
    · have : PyData.eqv q p = false := by
        cases hq : PyData.eqv q p with
        | false => rfl
        | true => exact absurd (this.mp hq) hy
      rw [this]
      simp [Ne.symm (a := y) (b := x) hy]
open Classical in
theorem in_lst {n m : Nat} {x : D} {ys : List D} (hx : pl n x = true) (hy : pls m ys = true) (hn : n ≤ 64) (hm : m ≤ 63) : inB x (.lst ys) = some (decide (x ∈ ys)) := by
  obtain ⟨p, e1, c1, d1⟩ := pl_py hx
  obtain ⟨ps, e2, c2, d2⟩ := pls_py hy
  unfold inB
  simp only [e1, e2]
  have s1 : SeqAt.shaped p = true := by simp [SeqAt.shaped, c1]; omega
  have s2 : SeqAt.shaped (.list ps) = true := by simp [SeqAt.shaped, PyData.canLay0, c2, PyData.depth]; omega
  rw [if_pos ⟨s1, s2⟩, any_pl hx e1 hy e2]
open Classical in
theorem in_tup {n m : Nat} {x : D} {ys : List D} (hx : pl n x = true) (hy : pls m ys = true) (hn : n ≤ 64) (hm : m ≤ 63) : inB x (.tup ys) = some (decide (x ∈ ys)) := by
  obtain ⟨p, e1, c1, d1⟩ := pl_py hx
  obtain ⟨ps, e2, c2, d2⟩ := pls_py hy
  unfold inB
  simp only [e1, e2]
  have s1 : SeqAt.shaped p = true := by simp [SeqAt.shaped, c1]; omega
  have s2 : SeqAt.shaped (.tuple ps) = true := by simp [SeqAt.shaped, PyData.canLay0, c2, PyData.depth]; omega
  rw [if_pos ⟨s1, s2⟩, any_pl hx e1 hy e2]
/-- a thing's field, a place's field -/
def Evf (c k : Nat) (r : Rv) (S : List Slot) (Q : Rv → Prop) : Prop := match r.see S with
  | some (.fz, .ins c' fs) => c' = c ∧ ∃ d, fs.lookup k = some d ∧ Q (.tmp .fz d)
  | some (.ins cs, .ins c' fs) => c' = c ∧ (fs.lookup k).isSome = true ∧ match r with
    | .ref i p => Q (.ref i (p ++ [.fld k]))
    | .tmp _ _ => False
  | _ => False
@[simp] theorem e_fld {c k : Nat} {m : M Rv} : Ev (mFld c k m) S X Q ↔ Ev m S X fun r S1 => Evf c k r S1 fun r' => Q r' S1 := by
  unfold Ev mFld
  cases m S with
  | none => exact Iff.rfl
  | some x =>
    obtain ⟨r, S1⟩ := x
    cases r with
    | error e => exact Iff.rfl
    | ok rv =>
      simp only [Evf]
      generalize hs : rv.see S1 = o
      cases o with
      | none => exact Iff.rfl
      | some sd =>
        obtain ⟨sh, d⟩ := sd
        cases sh <;> cases d <;> try exact Iff.rfl
        · rename_i c' fs
          by_cases hc : c' = c
          · simp only [if_pos hc]
            cases fs.lookup k <;> simp [hc]
          · simp [hc]
        · rename_i cs c' fs
          by_cases hc : c' = c
          · by_cases hl : (fs.lookup k).isSome = true
            · simp only [hc, hl, and_self, if_true, true_and]
              cases rv <;> exact Iff.rfl
            · simp [hc, hl]
          · simp [hc]
@[simp] theorem evf_t {c k c' : Nat} {fs : List (Nat × D)} {Q : Rv → Prop} : Evf c k (.tmp .fz (.ins c' fs)) S Q ↔ c' = c ∧ ∃ d, fs.lookup k = some d ∧ Q (.tmp .fz d) := Iff.rfl
/-- an instance, for a method -/
def Ini (c n : Nat) (sh : Sh) (d : D) : Prop := match d with
  | .ins c' fs => c' = c ∧ shOk sh = true ∧ (fs.all fun x => decide (x.1 < n)) = true
  | _ => False
@[simp] theorem ini_e {c n c' : Nat} {sh : Sh} {fs : List (Nat × D)} : Ini c n sh (.ins c' fs) ↔ c' = c ∧ shOk sh = true ∧ (fs.all fun x => decide (x.1 < n)) = true := Iff.rfl
@[simp] theorem shOk_ins {cs : List Sh} : shOk (.ins cs) = true := (rfl)
@[simp] theorem e_inst {c n : Nat} {m : M Rv} : Ev (mInst c n m) S X Q ↔ Ev m S X fun r S1 => Evx r S1 fun sh d => Ini c n sh d ∧ Q r S1 := by
  unfold Ev mInst
  cases m S with
  | none => exact Iff.rfl
  | some x =>
    obtain ⟨r, S1⟩ := x
    cases r with
    | error e => exact Iff.rfl
    | ok rv =>
      simp only [Evx]
      cases rv.see S1 with
      | none => exact Iff.rfl
      | some sd =>
        obtain ⟨sh, d⟩ := sd
        cases d <;> try (simp [Ini]; done)
        rename_i c' fs
        by_cases h : c' = c ∧ shOk sh = true ∧ (fs.all fun x => decide (x.1 < n)) = true
        · simp only [if_pos h, Ini]
          exact ⟨fun q => ⟨h, q⟩, fun q => q.2⟩
        · simp only [if_neg h, Ini]
          exact ⟨fun q => q.elim, fun q => h q.1⟩
/-- what __init__ gives: self -/
@[irreducible] def Efm (f : Fs) (as : List (Sh × D)) (X : XP) (Q : Sh → D → List Slot → Prop) : Prop := match f as with
  | some (.error e, _ :: xs) => X e xs
  | some (.ok (.fz, .non), some (sh, d) :: xs) => Q sh d xs
  | _ => False
theorem efm_ok {f : Fs} {as : List (Sh × D)} {sh : Sh} {d : D} {xs : List Slot} {X : XP} {Q : Sh → D → List Slot → Prop} (e : f as = some (.ok (.fz, .non), some (sh, d) :: xs)) : Efm f as X Q ↔ Q sh d xs := by
  unfold Efm
  rw [e]
theorem efm_err {f : Fs} {as : List (Sh × D)} {x : Exc} {y : Slot} {xs : List Slot} {X : XP} {Q : Sh → D → List Slot → Prop} (e : f as = some (.error x, y :: xs)) : Efm f as X Q ↔ X x xs := by
  unfold Efm
  rw [e]
@[simp] theorem e_mmake {c : Nat} {f : Fs} {as : M (List Rv)} : Ev (mMake c f as) S X Q ↔ Ev as S X fun rs S1 => Eva (takeA rs S1) fun ads S2 => Efm f ((.ins [], .ins c []) :: ads) (fun e xs => X e (backA rs xs S2)) fun sh d xs => Q (.tmp sh d) (backA rs xs S2) := by
  unfold Ev mMake
  cases as S with
  | none => exact Iff.rfl
  | some x =>
    obtain ⟨r, S1⟩ := x
    cases r with
    | error e => exact Iff.rfl
    | ok rs =>
      simp only
      cases takeA rs S1 with
      | none => exact Iff.rfl
      | some y =>
        obtain ⟨ads, S2⟩ := y
        simp only [eva_s, Efm]
        cases f ((.ins [], .ins c []) :: ads) with
        | none => exact Iff.rfl
        | some z =>
          obtain ⟨r, xs⟩ := z
          cases r with
          | error e => cases xs <;> exact Iff.rfl
          | ok sd =>
            obtain ⟨sh, d⟩ := sd
            cases sh <;> cases d <;> try exact Iff.rfl
            cases xs with
            | nil => exact Iff.rfl
            | cons x xs => cases x with
              | none => exact Iff.rfl
              | some sd => exact Iff.rfl
/-- a field stored -/
def Fst (i c k : Nat) (sh : Sh) (d : D) (sh0 : Sh) (d0 : D) (S1 : List Slot) (nx : List Slot → Prop) : Prop := match sh0, d0 with
  | .ins cs, .ins c' fs => c' = c ∧ fs.length < 1000 ∧ nx (S1.set i (some (.ins (putFD k sh d cs fs).1, .ins c (putFD k sh d cs fs).2)))
  | _, _ => False
@[simp] theorem fst_e {i c k c' : Nat} {sh : Sh} {d : D} {cs : List Sh} {fs : List (Nat × D)} {nx : List Slot → Prop} : Fst i c k sh d (.ins cs) (.ins c' fs) S1 nx ↔ c' = c ∧ fs.length < 1000 ∧ nx (S1.set i (some (.ins (putFD k sh d cs fs).1, .ins c (putFD k sh d cs fs).2))) := Iff.rfl
@[simp] theorem e_fldset {i c k : Nat} {m : M Rv} : Es (sFldSet i c k m) S K ↔ Ev m S K.ex fun r S1 => Tmp r fun sh d => Evl S1[i]? fun sh0 d0 => Fst i c k sh d sh0 d0 S1 K.nx := by
  unfold Es Ev sFldSet
  cases m S with
  | none => exact Iff.rfl
  | some x =>
    obtain ⟨r, S1⟩ := x
    cases r with
    | error e => exact Iff.rfl
    | ok rv => cases rv with
      | ref => exact Iff.rfl
      | tmp sh d =>
        simp only [tmp_e, Evl]
        cases S1[i]? with
        | none => exact Iff.rfl
        | some y => cases y with
          | none => exact Iff.rfl
          | some sd =>
            obtain ⟨sh0, d0⟩ := sd
            cases sh0 <;> cases d0 <;> try exact Iff.rfl
            rename_i cs c' fs
            by_cases h : c' = c ∧ fs.length < 1000
            · simp only [if_pos h, Fst]
              exact ⟨fun q => ⟨h.1, h.2, q⟩, fun q => q.2.2⟩
            · simp only [if_neg h, Fst]
              exact ⟨fun q => q.elim, fun q => h ⟨q.1, q.2.1⟩⟩
/-- a loop by a measure that falls and an invariant -/
theorem ev_while {c : M Bool} {b : MS} (I : Nat → List Slot → Prop) : ∀ (m : Nat) {S : List Slot}, I m S →
    (∀ m S, I m S → Ev c S K.ex fun t S1 => if t = true then Es b S1 ⟨K.ex, fun S2 => ∃ m', m' < m ∧ I m' S2, K.rt, K.nx, fun S2 => ∃ m', m' < m ∧ I m' S2⟩ else K.nx S1) → Es (sWhile c b) S K := by
  have key : ∀ (n m : Nat) {S : List Slot}, m < n → I m S →
      (∀ m S, I m S → Ev c S K.ex fun t S1 => if t = true then Es b S1 ⟨K.ex, fun S2 => ∃ m', m' < m ∧ I m' S2, K.rt, K.nx, fun S2 => ∃ m', m' < m ∧ I m' S2⟩ else K.nx S1) → Es (whileN c b n) S K := by
    intro n
    induction n with
    | zero => intro m S hm _ _; omega
    | succ n ih =>
      intro m S hm hI st
      unfold Es Ev whileN
      rcases (st m S hI).ex with ⟨e, S1, h1, h2⟩ | ⟨t, S1, h1, h2⟩
      · simp only [h1]; exact h2
      · simp only [h1]
        cases t with
        | false =>
          have h2' : K.nx S1 := by simpa using h2
          exact h2'
        | true =>
          simp only [if_true] at h2
          unfold Es at h2
          rcases h2.ex with ⟨e, S2, h3, h4⟩ | ⟨fl, S2, h3, h4⟩
          · simp only [h3]; exact h4
          · simp only [h3]
            cases fl with
            | nx =>
              obtain ⟨m', hm', hI'⟩ := h4
              have := ih m' (by omega) hI' st
              unfold Es Ev at this
              exact this
            | ct =>
              obtain ⟨m', hm', hI'⟩ := h4
              have := ih m' (by omega) hI' st
              unfold Es Ev at this
              exact this
            | bk => exact h4
            | rt => exact h4
  intro m S hI st
  have h := key (m + 1) m (Nat.lt_succ_self m) hI st
  unfold Es at h ⊢
  rcases h.ex with ⟨e, S1, h1, h2⟩ | ⟨fl, S1, h1, h2⟩
  · exact (Ev.err (sWhile_of h1)).mpr h2
  · exact (Ev.ok (sWhile_of h1)).mpr h2
/-- names bound to a tuple's items -/
def Ebd (o : Option (List Slot)) (nx : List Slot → Prop) : Prop := match o with
  | some S => nx S
  | none => False
@[simp] theorem ebd_s {nx : List Slot → Prop} : Ebd (some S) nx ↔ nx S := Iff.rfl
@[simp] theorem ebd_n {nx : List Slot → Prop} : Ebd none nx ↔ False := Iff.rfl
@[simp] theorem e_bind {t : Tg} {m : M Rv} : Es (sBind B t m) S K ↔ Ev m S K.ex fun r S1 => Tmp r fun sh d => sh.whole = true ∧ Ebd (bindT B t d S1) K.nx := by
  unfold Es Ev sBind
  cases m S with
  | none => exact Iff.rfl
  | some x =>
    obtain ⟨r, S1⟩ := x
    cases r with
    | error e => exact Iff.rfl
    | ok rv => cases rv with
      | ref => exact Iff.rfl
      | tmp sh d =>
        by_cases h : sh.whole = true
        · simp only [if_pos h, tmp_e, h, true_and, Ebd]
          cases bindT B t d S1 <;> exact Iff.rfl
        · simp [h]
@[simp] theorem bind_tu {is : List Nat} {ds : List D} : bindT B (.tu is) (.tup ds) S = bindAll B is ds S := (rfl)
@[simp] theorem bindAll0 : bindAll B [] [] S = some S := (rfl)
@[simp] theorem bindAll1 {i : Nat} {is : List Nat} {d : D} {ds : List D} (h : B i = false) (hi : i < S.length) : bindAll B (i :: is) (d :: ds) S = bindAll B is ds (S.set i (some (.fz, d))) := by
  show (match bind1 B i d S with | some S1 => bindAll B is ds S1 | none => none) = _
  unfold bind1
  rw [if_neg (by simp [h]), if_pos hi]
end
end
end Dt

/-! all, any of a generator expression over a text's signs. -/
namespace Dt
noncomputable section
open PySem PySem.Spec PyProof.Rows L2
section
variable {X : Cx} {G : Gm} {W : WX} {q : Bool}
/-- a table grows: all else is as it was -/
theorem Own.tabbed {H H2 : Hp} {L : List Cl} {P : Addr} (hP : P ∈ G.tabs) (h : Own G H L) (t : GxR.Tabbed P H H2) : Own G H2 L := by
  obtain ⟨l1, l2, e⟩ := List.append_of_mem hP
  have et : tabC G = (l1.map fun P => (⟨.tab, .ref P, .non⟩ : Cl)) ++ ⟨.tab, .ref P, .non⟩ :: (l2.map fun P => (⟨.tab, .ref P, .non⟩ : Cl)) := by
    unfold tabC
    rw [e]
    simp
  obtain ⟨O, o⟩ := h
  have pm : (L ++ tabC G).Perm (⟨.tab, .ref P, .non⟩ :: (L ++ ((l1.map fun P => (⟨.tab, .ref P, .non⟩ : Cl)) ++ (l2.map fun P => (⟨.tab, .ref P, .non⟩ : Cl))))) := by
    rw [et, ← List.append_assoc, ← List.append_assoc]
    exact List.perm_middle
  obtain ⟨O1, o1, _⟩ := o.perm pm
  have o2 : ∃ O2, OwnO G H2 (⟨.tab, .ref P, .non⟩ :: (L ++ ((l1.map fun P => (⟨.tab, .ref P, .non⟩ : Cl)) ++ (l2.map fun P => (⟨.tab, .ref P, .non⟩ : Cl))))) O2 := by
    obtain ⟨r, nd⟩ := o1
    cases r with
    | @cons _ _ f1 f2 h r => cases h with
      | tab h =>
        have k : Kp (fun b => b ∉ [P] ++ f2) (fun b => b ∉ [P] ++ f2) H H2 := ⟨fun b u e n => by
          rw [t.2 b (fun z => n (by simp [z]))]
          exact e, fun _ _ _ n => n⟩
        exact ⟨_, .cons (t := ⟨.tab, .ref P, .non⟩) (f1 := [P]) (.tab (.inl ⟨rfl, t.1⟩)) (r.mono k fun b hb u e => by
          rw [t.2 b (ne_in (L := []) nd hb)]
          exact e), nd⟩
  obtain ⟨O2, o2⟩ := o2
  obtain ⟨O3, o3, _⟩ := o2.perm pm.symm
  exact ⟨O3, o3⟩
theorem Own.tabAt {H : Hp} {L : List Cl} {P : Addr} (hP : P ∈ G.tabs) (h : Own G H L) : GxR.TabG H P := by
  obtain ⟨O, o⟩ := h
  obtain ⟨f, rt⟩ := o.1.mem (t := ⟨.tab, .ref P, .non⟩) (List.mem_append_right _ (List.mem_map.mpr ⟨P, hP, rfl⟩))
  cases rt with
  | tab h => rcases h with ⟨_, h⟩ | ⟨_, _, _, h, _⟩
             · exact h
             · cases h
def mSigns (g : List Nat → Bool) (m : M Rv) : M Rv := fun S => match m S with
  | none => none
  | some (.error e, S1) => some (.error e, S1)
  | some (.ok rv, S1) => match rv.see S1 with
    | some (sh, .str x) => if sh.flat = true then some (.ok (.tmp .fz (.bl (g x))), S1) else none
    | _ => none
theorem tem_signs {g : List Nat → Bool} {P : Addr} (hP : P ∈ G.tabs) {m : M Rv} {σ : Sg} {H : Hp} {Q : VK} (h : TEm G W false (mSigns g m) σ H Q) :
    TEm G W q m σ H fun v H1 => ∃ a : Str, v = .str a ∧ GxR.TabG H1 P ∧ ∀ H2, GxR.Tabbed P H1 H2 → Q (.bl (g a.cps.toList)) H2 := by
  obtain ⟨S, T, r, S', ag, ow, e, k⟩ := h
  unfold mSigns at e
  split at e
  · cases e
  · rename_i e1
    cases e
    exact ⟨S, T, _, _, ag, ow, e1, k⟩
  · rename_i rv S1 e1
    split at e
    · rename_i sh x e2
      split at e
      · rename_i hw
        cases e
        refine ⟨S, T, _, _, ag, ow, e1, fun v H1 a1 a2 a3 _ => ?_⟩
        obtain ⟨O, o⟩ := id a2
        obtain ⟨f, rt⟩ := see_rt a1 o a3 e2
        have rx := (rt.rx hw).str_at
        subst rx
        refine ⟨_, rfl, a2.tabAt hP, fun H2 t => ?_⟩
        have o2 : Own G H2 (cl S' σ ++ T) := Own.drop (a2.tabbed hP t)
        obtain ⟨O2, o2⟩ := o2
        exact k _ H2 a1 ⟨O2, o2.cons (.bl _)⟩ trivial fun hq => by cases hq
      · cases e
    · cases e
theorem e_allS {c P : Addr} {elt iter : Expr} {x : Str} {px p pos gpos : Pos} {scope : Scope} {pb : Nat → Bool} {m : M Rv} {k : Nat} (hP : P ∈ G.tabs)
    (hr : Room k X.A) (hg : Gl X "all") (hm : X.mg "all" = none) (TB : GxR.TabB X.base X.mg c P) (hcode : X.env.code = .ref c) (S : GxR.GenS X.env scope x) (hi : PE X iter (TEm G W q m)) (hel : GxR.EltP X.prog X.w scope x elt pb)
    (hs : ∀ v, genFold iter X.env v = pure v)
    (he : starEach [.GeneratorExp elt [⟨.Name x px, iter, [], 0⟩] scope gpos] X.env = (false, eval (.GeneratorExp elt [⟨.Name x px, iter, [], 0⟩] scope gpos) X.env) :: starEach [] X.env := by rfl) :
    PE X (.Call (.Name "all" p) [.GeneratorExp elt [⟨.Name x px, iter, [], 0⟩] scope gpos] [] pos) (TEm G W false (mSigns (fun l => l.all pb) m)) :=
  (GxR.pe_allS hr hg hm (by decide +kernel) TB hcode S hi hel hs he).imp fun _ _ _ h => tem_signs hP h
theorem e_anyS {c P : Addr} {elt iter : Expr} {x : Str} {px p pos gpos : Pos} {scope : Scope} {pb : Nat → Bool} {m : M Rv} {k : Nat} (hP : P ∈ G.tabs)
    (hr : Room k X.A) (hg : Gl X "any") (hm : X.mg "any" = none) (TB : GxR.TabB X.base X.mg c P) (hcode : X.env.code = .ref c) (S : GxR.GenS X.env scope x) (hi : PE X iter (TEm G W q m)) (hel : GxR.EltP X.prog X.w scope x elt pb)
    (hs : ∀ v, genFold iter X.env v = pure v)
    (he : starEach [.GeneratorExp elt [⟨.Name x px, iter, [], 0⟩] scope gpos] X.env = (false, eval (.GeneratorExp elt [⟨.Name x px, iter, [], 0⟩] scope gpos) X.env) :: starEach [] X.env := by rfl) :
    PE X (.Call (.Name "any" p) [.GeneratorExp elt [⟨.Name x px, iter, [], 0⟩] scope gpos] [] pos) (TEm G W false (mSigns (fun l => l.any pb) m)) :=
  (GxR.pe_anyS hr hg hm TB hcode S hi hel hs he).imp fun _ _ _ h => tem_signs hP h
end
section
variable {S : List Slot} {X : XP} {Q : Rv → List Slot → Prop}
def Sgn (g : List Nat → Bool) (sh : Sh) (d : D) (K : Bool → Prop) : Prop := match d with
  | .str x => sh.flat = true ∧ K (g x)
  | _ => False
@[simp] theorem sgn_e {g : List Nat → Bool} {sh : Sh} {x : List Nat} {K : Bool → Prop} : Sgn g sh (.str x) K ↔ sh.flat = true ∧ K (g x) := Iff.rfl
@[simp] theorem e_signs {g : List Nat → Bool} {m : M Rv} : Ev (mSigns g m) S X Q ↔ Ev m S X fun r S1 => Evx r S1 fun sh d => Sgn g sh d fun b => Q (.tmp .fz (.bl b)) S1 := by
  unfold Ev mSigns
  cases m S with
  | none => exact Iff.rfl
  | some x =>
    obtain ⟨r, S1⟩ := x
    cases r with
    | error e => exact Iff.rfl
    | ok rv =>
      simp only [Evx]
      cases rv.see S1 with
      | none => exact Iff.rfl
      | some sd =>
        obtain ⟨sh, d⟩ := sd
        cases d <;> try exact Iff.rfl
        by_cases h : sh.flat = true
        · simp [h, Sgn]
        · simp [h, Sgn]
end
end
end Dt

/-! The end of a law with generator expressions. -/
namespace Dt
noncomputable section
open PySem PySem.W PyProof.Rows L2
theorem law_walkT {l : PySem.W.OpenLaw} {n k : Nat} {q : Program} {loose : List Str} {XP : (Str → Option Value) → Heap → Prop} {YP : World → Heap → Prop} {d : DefRec} {K : Params → PySem.W.Frag} {x : Str} (fs : Fs)
    (hn : l.most = some n) (hn2 : n ≤ sizeLine) (hdf : d.params.defaults = []) (hr : Room k callerA)
    (hY : ∀ (w : World) (h : Heap), YP w h → (K w.params).In h)
    (F : ∀ (w : World) (mg : Str → Option Value) (fa : Addr) (h : Heap), YP w h → (K w.params).In h → h.Ns mainGlobals mg → mg d.name = some (.ref fa) →
      ∃ (G : Gm) (fd : FuncData) (cs : List (Addr × Addr)), (G.K = K w.params ∧ G.tabs = cs.map (·.2) ∧ (cs.map (·.2)).Nodup) ∧ (∀ p ∈ cs, h.get? p.2 = some { cls := .none, data := .fields #[] }) ∧ (∀ p ∈ cs, (K w.params).lookup p.2 = none) ∧ (∀ p ∈ cs, PySem.W.CodeHd h p.1 p.2) ∧
        (∀ (s : Shared) (u : Value), BindsTo s fd ⟨[u], []⟩ [(x, u)]) ∧
        ∀ base : Heap, (K w.params).In base → base.Ns mainGlobals mg → (∀ p ∈ cs, GxR.TabB base mg p.1 p.2) → FnOk l.prog w (K w.params) mg base (L2.CX l.prog w) k fa fd [x] (spF G fs))
    (hf : fs.len) (h : ∀ ns : List Int, ns.length ≤ n → ∃ xs, fs [(.fz, .lst (ns.map D.int))] = some (.ok (.fz, .bl true), xs)) :
    PySem.W.WalkO q loose XP YP l.row.toRowW d [] (fun f vs => PySem.call f vs) :=
  LamX.walk_ofTs (K := K) (CX := fun w => L2.CX l.prog w) hn hn2 hdf hr hY
    (fun w mg fa hp hy h1 h2 h3 => by
      obtain ⟨G, fd, cs, ⟨e1, e2, e3⟩, t1, t2, t3, hb, hF⟩ := F w mg fa hp hy h1 h2 h3
      refine ⟨fd, cs, spF G fs, t1, t2, t3, hb, fun H a ns hl _ hT hS => ?_, fun base b1 b2 b3 => hF base b1 b2 fun p hp => ⟨(b3 p hp).code, (b3 p hp).bm, (b3 p hp).gP⟩⟩
      refine sp_script (by rw [e1]; exact hS) (fun P hP => ?_) (by rw [e2]; exact e3) (h ns hl) hf
      rw [e2] at hP
      obtain ⟨p, hp, rfl⟩ := List.mem_map.mp hP
      exact ⟨#[], hT p hp, by first | trivial | exact .nil | simp⟩)
    (fun w H s e s' h => let ⟨_, _, _, _, _, _, _, _, _, _, _, _, h⟩ := h; h)
end
end Dt

/-! any, all of a generator expression over anything that is walked: its frame, its turns. -/
namespace Dt
noncomputable section
open PySem PySem.Spec PyProof.Rows L2

theorem over_genS {A : Around} {elt : Expr} {gs : List Comprehension} {scope : Scope} {pos : Pos} {it acc : Value} {env : Env} : A.over (.compStart (.GeneratorExp elt gs scope pos) 0 it acc env) [] = A.deeper env := by
  first
    | rfl
    | (obtain ⟨hd, d, fr, gs, u⟩ := A; simp [Around.over, Around.deeper, marksOver, frameCount, unitsOf, envsOf, guardsOf, pushEnvs, pushGuards, Code.envs, Code.env?, Code.isFrame, Code.guards, Code.isGuard, Code.weight, Code.frames, Code.isCreation, Code.isCaller, Code.cUnits])
theorem over_genL {A : Around} {elt : Expr} {gs : List Comprehension} {scope : Scope} {pos : Pos} {it acc : Value} {env : Env} : A.over (.compLoop (.GeneratorExp elt gs scope pos) 0 it acc env) [] = A.deeper env := by
  first
    | rfl
    | (obtain ⟨hd, d, fr, gs, u⟩ := A; simp [Around.over, Around.deeper, marksOver, frameCount, unitsOf, envsOf, guardsOf, pushEnvs, pushGuards, Code.envs, Code.env?, Code.isFrame, Code.guards, Code.isGuard, Code.weight, Code.frames, Code.isCreation, Code.isCaller, Code.cUnits])
/-- the generator's frame -/
abbrev gE (X : Cx) (scope : Scope) (C : Addr) (code : Value) : Env := genEnv scope (cloFrom X.env.cells scope.names []) C code builtinsNs X.env
/-- the context of a generator expression's block -/
abbrev gBlk (X : Cx) (A : Around) (s : Shared) (H : Hp) (genv : Env) (fp : List Addr) (pn : List (Addr × Obj)) : Cx :=
  { X with A := A.deeper genv, s_0 := s, H_0 := H, env := genv, outer := X.stack, stack := genv :: X.stack, ex := fp, fn := fun _ => false, calm := true, pn := pn, xe := fun _ _ => False }
section
variable {X : Cx} {pins : List (Addr × Obj)} {σ : L2.St} {H : Hp} {s s' : Shared}
theorem gen_start {A : Around} {scope : Scope} {own : List (Str × Nat)} {fp : List Addr} {code : Value} {itv : Value} {a : Addr} {go : Obj} (I : Inv X pins σ H s) (ok : BlkOk X.N X.env.scope scope own) (hcell : ∀ y ∈ scope.names, y.2 ≠ .cell) (hN : X.N.Nodup) (hfp : ∀ b ∈ fp, FpOk X pins H b ∧ b < s.heap.objs.size)
    (hh : A.handled = none) (hfr : A.frames = some X.stack) (os : s'.os = s.os) (bare : AllBare s'.gens) (kp : ∀ b o, s.heap.get? b = some o → s'.heap.get? b = some o)
    (hns : s'.heap.Ns s.heap.objs.size (fun y => if y = (".0" : Str) then some itv else none)) (ha : s.heap.objs.size < a) (hgo : s'.heap.get? a = some go) (hgc : ∀ v, go.data ≠ .cell v) :
    Inv (gBlk X A s H (gE X scope s.heap.objs.size code) fp [(a, go)]) [] (wipe σ (own.map (·.2))) H s' := by
  have hfree : ∀ y ∈ scope.names, y.2 = .free → ∃ c, X.env.cells.lookup y.1 = some c := fun y hy e => by
    rcases ok.free y hy e with k | k
    · exact I.ok.has _ (.inl k)
    · exact I.ok.has _ (.inr k)
  have cm : ∀ {y c}, (cloFrom X.env.cells scope.names []).lookup y = some c → X.env.cells.lookup y = some c ∧ c < s.heap.objs.size := fun {y c} e => by
    rcases cloFrom_mem (PySem.mem_of_lookup e) with hm | ⟨h1, rfl⟩
    · cases hm
    · obtain ⟨c, hc⟩ := hfree _ h1 rfl
      have hc : X.env.cells.lookup y = some c := hc
      rw [hc]
      obtain ⟨w, z⟩ := I.cell _ _ hc
      exact ⟨rfl, z.lt⟩
  have look : ∀ {y}, scope.names.lookup y = some .free → ∃ c, (cloFrom X.env.cells scope.names []).lookup y = some c ∧ X.env.cells.lookup y = some c := fun {y} hl => by
    have hy : (y, NameKind.free) ∈ scope.names := PySem.mem_of_lookup hl
    obtain ⟨c', e'⟩ := mem_lookup (cloFrom_has (cells := X.env.cells) (acc := []) hy)
    exact ⟨c', e', (cm e').1⟩
  refine ⟨⟨I.ok.mod, ok.kind, I.ok.glob, rfl, Nat.le_refl _, fun y z c e1 e2 => I.ok.inj y z c (cm e1).1 (cm e2).1, fun y hy => ?_, fun y c z _ => ?_, fun _ => hh, Around.frames_deeper hfr, .inr ⟨rfl, rfl⟩, fun b hb => ⟨?_, fun y c e z => ?_⟩, I.bs, Nat.le_trans I.ok.bsz I.sz,
      fun b o e hb => ?_, fun b hb z => ?_, I.stack, I.stkFree⟩, os, bare, Un.kept kp, ⟨_, hns, fun i y av e1 e2 e3 => ?_⟩, fun y c e => ?_, I.hok.fresh (Nat.le_refl _), fun y c e => I.freeC y c (cm e).1, fun p hp => ?_, I.hok.kept kp, by rw [wipe_length]; exact I.len⟩
  · have hy : scope.names.lookup y = some .cell ∨ scope.names.lookup y = some .free := hy
    rcases hy with hy | hy
    · exact absurd rfl (hcell _ (PySem.mem_of_lookup hy))
    · obtain ⟨c, h1, _⟩ := look hy
      exact ⟨c, h1⟩
  · cases z
  · exact Nat.ne_of_lt (hfp b hb).2
  · exact (hfp b hb).1.2.2.2.2.1 y c (cm e).1 z
  · rcases (hfp b hb).1.2.2.2.1 with z | z
    · exact I.ok.noex b o e z
    · exact absurd (Nat.lt_of_lt_of_le (Heap.lt_size e) (Nat.le_trans I.ok.bsz z)) (Nat.lt_irrefl _)
  · rcases List.mem_cons.mp (I.stkSub b z) with z | z
    · exact (hfp b hb).1.2.1 z
    · exact (hfp b hb).1.2.2.1 z
  · obtain ⟨e2, hne⟩ := wipe_some e2
    have no : ∀ k', scope.names.lookup y = some k' → ¬ (k' = .local ∨ k' = .cell) := fun k' e hh => by
      rcases ok.own _ (PySem.mem_of_lookup e) hh with e' | e'
      · obtain ⟨p, hp, hpy⟩ := List.mem_map.mp e'
        have e3 := ok.ix p hp
        have : p.1 = y := hpy
        rw [this] at e3
        exact hne (List.mem_map.mpr ⟨p, hp, nodup_ix hN e3 e1⟩)
      · exact e' (List.mem_of_getElem? e1)
    have e3 : Vis scope y := e3
    have hfr2 : scope.names.lookup y = some .free := by
      rcases e3 with e3 | e3 | e3
      · exact absurd (.inl rfl) (no _ e3)
      · exact absurd (.inr rfl) (no _ e3)
      · exact e3
    obtain ⟨m, hn, hl⟩ := I.loc
    have hvis : Vis X.env.scope y := (ok.free _ (PySem.mem_of_lookup hfr2) rfl).elim (fun k => .inr (.inl k)) (fun k => .inr (.inr k))
    obtain ⟨w, r, q⟩ := hl i y av e1 e2 hvis
    refine ⟨w, r, .inr ⟨.inr hfr2, ?_⟩⟩
    obtain ⟨c, h1, h2⟩ := look hfr2
    rcases q with ⟨k, _⟩ | ⟨_, c', e', z⟩
    · have k : X.env.scope.names.lookup y = some .local := k
      rcases ok.free _ (PySem.mem_of_lookup hfr2) rfl with k' | k' <;> rw [show X.env.scope.names.lookup y = _ from k'] at k <;> cases k
    · rw [h2] at e'; cases e'
      exact ⟨c, h1, z.keeps kp⟩
  · obtain ⟨h1, _⟩ := cm e
    obtain ⟨w, z⟩ := I.cell y c h1
    exact ⟨w, z.keeps kp⟩
  · have hp : p ∈ [(a, go)] ++ ([] : List (Addr × Obj)) := hp
    have e : p = (a, go) := by simpa using hp
    subst e
    refine ⟨hgo, I.hok.fresh (Nat.le_of_lt ha), Nat.ne_of_gt ha, fun z => ?_, hgc⟩
    rcases List.mem_cons.mp (I.stkSub a z) with z | z
    · have := I.lt
      rw [← z] at this
      exact absurd (Nat.lt_trans ha this) (Nat.lt_irrefl _)
    · exact I.nofs (Nat.le_of_lt ha) z

/-- the outer context holds again, however the consumer's own things have come to stand -/
def Back (X : Cx) (pins : List (Addr × Obj)) (σ : L2.St) (H : Hp) (s : Shared) : Prop :=
  ∀ s' : Shared, s'.os = s.os → AllBare s'.gens → (∀ b o, s.heap.get? b = some o → s'.heap.get? b = some o) → Inv X pins σ H s'
theorem Back.mono {s1 : Shared} (b : Back X pins σ H s) (ho : s1.os = s.os) (k : ∀ b o, s.heap.get? b = some o → s1.heap.get? b = some o) : Back X pins σ H s1 := fun s' h1 h2 h3 => b s' (h1.trans ho) h2 fun b o e => h3 b o (k b o e)
/-- an item is handed out: the one that ends the walk, or another turn may follow -/
def GYg (X : Cx) (pins : List (Addr × Obj)) (σ : L2.St) (stop : Bool) (Q : VK) (a : Addr) (g : Nat) : Protocol := fun _ _ v s kap =>
  s.heap.IsGen a g ∧ s.heap.NoLimit ∧ AllBare s.gens ∧ ∃ c, v = .bool c ∧ ((c = stop ∧ ∃ H', Back X pins σ H' s ∧ Q (.bl stop) H') ∨
    (c = !stop ∧ ∀ s', s'.os = s.os → AllBare s'.gens → (∀ b o, s.heap.get? b = some o → s'.heap.get? b = some o) → kap (.send .none) s'))
def GPg (X : Cx) (pins : List (Addr × Obj)) (σ : L2.St) (stop : Bool) (Q : VK) : Nat → Shared → Shared → Prop := fun _ _ s => AllBare s.gens ∧ ∃ H', Back X pins σ H' s ∧ Q (.bl (!stop)) H'
def GRg (X : Cx) (pins : List (Addr × Obj)) (σ : L2.St) (stop : Bool) (Q : VK) : GenEnd := fun n s₀ r s => r = .ok .next ∧ GPg X pins σ stop Q n s₀ s

theorem gen_loop {A : Around} {s3 : Shared} {H3 : Hp} {genv : Env} {fp : List Addr} {a : Addr} {g : Nat} {go : Obj} {elt tg iter : Expr} {scope : Scope} {own : List (Str × Nat)} {pos : Pos} {it : Addr} {tn : Nat → Heap → Prop} {J : It} {gt : TG} {te : TE} {stop : Bool} {Q : VK} {W : Nat → Nat → Hp → Prop}
    (hco : genv.scope.isCoroutine = false) (hgen : ∀ h : Heap, h.get? a = some go → h.IsGen a g) (T : Turn X.prog X.w X.K tg J fp it tn)
    (pg : PG (gBlk X A s3 H3 genv fp [(a, go)]) tg gt) (pe : PE (gBlk X A s3 H3 genv fp [(a, go)]) elt te)
    (back : ∀ {σ' : L2.St} {p' : List (Addr × Obj)} {H' : Hp} {s' : Shared}, Inv (gBlk X A s3 H3 genv fp [(a, go)]) p' σ' H' s' → Back X pins σ H' s')
    (turn : ∀ i m H, W i m H → (J.stop i H ∧ Q (.bl (!stop)) H) ∨ (J.go i H ∧ ∃ Nx : Hp → Prop, (∀ H', Nx H' → ∃ m', m' < m ∧ W (i + 1) m' H') ∧ ∀ x H', J.yld i H x H' → gt x (wipe σ (own.map (·.2))) H' fun σ2 H2 => wipe σ2 (own.map (·.2)) = wipe σ (own.map (·.2)) ∧
      te σ2 H2 fun y H4 => ∃ c, y = .bl c ∧ if c = stop then Q (.bl stop) H4 else Nx H4)) :
    ∀ (m n i : Nat) (s₀ s : Shared) (H' : Hp), m < n → Inv (gBlk X A s3 H3 genv fp [(a, go)]) [] (wipe σ (own.map (·.2))) H' s → tn i s.heap → (∀ b ∈ fp, H' b = none) → (∀ p ∈ fp, p ≠ a) → W i m H' →
      Seg (model X.prog X.w) A (GRg X pins σ stop Q) (GYg X pins σ stop Q a g) n s₀ (.compLoop (.GeneratorExp elt [⟨tg, iter, [], 0⟩] scope pos) 0 (.ref it) .none genv)
        ((model X.prog X.w).den (.compLoop (.GeneratorExp elt [⟨tg, iter, [], 0⟩] scope pos) 0 (.ref it) .none genv)) [] s := by
  have stat : ∀ {σ' : L2.St} {H' : Hp} {s' : Shared}, Inv (gBlk X A s3 H3 genv fp [(a, go)]) [] σ' H' s' → (∀ b ∈ fp, H' b = none) → (∀ p ∈ fp, p ≠ a) → ∀ b ∈ fp, FpOk (gBlk X A s3 H3 genv fp [(a, go)]) [] H' b := fun {σ' H' s'} I' hn hna b hb =>
    ⟨hn b hb, (I'.ok.exf b hb).1, I'.ok.exfs b hb, .inl hb, fun x c e => (I'.ok.exf b hb).2 x c e, fun p hp => by
      have hp : p ∈ [(a, go)] ++ ([] : List (Addr × Obj)) := hp
      have e : p = (a, go) := by simpa using hp
      subst e
      exact Ne.symm (hna b hb)⟩
  intro m
  induction m using Nat.strongRecOn with
  | ind m ih =>
    intro n i s₀ s H' hmn I st nfp nfa w
    obtain ⟨n, rfl⟩ : ∃ k, n = k + 1 := ⟨n - 1, by omega⟩
    show Seg _ A _ _ _ s₀ _ ((compTurn (.GeneratorExp elt [⟨tg, iter, [], 0⟩] scope pos) 0 (.ref it) .none genv).onRaise (leaving genv)) [] s
    rw [compTurn_gen, Sem.onRaise_eq_wrap]
    refine seg_bind_wrap (wpAny_standAt ?_)
    rcases turn i m H' w with ⟨stp, qq⟩ | ⟨gg, Nx, hNx, step⟩
    · refine seg_bind_wrap ?_
      rw [over_genL]
      refine wpAny_mono (T.done (gBlk X A s3 H3 genv fp [(a, go)]) rfl rfl rfl rfl i [] s _ H' (fun _ _ => False) I (stat I nfp nfa) st stp) (fun r s6 ⟨hr, I6⟩ => ?_) fun _ _ z => z.elim
      subst hr
      exact seg_end (.ok .next) ⟨rfl, I6.bare, H', back I6, qq⟩
    · refine seg_bind_wrap ?_
      rw [over_genL]
      refine wpAny_mono (T.item (gBlk X A s3 H3 genv fp [(a, go)]) rfl rfl rfl rfl i [] s _ H' (fun _ _ => False) I (stat I nfp nfa) st gg) (fun r s6 ⟨u, hr, h6⟩ => ?_) fun _ _ z => z.elim
      subst hr
      refine seg_bind_wrap ?_
      rw [over_genL]
      refine wpAny_mono h6 (fun _ s7 ⟨x, H7, I7, r7, y7, st7, n7⟩ => ?_) fun _ _ z => z.elim
      have I7' := I7.pinned (stat I7 n7 nfa) (T.obj _ _ st7)
      refine seg_bind_wrap ?_
      rw [over_genL]
      refine wpAny_mono (pg.run _ s7 _ H7 x u _ I7' r7 (step x H7 y7)) (fun _ s8 ⟨σ8, H8, I8, hw8, q8⟩ => ?_) fun _ _ z => (show False from z).elim
      refine seg_bind_wrap ?_
      rw [List.forIn_nil]
      refine wpAny_pure ?_
      rw [if_pos rfl]
      have hy : ∀ v, yieldOut genv v = yieldValue v := fun v => by simp only [yieldOut, hco, Bool.false_eq_true, if_false]
      simp only [hy]
      rw [Sem.bind_eq_wrap', Sem.bind_eq_wrap', Sem.wrap_wrap, Sem.wrap_wrap]
      refine seg_wrap ?_
      rw [over_genL]
      refine wpAny_mono (pe.run _ s8 σ8 H8 _ I8 q8) (fun z s10 ⟨yv, H10, I10, r10, c, ey, q10⟩ => ?_) fun _ _ z => (show False from z).elim
      subst ey
      obtain rfl : z = .bool c := r10
      have hpa := (I10.pin (a, go) (List.mem_append_left _ (List.mem_singleton.mpr rfl))).1
      refine seg_at (seg_yield rfl rfl rfl ⟨hgen _ hpa, I10.nolimit, I10.bare, c, rfl, ?_⟩)
      by_cases hc : c = stop
      · rw [if_pos hc] at q10
        exact .inl ⟨hc, H10, back I10, q10⟩
      · rw [if_neg hc] at q10
        refine .inr ⟨by cases c <;> cases stop <;> first | rfl | exact absurd rfl hc, fun s'' ho hb hk => ?_⟩
        obtain ⟨m', hm, w'⟩ := hNx H10 q10
        have I11 : Inv (gBlk X A s3 H3 genv fp [(a, go)]) ([] ++ pinsAt fp s7.heap) σ8 H10 s'' := I10.call' (ch := []) ho (Un.kept hk) (I10.hok.kept hk) hb fun b z => by simp at z
        have pin' : ∀ b ∈ fp, ∀ o, s7.heap.get? b = some o → s''.heap.get? b = some o ∧ H10 b = none := fun b hb o e =>
          let z := I11.pin (b, o) (List.mem_append_right _ (List.mem_append_right _ (mem_pinsAt hb e)))
          ⟨z.1, z.2.1⟩
        have hl : (wipe σ (own.map (·.2))).length = σ8.length := by rw [← hw8, wipe_length]
        refine seg_again rfl (ih m' hm n (i + 1) s'' s'' H10 (by omega) ((I11.unpinned (pins := [])).weak hl (fun j v e => ?_)) (T.keep _ _ _ st7 fun b hb o e => (pin' b hb o e).1) (fun b hb => ?_) nfa w')
        · rw [← hw8] at e
          exact (wipe_some e).1
        · obtain ⟨o, e, _⟩ := T.obj _ _ st7 b hb
          exact (pin' b hb o e).2
end
end
end Dt

/-! any, all of a generator expression: made, and walked by its consumer. -/
namespace Dt
noncomputable section
open PySem PySem.Spec PyProof.Rows L2
section
variable {X : Cx} {pins : List (Addr × Obj)} {σ : L2.St} {H : Hp} {s s' : Shared} {stop : Bool} {Q : VK}
def GGo (X : Cx) (pins : List (Addr × Obj)) (σ : L2.St) (stop : Bool) (Q : VK) (a : Addr) (g n : Nat) (gs : GenState) (s : Shared) : Prop :=
  gs.Goes (model X.prog X.w) X.A.in1.in1 (GRg X pins σ stop Q) (GYg X pins σ stop Q a g) n (.send .none) (s.setGen g .running)
/-- a generator that is ready to be walked -/
def GReady (X : Cx) (pins : List (Addr × Obj)) (σ : L2.St) (stop : Bool) (Q : VK) (a : Addr) (s : Shared) : Prop :=
  ∃ g n gs, s.heap.IsGen a g ∧ s.heap.NoLimit ∧ s.gens[g]? = some gs ∧ GGo X pins σ stop Q a g n gs s
theorem all_gen {R : Result → Shared → Prop} {a : Addr} {g : Nat} (hh : X.A.handled = none) (hd : X.A.depth < recursionLimit) (hR : ∀ b s' H', Inv X pins σ H' s' → Q (.bl b) H' → R (.ok (.ret (.bool b))) s') :
    ∀ (n : Nat) (gs : GenState) (s : Shared), s.heap.IsGen a g → s.heap.NoLimit → s.gens[g]? = some gs → GGo X pins σ false Q a g n gs s → codeAny (model X.prog X.w) X.A (.builtin "all.loop" ⟨[.ref a], []⟩) R s := by
  intro n
  induction n with
  | zero =>
    intro gs s hg hl hgs hgo
    refine codeAny_builtin F.entry_all_loop ?_
    rw [Around.under_plainId F.plain_all_loop _]
    show wpAny _ X.A.in1 (pyNext (.ref a) >>= _) _ _ s
    refine wpAny_bind (wpAny_pyNext_genexpQ (A := X.A.in1) hh hl hd hg hgs hgo (fun v s₁ gs' hbare hv => ?_) (fun s₁ hp h' hk => ?_))
    · obtain ⟨hg1, hl1, hb1, c, rfl, hc⟩ := hv
      refine wpAny_bind (wpAny_holding (wpAny_truthy_bool ?_))
      refine wpAny_bind (wpAny_letGo ?_)
      rcases hc with ⟨rfl, H', bk, hq⟩ | ⟨rfl, hk⟩
      · simp only [Bool.false_eq_true, if_false]
        exact wpAny_bind (wpAny_rule (wpAny_pure (hR false _ H' (bk _ rfl (allBare_setGen hb1 hbare) fun _ _ e => e) hq)))
      · exact False.elim (hk s₁ rfl hb1 fun _ _ e => e)
    · obtain ⟨hb1, H', bk, hq⟩ := hp
      exact wpAny_bind (wpAny_rule (wpAny_pure (hR true _ H' (bk _ rfl (allBare_setGen hb1 rfl) hk) hq)))
  | succ n ih =>
    intro gs s hg hl hgs hgo
    have hgl : g < s.gens.size := (Array.getElem?_eq_some_iff.mp hgs).1
    refine codeAny_builtin F.entry_all_loop ?_
    rw [Around.under_plainId F.plain_all_loop _]
    show wpAny _ X.A.in1 (pyNext (.ref a) >>= _) _ _ s
    refine wpAny_bind (GenW.wpAny_gsz (n := g + 1) hgl (wpAny_pyNext_genexpQ (A := X.A.in1) hh hl hd hg hgs hgo (fun v s₁ gs' hbare hv => ?_) (fun s₁ hp h' hk => ?_)))
    · intro hsz
      obtain ⟨hg1, hl1, hb1, c, rfl, hc⟩ := hv
      refine wpAny_bind (wpAny_holding (wpAny_truthy_bool ?_))
      refine wpAny_bind (wpAny_letGo ?_)
      rcases hc with ⟨rfl, H', bk, hq⟩ | ⟨rfl, hk⟩
      · simp only [Bool.false_eq_true, if_false]
        exact wpAny_bind (wpAny_rule (wpAny_pure (hR false _ H' (bk _ rfl (allBare_setGen hb1 hbare) fun _ _ e => e) hq)))
      · simp only [Bool.not_false, if_true]
        have hsz1 : g < s₁.gens.size := by
          have q : (s₁.setGen g gs').gens.size = s₁.gens.size := GenW.setGen_size _ _ _
          have hsz' : g + 1 ≤ (s₁.setGen g gs').gens.size := hsz
          omega
        refine wpAny_pure ⟨plainId_quiet F.plain_all_loop _, ih gs' (s₁.setGen g gs') hg1 hl1 (setGen_at hsz1) ?_⟩
        exact hk ((s₁.setGen g gs').setGen g .running) rfl (allBare_setGen (allBare_setGen hb1 hbare) rfl) fun _ _ e => e
    · intro _
      obtain ⟨hb1, H', bk, hq⟩ := hp
      exact wpAny_bind (wpAny_rule (wpAny_pure (hR true _ H' (bk _ rfl (allBare_setGen hb1 rfl) hk) hq)))
theorem any_gen {R : Result → Shared → Prop} {a : Addr} {g : Nat} (hh : X.A.handled = none) (hd : X.A.depth < recursionLimit) (hR : ∀ b s' H', Inv X pins σ H' s' → Q (.bl b) H' → R (.ok (.ret (.bool b))) s') :
    ∀ (n : Nat) (gs : GenState) (s : Shared), s.heap.IsGen a g → s.heap.NoLimit → s.gens[g]? = some gs → GGo X pins σ true Q a g n gs s → codeAny (model X.prog X.w) X.A (.builtin "any.loop" ⟨[.ref a], []⟩) R s := by
  intro n
  induction n with
  | zero =>
    intro gs s hg hl hgs hgo
    refine codeAny_builtin F.entry_any_loop ?_
    rw [Around.under_plainId F.plain_any_loop _]
    show wpAny _ X.A.in1 (pyNext (.ref a) >>= _) _ _ s
    refine wpAny_bind (wpAny_pyNext_genexpQ (A := X.A.in1) hh hl hd hg hgs hgo (fun v s₁ gs' hbare hv => ?_) (fun s₁ hp h' hk => ?_))
    · obtain ⟨hg1, hl1, hb1, c, rfl, hc⟩ := hv
      refine wpAny_bind (wpAny_holding (wpAny_truthy_bool ?_))
      refine wpAny_bind (wpAny_letGo ?_)
      rcases hc with ⟨rfl, H', bk, hq⟩ | ⟨rfl, hk⟩
      · simp only [if_true]
        exact wpAny_bind (wpAny_rule (wpAny_pure (hR true _ H' (bk _ rfl (allBare_setGen hb1 hbare) fun _ _ e => e) hq)))
      · exact False.elim (hk s₁ rfl hb1 fun _ _ e => e)
    · obtain ⟨hb1, H', bk, hq⟩ := hp
      exact wpAny_bind (wpAny_rule (wpAny_pure (hR false _ H' (bk _ rfl (allBare_setGen hb1 rfl) hk) hq)))
  | succ n ih =>
    intro gs s hg hl hgs hgo
    have hgl : g < s.gens.size := (Array.getElem?_eq_some_iff.mp hgs).1
    refine codeAny_builtin F.entry_any_loop ?_
    rw [Around.under_plainId F.plain_any_loop _]
    show wpAny _ X.A.in1 (pyNext (.ref a) >>= _) _ _ s
    refine wpAny_bind (GenW.wpAny_gsz (n := g + 1) hgl (wpAny_pyNext_genexpQ (A := X.A.in1) hh hl hd hg hgs hgo (fun v s₁ gs' hbare hv => ?_) (fun s₁ hp h' hk => ?_)))
    · intro hsz
      obtain ⟨hg1, hl1, hb1, c, rfl, hc⟩ := hv
      refine wpAny_bind (wpAny_holding (wpAny_truthy_bool ?_))
      refine wpAny_bind (wpAny_letGo ?_)
      rcases hc with ⟨rfl, H', bk, hq⟩ | ⟨rfl, hk⟩
      · simp only [if_true]
        exact wpAny_bind (wpAny_rule (wpAny_pure (hR true _ H' (bk _ rfl (allBare_setGen hb1 hbare) fun _ _ e => e) hq)))
      · simp only [Bool.not_true, Bool.false_eq_true, if_false]
        have hsz1 : g < s₁.gens.size := by
          have q : (s₁.setGen g gs').gens.size = s₁.gens.size := GenW.setGen_size _ _ _
          have hsz' : g + 1 ≤ (s₁.setGen g gs').gens.size := hsz
          omega
        refine wpAny_pure ⟨plainId_quiet F.plain_any_loop _, ih gs' (s₁.setGen g gs') hg1 hl1 (setGen_at hsz1) ?_⟩
        exact hk ((s₁.setGen g gs').setGen g .running) rfl (allBare_setGen (allBare_setGen hb1 hbare) rfl) fun _ _ e => e
    · intro _
      obtain ⟨hb1, H', bk, hq⟩ := hp
      exact wpAny_bind (wpAny_rule (wpAny_pure (hR false _ H' (bk _ rfl (allBare_setGen hb1 rfl) hk) hq)))
/-- any(elt for tg in iter) for stop = true, all(..) for stop = false; behind it the def's table may have grown -/
def tGen (stop : Bool) (P : Addr) (wi : TI) (g : TG) (te : TE) (vs : List Nat) : TE := fun σ H Q => wi σ H fun J H1 => GxR.TabG H1 P ∧ ∀ H2, GxR.Tabbed P H1 H2 → ∃ W : Nat → Nat → Hp → Prop, (∃ m, W 0 m H2) ∧ ∀ i m H, W i m H →
  (J.stop i H ∧ Q (.bl (!stop)) H) ∨ (J.go i H ∧ ∃ Nx : Hp → Prop, (∀ H', Nx H' → ∃ m', m' < m ∧ W (i + 1) m' H') ∧ ∀ x H', J.yld i H x H' → g x (wipe σ vs) H' fun σ2 H2 => wipe σ2 vs = wipe σ vs ∧
    te σ2 H2 fun y H4 => ∃ c, y = .bl c ∧ if c = stop then Q (.bl stop) H4 else Nx H4)
theorem gen_core {k : Nat} {c P : Addr} {elt tg iter : Expr} {scope : Scope} {own : List (Str × Nat)} {gpos : Pos} {wi : TI} {gt : TG} {te : TE} {Q' : Value → Shared → Prop} (hr : Room (k + 3) X.A) (hN : X.N.Nodup) (hfrm : X.A.frames = some X.stack)
    (TB : GxR.TabB X.base X.mg c P) (hcode : X.env.code = .ref c) (I : Inv X pins σ H s) (hi : PI X tg iter wi) (ok : BlkOk X.N X.env.scope scope own) (hcell : ∀ y ∈ scope.names, y.2 ≠ .cell) (hdot : scope.names.lookup (".0" : Str) = some NameKind.local) (hco : scope.isCoroutine = false)
    (hg : ∀ (s : Shared) (H : Hp) (C : Addr) (code : Value) (fp : List Addr) (pn : List (Addr × Obj)), PG (gBlk X X.A.in1.in1 s H (gE X scope C code) fp pn) tg gt)
    (he : ∀ (s : Shared) (H : Hp) (C : Addr) (code : Value) (fp : List Addr) (pn : List (Addr × Obj)), Room k (X.A.in1.in1.deeper (gE X scope C code)) → PE (gBlk X X.A.in1.in1 s H (gE X scope C code) fp pn) elt te)
    (hs : ∀ v, genFold iter X.env v = pure v) (h : tGen stop P wi gt te (own.map (·.2)) σ H Q) (hQ : ∀ a s5, GReady X pins σ stop Q a s5 → Q' (.ref a) s5) :
    wpAny (model X.prog X.w) X.A (eval (.GeneratorExp elt [⟨tg, iter, [], 0⟩] scope gpos) X.env) Q' X.xe s := by
  have hfree : ∀ y ∈ scope.names, y.2 = .free → ∃ c, X.env.cells.lookup y.1 = some c := fun y hy e => by
    rcases ok.free y hy e with k | k
    · exact I.ok.has _ (.inl k)
    · exact I.ok.has _ (.inr k)
  refine wpAny_GeneratorExp_make hco (closure_ok hfree) hcell hdot ok.kind hr.depth ?_ hs
  refine thn (hi.run pins s σ H _ I h) fun xv s1 hx => thn hx fun itv s2 h2 => ?_
  obtain ⟨it, fp, tn, J, H2, e, I2, T, st2, f2, ⟨ps, hP, ht⟩, q⟩ := h2
  subst e
  have hPs : s2.heap.get? P = some { cls := .none, data := .fields ps } := I2.hok P _ hP
  have cd : PySem.W.CodeHd s2.heap c P := TB.code.keeps I2.bk
  have cont : ∀ (code : Value) (h3 : Heap) (tk : Nat) (more : Array Value), Heap.ExtBut P s2.heap h3 → s2.heap.objs.size ≤ h3.objs.size → h3.get? P = some { cls := .none, data := .fields (ps ++ more) } → TriplesOk (ps ++ more).toList →
      wpAny (model X.prog X.w) X.A (builtinsFor X.env.globals X.env.builtins) (fun bi s₄ => ∀ h', h'.Ns s₄.heap.objs.size (fun y => if y = (".0" : Str) then some (Value.ref it) else none) → Heap.SameBut s₄.heap.objs.size (s₄.heap.push { cls := .type "frame", data := .dict #[] }) h' →
          Q' (.ref h'.objs.size) { s₄ with
            gens := s₄.gens.push (.fresh (.compStart (.GeneratorExp elt [⟨tg, iter, [], 0⟩] scope gpos) 0 (.ref it) .none (genEnv scope (cloFrom X.env.cells scope.names []) s₄.heap.objs.size code bi X.env))),
            toks := s₄.toks + 1 + 1 + 1,
            heap := h'.push { cls := .type "generator", data := .fields #[.int s₄.gens.size 0, .str "<genexpr>" (s₄.toks + 1), .str (X.env.qual ++ "<genexpr>") (s₄.toks + 1 + 1)] } }) X.xe { s2 with heap := h3, toks := tk } := by
    intro code h3 tk more hx hsz hP3 ht3
    have I3 : Inv X pins σ (upd H2 P (.tbl (ps ++ more))) { s2 with heap := h3, gens := s2.gens, drawn := s2.drawn, toks := tk } := GxR.inv_tab I2 hP (fun b u hb e => hx b u hb e) hP3 I2.bare
    have I3 : Inv X pins σ (upd H2 P (.tbl (ps ++ more))) { s2 with heap := h3, toks := tk } := I3
    obtain ⟨bm, ob, e1, e2, e3, e4, e5, e6, e7, e8⟩ := TB.bm
    refine wpAny_builtinsFor (m := X.mg) (by rw [I3.ok.glob]; exact I3.mod.glob.keeps I3.bk) e1 e2 (I3.bk _ _ e5) e6 e7 e8 ?_
    generalize hs3 : ({ s2 with heap := h3, toks := tk } : Shared) = s3 at I3 ⊢
    have hh3 : s3.heap = h3 := by rw [← hs3]
    have hb3 : s3.gens = s2.gens := by rw [← hs3]
    intro h' hn' hs'
    have hsz' : h'.objs.size = s3.heap.objs.size + 1 := by rw [hs'.1, Heap.size_push]
    have keep' : ∀ b o, s3.heap.get? b = some o → h'.get? b = some o := fun b o e => hs'.extBut b o (Nat.ne_of_lt (Heap.lt_size e)) (Heap.get?_push_of_some _ e)
    generalize hgo : ({ cls := .type "generator", data := .fields #[.int s3.gens.size 0, .str "<genexpr>" (s3.toks + 1), .str (X.env.qual ++ "<genexpr>") (s3.toks + 1 + 1)] } : Obj) = go
    have keep5 : ∀ b o, s3.heap.get? b = some o → (h'.push go).get? b = some o := fun b o e => Heap.get?_push_of_some _ (keep' b o e)
    have hgc : ∀ v, go.data ≠ .cell v := fun v z => by rw [← hgo] at z; cases z
    have hgen : ∀ h : Heap, h.get? h'.objs.size = some go → h.IsGen h'.objs.size s3.gens.size := fun h e => ⟨go, _, _, e, by rw [← hgo], by rw [← hgo], by rw [← hgo]⟩
    have hnf : go.isFreed = false := by rw [← hgo]; rfl
    have hat : (h'.push go).get? h'.objs.size = some go := Heap.get?_push_size _ hnf
    obtain ⟨W, ⟨m0, w0⟩, turn⟩ := q (upd H2 P (.tbl (ps ++ more))) ⟨⟨ps ++ more, upd_same, ht3⟩, fun b hb => upd_ne hb⟩
    have neP : ∀ b ∈ fp, b ≠ P := fun b hb z => by
      have := (f2 b hb).1
      rw [z, hP] at this
      cases this
    have lt2 : ∀ b ∈ fp, b < s2.heap.objs.size := fun b hb => by
      obtain ⟨o, e, _⟩ := T.obj _ _ st2 b hb
      exact Heap.lt_size e
    have f3 : ∀ b ∈ fp, FpOk X pins (upd H2 P (.tbl (ps ++ more))) b ∧ b < s3.heap.objs.size := fun b hb =>
      ⟨⟨by rw [upd_ne (neP b hb)]; exact (f2 b hb).1, (f2 b hb).2⟩, by rw [hh3]; exact Nat.lt_of_lt_of_le (lt2 b hb) hsz⟩
    refine hQ _ _ ⟨s3.gens.size, m0 + 1, _, hgen _ hat, I3.nolimit.keeps keep5, Array.getElem?_push_size .., rfl, ?_⟩
    generalize hs5 : (Shared.setGen { s3 with gens := s3.gens.push (.fresh (.compStart (.GeneratorExp elt [⟨tg, iter, [], 0⟩] scope gpos) 0 (.ref it) .none (genEnv scope (cloFrom X.env.cells scope.names []) s3.heap.objs.size code builtinsNs X.env))), toks := s3.toks + 1 + 1 + 1, heap := h'.push go } s3.gens.size .running) = s5
    have h5 : s5.heap = h'.push go := by rw [← hs5]; rfl
    have I5 := gen_start (s' := s5) (A := X.A.in1.in1) (code := code) (itv := .ref it) (a := h'.objs.size) (go := go) I3 ok hcell hN f3 hr.hd hfrm (by rw [← hs5]; rfl) (by
        rw [← hs5]
        exact allBare_setGen (AllBare.push (by rw [hb3]; exact I2.bare) rfl) rfl) (fun b o e => by rw [h5]; exact keep5 b o e) (by rw [h5]; exact hn'.push _) (by rw [hsz']; exact Nat.lt_succ_self _) (by rw [h5]; exact hat) hgc
    have st5 : tn 0 s5.heap := T.keep _ _ _ st2 fun b hb o e => by
      rw [h5]
      refine keep5 b o ?_
      rw [hh3]
      exact hx b o (neP b hb) e
    have nfa : ∀ p ∈ fp, p ≠ h'.objs.size := fun p hp => Nat.ne_of_lt (Nat.lt_of_lt_of_le (f3 p hp).2 (by rw [hsz']; exact Nat.le_succ _))
    have loop := gen_loop (X := X) (pins := pins) (σ := σ) (own := own) (stop := stop) (Q := Q) (W := W) (pos := gpos) (g := s3.gens.size) (iter := iter) (scope := scope) hco hgen T (hg s3 _ s3.heap.objs.size code fp [(h'.objs.size, go)]) (he s3 _ s3.heap.objs.size code fp [(h'.objs.size, go)] ((hr.in1).in1.deeper _))
      (fun {σ' p' H' s'} I' s'' ho hb hk => I3.call' (ch := fp) (ho.trans I'.os) (I'.base.trans (Un.kept hk)) (I'.hok.kept hk) hb fun b hb => ⟨(f3 b hb).1.2.2.2.1, (f3 b hb).1.2.1, (f3 b hb).1.2.2.2.2.1, (f3 b hb).1.2.2.2.2.2⟩) turn m0 (m0 + 1) 0 s5 s5 _ (Nat.lt_succ_self _) I5 st5 (fun b hb => (f3 b hb).1.1) nfa w0
    show Seg _ X.A.in1.in1 _ _ _ s5 _ ((compStart (.GeneratorExp elt [⟨tg, iter, [], 0⟩] scope gpos) 0 (.ref it) .none (gE X scope s3.heap.objs.size code)).onRaise (leaving (gE X scope s3.heap.objs.size code))) [] s5
    unfold compStart
    rw [Sem.onRaise_eq_wrap]
    show Seg _ _ _ _ _ s5 _ ((ask >>= _).wrap _ _ _ _) [] s5
    refine seg_bind_wrap (wpAny_askSetting ?_)
    split
    · exact seg_again rfl loop
    · first
        | exact seg_bind_wrap (wpAny_rule (seg_bind_wrap (wpAny_standAt (seg_bind_wrap (T.self _ 0 s5 _ _ st5 (seg_again rfl loop))))))
        | (refine seg_bind_wrap (wpAny_rule ?_); show Seg _ _ _ _ _ s5 _ ((standAt iter.pos >>= _).wrap _ _ _ _) [] s5; exact seg_bind_wrap (wpAny_standAt (seg_bind_wrap (T.self _ 0 s5 _ _ st5 (seg_again rfl loop)))))
  refine ⟨I2.nolimit, ?_⟩
  cases hf : codeAmong gpos ps.toList with
  | none =>
    refine wpAny_genexprCodeX hcode (cd.code hPs ht) (cd.tab hPs) hf fun c' h' tk hx hge hlt hco' _ htab' _ => ?_
    obtain ⟨o1, vs, f1, tf, fl, tg, inF, tx, tt, op, _, _, _, _, _, _, _, _, _, htr, _⟩ := hco'
    exact cont _ h' tk _ hx (Nat.le_trans hge (Nat.le_of_lt hlt)) htab'.2 htr
  | some cv =>
    refine wpAny_genexprCode_hit hcode (cd.code hPs ht) hf ?_
    exact cont cv s2.heap s2.toks #[] (Heap.ExtBut.refl _ _) (Nat.le_refl _) (by simpa using hPs) (by simpa using ht)
end
end
end Dt

/-! any, all of a generator expression: the core. -/
namespace Dt
noncomputable section
open PySem PySem.Spec PyProof.Rows L2
/-- its items, one after another, up to the one that ends the walk -/
def genN (vs : List Nat) (t : Tg) (stop : Bool) (me : M Rv) : List D → List Slot → Option (Bool × List Slot)
  | [], S => some (!stop, S)
  | d :: ds, S => match bindT noB t d S with
    | none => none
    | some S1 => match me S1 with
      | some (.ok (.tmp .fz (.bl c)), S2) => if c = stop then some (stop, wipeS S2 vs) else genN vs t stop me ds (wipeS S2 vs)
      | _ => none
def mGen (vs : List Nat) (t : Tg) (stop : Bool) (mi : M (List D)) (me : M Rv) : M Rv := fun S => match mi S with
  | none => none
  | some (.error e, S1) => some (.error e, S1)
  | some (.ok ds, S1) => match genN vs t stop me ds (wipeS S1 vs) with
      | some (b, S2) => some (.ok (.tmp .fz (.bl b)), restS S1 S2 vs)
      | none => none
section
variable {X : Cx} {G : Gm} {W : WX} {q q1 q2 : Bool}
theorem genN_wiped {vs : List Nat} {t : Tg} {stop : Bool} {me : M Rv} : ∀ {ds S r}, genN vs t stop me ds (wipeS S vs) = some r → ∃ S', r.2 = wipeS S' vs
  | [], S, r, h => by cases h; exact ⟨S, rfl⟩
  | d :: ds, S, r, h => by
    unfold genN at h
    split at h
    · cases h
    · split at h
      · split at h
        · cases h; exact ⟨_, rfl⟩
        · exact genN_wiped h
      · cases h
theorem tem_gen {P : Addr} (hP : P ∈ G.tabs) {vs : List Nat} {t : Tg} {stop : Bool} {mi : M (List D)} {me : M Rv} {σ : Sg} {H : Hp} {Q : VK} (nd : vs.Nodup) (hts : ∀ j ∈ t.slots, j ∈ vs) (h : TEm G W false (mGen vs t stop mi me) σ H Q) :
    tGen stop P (TIm G W mi) (TGm G noB t) (TEm G W0 q2 me) vs σ H Q := by
  obtain ⟨S, T, r, S', ag, ow, e, k⟩ := h
  unfold mGen at e
  split at e
  · cases e
  · rename_i e1
    cases e
    exact ⟨S, T, _, _, ag, ow, e1, k⟩
  · rename_i ds S1 e1
    split at e
    · rename_i b S2 e2
      cases e
      refine ⟨S, T, _, _, ag, ow, e1, fun J T0 H1 it a1 o1 => ⟨o1.tabAt hP, fun H2 tb => ?_⟩⟩
      obtain ⟨Sw, ew0⟩ := genN_wiped e2
      have ew : S2 = wipeS Sw vs := ew0
      clear ew0
      have p1 : (T0 ++ (cl S1 σ ++ T)).Perm (cl (wipeS S1 vs) (wipe σ vs) ++ (T0 ++ (svs S1 σ vs ++ T))) := by
        rw [cl_wipe_vals]
        refine (((cl_wipe (S := S1) (σ := σ) nd).append_right T).append_left T0).trans ?_
        rw [List.append_assoc]
        refine (perm3 _ _ _).trans ?_
        refine (perm3 (svs S1 σ vs) T0 _).trans ?_
        refine ((perm3 (svs S1 σ vs) (cl (wipeS S1 vs) σ) T).append_left T0).trans ?_
        exact perm3 _ _ _
      have o2 := (o1.tabbed hP tb).perm p1
      -- the end of the walk
      have theEnd : ∀ {H' : Hp} {Se : List Slot} {b' : Bool}, Ag Se (wipe σ vs) → (∃ Z, Se = wipeS Z vs) → Own G H' (cl Se (wipe σ vs) ++ (T0 ++ (svs S1 σ vs ++ T))) → b' = b → Se = S2 → Q (.bl b') H' := fun {H' Se b'} ai ez oi eb es => by
        subst eb es
        have aS : Ag Se σ := ai.congr (wipe_length σ vs) fun j sd h => by
          rw [ew] at h
          rw [wipe_get, if_neg (wipeS_some h)]
        refine k _ H' (a1.rest aS) ?_ trivial fun hq => by cases hq
        have ec : cl Se (wipe σ vs) = cl Se σ := by rw [ew]; exact cl_wipe_vals
        rw [ec] at oi
        have hS2 : ∀ j ∈ vs, Se[j]? = some none ∨ Se.length ≤ j := fun j hj => by
          rw [ew, wipeS_get, if_pos hj, wipeS_len]
          split
          · exact .inl rfl
          · exact .inr (by omega)
        have pr := cl_rest (S1 := S1) (S2 := Se) (σ := σ) (by rw [a1.length, aS.length]) nd hS2
        refine Own.blC _ (Own.dropMid (A := []) (B := T0) (oi.perm ?_))
        refine (perm3 _ _ _).trans (List.Perm.append_left T0 ?_)
        rw [← List.append_assoc]
        exact (List.perm_append_comm.trans pr.symm).append_right T
      refine ⟨fun i m H' => m + i = ds.length ∧ ∃ Si, Ag Si (wipe σ vs) ∧ (∃ Z, Si = wipeS Z vs) ∧ Own G H' (cl Si (wipe σ vs) ++ (T0 ++ (svs S1 σ vs ++ T))) ∧ genN vs t stop me (ds.drop i) Si = some (b, S2),
        ⟨ds.length, by simp, _, a1.wipes, ⟨S1, rfl⟩, o2, by simpa using e2⟩, ?_⟩
      rintro i m Hi ⟨hm, Si, ai, ⟨Z, ez⟩, oi, ei⟩
      have oit := it Hi (cl Si (wipe σ vs) ++ (svs S1 σ vs ++ T)) i (oi.perm (perm3 _ _ _))
      cases hd : ds.drop i with
      | nil =>
        rw [hd] at ei
        cases ei
        have hl : ds.length ≤ i := List.drop_eq_nil_iff.mp hd
        exact .inl ⟨oit.2 hl, theEnd ai ⟨Z, ez⟩ oi rfl rfl⟩
      | cons d rest =>
        rw [hd] at ei
        have hi : i < ds.length := by
          rcases Nat.lt_or_ge i ds.length with h | h
          · exact h
          · rw [List.drop_eq_nil_iff.mpr h] at hd; cases hd
        have hg : ds[i]? = some d := by
          rw [List.drop_eq_getElem_cons hi] at hd
          cases hd
          exact List.getElem?_eq_getElem hi
        have hr : ds.drop (i + 1) = rest := by
          rw [List.drop_eq_getElem_cons hi] at hd
          cases hd
          rfl
        obtain ⟨go, yl⟩ := oit.1 d hg
        refine .inr ⟨go, fun H3 => ∃ Si, Ag Si (wipe σ vs) ∧ (∃ Z, Si = wipeS Z vs) ∧ Own G H3 (cl Si (wipe σ vs) ++ (T0 ++ (svs S1 σ vs ++ T))) ∧ genN vs t stop me rest Si = some (b, S2),
          fun H3 ⟨Si, b1, b2, b3, b5⟩ => ⟨m - 1, by omega, by omega, Si, b1, b2, b3, by rw [hr]; exact b5⟩, fun x H2 y => ?_⟩
        have oy : Own G H2 (⟨.fz, x, d⟩ :: (cl Si (wipe σ vs) ++ (T0 ++ (svs S1 σ vs ++ T)))) := (yl x H2 y).perm (List.Perm.cons _ (perm3 _ _ _))
        have ei : (match bindT noB t d Si with
          | none => none
          | some S1 => match me S1 with
            | some (.ok (.tmp .fz (.bl c)), S2) => if c = stop then some (stop, wipeS S2 vs) else genN vs t stop me rest (wipeS S2 vs)
            | _ => none) = some (b, S2) := ei
        split at ei
        · cases ei
        · rename_i S3 e3
          refine ⟨Si, _, d, S3, ai, oy, e3, fun σ2 a2 o2 _ on => ?_⟩
          have ewp : wipe σ2 vs = wipe σ vs := (wipe_only on hts).trans wipe_wipe
          refine ⟨ewp, ?_⟩
          split at ei
          · rename_i c S4 e4
            refine ⟨S3, _, _, _, a2, o2, e4, fun w H4 b1 b2 _ _ => ?_⟩
            obtain ⟨O, o⟩ := id b2
            obtain rfl : w = .bl c := by
              have := o.head.1
              cases this
              rfl
            have b3 : Own G H4 (cl S4 σ2 ++ (T0 ++ (svs S1 σ vs ++ T))) := Own.drop (L := [⟨.fz, .bl c, .bl c⟩]) b2
            have b4 : Own G H4 (cl (wipeS S4 vs) (wipe σ vs) ++ (T0 ++ (svs S1 σ vs ++ T))) := by
              rw [← ewp, cl_wipe_vals]
              have pw := cl_wipe (S := S4) (σ := σ2) nd
              refine Own.dropMid (A := []) (B := svs S4 σ2 vs) (b3.perm ?_)
              refine (pw.append_right _).trans ?_
              rw [List.append_assoc]
              exact .refl _
            refine ⟨c, rfl, ?_⟩
            split at ei
            · rename_i hc
              rw [if_pos hc]
              cases ei
              exact theEnd (by rw [← ewp]; exact b1.wipes) ⟨_, rfl⟩ b4 rfl rfl
            · rename_i hc
              rw [if_neg hc]
              exact ⟨wipeS S4 vs, by rw [← ewp]; exact b1.wipes, ⟨_, rfl⟩, b4, ei⟩
          · cases ei
    · cases e
theorem e_gall {k : Nat} {c P : Addr} {elt tg iter : Expr} {scope : Scope} {own : List (Str × Nat)} {vs : List Nat} {p pos gpos : Pos} {t : Tg} {mi : M (List D)} {me : M Rv} (hr : Room (k + 3) X.A) (hN : X.N.Nodup) (hP : P ∈ G.tabs) (TB : GxR.TabB X.base X.mg c P) (hcode : X.env.code = .ref c)
    (hg0 : Gl X "all") (hm : X.mg "all" = none) (hi : PI X tg iter (TIm G W mi)) (ok : BlkOk X.N X.env.scope scope own) (hsc : (scope.names.all (fun y => match y.2 with | .cell => false | _ => true) && decide (scope.names.lookup (".0" : Str) = some NameKind.local) && !scope.isCoroutine) = true)
    (hg : ∀ (s : Shared) (H : Hp) (C : Addr) (code : Value) (fp : List Addr) (pn : List (Addr × Obj)), PG (gBlk X X.A.in1.in1 s H (gE X scope C code) fp pn) tg (TGm G noB t))
    (he : ∀ (s : Shared) (H : Hp) (C : Addr) (code : Value) (fp : List Addr) (pn : List (Addr × Obj)), Room k (X.A.in1.in1.deeper (gE X scope C code)) → PE (gBlk X X.A.in1.in1 s H (gE X scope C code) fp pn) elt (TEm G W0 q2 me))
    (nd : (own.map (·.2)).Nodup) (hts : ∀ j ∈ t.slots, j ∈ own.map (·.2)) (hvs : own.map (·.2) = vs) (hs : ∀ v, genFold iter X.env v = pure v := by intro _; rfl) (hb : bootBuiltins "all" = some (.builtin "all") := by decide +kernel) 
    (hst : starEach [.GeneratorExp elt [⟨tg, iter, [], 0⟩] scope gpos] X.env = (false, eval (.GeneratorExp elt [⟨tg, iter, [], 0⟩] scope gpos) X.env) :: starEach [] X.env := by rfl) :
    PE X (.Call (.Name "all" p) [.GeneratorExp elt [⟨tg, iter, [], 0⟩] scope gpos] [] pos) (TEm G W false (mGen vs t false mi me)) := by
  subst hvs
  simp only [Bool.and_eq_true, List.all_eq_true, decide_eq_true_eq, Bool.not_eq_true'] at hsc
  obtain ⟨⟨h1, h2⟩, h3⟩ := hsc
  refine PE.imp (t := tGen false P (TIm G W mi) (TGm G noB t) (TEm G W0 q2 me) (own.map (·.2))) ⟨fun pins s σ H Q I h => ?_⟩ fun _ _ _ h => tem_gen hP nd hts h
  refine wpAny_Call_Name_kw (ld_blt I hg0 hm hb ?_)
  refine PyProof.Rows.callWith_builtin1 ?_ hst (by rfl)
  rw [hst]
  show wpAny _ _ (spliced ((false, eval (.GeneratorExp elt [⟨tg, iter, [], 0⟩] scope gpos) X.env) :: backTo pos (starEach [] X.env))) _ _ s
  refine Calls.spliced_cons (gen_core hr hN I.ok.frames TB hcode I hi ok (fun y hy e => by
    have := h1 y hy
    rw [e] at this
    cases this) h2 h3 hg he hs h fun a s5 hG => ?_)
  obtain ⟨g, n, gs, g1, g2, g3, g4⟩ := hG
  refine Calls.spliced_nil ?_
  refine call_function_tree F.kind_all F.plain_all F.entry_all (F.args_all1 _) ?_
  unfold Builtin.«all»
  refine wpAny_bind (m := oneArg "all" _) (wpAny_pure ?_)
  refine wpAny_bind (wpAny_pyIter_gen g1 ?_)
  exact wpAny_pure ⟨plainId_quiet F.plain_all_loop _, all_gen hr.hd hr.depth (fun b s' H' I' q => ⟨.bl b, H', I', rfl, q⟩) n gs s5 g1 g2 g3 g4⟩
theorem e_gany {k : Nat} {c P : Addr} {elt tg iter : Expr} {scope : Scope} {own : List (Str × Nat)} {vs : List Nat} {p pos gpos : Pos} {t : Tg} {mi : M (List D)} {me : M Rv} (hr : Room (k + 3) X.A) (hN : X.N.Nodup) (hP : P ∈ G.tabs) (TB : GxR.TabB X.base X.mg c P) (hcode : X.env.code = .ref c)
    (hg0 : Gl X "any") (hm : X.mg "any" = none) (hi : PI X tg iter (TIm G W mi)) (ok : BlkOk X.N X.env.scope scope own) (hsc : (scope.names.all (fun y => match y.2 with | .cell => false | _ => true) && decide (scope.names.lookup (".0" : Str) = some NameKind.local) && !scope.isCoroutine) = true)
    (hg : ∀ (s : Shared) (H : Hp) (C : Addr) (code : Value) (fp : List Addr) (pn : List (Addr × Obj)), PG (gBlk X X.A.in1.in1 s H (gE X scope C code) fp pn) tg (TGm G noB t))
    (he : ∀ (s : Shared) (H : Hp) (C : Addr) (code : Value) (fp : List Addr) (pn : List (Addr × Obj)), Room k (X.A.in1.in1.deeper (gE X scope C code)) → PE (gBlk X X.A.in1.in1 s H (gE X scope C code) fp pn) elt (TEm G W0 q2 me))
    (nd : (own.map (·.2)).Nodup) (hts : ∀ j ∈ t.slots, j ∈ own.map (·.2)) (hvs : own.map (·.2) = vs) (hs : ∀ v, genFold iter X.env v = pure v := by intro _; rfl) 
    (hst : starEach [.GeneratorExp elt [⟨tg, iter, [], 0⟩] scope gpos] X.env = (false, eval (.GeneratorExp elt [⟨tg, iter, [], 0⟩] scope gpos) X.env) :: starEach [] X.env := by rfl) :
    PE X (.Call (.Name "any" p) [.GeneratorExp elt [⟨tg, iter, [], 0⟩] scope gpos] [] pos) (TEm G W false (mGen vs t true mi me)) := by
  subst hvs
  simp only [Bool.and_eq_true, List.all_eq_true, decide_eq_true_eq, Bool.not_eq_true'] at hsc
  obtain ⟨⟨h1, h2⟩, h3⟩ := hsc
  refine PE.imp (t := tGen true P (TIm G W mi) (TGm G noB t) (TEm G W0 q2 me) (own.map (·.2))) ⟨fun pins s σ H Q I h => ?_⟩ fun _ _ _ h => tem_gen hP nd hts h
  refine wpAny_Call_Name_kw (ld_blt I hg0 hm boot_any ?_)
  refine PyProof.Rows.callWith_builtin1 ?_ hst (by rfl)
  rw [hst]
  show wpAny _ _ (spliced ((false, eval (.GeneratorExp elt [⟨tg, iter, [], 0⟩] scope gpos) X.env) :: backTo pos (starEach [] X.env))) _ _ s
  refine Calls.spliced_cons (gen_core hr hN I.ok.frames TB hcode I hi ok (fun y hy e => by
    have := h1 y hy
    rw [e] at this
    cases this) h2 h3 hg he hs h fun a s5 hG => ?_)
  obtain ⟨g, n, gs, g1, g2, g3, g4⟩ := hG
  refine Calls.spliced_nil ?_
  refine call_function_tree F.kind_any F.plain_any F.entry_any (F.args_any1 _) ?_
  unfold Builtin.«any»
  refine wpAny_bind (m := oneArg "any" _) (wpAny_pure ?_)
  refine wpAny_bind (wpAny_pyIter_gen g1 ?_)
  exact wpAny_pure ⟨plainId_quiet F.plain_any_loop _, any_gen hr.hd hr.depth (fun b s' H' I' q => ⟨.bl b, H', I', rfl, q⟩) n gs s5 g1 g2 g3 g4⟩
end
section
variable {vs : List Nat} {t : Tg} {stop : Bool} {mi : M (List D)} {me : M Rv} {S S1 : List Slot} {X : XP} {Q : Rv → List Slot → Prop}
theorem genN_inv (J : List Slot → Prop) (p : D → Bool) : ∀ {ds : List D} {S : List Slot}, J S → (∀ d ∈ ds, ∀ S, J S → ∃ S2, bindT noB t d S = some S2 ∧ Ev me S2 noX fun r S3 => Evb r fun c => c = p d ∧ J (wipeS S3 vs)) →
    ∃ S', genN vs t stop me ds S = some (if stop = true then ds.any p else ds.all p, S') ∧ J S'
  | [], S, hJ, _ => ⟨S, by cases stop <;> rfl, hJ⟩
  | d :: ds, S, hJ, st => by
    obtain ⟨S2, e1, h2⟩ := st d (by simp) S hJ
    rcases h2.ex with ⟨_, _, _, z⟩ | ⟨r, S3, e3, h3⟩
    · exact z.elim
    · unfold Evb at h3
      split at h3
      · rename_i c
        obtain ⟨rfl, hJ3⟩ := h3
        unfold genN
        simp only [e1, e3]
        by_cases hc : p d = stop
        · rw [if_pos hc]
          refine ⟨_, ?_, hJ3⟩
          cases stop
          · simp [hc]
          · simp [hc]
        · rw [if_neg hc]
          obtain ⟨S', e, hJ'⟩ := genN_inv J p (ds := ds) hJ3 fun d hd => st d (by simp [hd])
          refine ⟨S', ?_, hJ'⟩
          rw [e]
          cases stop
          · have : p d = true := by simpa using hc
            simp [this]
          · have : p d = false := by simpa using hc
            simp [this]
      · exact h3.elim
/-- any, all: the test p of each item, which leaves the slots as they are -/
theorem ev_gen (p : D → Bool) (h : Ev mi S X fun ds S1 => (∀ d ∈ ds, ∃ S2, bindT noB t d (wipeS S1 vs) = some S2 ∧ Ev me S2 noX fun r S3 => Evb r fun c => c = p d ∧ wipeS S3 vs = wipeS S1 vs) ∧
    Q (.tmp .fz (.bl (if stop = true then ds.any p else ds.all p))) (restS S1 (wipeS S1 vs) vs)) : Ev (mGen vs t stop mi me) S X Q := by
  rcases h.ex with ⟨e, S1, h1, h2⟩ | ⟨ds, S1, h1, st, q⟩
  · refine (Ev.err (x := e) (S1 := S1) ?_).mpr h2
    unfold mGen
    simp only [h1]
  · obtain ⟨S', e2, rfl⟩ := genN_inv (vs := vs) (t := t) (stop := stop) (me := me) (fun S' => S' = wipeS S1 vs) p (ds := ds) rfl (fun d hd S hS => by subst hS; exact st d hd)
    refine (Ev.ok (r := .tmp .fz (.bl (if stop = true then ds.any p else ds.all p))) (S1 := restS S1 (wipeS S1 vs) vs) ?_).mpr q
    unfold mGen
    simp only [h1, e2]
end
end
end Dt

/-! Keys: what may be a member of a set, a key of a dict. -/
namespace Dt
noncomputable section
open PySem PySem.Spec PyProof.Rows L2
mutual
/-- the value is the key -/
inductive KV (K : PySem.W.Frag) (H : Hp) : V → NestedKey → Prop
  | non : KV K H .non .none
  | bl (b : Bool) : KV K H (.bl b) (.num (if b = true then 1 else 0))
  | int (i : Int) : KV K H (.int i) (.num i)
  | str (x : Str) : KV K H (.str x) (.text x)
  | tup {a xs ks} : SqT K H a xs → KVs K H xs ks → KV K H (.ref a) (.tup ks)
inductive KVs (K : PySem.W.Frag) (H : Hp) : List V → List NestedKey → Prop
  | nil : KVs K H [] []
  | cons {x k xs ks} : KV K H x k → KVs K H xs ks → KVs K H (x :: xs) (k :: ks)
end
section
variable {G : Gm} {N : Addr → Prop} {H : Hp}
mutual
theorem RF.kv : ∀ {v d}, RF G N H v d → ∀ {k}, nkey d = some k → KV G.K H v k
  | _, _, .non, k, e => by simp [nkey] at e; subst e; exact .non
  | _, _, .bl b, k, e => by simp only [nkey, Option.some.injEq] at e; subst e; exact .bl b
  | _, _, .int i, k, e => by simp [nkey] at e; subst e; exact .int i
  | _, _, .str x, k, e => by simp [nkey] at e; subst e; exact .str x
  | _, _, .tup h r, k, e => by
    unfold nkey at e
    split at e
    · rename_i ks eks
      cases e
      exact .tup (h.elim (fun h => .inl h.1) .inr) (RFs.kv r eks)
    · cases e
  | _, _, .lst h r, k, e => by cases e
  | _, _, .dct .., k, e => by cases e
  | _, _, .set .., k, e => by cases e
  | _, _, .ty _, k, e => by cases e
  | _, _, .cls _, k, e => by cases e
  | _, _, .ins .., k, e => by cases e
theorem RFs.kv : ∀ {vs ds}, RFs G N H vs ds → ∀ {ks}, nkeys ds = some ks → KVs G.K H vs ks
  | _, _, .nil, ks, e => by simp [nkeys] at e; subst e; exact .nil
  | _, _, .cons h r, ks, e => by
    unfold nkeys at e
    split at e
    · rename_i y ys e1 e2
      cases e
      exact .cons (RF.kv h e1) (RFs.kv r e2)
    · cases e
end
end
section
variable {X : Cx} {pins : List (Addr × Obj)} {σ : Sg} {H : Hp} {s : Shared}
mutual
theorem KV.is (I : Inv X pins σ H s) : ∀ (k : NestedKey) (v : V) (u : Value), KV X.K H v k → RelV v u → NestedIs s.heap k u
  | .none, _, _, h, r => by cases h; cases r; exact .none
  | .num i, _, _, h, r => by
    cases h with
    | bl b => cases r; exact .bool rfl
    | int i => obtain ⟨t, rfl⟩ := r; exact .int i t
  | .text x, _, _, h, r => by cases h; obtain ⟨t, rfl⟩ := r; exact .text x t
  | .tup ks, _, _, h, r => by
    cases h with
    | tup hs ha =>
      cases r
      obtain ⟨its, rv, ⟨o, ho, hc, n, hd⟩, _⟩ := I.tuple hs
      exact .tup ho hc hd (by simpa using KV.isAll I ks _ its ha rv)
theorem KV.isAll (I : Inv X pins σ H s) : ∀ (ks : List NestedKey) (vs : List V) (us : List Value), KVs X.K H vs ks → Vals vs us → NestedAll s.heap ks us
  | [], _, _, h, r => by cases h; cases r; exact .nil
  | k :: ks, _, _, h, r => by
    cases h with
    | cons h1 h2 =>
      cases r with
      | cons r1 r2 => exact .cons (KV.is I k _ _ h1 r1) (KV.isAll I ks _ _ h2 r2)
end
theorem KV.elt (I : Inv X pins σ H s) {tup : Bool} {k : NestedKey} {v : V} {u : Value} (h : KV X.K H v k) (e : EltV tup v k) (d : k.depth ≤ 8) (r : RelV v u) : EltK X.prog X.w s.heap tup u k := by
  unfold EltV at e
  unfold EltK
  have q := KV.is I k v u h r
  cases tup
  · simp only [Bool.false_eq_true, if_false] at e ⊢
    rcases e with ⟨i, rfl, rfl⟩ | ⟨t, rfl, rfl⟩
    · obtain ⟨t, rfl⟩ := r; exact .inl ⟨i, t, rfl, rfl⟩
    · obtain ⟨t', rfl⟩ := r; exact .inr ⟨t, t', rfl, rfl⟩
  · simp only [if_true] at e ⊢
    obtain ⟨b, rfl⟩ := e
    cases r
    exact ⟨b, rfl, q, d⟩
end
/-! plain keys: numbers, texts, tuples of them -/
mutual
def kd : Nat → D → Bool
  | 0, _ => false
  | _ + 1, .int _ => true
  | _ + 1, .str x => okS x
  | n + 1, .tup xs => kds n xs
  | _ + 1, _ => false
def kds : Nat → List D → Bool
  | _, [] => true
  | n, x :: xs => kd n x && kds n xs
end
theorem kds_iff {n : Nat} : ∀ {xs : List D}, kds n xs = true ↔ ∀ x ∈ xs, kd n x = true
  | [] => by simp [kds]
  | x :: xs => by simp [kds, kds_iff (xs := xs)]
mutual
theorem kd_pl : ∀ {n : Nat} {d : D}, kd n d = true → pl n d = true
  | 0, _, h => by simp [kd] at h
  | n + 1, .int i, h => rfl
  | n + 1, .str x, h => by simpa [kd, pl] using h
  | n + 1, .tup xs, h => by simpa [pl] using kds_pl (n := n) (xs := xs) (by simpa [kd] using h)
  | n + 1, .non, h => by simp [kd] at h
  | n + 1, .lst _, h => by simp [kd] at h
  | n + 1, .bl _, h => by simp [kd] at h
  | n + 1, .dct _, h => by simp [kd] at h
  | n + 1, .set _, h => by simp [kd] at h
  | n + 1, .ins _ _, h => by simp [kd] at h
  | n + 1, .ty _, h => by simp [kd] at h
  | n + 1, .cls _, h => by simp [kd] at h
theorem kds_pl : ∀ {n : Nat} {xs : List D}, kds n xs = true → pls n xs = true
  | n, [], h => by simp [pls]
  | n, x :: xs, h => by
    simp only [kds, Bool.and_eq_true] at h
    simp [pls, kd_pl h.1, kds_pl h.2]
end
mutual
theorem kd_key : ∀ {n : Nat} {d : D}, kd n d = true → ∃ k, nkey d = some k ∧ k.depth ≤ n
  | 0, _, h => by simp [kd] at h
  | n + 1, .int i, h => ⟨_, rfl, by simp [NestedKey.depth]⟩
  | n + 1, .str x, h => ⟨_, rfl, by simp [NestedKey.depth]⟩
  | n + 1, .tup xs, h => by
    obtain ⟨ks, e, d⟩ := kds_key (n := n) (xs := xs) (by simpa [kd] using h)
    exact ⟨.tup ks, by simp [nkey, e], by simp [NestedKey.depth]; omega⟩
  | n + 1, .non, h => by simp [kd] at h
  | n + 1, .lst _, h => by simp [kd] at h
  | n + 1, .bl _, h => by simp [kd] at h
  | n + 1, .dct _, h => by simp [kd] at h
  | n + 1, .set _, h => by simp [kd] at h
  | n + 1, .ins _ _, h => by simp [kd] at h
  | n + 1, .ty _, h => by simp [kd] at h
  | n + 1, .cls _, h => by simp [kd] at h
theorem kds_key : ∀ {n : Nat} {xs : List D}, kds n xs = true → ∃ ks, nkeys xs = some ks ∧ NestedKey.depthAll ks ≤ n
  | n, [], h => ⟨[], by simp [nkeys], by simp [NestedKey.depthAll]⟩
  | n, x :: xs, h => by
    simp only [kds, Bool.and_eq_true] at h
    obtain ⟨k, e1, d1⟩ := kd_key h.1
    obtain ⟨ks, e2, d2⟩ := kds_key h.2
    exact ⟨k :: ks, by simp [nkeys, e1, e2], by simp [NestedKey.depthAll]; omega⟩
end
mutual
/-- equal keys, equal things -/
theorem kd_inj : ∀ {n m : Nat} {a b : D} {k : NestedKey}, kd n a = true → kd m b = true → nkey a = some k → nkey b = some k → a = b
  | 0, _, _, _, _, h, _, _, _ => by simp [kd] at h
  | _ + 1, 0, _, _, _, _, h, _, _ => by simp [kd] at h
  | n + 1, m + 1, .int i, .int j, k, _, _, e, e' => by simp [nkey] at e e'; rw [← e] at e'; injection e' with e'; rw [e']
  | n + 1, m + 1, .str i, .str j, k, _, _, e, e' => by simp [nkey] at e e'; rw [← e] at e'; simp at e'; rw [e']
  | n + 1, m + 1, .tup xs, .tup ys, k, h, h', e, e' => by
    obtain ⟨ks, e1, _⟩ := kds_key (n := n) (xs := xs) (by simpa [kd] using h)
    obtain ⟨ks', e2, _⟩ := kds_key (n := m) (xs := ys) (by simpa [kd] using h')
    simp only [nkey, e1, e2, Option.some.injEq] at e e'
    rw [← e] at e'
    injection e' with e'
    subst e'
    rw [kds_inj (n := n) (m := m) (by simpa [kd] using h) (by simpa [kd] using h') e1 e2]
  | n + 1, m + 1, .int i, .str j, k, _, _, e, e' => by simp [nkey] at e e'; rw [← e] at e'; cases e'
  | n + 1, m + 1, .str i, .int j, k, _, _, e, e' => by simp [nkey] at e e'; rw [← e] at e'; cases e'
  | n + 1, m + 1, .int i, .tup ys, k, _, h', e, e' => by
    obtain ⟨ks', e2, _⟩ := kds_key (n := m) (xs := ys) (by simpa [kd] using h')
    simp only [nkey, e2, Option.some.injEq] at e e'; rw [← e] at e'; cases e'
  | n + 1, m + 1, .str i, .tup ys, k, _, h', e, e' => by
    obtain ⟨ks', e2, _⟩ := kds_key (n := m) (xs := ys) (by simpa [kd] using h')
    simp only [nkey, e2, Option.some.injEq] at e e'; rw [← e] at e'; cases e'
  | n + 1, m + 1, .tup xs, .int i, k, h, _, e, e' => by
    obtain ⟨ks', e2, _⟩ := kds_key (n := n) (xs := xs) (by simpa [kd] using h)
    simp only [nkey, e2, Option.some.injEq] at e e'; rw [← e] at e'; cases e'
  | n + 1, m + 1, .tup xs, .str i, k, h, _, e, e' => by
    obtain ⟨ks', e2, _⟩ := kds_key (n := n) (xs := xs) (by simpa [kd] using h)
    simp only [nkey, e2, Option.some.injEq] at e e'; rw [← e] at e'; cases e'
  | _ + 1, _, .non, _, _, h, _, _, _ => by simp [kd] at h
  | _ + 1, _, .lst _, _, _, h, _, _, _ => by simp [kd] at h
  | _ + 1, _, .bl _, _, _, h, _, _, _ => by simp [kd] at h
  | _ + 1, _, .dct _, _, _, h, _, _, _ => by simp [kd] at h
  | _ + 1, _, .set _, _, _, h, _, _, _ => by simp [kd] at h
  | _ + 1, _, .ins _ _, _, _, h, _, _, _ => by simp [kd] at h
  | _ + 1, _, .ty _, _, _, h, _, _, _ => by simp [kd] at h
  | _ + 1, _, .cls _, _, _, h, _, _, _ => by simp [kd] at h
  | _, _ + 1, _, .non, _, _, h, _, _ => by simp [kd] at h
  | _, _ + 1, _, .lst _, _, _, h, _, _ => by simp [kd] at h
  | _, _ + 1, _, .bl _, _, _, h, _, _ => by simp [kd] at h
  | _, _ + 1, _, .dct _, _, _, h, _, _ => by simp [kd] at h
  | _, _ + 1, _, .set _, _, _, h, _, _ => by simp [kd] at h
  | _, _ + 1, _, .ins _ _, _, _, h, _, _ => by simp [kd] at h
  | _, _ + 1, _, .ty _, _, _, h, _, _ => by simp [kd] at h
  | _, _ + 1, _, .cls _, _, _, h, _, _ => by simp [kd] at h
theorem kds_inj : ∀ {n m : Nat} {xs ys : List D} {ks : List NestedKey}, kds n xs = true → kds m ys = true → nkeys xs = some ks → nkeys ys = some ks → xs = ys
  | _, _, [], [], _, _, _, _, _ => rfl
  | n, m, [], y :: ys, ks, _, h', e, e' => by
    simp only [kds, Bool.and_eq_true] at h'
    obtain ⟨k1, e1, _⟩ := kd_key h'.1
    obtain ⟨k2, e2, _⟩ := kds_key h'.2
    simp only [nkeys, e1, e2, Option.some.injEq] at e e'
    rw [← e] at e'; cases e'
  | n, m, x :: xs, [], ks, h, _, e, e' => by
    simp only [kds, Bool.and_eq_true] at h
    obtain ⟨k1, e1, _⟩ := kd_key h.1
    obtain ⟨k2, e2, _⟩ := kds_key h.2
    simp only [nkeys, e1, e2, Option.some.injEq] at e e'
    rw [← e] at e'; cases e'
  | n, m, x :: xs, y :: ys, ks, h, h', e, e' => by
    simp only [kds, Bool.and_eq_true] at h h'
    obtain ⟨k1, e1, _⟩ := kd_key h.1
    obtain ⟨k2, e2, _⟩ := kds_key h.2
    obtain ⟨k3, e3, _⟩ := kd_key h'.1
    obtain ⟨k4, e4, _⟩ := kds_key h'.2
    simp only [nkeys, e1, e2, e3, e4, Option.some.injEq] at e e'
    subst e
    injection e' with e5 e6
    subst e5; subst e6
    rw [kd_inj h.1 h'.1 e1 e3, kds_inj h.2 h'.2 e2 e4]
end
/-- of one kind, and few -/
def elD (tup : Bool) (d : D) : Bool := if tup = true then (match d with | .tup _ => true | _ => false) else (match d with | .int _ => true | .str _ => true | _ => false)
/-- what may be put into a set together -/
def setOk (ds : List D) : Bool := (ds.all (elD true) || ds.all (elD false)) && kds 8 ds && decide (ds.length ≤ 75)
theorem setOk_at {ds : List D} (h : setOk ds = true) : ∃ tup, (∀ d ∈ ds, elD tup d = true) ∧ (∀ d ∈ ds, kd 8 d = true) ∧ ds.length ≤ 75 := by
  unfold setOk at h
  simp only [Bool.and_eq_true, Bool.or_eq_true, decide_eq_true_eq] at h
  obtain ⟨⟨h1, h2⟩, h3⟩ := h
  rcases h1 with h1 | h1
  · exact ⟨true, fun d hd => List.all_eq_true.mp h1 d hd, kds_iff.mp h2, h3⟩
  · exact ⟨false, fun d hd => List.all_eq_true.mp h1 d hd, kds_iff.mp h2, h3⟩
theorem setOk_of {ds : List D} {tup : Bool} (h1 : ∀ d ∈ ds, elD tup d = true) (h2 : ∀ d ∈ ds, kd 8 d = true) (h3 : ds.length ≤ 75) : setOk ds = true := by
  unfold setOk
  simp only [Bool.and_eq_true, Bool.or_eq_true, decide_eq_true_eq]
  refine ⟨⟨?_, kds_iff.mpr h2⟩, h3⟩
  cases tup
  · exact .inr (List.all_eq_true.mpr h1)
  · exact .inl (List.all_eq_true.mpr h1)
theorem RF.eltV {G : Gm} {N : Addr → Prop} {H : Hp} {v : V} {d : D} {tup : Bool} {k : NestedKey} (r : RF G N H v d) (e : elD tup d = true) (hk : nkey d = some k) : EltV tup v k := by
  unfold elD at e
  unfold EltV
  cases tup
  · simp only [Bool.false_eq_true, if_false] at e ⊢
    split at e
    · cases r; simp [nkey] at hk; exact .inl ⟨_, rfl, hk.symm⟩
    · cases r; simp [nkey] at hk; exact .inr ⟨_, rfl, hk.symm⟩
    · cases e
  · simp only [if_true] at e ⊢
    split at e
    · cases r; exact ⟨_, rfl⟩
    · cases e
open Classical in
/-- one more -/
noncomputable def addD (ds : List D) (d : D) : List D := if d ∈ ds then ds else ds ++ [d]
/-- each once, in the order of the first -/
noncomputable def dedD (ds : List D) : List D := ds.foldl addD []
end
end Dt

/-! sorted(anything that can be gathered), set(a list). -/
namespace Dt
noncomputable section
open PySem PySem.Spec PyProof.Rows L2
theorem paired_perm {α β : Type} {R : α → β → Prop} {xs xs' : List α} (p : xs'.Perm xs) : ∀ {ys : List β}, Paired R xs ys → ∃ ys', ys'.Perm ys ∧ Paired R xs' ys' := by
  induction p with
  | nil => intro ys h; exact ⟨ys, .refl _, h⟩
  | cons x _ ih =>
    intro ys h
    cases h with
    | cons h r =>
      obtain ⟨ys', q, r'⟩ := ih r
      exact ⟨_, q.cons _, .cons h r'⟩
  | swap x y l =>
    intro ys h
    cases h with
    | cons h r => cases r with
      | cons h' r => exact ⟨_, .swap _ _ _, .cons h' (.cons h r)⟩
  | trans _ _ ih1 ih2 =>
    intro ys h
    obtain ⟨y2, q2, r2⟩ := ih2 h
    obtain ⟨y1, q1, r1⟩ := ih1 r2
    exact ⟨y1, q1.trans q2, r1⟩
theorem each_perm {α β : Type} {R : α → β → Prop} {xs xs' : List α} (p : xs'.Perm xs) : ∀ {ys : List β}, PySem.W.EachIs R xs ys → ∃ ys', ys'.Perm ys ∧ PySem.W.EachIs R xs' ys' := by
  induction p with
  | nil => intro ys h; exact ⟨ys, .refl _, h⟩
  | cons x _ ih =>
    intro ys h
    cases h with
    | cons h r =>
      obtain ⟨ys', q, r'⟩ := ih r
      exact ⟨_, q.cons _, .cons h r'⟩
  | swap x y l =>
    intro ys h
    cases h with
    | cons h r => cases r with
      | cons h' r => exact ⟨_, .swap _ _ _, .cons h' (.cons h r)⟩
  | trans _ _ ih1 ih2 =>
    intro ys h
    obtain ⟨y2, q2, r2⟩ := ih2 h
    obtain ⟨y1, q1, r1⟩ := ih1 r2
    exact ⟨y1, q1.trans q2, r1⟩
section
variable {prog : Program} {w : World} {A : Around} {E : Value → Shared → Prop} {s : Shared} {β : Type} {R : Value → β → Prop} {bs : List β} {enc : β → PyData}
open PySem.W PySem.Calls in
/-- sorted(x), x's items in some order bs' -/
theorem sorted_any {x : Value} {Q : Value → Shared → Prop} {PB : List β → Prop} (hPB : ∀ bs', PB bs' → bs'.Perm bs)
    (hcol : ∀ Q' : List Value → Shared → Prop, (∀ (s1 : Shared) (vs : List Value) (bs' : List β), (∀ b o, s.heap.get? b = some o → s1.heap.get? b = some o) → s1.gens = s.gens → s1.os = s.os → PB bs' → EachIs R vs bs' → Q' vs s1) → wpAny (model prog w) A.in1 (collect x) Q' E s)
    (er : ∀ u b, b ∈ bs → R u b → ∃ as, Reads s.heap u (enc b) as) (hal : AllAlike (bs.map enc)) (hk : SortableT (bs.map enc)) (hL : bs.length ≤ sizeLine) (hu : ∀ b, b ∈ bs → A.units + 2 + (enc b).depth < cLine)
    (h : ∀ (s1 s' : Shared) (p : Addr) (out : List Value) (bs' : List β) (c : Nat), (∀ b o, s.heap.get? b = some o → s1.heap.get? b = some o) → s1.gens = s.gens → s1.os = s.os → (∀ b o, s1.heap.get? b = some o → s'.heap.get? b = some o) → s'.gens = s1.gens → s'.os = s1.os →
      s1.heap.objs.size ≤ p → s'.heap.get? p = some (seqObj "list" (List.toArray out) c) → PB bs' → EachIs R out (bs'.mergeSort (dataLe false enc)) → Q (.ref p) s') :
    wpAny (model prog w) A (call (.builtin "sorted") [x]) Q E s := by
  refine Calls.call_function_entry kind_sorted plain_sorted entry_sorted (args_sorted1 _) ?_
  unfold Builtin.«sorted»
  refine wpAny_bind (m := checkCount "sorted" 1 1 _) (wpAny_pure ?_)
  refine wpAny_bind (hcol _ fun s1 vs bs' k1 g1 o1 pb e => ?_)
  have pm := hPB bs' pb
  have hlen : vs.length ≤ sizeLine := by rw [e.length, pm.length_eq]; exact hL
  refine wpAny_bind (wpAny_newList ?_ hlen)
  have hoL : (s1.heap.push (seqObj "list" vs.toArray 0)).get? s1.heap.objs.size = some (seqObj "list" vs.toArray 0) := Heap.get?_push_size _ rfl
  have keep : ∀ b o, s.heap.get? b = some o → (sortingHeap (s1.heap.push (seqObj "list" vs.toArray 0)) s1.heap.objs.size vs).get? b = some o := fun b o q =>
    sortingHeap_old (Nat.ne_of_lt (Heap.lt_size (k1 b o q))) (Heap.get?_push_of_some _ (k1 b o q))
  have er' : EachIs (fun v b => ∃ as, Reads (sortingHeap (s1.heap.push (seqObj "list" vs.toArray 0)) s1.heap.objs.size vs) v (enc b) as) vs bs' := each_imp_mem e fun u b hb r => by
    obtain ⟨as, q⟩ := er u b (pm.mem_iff.mp hb) r
    exact ⟨as, PyProof.Rows.Reads.keeps keep q⟩
  have sub : ∀ d, d ∈ bs'.map enc → d ∈ bs.map enc := fun d hd => (pm.map enc).mem_iff.mp hd
  have hal' : AllAlike (bs'.map enc) := fun d hd d' hd' => hal d (sub d hd) d' (sub d' hd')
  have hk' : SortableT (bs'.map enc) := by
    rcases hk with z | z
    · exact .inl fun d hd => z d (sub d hd)
    · exact .inr fun d hd => z d (sub d hd)
  refine wpAny_bind (wpAny_holding (wpAny_call_entry_kw (s := { s1 with heap := s1.heap.push (seqObj "list" vs.toArray 0) }) slot_list_sort ⟨_, hoL, rfl⟩ entry_list_sort ?body (args_list_sort _)))
  case body =>
    refine list_sort_vals (κ := dataKind (sortingHeap (s1.heap.push (seqObj "list" vs.toArray 0)) s1.heap.objs.size vs) (bs'.map enc)) (s := { s1 with heap := s1.heap.push (seqObj "list" vs.toArray 0) }) hoL
      (sortsT (s := { s1 with heap := sortingHeap (s1.heap.push (seqObj "list" vs.toArray 0)) s1.heap.objs.size vs }) (each_map (R := fun v d => ∃ as, Reads (sortingHeap (s1.heap.push (seqObj "list" vs.toArray 0)) s1.heap.objs.size vs) v d as) enc er') hal' hk' fun d hd => ?_) hlen ?_
    · obtain ⟨b, hb, rfl⟩ := List.mem_map.mp (sub d hd)
      have := hu b hb
      exact this
    · obtain ⟨c, hc⟩ := sortedHeap_at (vs := vs) (out := (sortVals (dataKind (sortingHeap (s1.heap.push (seqObj "list" vs.toArray 0)) s1.heap.objs.size vs) (bs'.map enc)) false vs vs).toArray) hoL
      refine ⟨_, rfl, wpAny_pure ⟨_, rfl, h s1 _ s1.heap.objs.size _ bs' c k1 g1 o1 (fun b u q' => ?_) rfl rfl (Nat.le_refl _) hc pb (sortVals_data false e er' hal')⟩⟩
      have hlt := Heap.lt_size q'
      rw [sortedHeap_old (Nat.ne_of_lt hlt) (by rw [size_push']; exact Nat.lt_succ_of_lt hlt)]
      exact Heap.get?_push_of_some _ q'
end
end
end Dt

/-! set(a list), sorted(a set), len(a set). -/
namespace Dt
noncomputable section
open PySem PySem.Spec PyProof.Rows L2
/-- v is the key k, of the kind tup -/
def Mb (K : PySem.W.Frag) (H : Hp) (tup : Bool) (z : V × NestedKey) : Prop := KV K H z.1 z.2 ∧ EltV tup z.1 z.2 ∧ z.2.depth ≤ 8
theorem pairs_pick {α β γ : Type} {R : α → γ → Prop} {zs : List (α × β)} {us : List γ} (r : Paired R (zs.map (·.1)) us) : ∀ {L : List (γ × β)}, (∀ p ∈ L, p ∈ us.zip (zs.map (·.2))) → ∃ ws : List (α × β), Paired (fun z p => R z.1 p.1 ∧ z.2 = p.2) ws L ∧ ∀ z ∈ ws, z ∈ zs
  | [], _ => ⟨[], .nil, by simp⟩
  | p :: L, h => by
    obtain ⟨ws, q, m⟩ := pairs_pick r (L := L) fun p hp => h p (by simp [hp])
    have : ∀ {zs : List (α × β)} {us : List γ}, Paired R (zs.map (·.1)) us → p ∈ us.zip (zs.map (·.2)) → ∃ z ∈ zs, R z.1 p.1 ∧ z.2 = p.2 := by
      intro zs
      induction zs with
      | nil => intro us _ hp; simp at hp
      | cons z zs ih =>
        intro us r hp
        cases r with
        | cons h0 r =>
          simp only [List.map_cons, List.zip_cons_cons, List.mem_cons] at hp
          rcases hp with rfl | hp
          · exact ⟨z, by simp, h0, rfl⟩
          · obtain ⟨z', a, b⟩ := ih r hp
            exact ⟨z', by simp [a], b⟩
    obtain ⟨z, hz, e⟩ := this r (h p (by simp))
    exact ⟨z :: ws, .cons e q, fun y hy => by
      rcases List.mem_cons.mp hy with rfl | hy
      · exact hz
      · exact m y hy⟩
theorem paired_vals {ws : List (V × NestedKey)} : ∀ {L : List GRow}, Paired (fun z p => RelV z.1 p.1 ∧ z.2 = p.2) ws L → Vals (ws.map (·.1)) (L.map (·.1)) ∧ L.map (·.2) = ws.map (·.2) := by
  induction ws with
  | nil => intro L h; cases h; exact ⟨.nil, rfl⟩
  | cons z ws ih =>
    intro L h
    cases h with
    | cons h r =>
      obtain ⟨a, b⟩ := ih r
      exact ⟨.cons h.1 a, by simp [b, h.2]⟩
theorem vals_paired {zs : List (V × NestedKey)} : ∀ {L : List GRow}, Vals (zs.map (·.1)) (L.map (·.1)) → L.map (·.2) = zs.map (·.2) → Paired (fun z p => RelV z.1 p.1 ∧ z.2 = p.2) zs L := by
  induction zs with
  | nil =>
    intro L _ e
    cases L with
    | nil => exact .nil
    | cons => simp at e
  | cons z zs ih =>
    intro L h e
    cases L with
    | nil => simp at e
    | cons p L =>
      simp only [List.map_cons, List.cons.injEq] at h e
      cases h with
      | cons h r => exact .cons ⟨h, e.1.symm⟩ (ih r e.2)
theorem zip_self {α β : Type} : ∀ (l : List (α × β)), (l.map (·.1)).zip (l.map (·.2)) = l
  | [] => rfl
  | x :: l => by simp [zip_self l]
/-- set(l) -/
def rSetD (K : PySem.W.Frag) (w : World) : List V → Hp → VK → Prop := fun xs H Q => ∃ (l : Addr) (zs : List (V × NestedKey)) (tup : Bool), xs = [.ref l] ∧ SqL K H l (zs.map (·.1)) ∧ (∀ z ∈ zs, Mb K H tup z) ∧ zs.length ≤ 75 ∧
  ∀ p ws, H p = none → (∀ z ∈ ws, z ∈ zs) → (∀ z ∈ zs, z.2 ∈ ws.map (·.2)) → (ws.map (·.2)).Nodup → ∃ ws' : List (V × NestedKey), ws'.Perm ws ∧ Q (.ref p) (upd H p (setHO w tup p (ws'.map (·.1)) (ws'.map (·.2))))
section
variable {X : Cx}
theorem elts_of {pins : List (Addr × Obj)} {σ : Sg} {H : Hp} {s : Shared} {tup : Bool} (I : Inv X pins σ H s) : ∀ {zs : List (V × NestedKey)} {us : List Value}, (∀ z ∈ zs, Mb X.K H tup z) → Vals (zs.map (·.1)) us → ∀ p ∈ us.zip (zs.map (·.2)), EltK X.prog X.w s.heap tup p.1 p.2
  | [], us, _, r, p, hp => by cases r; simp at hp
  | z :: zs, us, h, r, p, hp => by
    cases r with
    | cons h1 r =>
      simp only [List.map_cons, List.zip_cons_cons, List.mem_cons] at hp
      rcases hp with rfl | hp
      · obtain ⟨a, b, c⟩ := h z (by simp)
        exact a.elt I b c h1
      · exact elts_of I (fun z hz => h z (by simp [hz])) r p hp
theorem cr_setD (hc : X.calm = true) (hu : X.A.units + 64 < cLine) : CallR X (.type "set") (rSetD X.K X.w) := by
  intro pins s σ H xs us Q I r h
  obtain ⟨l, zs, tup, rfl, hl, hk, hf, q⟩ := h
  rw [Vals.ref1 r]
  obtain ⟨its, rv, pl, hz⟩ := I.list hl
  have hn : H s.heap.objs.size = none := I.hok.fresh (Nat.le_refl _)
  have el := rv.length
  simp only [List.length_map] at el
  have hlz : (its.zip (zs.map (·.2))).length = zs.length := by simp [← el]
  refine call_setG (P := X.prog) (w := X.w) (tup := tup) (its.zip (zs.map (·.2))) (I.ok.hd hc) pl.isList (by
      rw [List.map_fst_zip (by simp [← el])]) (elts_of I hk rv) (by rw [hlz]; exact hf) (by omega) fun h' tk L R g k => ?_
  have hsub : ∀ p ∈ L, p ∈ its.zip (zs.map (·.2)) := fun p hp => List.mem_of_mem_take (g.sub p hp)
  obtain ⟨ws, pw, mw⟩ := pairs_pick rv hsub
  obtain ⟨pv, pk⟩ := paired_vals pw
  have nd : (ws.map (·.2)).Nodup := by rw [← pk]; exact setG_nd R
  obtain ⟨ws', pm, q'⟩ := q s.heap.objs.size ws hn mw (fun z hz => by
    rw [← pk]
    have hz2 : z.2 ∈ (its.zip (zs.map (·.2))).map (·.2) := by
      rw [List.map_snd_zip (by simp [← el])]
      exact List.mem_map.mpr ⟨z, hz, rfl⟩
    obtain ⟨p, hp, e⟩ := List.mem_map.mp hz2
    rw [← e]
    exact g.all p (by rw [List.take_length]; exact hp)) nd
  obtain ⟨L', pm', pw'⟩ := paired_perm pm pw
  obtain ⟨pv', pk'⟩ := paired_vals pw'
  refine ⟨.ref s.heap.objs.size, _, I.laid (t' := tk) k (Nat.le_refl _) (setHO_new ⟨X.prog, L, L', R.toGo, pm', pv', pk', fun z hz => ?_⟩), rfl, q'⟩
  rw [zip_self] at hz
  exact (hk z (mw z (pm.mem_iff.mp hz))).2
/-- the set at a -/
theorem set_get {pins : List (Addr × Obj)} {σ : Sg} {H : Hp} {s : Shared} {tup : Bool} {a : Addr} {zs : List (V × NestedKey)} (I : Inv X pins σ H s) (ha : H a = some (setHO X.w tup a (zs.map (·.1)) (zs.map (·.2)))) (hk0 : ∀ z ∈ zs, KV X.K H z.1 z.2) :
    (∀ z ∈ zs, Mb X.K H tup z) ∧ ∃ L rows : List GRow, SetG X.prog X.w s.heap tup a L ∧ rows.Perm L ∧ Paired (fun z p => RelV z.1 p.1 ∧ z.2 = p.2) zs rows := by
  obtain ⟨P, L, rows, g, pm, pv, pk, pe⟩ := (I.hok a _ ha).1
  rw [zip_self] at pe
  have hk : ∀ z ∈ zs, Mb X.K H tup z := fun z hz => ⟨hk0 z hz, pe z hz⟩
  refine ⟨hk, L, rows, (g.prog (P' := X.prog)).full fun p hp => ?_, pm, vals_paired pv pk⟩
  have hp' := pm.mem_iff.mpr hp
  refine elts_of I hk pv p ?_
  rw [← pk]
  rw [zip_self]
  exact hp'
/-- len(set) -/
def rLenSet (K : PySem.W.Frag) (w : World) : List V → Hp → VK → Prop := fun xs H Q => ∃ (a : Addr) (zs : List (V × NestedKey)) (tup : Bool), xs = [.ref a] ∧ H a = some (setHO w tup a (zs.map (·.1)) (zs.map (·.2))) ∧ (∀ z ∈ zs, KV K H z.1 z.2) ∧ Q (.int zs.length) H
theorem cr_lenSet : CallR X (.builtin "len") (rLenSet X.K X.w) := by
  intro pins s σ H xs us Q I r h
  obtain ⟨a, zs, tup, rfl, ha, hk, q⟩ := h
  rw [Vals.ref1 r]
  obtain ⟨hk', L, rows, R, pm, pw⟩ := set_get I ha hk
  obtain ⟨es, ep, t, _, ⟨o, ho, hex, hd⟩, hf, _, _, hb, _, hn⟩ := setG_at R
  have e : es.size = zs.length := by
    rw [hn, ← pm.length_eq]
    have := (paired_vals pw).2
    have := congrArg List.length this
    simpa using this
  refine call_len_set ho hex hd hf (by unfold scanBound at hb; omega) ⟨.int zs.length, H, I.tok _, ⟨_, by rw [e]⟩, q⟩
/-- sorted(set): its members as data -/
def rSortSet (K : PySem.W.Frag) (w : World) : List V → Hp → VK → Prop := fun xs H Q => ∃ (a : Addr) (bs : List (V × D)) (zs : List (V × NestedKey)) (tup : Bool), xs = [.ref a] ∧ H a = some (setHO w tup a (zs.map (·.1)) (zs.map (·.2))) ∧ (∀ z ∈ zs, KV K H z.1 z.2) ∧ bs.map (·.1) = zs.map (·.1) ∧
  (∀ b ∈ bs, Dp K H b.1 (pyD b.2)) ∧ sortOk (bs.map (·.2)) = true ∧ (∀ b ∈ bs, ∀ b' ∈ bs, leD b.2 b'.2 = true → leD b'.2 b.2 = true → b = b') ∧
  ∀ p, H p = none → Q (.ref p) (upd H p (.lst ((bs.mergeSort fun a b => leD a.2 b.2).map (·.1))))
theorem cr_sortSet (hc : X.calm = true) (hu : X.A.units + 64 < cLine) : CallR X (.builtin "sorted") (rSortSet X.K X.w) := by
  intro pins s σ H xs us Q I r h
  obtain ⟨a, bs, zs, tup, rfl, ha, hk, eb, hd, ok, anti, q⟩ := h
  rw [Vals.ref1 r]
  obtain ⟨hk', L, rows, R, pm, pw⟩ := set_get I ha hk
  obtain ⟨es, ep, t, hat, _, hf, hr, hled, hb, hpm, hn⟩ := setG_at R
  unfold sortOk at ok
  split at ok
  · rename_i ps eps
    rw [Bool.and_eq_true, Bool.and_eq_true, Bool.and_eq_true] at ok
    obtain ⟨⟨⟨o1, o2⟩, o3⟩, o4⟩ := ok
    have em : bs.map (fun b => pyD b.2) = ps := by
      have := pys_map eps
      rw [List.map_map] at this
      exact this
    have hal : PySem.W.AllAlike (bs.map fun b => pyD b.2) := by
      rw [em]
      intro d hd d' hd'
      exact List.all_eq_true.mp (List.all_eq_true.mp o1 d hd) d' hd'
    have hlen : bs.length ≤ sizeLine := by simpa using o3
    have pv := (paired_vals pw).1
    rw [← eb] at pv
    have ee : PySem.W.EachIs (fun u (b : V × D) => RelV b.1 u) (rows.map (·.1)) bs := each_of_vals pv
    refine sorted_any (enc := fun (b : V × D) => pyD b.2) (R := fun u (b : V × D) => RelV b.1 u) (bs := bs) (PB := fun bs' => bs'.Perm bs) (fun _ h => h) (fun Q' hq => collect_set (A := X.A.in1) (I.ok.hd hc) hat hf hb hr hled fun s1 vs k1 hz g1 o1 pm1 => ?_)
      (fun u b hb ru => Dp.reads I _ _ _ (hd b hb) ru) hal (by rw [em]; exact sortable_of o2) hlen (fun b hb => ?_) fun s1 s' p out bs' c k1 g1 o1 k g o hp hg pmb he => ?_
    · obtain ⟨bs', p1, e1⟩ := each_perm (pm1.trans (hpm.trans (pm.map (·.1)).symm)) ee
      exact hq s1 vs bs' k1 g1 o1 p1 e1
    · have : pyD b.2 ∈ ps := by rw [← em]; exact List.mem_map.mpr ⟨b, hb, rfl⟩
      have := of_decide_eq_true (List.all_eq_true.mp o4 _ this)
      omega
    · -- the order of the members is one
      have tot : ∀ x y : V × D, (PySem.W.dataLe false (fun (b : V × D) => pyD b.2) x y || PySem.W.dataLe false (fun (b : V × D) => pyD b.2) y x) = true := fun x y => by
        have := (PySem.W.sortLe_total (PyProof.Rows.listOrd PyProof.Rows.itemOrd) false (fun b : V × D => PySem.W.keyToks (pyD b.2))).total x y
        simpa [PySem.W.dataLe] using this
      have tra : ∀ x y z : V × D, PySem.W.dataLe false (fun (b : V × D) => pyD b.2) x y = true → PySem.W.dataLe false (fun (b : V × D) => pyD b.2) y z = true → PySem.W.dataLe false (fun (b : V × D) => pyD b.2) x z = true := fun x y z =>
        (PySem.W.sortLe_total (PyProof.Rows.listOrd PyProof.Rows.itemOrd) false (fun b : V × D => PySem.W.keyToks (pyD b.2))).trans x y z
      have es : bs'.mergeSort (PySem.W.dataLe false fun (b : V × D) => pyD b.2) = bs.mergeSort (fun a b => leD a.2 b.2) := by
        refine List.Perm.eq_of_pairwise (le := fun x y => PySem.W.dataLe false (fun (b : V × D) => pyD b.2) x y = true) (fun x y hx hy h1 h2 => ?_) (List.pairwise_mergeSort tra tot _) (List.pairwise_mergeSort tra tot _) ?_
        · have hx' : x ∈ bs := pmb.mem_iff.mp ((List.mergeSort_perm _ _).mem_iff.mp hx)
          have hy' : y ∈ bs := (List.mergeSort_perm _ _).mem_iff.mp hy
          exact anti x hx' y hy' h1 h2
        · exact (List.mergeSort_perm _ _).trans (pmb.trans (List.mergeSort_perm _ _).symm)
      rw [es] at he
      have hv := vals_of_each he
      have I1 : Inv X pins σ H s1 := I.call' (ch := []) o1 (Un.kept k1) (I.hok.kept k1) (by rw [g1]; exact I.bare) (fun _ z => nomatch z)
      have hnp : H p = none := I1.hok.fresh hp
      have hl2 : ((bs.mergeSort fun a b => leD a.2 b.2).map (·.1)).length ≤ sizeLine := by
        rw [List.length_map, List.length_mergeSort]
        exact hlen
      have J : Inv X pins σ (upd H p (.lst ((bs.mergeSort fun a b => leD a.2 b.2).map (·.1)))) s' :=
        I1.call' (ch := []) o (Un.laid k hp hnp) (I1.hok.laid k hp ⟨hl2, out, c, hv, hg⟩) (by rw [g]; exact I1.bare) (fun _ z => nomatch z)
      exact ⟨.ref p, _, J, rfl, q p hnp⟩
  · cases ok
end
end
end Dt

/-! Sets in the cores. -/
namespace Dt
noncomputable section
open PySem PySem.Spec PyProof.Rows L2
open Classical in
theorem mem_addD {ds : List D} {d x : D} : x ∈ addD ds d ↔ x ∈ ds ∨ x = d := by
  unfold addD
  split
  · rename_i h
    exact ⟨.inl, fun h' => h'.elim id fun e => by rw [e]; exact h⟩
  · simp
open Classical in
theorem nodup_addD {ds : List D} {d : D} (h : ds.Nodup) : (addD ds d).Nodup := by
  unfold addD
  split
  · exact h
  · rename_i n
    rw [List.nodup_append]
    refine ⟨h, by simp, fun a ha b hb => ?_⟩
    simp at hb
    rintro rfl
    exact n (hb ▸ ha)
theorem ded_go {ds : List D} : ∀ {acc : List D}, acc.Nodup → (ds.foldl addD acc).Nodup ∧ ∀ x, x ∈ ds.foldl addD acc ↔ x ∈ acc ∨ x ∈ ds := by
  induction ds with
  | nil => intro acc h; exact ⟨h, by simp⟩
  | cons d ds ih =>
    intro acc h
    obtain ⟨a, b⟩ := ih (nodup_addD (d := d) h)
    refine ⟨a, fun x => ?_⟩
    simp only [List.foldl_cons]
    rw [b, mem_addD, List.mem_cons, or_assoc]
theorem nodup_ded (ds : List D) : (dedD ds).Nodup := (ded_go List.nodup_nil).1
theorem mem_ded {ds : List D} {x : D} : x ∈ dedD ds ↔ x ∈ ds := by
  have := (ded_go (ds := ds) (acc := []) List.nodup_nil).2 x
  exact this.trans (by simp)
theorem pick_all {α β : Type} {P : β → α → Prop} : ∀ {l : List α}, (∀ d ∈ l, ∃ z, P z d) → ∃ zs, Paired (fun z d => P z d) zs l
  | [], _ => ⟨[], .nil⟩
  | d :: l, h => by
    obtain ⟨z, hz⟩ := h d (by simp)
    obtain ⟨zs, hzs⟩ := pick_all (l := l) fun d hd => h d (by simp [hd])
    exact ⟨z :: zs, .cons hz hzs⟩
theorem Paired.left_mem {α β : Type} {R : α → β → Prop} : ∀ {xs : List α} {ys : List β}, Paired R xs ys → ∀ x ∈ xs, ∃ y ∈ ys, R x y
  | _, _, .nil, x, h => by simp at h
  | _, _, .cons h r, x, hx => by
    rcases List.mem_cons.mp hx with rfl | hx
    · exact ⟨_, by simp, h⟩
    · obtain ⟨y, a, b⟩ := Paired.left_mem r x hx
      exact ⟨y, by simp [a], b⟩
theorem Paired.right_mem {α β : Type} {R : α → β → Prop} : ∀ {xs : List α} {ys : List β}, Paired R xs ys → ∀ y ∈ ys, ∃ x ∈ xs, R x y
  | _, _, .nil, x, h => by simp at h
  | _, _, .cons h r, x, hx => by
    rcases List.mem_cons.mp hx with rfl | hx
    · exact ⟨_, by simp, h⟩
    · obtain ⟨y, a, b⟩ := Paired.right_mem r x hx
      exact ⟨y, by simp [a], b⟩
section
variable {G : Gm} {N : Addr → Prop} {H : Hp}
/-- the members with their keys -/
theorem RFs.mbs {tup : Bool} : ∀ {vs : List V} {ds : List D}, RFs G N H vs ds → (∀ d ∈ ds, elD tup d = true) → (∀ d ∈ ds, kd 8 d = true) → ∃ zs : List (V × NestedKey), zs.map (·.1) = vs ∧ Paired (fun z d => RF G N H z.1 d ∧ nkey d = some z.2) zs ds ∧ ∀ z ∈ zs, Mb G.K H tup z
  | _, _, .nil, _, _ => ⟨[], rfl, .nil, by simp⟩
  | v :: vs, d :: ds, .cons h r, he, hk => by
    obtain ⟨zs, e, p, m⟩ := RFs.mbs r (fun d hd => he d (by simp [hd])) (fun d hd => hk d (by simp [hd]))
    obtain ⟨k, ek, dk⟩ := kd_key (hk d (by simp))
    refine ⟨(v, k) :: zs, by simp [e], .cons ⟨h, ek⟩ p, fun z hz => ?_⟩
    rcases List.mem_cons.mp hz with rfl | hz
    · exact ⟨h.kv ek, h.eltV (he d (by simp)) ek, dk⟩
    · exact m z hz
theorem nkeys_of {zs : List (V × NestedKey)} : ∀ {ds : List D}, Paired (fun z d => RF G N H z.1 d ∧ nkey d = some z.2) zs ds → nkeys ds = some (zs.map (·.2)) ∧ RFs G N H (zs.map (·.1)) ds := by
  induction zs with
  | nil => intro ds h; cases h; exact ⟨by simp [nkeys], .nil⟩
  | cons z zs ih =>
    intro ds h
    cases h with
    | cons h r =>
      obtain ⟨a, b⟩ := ih r
      exact ⟨by simp [nkeys, a, h.2], .cons h.1 b⟩
theorem of_nkeys {vs : List V} {ds : List D} (r : RFs G N H vs ds) : ∀ {ks : List NestedKey}, nkeys ds = some ks → ∃ zs : List (V × NestedKey), zs.map (·.1) = vs ∧ zs.map (·.2) = ks ∧ Paired (fun z d => RF G N H z.1 d ∧ nkey d = some z.2) zs ds := by
  induction ds generalizing vs with
  | nil => intro ks e; cases r; simp [nkeys] at e; subst e; exact ⟨[], rfl, rfl, .nil⟩
  | cons d ds ih =>
    intro ks e
    cases r with
    | cons h r =>
      unfold nkeys at e
      split at e
      · rename_i y ys e1 e2
        cases e
        obtain ⟨zs, a, b, c⟩ := ih r e2
        exact ⟨(_, y) :: zs, by simp [a], by simp [b], .cons ⟨h, e1⟩ c⟩
      · cases e
theorem Own.newSetO {A L : List Cl} {p : Addr} {tup : Bool} {ks : List NestedKey} (w : ∀ t ∈ A, t.sh = .fz) (e : nkeys (A.map Cl.d) = some ks) (h : Own G H (A ++ L)) (hp : H p = none) : Own G (upd H p (setHO G.w tup p (A.map Cl.v) ks)) (⟨.set tup, .ref p, .set (A.map Cl.d)⟩ :: L) := by
  obtain ⟨O, h⟩ := h
  rw [List.append_assoc] at h
  have np := h.notin hp
  obtain ⟨r, nd⟩ := h
  obtain ⟨f1, f2, ef, r1, r2⟩ := r.split
  subst ef
  obtain ⟨e1, rf⟩ := r1.fzs w
  subst e1
  have k : Kp (fun a => a ∉ ([] : List Addr) ++ f2) (fun a => a ∉ [p] ++ f2) H (upd H p (setHO G.w tup p (A.map Cl.v) ks)) := ⟨fun a o e _ => upd_new hp a o e, fun a o e n => by
    simp only [List.cons_append, List.nil_append, List.mem_cons, not_or] at n ⊢
    exact ⟨ne_of_none e hp, n⟩⟩
  exact ⟨[p] ++ f2, .cons (t := ⟨.set tup, .ref p, .set (A.map Cl.d)⟩) (.set upd_same e (rf.mono k)) (r2.mono k fun a _ o e => upd_new hp a o e), List.nodup_cons.mpr ⟨np, nd⟩⟩
theorem OwnO.newSet {L : List Cl} {O : List Addr} {p : Addr} {vs : List V} {ds : List D} {tup : Bool} {ks : List NestedKey} (r : RFs G (fun a => a ∉ O) H vs ds) (e : nkeys ds = some ks) (h : OwnO G H (L ++ tabC G) O) (hp : H p = none) : Own G (upd H p (setHO G.w tup p vs ks)) (⟨.set tup, .ref p, .set ds⟩ :: L) := by
  obtain ⟨A, w, e1, e2⟩ := r.cls
  have h2 : Own G H (A ++ L) := ⟨O, by
    have := (RTs.ofs (L := A) (by rw [e1, e2]; exact r) w).append h.1
    exact ⟨by simpa [List.append_assoc] using this, h.2⟩⟩
  have := Own.newSetO (tup := tup) w (by rw [e2]; exact e) h2 hp
  rw [e1, e2] at this
  exact this
/-! set(l) -/
def tupOf (ds : List D) : Bool := ds.all (elD true)
theorem setOk_tup {ds : List D} (h : setOk ds = true) : (∀ d ∈ ds, elD (tupOf ds) d = true) ∧ (∀ d ∈ ds, kd 8 d = true) ∧ ds.length ≤ 75 := by
  obtain ⟨tup, h1, h2, h3⟩ := setOk_at h
  refine ⟨?_, h2, h3⟩
  cases ht : tupOf ds with
  | true => exact List.all_eq_true.mp ht
  | false =>
    cases tup
    · exact h1
    · have : tupOf ds = true := List.all_eq_true.mpr h1
      rw [ht] at this
      cases this
noncomputable def setF : D → Option (Sh × D)
  | .lst ds => if setOk ds = true then some (.set (tupOf ds), .set (dedD ds)) else none
  | _ => none
/-- equal keys among the members: one thing -/
theorem keys_one {zs : List (V × NestedKey)} {ds : List D} (pz : Paired (fun z d => RF G N H z.1 d ∧ nkey d = some z.2) zs ds) (hk : ∀ d ∈ ds, kd 8 d = true) {z z' : V × NestedKey} {d d' : D} (h : nkey d = some z.2) (h' : nkey d' = some z'.2) (hd : d ∈ ds) (hd' : d' ∈ ds) (e : z.2 = z'.2) : d = d' :=
  kd_inj (hk d hd) (hk d' hd') h (by rw [e]; exact h')
theorem members {zs ws : List (V × NestedKey)} {ds : List D} (pz : Paired (fun z d => RF G N H z.1 d ∧ nkey d = some z.2) zs ds) (hk : ∀ d ∈ ds, kd 8 d = true) (h1 : ∀ z ∈ ws, z ∈ zs) (h2 : ∀ z ∈ zs, z.2 ∈ ws.map (·.2)) (nd : (ws.map (·.2)).Nodup) :
    ∃ ws' : List (V × NestedKey), ws'.Perm ws ∧ Paired (fun z d => RF G N H z.1 d ∧ nkey d = some z.2) ws' (dedD ds) := by
  have pk : ∀ d ∈ dedD ds, ∃ z, (z ∈ ws ∧ RF G N H z.1 d ∧ nkey d = some z.2) := fun d hd => by
    have hd' := mem_ded.mp hd
    obtain ⟨z0, hz0, _, e0⟩ := Paired.right_mem pz d hd'
    obtain ⟨z, hz, e⟩ := List.mem_map.mp (h2 z0 hz0)
    obtain ⟨d2, hd2, r2, e2⟩ := Paired.left_mem pz z (h1 z hz)
    have ed : d2 = d := keys_one pz hk e2 e0 hd2 hd' e
    subst ed
    exact ⟨z, hz, r2, e2⟩
  obtain ⟨ws', pw⟩ := pick_all pk
  refine ⟨ws', ?_, ?_⟩
  · have n1 : ws.Nodup := List.Pairwise.of_map (·.2) (fun _ _ h e => h (by rw [e])) nd
    have n2 : ws'.Nodup := by
      have : ∀ {xs : List (V × NestedKey)} {es : List D}, Paired (fun z d => (z ∈ ws ∧ RF G N H z.1 d ∧ nkey d = some z.2)) xs es → es.Nodup → (∀ d ∈ es, d ∈ ds) → xs.Nodup := by
        intro xs
        induction xs with
        | nil => intro es _ _ _; exact List.nodup_nil
        | cons x xs ih =>
          intro es p n m
          cases p with
          | cons h r =>
            have n' := List.nodup_cons.mp n
            refine List.nodup_cons.mpr ⟨fun hx => ?_, ih r n'.2 fun d hd => m d (by simp [hd])⟩
            obtain ⟨d', hd', _, _, e'⟩ := Paired.left_mem r x hx
            have := keys_one pz hk h.2.2 e' (m _ (by simp)) (m d' (by simp [hd'])) rfl
            exact n'.1 (this ▸ hd')
      exact this pw (nodup_ded ds) fun d hd => mem_ded.mp hd
    refine (List.perm_ext_iff_of_nodup n2 n1).mpr fun z => ⟨fun hz => ?_, fun hz => ?_⟩
    · obtain ⟨d, _, h, _⟩ := Paired.left_mem pw z hz
      exact h
    · obtain ⟨d, hd, _, e⟩ := Paired.left_mem pz z (h1 z hz)
      obtain ⟨z', hz', hw, _, e'⟩ := Paired.right_mem pw d (mem_ded.mpr hd)
      have ek : z'.2 = z.2 := by
        rw [e] at e'
        exact (Option.some.inj e').symm
      have : z' = z := by
        obtain ⟨i, hi, ei⟩ := List.getElem_of_mem hw
        obtain ⟨j, hj, ej⟩ := List.getElem_of_mem hz
        have : i = j := (List.getElem_inj (xs := ws.map (fun z => z.2)) (i := i) (j := j) (h₀ := by simpa using hi) (h₁ := by simpa using hj) nd).mp (by simp [ei, ej, ek])
        subst this
        rw [← ei, ← ej]
      rw [← this]
      exact hz'
  · have : ∀ {xs : List (V × NestedKey)} {es : List D}, Paired (fun z d => (z ∈ ws ∧ RF G N H z.1 d ∧ nkey d = some z.2)) xs es → Paired (fun z d => RF G N H z.1 d ∧ nkey d = some z.2) xs es := by
      intro xs
      induction xs with
      | nil => intro es p; cases p; exact .nil
      | cons x xs ih => intro es p; cases p with
        | cons h r => exact .cons h.2 (ih r)
    exact this pw
theorem fun_set : FunOk G (rSetD G.K G.w) (on1 setF) := FunOk.one fun H L O v d0 sh d Q o rx e k => by
  unfold setF at e
  split at e
  · rename_i ds
    split at e
    · rename_i ok
      cases e
      obtain ⟨h1, h2, h3⟩ := setOk_tup ok
      obtain ⟨a, vs, rfl, t, r⟩ := rx.lst_at
      obtain ⟨zs, ez, pz, mz⟩ := r.mbs h1 h2
      refine ⟨a, zs, tupOf ds, rfl, by rw [ez]; exact t, mz, by rw [← List.length_map (f := (·.1)), ez, r.length]; exact h3, fun p ws hp m1 m2 nd => ?_⟩
      obtain ⟨ws', pm, pw⟩ := members pz h2 m1 m2 nd
      obtain ⟨ek, rf⟩ := nkeys_of pw
      exact ⟨ws', pm, k _ _ (upd_new hp) (o.newSet rf ek hp)⟩
    · cases e
  · cases e
/-! a set that is looked at -/
theorem RX.set_at {v : V} {ds : List D} (h : RX G N H v (.set ds)) : ∃ a tup vs ks, v = .ref a ∧ H a = some (setHO G.w tup a vs ks) ∧ nkeys ds = some ks ∧ RFs G N H vs ds := by
  cases h with
  | fz h => cases h with
    | set h _ e r => exact ⟨_, _, _, _, rfl, h, e, r⟩
  | set h e r => exact ⟨_, _, _, _, rfl, h, e, r⟩
theorem kvs_of {zs : List (V × NestedKey)} {ds : List D} (p : Paired (fun z d => RF G N H z.1 d ∧ nkey d = some z.2) zs ds) : ∀ z ∈ zs, KV G.K H z.1 z.2 := fun z hz => by
  obtain ⟨d, _, r, e⟩ := Paired.left_mem p z hz
  exact r.kv e
def lenSF : D → Option (Sh × D)
  | .set ds => some (.fz, .int (ds.length : Nat))
  | _ => none
theorem paired_len {α β : Type} {R : α → β → Prop} : ∀ {xs : List α} {ys : List β}, Paired R xs ys → xs.length = ys.length
  | _, _, .nil => rfl
  | _, _, .cons _ r => by simp [paired_len r]
theorem fun_lenS : FunOk G (rLenSet G.K G.w) (on1 lenSF) := FunOk.one fun H L O v d0 sh d Q o rx e k => by
  unfold lenSF at e
  split at e
  · rename_i ds
    cases e
    obtain ⟨a, tup, vs, ks, rfl, ha, ek, r⟩ := rx.set_at
    obtain ⟨zs, e1, e2, pz⟩ := of_nkeys r ek
    subst e1; subst e2
    refine ⟨a, zs, tup, rfl, ha, kvs_of pz, ?_⟩
    rw [paired_len pz]
    exact k _ H (Same.refl H) ⟨O, o.cons (.int _)⟩
  · cases e
open Classical in
noncomputable def sortedSF : D → Option (Sh × D)
  | .set ds => if sortOk ds = true ∧ kds 8 ds = true ∧ ds.Nodup then some (.lst .fz, .lst (sortD ds)) else none
  | _ => none
/-- two alike things that come one before the other both ways are equal -/
theorem leD_anti {n m : Nat} {x y : D} (hx : pl n x = true) (hy : pl m y = true) (al : PySem.W.alike (pyD x) (pyD y) = true) (h1 : leD x y = true) (h2 : leD y x = true) : x = y := by
  obtain ⟨p, e1, _⟩ := pl_py hx
  obtain ⟨q, e2, _⟩ := pl_py hy
  have p1 : pyD x = p := by simp [pyD, e1]
  have p2 : pyD y = q := by simp [pyD, e2]
  rw [p1, p2] at al
  refine (eqv_pl hx hy e1 e2).mp ?_
  cases he : PyData.eqv p q with
  | true => rfl
  | false =>
    have h1' : lexLt itemOrd (PySem.W.keyToks q) (PySem.W.keyToks p) = false := by
      have : PySem.W.dataLe false pyD x y = true := h1
      rw [PySem.W.dataLe_eq] at this
      simpa [PySem.W.dataLt, p1, p2] using this
    have h2' : lexLt itemOrd (PySem.W.keyToks p) (PySem.W.keyToks q) = false := by
      have : PySem.W.dataLe false pyD y x = true := h2
      rw [PySem.W.dataLe_eq] at this
      simpa [PySem.W.dataLt, p1, p2] using this
    have et := lex_total (O := itemOrd) _ _ h2' h1'
    have := (PySem.W.toks_eqv p q al).2 he [] [.inl 0]
    rw [h2', ← et, PySem.W.lex_pre] at this
    cases this
theorem sortOk_alike {ds : List D} (h : sortOk ds = true) : ∀ x ∈ ds, ∀ y ∈ ds, PySem.W.alike (pyD x) (pyD y) = true := by
  unfold sortOk at h
  split at h
  · rename_i ps e
    rw [Bool.and_eq_true, Bool.and_eq_true, Bool.and_eq_true] at h
    intro x hx y hy
    have em := pys_map e
    have h1 := List.all_eq_true.mp h.1.1.1 (pyD x) (by rw [← em]; exact List.mem_map.mpr ⟨x, hx, rfl⟩)
    exact List.all_eq_true.mp h1 (pyD y) (by rw [← em]; exact List.mem_map.mpr ⟨y, hy, rfl⟩)
  · cases h
theorem fun_sortedS : FunOk G (rSortSet G.K G.w) (on1 sortedSF) := FunOk.one fun H L O v d0 sh d Q o rx e k => by
  unfold sortedSF at e
  split at e
  · rename_i ds
    split at e
    · rename_i ok
      cases e
      obtain ⟨ok, okd, ndd⟩ := ok
      obtain ⟨a, tup, vs, ks, rfl, ha, ek, r⟩ := rx.set_at
      obtain ⟨zs, e1, e2, pz⟩ := of_nkeys r ek
      subst e1; subst e2
      have hl := r.length
      have dks : ∀ d ∈ ds, kd 8 d = true := kds_iff.mp okd
      have mem : ∀ b ∈ (zs.map (·.1)).zip ds, RF G (fun a => a ∉ O) H b.1 b.2 ∧ b.2 ∈ ds := fun b hb => ⟨r.zip_mem b hb, by rw [← zip_map_snd hl]; exact List.mem_map.mpr ⟨b, hb, rfl⟩⟩
      refine ⟨a, (zs.map (·.1)).zip ds, zs, tup, rfl, ha, kvs_of pz, zip_map_fst hl, fun b hb => (mem b hb).1.dp (sortOk_py ok b.2 (mem b hb).2), by rw [zip_map_snd hl]; exact ok, fun b hb b' hb' l1 l2 => ?_, fun p hp => ?_⟩
      · have ed : b.2 = b'.2 := leD_anti (kd_pl (dks _ (mem b hb).2)) (kd_pl (dks _ (mem b' hb').2)) (sortOk_alike ok _ (mem b hb).2 _ (mem b' hb').2) l1 l2
        obtain ⟨i, hi, ei⟩ := List.getElem_of_mem hb
        obtain ⟨j, hj, ej⟩ := List.getElem_of_mem hb'
        simp only [List.length_zip] at hi hj
        have : i = j := (List.getElem_inj (xs := ds) (i := i) (j := j) (h₀ := by omega) (h₁ := by omega) ndd).mp (by
          rw [← ei, ← ej] at ed
          simpa using ed)
        subst this
        rw [← ei, ← ej]
      · have rs : RFs G (fun a => a ∉ O) H ((((zs.map (·.1)).zip ds).mergeSort fun a b => leD a.2 b.2).map (·.1)) ((((zs.map (·.1)).zip ds).mergeSort fun a b => leD a.2 b.2).map (·.2)) := RFs.of_zip fun b hb => r.zip_mem b ((List.mergeSort_perm _ _).mem_iff.mp hb)
        have em : (((zs.map (·.1)).zip ds).mergeSort fun a b => leD a.2 b.2).map (·.2) = sortD ds := by
          unfold sortD
          rw [List.map_mergeSort (s := leD) (by intros; rfl), zip_map_snd hl]
        rw [em] at rs
        exact k _ _ (upd_new hp) (o.newLst rs hp)
    · cases e
  · cases e
end
end
end Dt

/-! Set comprehensions. -/
namespace Dt
noncomputable section
open PySem PySem.Spec PyProof.Rows L2
section
variable {X : Cx}
theorem setHO_fresh {w : World} {tup : Bool} {h : Heap} {a : Addr} (ho : h.get? a = some (newSet w)) (P : Program) : setObj w tup a [] [] h :=
  ⟨P, [], [], (setG_fresh (P := P) ho).toGo, .refl _, .nil, rfl, fun z hz => by simp at hz⟩
/-- one member more -/
theorem addS_ok {pins : List (Addr × Obj)} {σ : Sg} {H : Hp} {s : Shared} {E : Value → Shared → Prop} {D : Addr} {tup : Bool} {zs : List (V × NestedKey)} {z : V × NestedKey} {u : Value} {Q : Value → Shared → Prop} (I : Inv X pins σ H s) (hu : X.A.units + 64 < cLine)
    (hD : H D = some (setHO X.w tup D (zs.map (·.1)) (zs.map (·.2)))) (hk : ∀ z ∈ zs, KV X.K H z.1 z.2) (hz : Mb X.K H tup z) (ru : RelV z.1 u) (few : zs.length + 1 ≤ 75)
    (h : ∀ s' zs', (z.2 ∈ zs.map (·.2) → zs' = zs) → (z.2 ∉ zs.map (·.2) → zs' = zs ++ [z]) → Inv X pins σ (upd H D (setHO X.w tup D (zs'.map (·.1)) (zs'.map (·.2)))) s' → Q .none s') :
    wpAny (model X.prog X.w) X.A (call (.builtin "set.add") [.ref D, u]) Q E s := by
  obtain ⟨hm, L, rows, R, pm, pw⟩ := set_get I hD hk
  obtain ⟨es, ep, t, hat, ⟨o, ho, hex, hd⟩, _⟩ := setG_at R
  have hlen : rows.length = zs.length := (paired_len pw).symm
  refine wpAny_call_entry F.slot_set_add ⟨o, ho, hex.1⟩ F.entry_set_add ?_ (F.args_set_add_2 _ _)
  unfold Builtin.«set.add» Builtin.Frozenset.oneOther
  simp only [List.isEmpty_nil, bind_assoc]
  unfold Builtin.Frozenset.addrOf
  refine wpAny_bind (wpAny_pure ?_)
  try dsimp only
  refine wpAny_bind (wpAny_pure ?_)
  try dsimp only
  refine wpAny_bind ?_
  have he := hz.1.elt I hz.2.1 hz.2.2 ru
  refine addG (A := X.A.in1) R he (by show X.A.units + 1 + 8 < cLine; omega) (by rw [← pm.length_eq, hlen]; exact few) fun b h' tk L' htk sb R' c1 c2 => ?_
  show wpAny _ _ (ret Value.none) _ _ _
  have kin : z.2 ∈ L.map (·.2) ↔ z.2 ∈ zs.map (·.2) := by
    rw [← (paired_vals pw).2]
    exact ((pm.map (·.2)).mem_iff).symm
  have go : ∀ zs' rows', (∀ y ∈ zs', y ∈ zs ∨ y = z) → rows'.Perm L' → Paired (fun z p => RelV z.1 p.1 ∧ z.2 = p.2) zs' rows' → (z.2 ∈ zs.map (·.2) → zs' = zs) → (z.2 ∉ zs.map (·.2) → zs' = zs ++ [z]) → wpAny (model X.prog X.w) X.A.in1 (ret Value.none) (fun fin s' => ∃ v, fin = PySem.Fin.done (.ret v) ∧ Q v s') E { s with heap := h', toks := tk } := by
    intro zs' rows' sub p1 p2 e1 e2
    refine wpAny_pure ⟨_, rfl, h _ zs' e1 e2 ?_⟩
    have heo : ∃ v, h'.get? D = some v := R'.toGo.ob
    obtain ⟨pv, pk⟩ := paired_vals p2
    refine I.write (e := D) (t' := tk) (by rw [hD]; trivial) (.inl rfl) (fun b v hb hv => (sb.2 b hb).trans hv) heo (setHO_new ⟨X.prog, L', rows', R'.toGo, p1, pv, pk, fun y hy => ?_⟩)
    rw [zip_self] at hy
    rcases sub y hy with hy | rfl
    · exact (hm y hy).2
    · exact hz.2
  by_cases hin : z.2 ∈ zs.map (·.2)
  · have := c1 (kin.mpr hin)
    subst this
    exact go zs rows (fun y hy => .inl hy) pm pw (fun _ => rfl) fun n => absurd hin n
  · have p3 := c2 fun x => hin (kin.mp x)
    refine go (zs ++ [z]) (rows ++ [(u, z.2)]) (fun y hy => ?_) ?_ ?_ (fun n => absurd n hin) fun _ => rfl
    · rcases List.mem_append.mp hy with hy | hy
      · exact .inl hy
      · exact .inr (List.mem_singleton.mp hy)
    · exact (List.perm_append_singleton _ _).trans ((pm.cons _).trans p3.symm)
    · have : ∀ {a : List (V × NestedKey)} {b : List GRow}, Paired (fun z p => RelV z.1 p.1 ∧ z.2 = p.2) a b → Paired (fun z p => RelV z.1 p.1 ∧ z.2 = p.2) (a ++ [z]) (b ++ [(u, z.2)]) := by
        intro a
        induction a with
        | nil => intro b p; cases p; exact .cons ⟨ru, rfl⟩ .nil
        | cons x a ih => intro b p; cases p with
          | cons h r => exact .cons h (ih r)
      exact this pw
/-- {elt for target in iter if ..}: D the new set -/
def tSd (K : PySem.W.Frag) (w : World) (wi : TI) (g : TG) (tt : TT) (te : TE) (vs : List Nat) : TE := fun σ H Q => wi σ H fun J H1 => ∀ D, H1 D = none → ∃ (tup : Bool) (W : Nat → Nat → Hp → Prop), (∃ m, W 0 m (upd H1 D (setHO w tup D [] []))) ∧ ∀ i m H, W i m H →
  (J.stop i H ∧ Q (.ref D) H) ∨ (J.go i H ∧ ∃ Nx : Hp → Prop, (∀ H', Nx H' → ∃ m', m' < m ∧ W (i + 1) m' H') ∧ ∀ x H', J.yld i H x H' → g x (wipe σ vs) H' fun σ2 H2 => wipe σ2 vs = wipe σ vs ∧ tt σ2 H2 fun b H3 =>
    if b = true then te σ2 H3 fun y H4 => ∃ (zs : List (V × NestedKey)) (k : NestedKey), H4 D = some (setHO w tup D (zs.map (·.1)) (zs.map (·.2))) ∧ (∀ z ∈ zs, KV K H4 z.1 z.2) ∧ Mb K H4 tup (y, k) ∧ zs.length + 1 ≤ 75 ∧
      ∀ zs', (k ∈ zs.map (·.2) → zs' = zs) → (k ∉ zs.map (·.2) → zs' = zs ++ [(y, k)]) → Nx (upd H4 D (setHO w tup D (zs'.map (·.1)) (zs'.map (·.2)))) else Nx H3)
theorem pe_sd {elt tg iter : Expr} {ifs : List Expr} {scope : Scope} {own : List (PySem.Str × Nat)} {pos : Pos} {wi : TI} {g : TG} {tt : TT} {te : TE} (hc : X.calm = true) (hu : X.A.units + 65 < cLine) (hN : X.N.Nodup) (hi : PI X tg iter wi) (ok : BlkOk X.N X.env.scope scope own)
    (hg : ∀ (s : Shared) (H : Hp) (C : Addr) (cl : List (PySem.Str × Addr)) (fp : List Addr), PG (X.blk s H scope (compEnvC scope cl C X.env) fp) tg g) (ht : ∀ (s : Shared) (H : Hp) (C : Addr) (cl : List (PySem.Str × Addr)) (fp : List Addr), PTs (X.blk s H scope (compEnvC scope cl C X.env) fp) ifs tt)
    (he : ∀ (s : Shared) (H : Hp) (C : Addr) (cl : List (PySem.Str × Addr)) (fp : List Addr), PE (X.blk s H scope (compEnvC scope cl C X.env) fp) elt te) (hs : ∀ x, foldedSetIterable iter X.env x = pure x) :
    PE X (.SetComp elt [⟨tg, iter, ifs, 0⟩] scope pos) (tSd X.K X.w wi g tt te (own.map (·.2))) := by
  refine ⟨fun pins s σ H Q I h => ?_⟩
  rw [PpSet.eval_SetComp]
  have hfree : ∀ y ∈ scope.names, y.2 = .free → ∃ c, X.env.cells.lookup y.1 = some c := fun y hy e => by
    rcases ok.free y hy e with k | k
    · exact I.ok.has _ (.inl k)
    · exact I.ok.has _ (.inr k)
  refine wpAny_comprehension_free (use := none) rfl hs (closure_ok hfree) ok.kind (fun y hy e => by rw [ok.uniq y hy, e])
    (thn (hi.run pins s σ H _ I h) fun xv s1 hx => thn hx fun itv s2 h2 => ?_)
  obtain ⟨it, fp, tn, J, H2, e, I2, T, st2, f2, q⟩ := h2
  subst e
  refine PpSet.newSet_ok (newEnv_comp ?_)
  generalize hD : s2.heap.objs.size = D
  have hDn : H2 D = none := I2.hok.fresh (Nat.le_of_eq hD)
  obtain ⟨tup, W, ⟨m0, w0⟩, turn⟩ := q D hDn
  generalize hs3 : ({ s2 with heap := s2.heap.push (newSet X.w) } : Shared) = s3
  have h3 : s3.heap = s2.heap.push (newSet X.w) := by rw [← hs3]
  have I3 : Inv X pins σ (upd H2 D (setHO X.w tup D [] [])) s3 := by
    rw [← hs3]
    refine I2.laid (t' := s2.toks) (fun b o e => Heap.get?_push_of_some _ e) (Nat.le_of_eq hD) ?_
    rw [← hD]
    exact setHO_new (setHO_fresh (Heap.get?_push_size _ rfl) X.prog)
  have lt2 : ∀ b ∈ fp, b < s2.heap.objs.size := fun b hb => (T.obj _ _ st2 b hb).elim fun o z => Heap.lt_size z.1
  generalize hH3 : upd H2 D (setHO X.w tup D [] []) = H3 at I3 w0
  have f3 : ∀ b ∈ fp, FpOk X pins H3 b ∧ b < s3.heap.objs.size := fun b hb => by
    have hlt := lt2 b hb
    refine ⟨⟨?_, (f2 b hb).2⟩, by rw [h3, Heap.size_push]; exact Nat.lt_succ_of_lt hlt⟩
    rw [← hH3, upd_ne (by rw [← hD]; exact Nat.ne_of_lt hlt)]
    exact (f2 b hb).1
  have st3 : tn 0 s3.heap := T.keep _ _ _ st2 fun b _ o e => by rw [h3]; exact Heap.get?_push_of_some _ e
  have I4 := block_start I3 ok hN f3
  have pg := hg s3 H3 s3.heap.objs.size (cellsFrom (s3.heap.objs.size + 1) scope.names (cloFrom X.env.cells scope.names [])) fp
  have pt := ht s3 H3 s3.heap.objs.size (cellsFrom (s3.heap.objs.size + 1) scope.names (cloFrom X.env.cells scope.names [])) fp
  have pe := he s3 H3 s3.heap.objs.size (cellsFrom (s3.heap.objs.size + 1) scope.names (cloFrom X.env.cells scope.names [])) fp
  show codeAny _ _ (.compStart (.SetComp elt [⟨tg, iter, ifs, 0⟩] scope pos) 0 (.ref it) (.ref D) (compEnvC scope (cellsFrom (s3.heap.objs.size + 1) scope.names (cloFrom X.env.cells scope.names [])) s3.heap.objs.size X.env)) (compPost (model X.prog X.w) X.A X.xe none _ (.ref D) s3.heap.objs.size) { s3 with heap := pushCells (s3.heap.push { cls := .type "dict", data := .dict #[] }) scope.names }
  generalize hce : compEnvC scope (cellsFrom (s3.heap.objs.size + 1) scope.names (cloFrom X.env.cells scope.names [])) s3.heap.objs.size X.env = ce at I4 pg pt pe ⊢
  have cL : ce.locals = s3.heap.objs.size := by subst hce; rfl
  generalize hs4 : ({ s3 with heap := pushCells (s3.heap.push { cls := .type "dict", data := .dict #[] }) scope.names } : Shared) = s4 at I4 ⊢
  have st4 : tn 0 s4.heap := T.keep _ _ _ st3 fun b _ o e => by rw [← hs4]; exact pushCells_keeps _ _ _ _ (Heap.get?_push_of_some _ e)
  have stat : ∀ {σ' : L2.St} {H' : Hp} {s' : Shared}, Inv (X.blk s3 H3 scope ce fp) [] σ' H' s' → (∀ b ∈ fp, H' b = none) → ∀ b ∈ fp, FpOk (X.blk s3 H3 scope ce fp) [] H' b := fun I' hn b hb =>
    ⟨hn b hb, (I'.ok.exf b hb).1, I'.ok.exfs b hb, .inl hb, fun x c e => (I'.ok.exf b hb).2 x c e, fun p hp => (by simp [Cx.blk] at hp)⟩
  have nfp : ∀ b ∈ fp, H3 b = none := fun b hb => (f3 b hb).1.1
  refine PpSet.codeAny_compStart_set ?loop ?self
  case self => exact T.self X.A 0 _ _ _ st4 ?loop
  case loop =>
    refine PpSet.compLoopS_any (fun n s' => ∃ i H', Inv (X.blk s3 H3 scope ce fp) [] (wipe σ (own.map (·.2))) H' s' ∧ tn i s'.heap ∧ (∀ b ∈ fp, H' b = none) ∧ W i n H') ?_ m0 ⟨0, H3, I4, st4, nfp, w0⟩
    rintro n s5 ⟨i, H5, I5, st5, n5, w5⟩
    rcases turn i n H5 w5 with ⟨stop, qq⟩ | ⟨go, Nx, hNx, step⟩
    · refine thnF (T.done (X.blk s3 H3 scope ce fp) rfl rfl rfl hc i [] s5 _ H5 (fun _ _ => False) I5 (stat I5 n5) st5 stop) fun r s6 ⟨hr, I6⟩ => ?_
      subst hr
      have I7 : Inv X pins σ H5 s6 := I3.call' (ch := fp) I6.os I6.base I6.hok I6.bare fun b hb => ⟨(f3 b hb).1.2.2.2.1, (f3 b hb).1.2.1, (f3 b hb).1.2.2.2.2.1, (f3 b hb).1.2.2.2.2.2⟩
      have nC : H5 s3.heap.objs.size = none := by
        rw [← cL]
        exact I6.free
      obtain ⟨m, hn, _⟩ := I6.loc
      have hn : s6.heap.Ns ce.locals m := hn
      rw [cL] at hn
      obtain ⟨f0, f1, f2, f3, f4, f5⟩ := I3.fpOk (Nat.le_refl _) nC
      exact ⟨m, hn, fun h'' sb => ⟨.ref D, H5, I7.turned (t' := s6.toks) (fun b o hb e => (sb.2 b hb).trans e) f0 f1 f3 f4 f5, rfl, qq⟩⟩
    · refine thnF (T.item (X.blk s3 H3 scope ce fp) rfl rfl rfl hc i [] s5 _ H5 (fun _ _ => False) I5 (stat I5 n5) st5 go) fun r s6 ⟨u, hr, h6⟩ => ?_
      subst hr
      refine thnF h6 fun _ s7 ⟨x, H7, I7, r7, y7, st7, n7⟩ => ?_
      have I7' := I7.pinned (stat I7 n7) (T.obj _ _ st7)
      refine thnF (pg.run _ s7 _ H7 x u _ I7' r7 (step x H7 y7)) fun _ s8 ⟨σ8, H8, I8, hw8, q8⟩ => ?_
      refine thnF (pt.run _ s8 σ8 H8 _ I8 q8) fun b s9 ⟨H9, I9, q9⟩ => ?_
      have fin : ∀ {s' : Shared} {H' : Hp}, Inv (X.blk s3 H3 scope ce fp) ([] ++ pinsAt fp s7.heap) σ8 H' s' → Nx H' → ∃ m, m < n ∧ ∃ i H', Inv (X.blk s3 H3 scope ce fp) [] (wipe σ (own.map (·.2))) H' s' ∧ tn i s'.heap ∧ (∀ b ∈ fp, H' b = none) ∧ W i m H' := fun {s' H'} I' nx => by
        obtain ⟨m', hm, w'⟩ := hNx H' nx
        have pin' : ∀ b ∈ fp, ∀ o, s7.heap.get? b = some o → s'.heap.get? b = some o ∧ H' b = none := fun b hb o e =>
          have z := I'.pin (b, o) (List.mem_append_right _ (List.mem_append_right _ (mem_pinsAt hb e)))
          ⟨z.1, z.2.1⟩
        refine ⟨m', hm, i + 1, H', (I'.unpinned (pins := [])).weak (by rw [← hw8, wipe_length]) (fun j v e => by rw [← hw8] at e; exact (wipe_some e).1), T.keep _ _ _ st7 fun b hb o e => (pin' b hb o e).1, fun b hb => ?_, w'⟩
        obtain ⟨o, e, _⟩ := T.obj _ _ st7 b hb
        exact (pin' b hb o e).2
      cases b with
      | false =>
        simp only [Bool.false_eq_true, if_false] at q9 ⊢
        exact fin I9 q9
      | true =>
        simp only [if_true] at q9 ⊢
        refine thnF (pe.run _ s9 σ8 H9 _ I9 q9) fun z s10 ⟨yv, H10, I10, r10, zs, k, hD10, hk10, hm10, hf10, nx⟩ => ?_
        exact addS_ok (X := X.blk s3 H3 scope ce fp) (z := (yv, k)) I10 (by show X.A.units + _ < _; omega) hD10 hk10 hm10 r10 hf10 fun s11 zs' c1 c2 I11 => fin I11 (nx zs' c1 c2)
end
end
end Dt

/-! Set comprehensions in the cores; the rules for sets. -/
namespace Dt
noncomputable section
open PySem PySem.Spec PyProof.Rows L2
section
variable {G : Gm} {H : Hp}
theorem nkeys_app : ∀ {ds : List D} {ks : List NestedKey} {x : D} {k : NestedKey}, nkeys ds = some ks → nkey x = some k → nkeys (ds ++ [x]) = some (ks ++ [k])
  | [], ks, x, k, e, e' => by simp [nkeys] at e; subst e; simp [nkeys, e']
  | d :: ds, ks, x, k, e, e' => by
    unfold nkeys at e
    split at e
    · rename_i y ys e1 e2
      cases e
      simp [nkeys, e1, nkeys_app e2 e']
    · cases e
/-- one member more in an owned set -/
theorem Own.addSet {tup : Bool} {D : Addr} {ac : List Dt.D} {w : V} {x : Dt.D} {L : List Cl} (h : Own G H (⟨.set tup, .ref D, .set ac⟩ :: ⟨.fz, w, x⟩ :: L)) (hx : elD tup x = true) (hk : kd 8 x = true) (hac : ∀ d ∈ ac, kd 8 d = true) :
    ∃ (zs : List (V × NestedKey)) (k : NestedKey), H D = some (setHO G.w tup D (zs.map (·.1)) (zs.map (·.2))) ∧ (∀ z ∈ zs, KV G.K H z.1 z.2) ∧ Mb G.K H tup (w, k) ∧ zs.length = ac.length ∧
      ∀ zs', (k ∈ zs.map (·.2) → zs' = zs) → (k ∉ zs.map (·.2) → zs' = zs ++ [(w, k)]) → Own G (upd H D (setHO G.w tup D (zs'.map (·.1)) (zs'.map (·.2)))) (⟨.set tup, .ref D, .set (addD ac x)⟩ :: L) := by
  obtain ⟨O, r, nd⟩ := h
  cases r with
  | cons h r => cases r with
    | @cons _ _ f1 f2 h' r =>
      cases h' with
      | fz rf =>
        cases h with
        | @set _ _ vs ks _ ha e rs =>
          obtain ⟨zs, e1, e2, pz⟩ := of_nkeys rs e
          subst e1; subst e2
          obtain ⟨k, ek, dk⟩ := kd_key hk
          refine ⟨zs, k, ha, kvs_of pz, ⟨rf.kv ek, rf.eltV hx ek, dk⟩, paired_len pz, fun zs' c1 c2 => ?_⟩
          have kin : k ∈ zs.map (·.2) ↔ x ∈ ac := by
            constructor
            · intro hm
              obtain ⟨z, hz, ez⟩ := List.mem_map.mp hm
              obtain ⟨d, hd, _, e'⟩ := Paired.left_mem pz z hz
              have : d = x := kd_inj (hac d hd) hk e' (by rw [ek, ← ez])
              rw [← this]; exact hd
            · intro hm
              obtain ⟨z, hz, _, e'⟩ := Paired.right_mem pz x hm
              rw [ek] at e'
              exact List.mem_map.mpr ⟨z, hz, (Option.some.inj e').symm⟩
          have nd' : ([D] ++ f2).Nodup := nd
          have kp : ∀ o, Kp (fun b => b ∉ [D] ++ f2) (fun b => b ∉ [D] ++ f2) H (upd H D o) := fun o => ⟨fun b u e n => by
            rw [upd_ne (fun z => n (by simp [z]))]
            exact e, fun _ _ _ n => n⟩
          have rest : ∀ o, RTs G (fun b => b ∉ [D] ++ f2) (upd H D o) (L ++ tabC G) f2 := fun o => RTs.mono (kp o) r fun b hb u e => by
            rw [upd_ne (ne_in (L := []) nd' hb)]
            exact e
          by_cases hin : x ∈ ac
          · have := c1 (kin.mpr hin)
            subst this
            have ea : addD ac x = ac := if_pos hin
            rw [ea]
            exact ⟨[D] ++ f2, .cons (t := ⟨.set tup, .ref D, .set ac⟩) (.set upd_same e (rs.mono (kp _))) (rest _), nd'⟩
          · have := c2 fun n => hin (kin.mp n)
            subst this
            have ea : addD ac x = ac ++ [x] := if_neg hin
            rw [ea]
            refine ⟨[D] ++ f2, .cons (t := ⟨.set tup, .ref D, .set (ac ++ [x])⟩) (.set upd_same (by rw [List.map_append]; exact nkeys_app e ek) ?_) (rest _), nd'⟩
            rw [List.map_append]
            exact (rs.mono (kp _)).append (.cons (rf.mono (kp _)) .nil)
end
noncomputable def scN (vs : List Nat) (t : Tg) (tt : M Bool) (me : M Rv) : List D → List D → List Slot → Option (List D × List Slot)
  | [], acc, S => some (acc, S)
  | d :: ds, acc, S => match bindT noB t d S with
    | none => none
    | some S1 => match tt S1 with
      | some (.ok false, S2) => scN vs t tt me ds acc (wipeS S2 vs)
      | some (.ok true, S2) => match me S2 with
        | some (.ok (.tmp sh x), S3) => if sh.whole = true then scN vs t tt me ds (addD acc x) (wipeS S3 vs) else none
        | _ => none
      | _ => none
noncomputable def mSc (vs : List Nat) (t : Tg) (mi : M (List D)) (tt : M Bool) (me : M Rv) : M Rv := fun S => match mi S with
  | none => none
  | some (.error e, S1) => some (.error e, S1)
  | some (.ok ds, S1) => match scN vs t tt me ds [] (wipeS S1 vs) with
    | some (acc, S2) => if setOk acc = true ∧ acc.length < 75 then some (.ok (.tmp (.set (tupOf acc)) (.set acc)), restS S1 S2 vs) else none
    | none => none
section
variable {X : Cx} {G : Gm} {W : WX} {B : Bw} {q q1 q2 : Bool}
theorem addD_len {ds : List D} {x : D} : ds.length ≤ (addD ds x).length := by
  unfold addD
  split <;> simp
theorem scN_grows {vs : List Nat} {t : Tg} {tt : M Bool} {me : M Rv} : ∀ {ds ac S r}, scN vs t tt me ds ac S = some r → (∀ x ∈ ac, x ∈ r.1) ∧ ac.length ≤ r.1.length
  | [], ac, S, r, h => by cases h; exact ⟨fun _ h => h, Nat.le_refl _⟩
  | d :: ds, ac, S, r, h => by
    unfold scN at h
    split at h
    · cases h
    · split at h
      · exact scN_grows h
      · split at h
        · split at h
          · obtain ⟨a, b⟩ := scN_grows h
            exact ⟨fun x hx => a x (mem_addD.mpr (.inl hx)), Nat.le_trans addD_len b⟩
          · cases h
        · cases h
      · cases h
theorem scN_wiped {vs : List Nat} {t : Tg} {tt : M Bool} {me : M Rv} : ∀ {ds acc S r}, scN vs t tt me ds acc (wipeS S vs) = some r → ∃ S', r.2 = wipeS S' vs
  | [], acc, S, r, h => by cases h; exact ⟨S, rfl⟩
  | d :: ds, acc, S, r, h => by
    unfold scN at h
    split at h
    · cases h
    · split at h
      · exact scN_wiped h
      · split at h
        · split at h
          · exact scN_wiped h
          · cases h
        · cases h
      · cases h
theorem tem_sc {vs : List Nat} {t : Tg} {mi : M (List D)} {tt : M Bool} {me : M Rv} {σ : Sg} {H : Hp} {Q : VK} (nd : vs.Nodup) (hts : ∀ j ∈ t.slots, j ∈ vs) (h : TEm G W false (mSc vs t mi tt me) σ H Q) :
    tSd G.K G.w (TIm G W mi) (TGm G noB t) (TTm G W0 q1 tt) (TEm G W0 q2 me) vs σ H Q := by
  obtain ⟨S, T, r, S', ag, ow, e, k⟩ := h
  unfold mSc at e
  split at e
  · cases e
  · rename_i e1
    cases e
    exact ⟨S, T, _, _, ag, ow, e1, k⟩
  · rename_i ds S1 e1
    split at e
    · rename_i acc S2 e2
      split at e
      · rename_i hok
        cases e
        obtain ⟨hel, hkd, _⟩ := setOk_tup hok.1
        refine ⟨S, T, _, _, ag, ow, e1, fun J T0 H1 it a1 o1 D hD => ⟨tupOf acc, ?_⟩⟩
        generalize tupOf acc = tup at hel k
        obtain ⟨Sw, ew⟩ := scN_wiped e2
        have ew : S2 = wipeS Sw vs := ew
        have p1 : (T0 ++ (cl S1 σ ++ T)).Perm (cl (wipeS S1 vs) (wipe σ vs) ++ (T0 ++ (svs S1 σ vs ++ T))) := by
          rw [cl_wipe_vals]
          refine (((cl_wipe (S := S1) (σ := σ) nd).append_right T).append_left T0).trans ?_
          rw [List.append_assoc]
          refine (perm3 _ _ _).trans ?_
          refine (perm3 (svs S1 σ vs) T0 _).trans ?_
          refine ((perm3 (svs S1 σ vs) (cl (wipeS S1 vs) σ) T).append_left T0).trans ?_
          exact perm3 _ _ _
        have o2 := o1.perm p1
        have o3 : Own G (upd H1 D (setHO G.w tup D [] [])) (⟨.set tup, .ref D, .set []⟩ :: (cl (wipeS S1 vs) (wipe σ vs) ++ (T0 ++ (svs S1 σ vs ++ T)))) := Own.newSetO (A := []) (tup := tup) (by simp) (by simp [nkeys]) o2 hD
        refine ⟨fun i m H' => m + i = ds.length ∧ ∃ Si ac, Ag Si (wipe σ vs) ∧ (∃ Z, Si = wipeS Z vs) ∧ Own G H' (⟨.set tup, .ref D, .set ac⟩ :: (cl Si (wipe σ vs) ++ (T0 ++ (svs S1 σ vs ++ T)))) ∧ scN vs t tt me (ds.drop i) ac Si = some (acc, S2),
          ⟨ds.length, by simp, _, [], a1.wipes, ⟨S1, rfl⟩, o3, by simpa using e2⟩, ?_⟩
        rintro i m Hi ⟨hm, Si, ac, ai, ⟨Z, ez⟩, oi, ei⟩
        have oit := it Hi (⟨.set tup, .ref D, .set ac⟩ :: (cl Si (wipe σ vs) ++ (svs S1 σ vs ++ T))) i (oi.perm (by
          refine ((perm3 _ _ _).cons _).trans ?_
          exact List.perm_middle.symm))
        cases hd : ds.drop i with
        | nil =>
          rw [hd] at ei
          cases ei
          have hl : ds.length ≤ i := List.drop_eq_nil_iff.mp hd
          refine .inl ⟨oit.2 hl, ?_⟩
          have aS : Ag S2 σ := ai.congr (wipe_length σ vs) fun j sd h => by
            rw [ez] at h
            rw [wipe_get, if_neg (wipeS_some h)]
          refine k _ Hi (a1.rest aS) ?_ trivial fun hq => by cases hq
          have ec : cl S2 (wipe σ vs) = cl S2 σ := by rw [ez]; exact cl_wipe_vals
          rw [ec] at oi
          have hS2 : ∀ j ∈ vs, S2[j]? = some none ∨ S2.length ≤ j := fun j hj => by
            rw [ez, wipeS_get, if_pos hj, wipeS_len]
            split
            · exact .inl rfl
            · exact .inr (by omega)
          have pr := cl_rest (S1 := S1) (S2 := S2) (σ := σ) (by rw [a1.length, aS.length]) nd hS2
          refine Own.dropMid (A := [⟨.set tup, .ref D, .set acc⟩]) (B := T0) (oi.perm (List.Perm.cons _ ?_))
          refine (perm3 _ _ _).trans (List.Perm.append_left T0 ?_)
          rw [← List.append_assoc]
          exact (List.perm_append_comm.trans pr.symm).append_right T
        | cons d rest =>
          rw [hd] at ei
          have hi : i < ds.length := by
            rcases Nat.lt_or_ge i ds.length with h | h
            · exact h
            · rw [List.drop_eq_nil_iff.mpr h] at hd; cases hd
          have hg : ds[i]? = some d := by
            rw [List.drop_eq_getElem_cons hi] at hd
            cases hd
            exact List.getElem?_eq_getElem hi
          have hr : ds.drop (i + 1) = rest := by
            rw [List.drop_eq_getElem_cons hi] at hd
            cases hd
            rfl
          obtain ⟨go, yl⟩ := oit.1 d hg
          refine .inr ⟨go, fun H3 => ∃ Si ac, Ag Si (wipe σ vs) ∧ (∃ Z, Si = wipeS Z vs) ∧ Own G H3 (⟨.set tup, .ref D, .set ac⟩ :: (cl Si (wipe σ vs) ++ (T0 ++ (svs S1 σ vs ++ T)))) ∧ scN vs t tt me rest ac Si = some (acc, S2),
            fun H3 ⟨Si, ac, b1, b2, b3, b5⟩ => ⟨m - 1, by omega, by omega, Si, ac, b1, b2, b3, by rw [hr]; exact b5⟩, fun x H2 y => ?_⟩
          have oy : Own G H2 (⟨.fz, x, d⟩ :: (cl Si (wipe σ vs) ++ (⟨.set tup, .ref D, .set ac⟩ :: (T0 ++ (svs S1 σ vs ++ T))))) := (yl x H2 y).perm (List.Perm.cons _ (by
            refine List.perm_middle.trans ?_
            refine List.Perm.trans ?_ List.perm_middle.symm
            exact (perm3 _ _ _).cons _))
          have ei : (match bindT noB t d Si with
            | none => none
            | some S1 => match tt S1 with
              | some (.ok false, S2) => scN vs t tt me rest ac (wipeS S2 vs)
              | some (.ok true, S2) => match me S2 with
                | some (.ok (.tmp sh x), S3) => if sh.whole = true then scN vs t tt me rest (addD ac x) (wipeS S3 vs) else none
                | _ => none
              | _ => none) = some (acc, S2) := ei
          split at ei
          · cases ei
          · rename_i S3 e3
            refine ⟨Si, _, d, S3, ai, oy, e3, fun σ2 a2 o2 _ on => ?_⟩
            have ewp : wipe σ2 vs = wipe σ vs := (wipe_only on hts).trans wipe_wipe
            refine ⟨ewp, ?_⟩
            have fin : ∀ {S4 : List Slot} {H4 : Hp} {ac4 : List Dt.D}, Ag S4 σ2 → Own G H4 (⟨.set tup, .ref D, .set ac4⟩ :: (cl S4 σ2 ++ (T0 ++ (svs S1 σ vs ++ T)))) → scN vs t tt me rest ac4 (wipeS S4 vs) = some (acc, S2) →
                ∃ Si ac, Ag Si (wipe σ vs) ∧ (∃ Z, Si = wipeS Z vs) ∧ Own G H4 (⟨.set tup, .ref D, .set ac⟩ :: (cl Si (wipe σ vs) ++ (T0 ++ (svs S1 σ vs ++ T)))) ∧ scN vs t tt me rest ac Si = some (acc, S2) := fun {S4 H4 ac4} b1 b2 b4 => by
              refine ⟨wipeS S4 vs, ac4, by rw [← ewp]; exact b1.wipes, ⟨_, rfl⟩, ?_, b4⟩
              rw [← ewp, cl_wipe_vals]
              have pw := cl_wipe (S := S4) (σ := σ2) nd
              refine Own.dropMid (A := [⟨.set tup, .ref D, .set ac4⟩]) (B := svs S4 σ2 vs) (b2.perm (List.Perm.cons _ ?_))
              refine (pw.append_right _).trans ?_
              rw [List.append_assoc]
              exact .refl _
            split at ei
            · rename_i S4 e4
              refine ⟨S3, _, _, _, a2, o2, e4, fun H4 b1 b2 _ => ?_⟩
              refine iteF ?_
              exact fin b1 (b2.perm List.perm_middle) ei
            · rename_i S4 e4
              refine ⟨S3, _, _, _, a2, o2, e4, fun H4 b1 b2 _ => ?_⟩
              refine iteT ?_
              split at ei
              · rename_i sh x S5 e5
                split at ei
                · rename_i hf
                  refine ⟨S4, _, _, _, b1, b2, e5, fun w H5 c1 c2 _ _ => ?_⟩
                  have c3 : Own G H5 (⟨.set tup, .ref D, .set ac⟩ :: ⟨.fz, w, x⟩ :: (cl S5 σ2 ++ (T0 ++ (svs S1 σ vs ++ T)))) := (Own.freeze hf c2).perm (by
                    refine (List.perm_middle.cons _).trans ?_
                    exact List.Perm.swap _ _ _)
                  obtain ⟨g1, g2⟩ := scN_grows ei
                  have hxa : x ∈ acc := g1 x (mem_addD.mpr (.inr rfl))
                  obtain ⟨zs, kk, z1, z2, z3, z4, z5⟩ := c3.addSet (hel x hxa) (hkd x hxa) fun d hd => hkd d (g1 d (mem_addD.mpr (.inl hd)))
                  refine ⟨zs, kk, z1, z2, z3, ?_, fun zs' y1 y2 => fin c1 (z5 zs' y1 y2) ei⟩
                  have := addD_len (ds := ac) (x := x)
                  have g2 : (addD ac x).length ≤ acc.length := g2
                  have := hok.2
                  omega
                · cases ei
              · cases ei
            · cases ei
      · cases e
    · cases e
theorem e_sc {elt tg iter : Expr} {ifs : List Expr} {scope : Scope} {own : List (Str × Nat)} {vs : List Nat} {pos : Pos} {t : Tg} {mi : M (List D)} {tt : M Bool} {me : M Rv} (hK : X.K = G.K) (hw : X.w = G.w) (hc : X.calm = true) (hu : X.A.units + 65 < cLine) (hN : X.N.Nodup) (hi : PI X tg iter (TIm G W mi)) (ok : BlkOk X.N X.env.scope scope own)
    (hg : ∀ (s : Shared) (H : Hp) (C : Addr) (cl : List (Str × Addr)) (fp : List Addr), PG (X.blk s H scope (compEnvC scope cl C X.env) fp) tg (TGm G noB t))
    (ht : ∀ (s : Shared) (H : Hp) (C : Addr) (cl : List (Str × Addr)) (fp : List Addr), PTs (X.blk s H scope (compEnvC scope cl C X.env) fp) ifs (TTm G W0 q1 tt))
    (he : ∀ (s : Shared) (H : Hp) (C : Addr) (cl : List (Str × Addr)) (fp : List Addr), PE (X.blk s H scope (compEnvC scope cl C X.env) fp) elt (TEm G W0 q2 me)) (nd : (own.map (·.2)).Nodup) (hts : ∀ j ∈ t.slots, j ∈ own.map (·.2)) (hvs : own.map (·.2) = vs)
    (hs : ∀ x, foldedSetIterable iter X.env x = pure x := by intro _; rfl) : PE X (.SetComp elt [⟨tg, iter, ifs, 0⟩] scope pos) (TEm G W false (mSc vs t mi tt me)) :=
  (pe_sd hc hu hN hi ok hg ht he hs).imp fun σ H Q h => by
    rw [hK, hw]
    rw [← hvs] at h
    exact tem_sc nd hts h
variable {e : Expr} {p pos : Pos} {a : M (List Rv)}
theorem f_set {es : List Expr} {as : M (List Rv)} (hK : X.K = G.K) (hw : X.w = G.w) (hc : X.calm = true) (hu : X.A.units + 65 < cLine) (hg : Gl X "set") (hm : X.mg "set" = none) (ha : PA X (e :: es) (TAm G W q as)) (he : starEach (e :: es) X.env = (false, eval e X.env) :: starEach es X.env := by rfl) (hpl : (backTo pos (starEach es X.env)).any (·.1) = false := by rfl) :
    PE X (.Call (.Name "set" p) (e :: es) [] pos) (TEm G W q (mFun (on1 setF) as)) :=
  pe_mty (cr_setD hc (by omega)) (hK ▸ hw ▸ fun_set) hg hm (by decide +kernel) ha (by decide) (by decide) he hpl
theorem f_sortedS {es : List Expr} {as : M (List Rv)} (hK : X.K = G.K) (hw : X.w = G.w) (hc : X.calm = true) (hu : X.A.units + 65 < cLine) (hg : Gl X "sorted") (hm : X.mg "sorted" = none) (ha : PA X (e :: es) (TAm G W q as)) (he : starEach (e :: es) X.env = (false, eval e X.env) :: starEach es X.env := by rfl) (hpl : (backTo pos (starEach es X.env)).any (·.1) = false := by rfl) :
    PE X (.Call (.Name "sorted" p) (e :: es) [] pos) (TEm G W q (mFun (on1 sortedSF) as)) :=
  pe_mbi (cr_sortSet hc (by omega)) (hK ▸ hw ▸ fun_sortedS) hg hm (by decide +kernel) ha (by decide) (by decide) he hpl
theorem f_lenS {es : List Expr} {as : M (List Rv)} (hK : X.K = G.K) (hw : X.w = G.w) (hg : Gl X "len") (hm : X.mg "len" = none) (ha : PA X (e :: es) (TAm G W q as)) (he : starEach (e :: es) X.env = (false, eval e X.env) :: starEach es X.env := by rfl) (hpl : (backTo pos (starEach es X.env)).any (·.1) = false := by rfl) :
    PE X (.Call (.Name "len" p) (e :: es) [] pos) (TEm G W q (mFun (on1 lenSF) as)) :=
  pe_mbi cr_lenSet (hK ▸ hw ▸ fun_lenS) hg hm (by decide +kernel) ha (by decide) (by decide) he hpl
end
end
end Dt

/-! Dicts in the cores: reading, storing. -/
namespace Dt
noncomputable section
open PySem PySem.Spec PyProof.Rows L2
def rDGet : R2 := fun x y H Q => ∃ a v, x = .ref a ∧ DGet H a y (some v) ∧ Q v H
def rDIn (neg : Bool) : R2 := fun y x H Q => ∃ a o, x = .ref a ∧ DGet H a y o ∧ Q (.bl (if neg = true then !o.isSome else o.isSome)) H
noncomputable def dgetF : D → D → Option (Sh × D)
  | .dct kvs, y => if dkOk kvs = true ∧ isKy y = true then (kvGet kvs y).map fun d => (.fz, d) else none
  | _, _ => none
noncomputable def dinF (neg : Bool) : D → D → Option (Sh × D)
  | y, .dct kvs => if dkOk kvs = true ∧ isKy y = true then some (.fz, .bl (if neg = true then !(kvGet kvs y).isSome else (kvGet kvs y).isSome)) else none
  | _, _ => none
section
variable {X : Cx} {G : Gm} {W : WX} {B : Bw} {q q0 q1 q2 q3 : Bool}
theorem dget_of {N : Addr → Prop} {H : Hp} {x y : V} {kvs : List (D × D)} {k : D} (hx : RX G N H x (.dct kvs)) (hy : RX G N H y k) (hk : dkOk kvs = true) (ky : isKy k = true) :
    ∃ a o, x = .ref a ∧ DGet H a y o ∧ o.isSome = (kvGet kvs k).isSome ∧ ∀ d, kvGet kvs k = some d → ∃ v, o = some v ∧ RF G N H v d := by
  obtain ⟨a, rows, rfl, ekvs, nd, ha, hr⟩ := hx.dctK_at hk
  have hks : ∀ r ∈ rows, isKy r.1 = true := fun r hr => by
    rw [ekvs] at hk
    unfold dkOk at hk
    have := List.all_eq_true.mp hk (r.1, r.2.2) (List.mem_map.mpr ⟨r, hr, rfl⟩)
    exact this
  have ey := hy.key_at ky
  subst ey
  refine ⟨a, _, rfl, DGet.k ha, ?_, fun d hd => ?_⟩
  · rw [find_rows (f := fun z => z.1) hks ky, ekvs]
    unfold kvGet
    rw [List.find?_map]
    simp only [Option.isSome_map]
    rfl
  · rw [find_rows (f := fun z => z.1) hks ky]
    rw [ekvs] at hd
    unfold kvGet at hd
    rw [List.find?_map] at hd
    cases hf : rows.find? ((fun p : D × D => open Classical in decide (p.1 = k)) ∘ fun r => (r.1, r.2.2)) with
    | none => rw [hf] at hd; cases hd
    | some r =>
      rw [hf] at hd
      cases hd
      have hf' : (open Classical in rows.find? fun r => decide (r.1 = k)) = some r := hf
      refine ⟨r.2.1, by rw [hf']; rfl, hr r (List.mem_of_find?_eq_some hf)⟩
theorem fun_dget : Fun2 G rDGet dgetF := Fun2.mk fun H L O v1 v2 d1 d2 sh d Q o h1 h2 e k => by
  unfold dgetF at e
  split at e
  · split at e
    · rename_i c
      obtain ⟨a, r, rfl, g, _, hd⟩ := dget_of h1 h2 c.1 c.2
      cases hv : kvGet _ _ with
      | none => rw [hv] at e; cases e
      | some d' =>
        rw [hv] at e
        cases e
        obtain ⟨v, rfl, rf⟩ := hd _ hv
        exact ⟨a, v, rfl, g, k v H (Same.refl H) ⟨O, o.cons rf⟩⟩
    · cases e
  · cases e
theorem fun_din {neg : Bool} : Fun2 G (rDIn neg) (dinF neg) := Fun2.mk fun H L O v1 v2 d1 d2 sh d Q o h1 h2 e k => by
  unfold dinF at e
  split at e
  · split at e
    · rename_i c
      obtain ⟨a, r, rfl, g, hs, _⟩ := dget_of h2 h1 c.1 c.2
      cases e
      refine ⟨a, r, rfl, g, ?_⟩
      rw [hs]
      exact k _ H (Same.refl H) ⟨O, o.cons (.bl _)⟩
    · cases e
  · cases e
theorem op_inDi (hu : X.A.units + 65 < cLine) : OpR X (compareOp .In) (rDIn false) := by
  intro pins s σ H x y v u Q I rx ry h
  obtain ⟨a, o, rfl, g, q⟩ := h
  cases ry
  exact d_in (by omega) I g rx fun s3 I3 => ⟨.bl o.isSome, H, I3, rfl, q⟩
theorem op_notInDi (hu : X.A.units + 65 < cLine) : OpR X (compareOp .NotIn) (rDIn true) := by
  intro pins s σ H x y v u Q I rx ry h
  obtain ⟨a, o, rfl, g, q⟩ := h
  cases ry
  exact d_notIn (by omega) I g rx fun s3 I3 => ⟨.bl (!o.isSome), H, I3, rfl, q⟩
variable {a b : Expr} {ma mb : M Rv} {pos : Pos}
theorem e_dget (hu : X.A.units + 65 < cLine) (ha : PE X a (TEm G W q1 ma)) (hb : PE X b (TEm G W q2 mb)) (hs : NoSl b := by intro _ _; rfl) : PE X (.Subscript a b pos) (TEm G W (q1 && q2) (mOp2 dgetF q1 ma q2 mb)) :=
  (pe_dget (by omega) ha hb hs).imp fun σ H Q h => tem_op2 fun_dget h
theorem c_inD (hu : X.A.units + 65 < cLine) (ha : PE X a (TEm G W q1 ma)) (hb : PE X b (TEm G W q2 mb)) (hm : behindInMarks .In b = false := by rfl) : PE X (.Compare a [.In] [b] pos) (TEm G W (q1 && q2) (mOp2 (dinF false) q1 ma q2 mb)) := pe_mcmp (op_inDi hu) fun_din ha hb hm
theorem c_notinD (hu : X.A.units + 65 < cLine) (ha : PE X a (TEm G W q1 ma)) (hb : PE X b (TEm G W q2 mb)) (hm : behindInMarks .NotIn b = false := by rfl) : PE X (.Compare a [.NotIn] [b] pos) (TEm G W (q1 && q2) (mOp2 (dinF true) q1 ma q2 mb)) := pe_mcmp (op_notInDi hu) fun_din ha hb hm

/-! storing -/
theorem rows_ky {rows : List (D × Cl)} {kvs : List (D × D)} (e : kvs = rows.map fun r => (r.1, r.2.d)) (hk : dkOk kvs = true) : ∀ r ∈ rows, isKy r.1 = true := fun r hr => by
  rw [e] at hk
  unfold dkOk at hk
  exact List.all_eq_true.mp hk (r.1, r.2.d) (List.mem_map.mpr ⟨r, hr, rfl⟩)
theorem Own.putK {H : Hp} {c : Sh} {v w : V} {x k : D} {kvs : List (D × D)} {L : List Cl} (h : Own G H (⟨.dct c, v, .dct kvs⟩ :: ⟨c, w, x⟩ :: L)) (hk : dkOk kvs = true) (ky : isKy k = true) :
    ∃ (a : Addr) (ks : List (Key × V)), v = .ref a ∧ H a = some (.dK ks) ∧ ks.length = kvs.length ∧ Own G (upd H a (.dK (L2.putK ks (kyD k) w))) (⟨.dct c, .ref a, .dct (kvPut kvs k x)⟩ :: L) := by
  obtain ⟨a, rows, rfl, ekvs, hc, nd, ha, o⟩ := h.openDctK hk
  have hks := rows_ky ekvs hk
  refine ⟨a, _, rfl, ha, by rw [ekvs]; simp, ?_⟩
  obtain ⟨old, pm, hold⟩ := putR_perm (k := k) (t := (⟨c, w, x⟩ : Cl)) nd
  have o1 : Own G H (⟨.adr, .ref a, .non⟩ :: ((putR rows k ⟨c, w, x⟩).map (·.2) ++ L)) := by
    have p : (⟨.adr, .ref a, .non⟩ :: (rows.map (·.2) ++ (⟨c, w, x⟩ :: L)) : List Cl).Perm (old ++ (⟨.adr, .ref a, .non⟩ :: ((putR rows k ⟨c, w, x⟩).map (·.2) ++ L))) := by
      refine (List.Perm.cons _ (List.perm_middle.trans ((pm.append_right L).trans (by rw [List.append_assoc])))).trans ?_
      exact List.perm_middle.symm
    exact Own.drop (o.perm p)
  have e1 := put_rows (f := Cl.v) (t := (⟨c, w, x⟩ : Cl)) hks ky
  have o2 := (o1.write (o := .dK (L2.putK (rows.map fun r => (kyD r.1, r.2.v)) (kyD k) w))).closeDctK (c := c) (rows := putR rows k ⟨c, w, x⟩) (fun r hr => ?_) (putR_keys nd) (putR_isKy hks ky) (by rw [upd_same, ← e1])
  · have e2 := putR_map Cl.d (rows := rows) (k := k) (t := (⟨c, w, x⟩ : Cl))
    rw [e2] at o2
    rw [ekvs]
    exact o2
  · have : r.2 ∈ (putR rows k ⟨c, w, x⟩).map (·.2) := List.mem_map.mpr ⟨r, hr, rfl⟩
    have := pm.mem_iff.mpr (List.mem_append_right old this)
    rcases List.mem_cons.mp this with e | hm
    · rw [e]
    · obtain ⟨r', h', e⟩ := List.mem_map.mp hm
      rw [← e]
      exact hc r' h'
theorem Own.dropK {H : Hp} {c : Sh} {v : V} {k : D} {kvs : List (D × D)} {L : List Cl} (h : Own G H (⟨.dct c, v, .dct kvs⟩ :: L)) (hk : dkOk kvs = true) (ky : isKy k = true) :
    ∃ (a : Addr) (ks : List (Key × V)), v = .ref a ∧ H a = some (.dK ks) ∧ (valV ks (kyD k)).isSome = (kvGet kvs k).isSome ∧ Own G (upd H a (.dK (L2.dropK ks (kyD k)))) (⟨.dct c, .ref a, .dct (kvDrop kvs k)⟩ :: L) := by
  obtain ⟨a, rows, rfl, ekvs, hc, nd, ha, o⟩ := h.openDctK hk
  have hks := rows_ky ekvs hk
  refine ⟨a, _, rfl, ha, ?_, ?_⟩
  · rw [find_rows (f := Cl.v) hks ky, ekvs]
    unfold kvGet
    rw [List.find?_map]
    simp only [Option.isSome_map]
    rfl
  · have pm := List.filter_append_perm (fun r : D × Cl => open Classical in decide (r.1 = k)) rows
    have pm2 := (pm.map (·.2)).symm
    rw [List.map_append] at pm2
    have o1 : Own G H (⟨.adr, .ref a, .non⟩ :: ((rows.filter fun r => open Classical in !decide (r.1 = k)).map (·.2) ++ L)) := by
      have p : (⟨.adr, .ref a, .non⟩ :: (rows.map (·.2) ++ L) : List Cl).Perm ((rows.filter fun r => open Classical in decide (r.1 = k)).map (·.2) ++ (⟨.adr, .ref a, .non⟩ :: ((rows.filter fun r => open Classical in !decide (r.1 = k)).map (·.2) ++ L))) := by
        refine (List.Perm.cons _ ((pm2.append_right L).trans (by rw [List.append_assoc]))).trans ?_
        exact List.perm_middle.symm
      exact Own.drop (o.perm p)
    have e1 := drop_rows (f := Cl.v) (k := k) hks ky
    have o2 := (o1.write (o := .dK (L2.dropK (rows.map fun r => (kyD r.1, r.2.v)) (kyD k)))).closeDctK (c := c) (rows := rows.filter fun r => open Classical in !decide (r.1 = k)) (fun r hr => hc r (List.mem_filter.mp hr).1) ((List.filter_sublist.map _).nodup nd) (fun r hr => hks r (List.mem_filter.mp hr).1) (by rw [upd_same, ← e1])
    rw [ekvs]
    have e2 : kvDrop (rows.map fun r => (r.1, r.2.d)) k = (rows.filter fun r => open Classical in !decide (r.1 = k)).map fun r => (r.1, r.2.d) := by
      unfold kvDrop
      rw [List.filter_map]
      rfl
    rw [e2]
    exact o2
end
end
end Dt

/-! Dicts in the cores: list(d), sorted(d), len(d), storing into lists and dicts, deleting, popping. -/
namespace Dt
noncomputable section
open PySem PySem.Spec PyProof.Rows L2
def rKeysD : List V → Hp → VK → Prop := fun xs H Q => ∃ (a : Addr) (kvs : List (Key × V)), xs = [.ref a] ∧ Rd H a (.dK kvs) ∧ ∀ p, H p = none → Q (.ref p) (upd H p (.lst (kvs.map fun kv => kV kv.1)))
def rLenD2 : List V → Hp → VK → Prop := fun xs H Q => ∃ (a : Addr) (kvs : List (Key × V)), xs = [.ref a] ∧ Rd H a (.dK kvs) ∧ Q (.int kvs.length) H
def rSortD2 : List V → Hp → VK → Prop := fun xs H Q => ∃ (a : Addr) (ks : List (Key × V)) (bs : List D), xs = [.ref a] ∧ Rd H a (.dK ks) ∧ (∀ b ∈ bs, isKy b = true) ∧ ks.map (·.1) = bs.map kyD ∧ sortOk bs = true ∧
  ∀ p, H p = none → Q (.ref p) (upd H p (.lst ((sortD bs).map fun b => kV (kyD b))))
def keysF : D → Option (Sh × D)
  | .dct kvs => if dkOk kvs = true then some (.lst .fz, .lst (kvs.map (·.1))) else none
  | _ => none
def lenDF : D → Option (Sh × D)
  | .dct kvs => if dkOk kvs = true then some (.fz, .int (kvs.length : Nat)) else none
  | _ => none
def sortedDF : D → Option (Sh × D)
  | .dct kvs => if dkOk kvs = true ∧ sortOk (kvs.map (·.1)) = true then some (.lst .fz, .lst (sortD (kvs.map (·.1)))) else none
  | _ => none
section
variable {X : Cx} {G : Gm} {W : WX} {B : Bw} {q q0 q1 q2 q3 : Bool}
theorem cr_keysD (hc : X.calm = true) : CallR X (.type "list") rKeysD := call_listD hc
theorem cr_lenD2 : CallR X (.builtin "len") rLenD2 := by
  intro pins s σ H xs us Q I r h
  obtain ⟨a, kvs, rfl, hd, q⟩ := h
  rw [Vals.ref1 r]
  exact d_len I hd fun t s' I' => ⟨.int kvs.length, H, I', ⟨t, rfl⟩, q⟩
theorem ky_py {b : D} (h : isKy b = true) : b.py = some (pyD b) ∧ pyD b = (match kyD b with | .inl i => .int i | .inr x => .str x) := by
  cases b <;> simp [isKy, keyL] at h <;> simp [D.py, pyD, kyD, keyL]
theorem keys_each {n : Nat} : ∀ {bs : List D} {acc : List Value} {j0 : Nat}, (∀ b ∈ bs, isKy b = true) → acc.length = bs.length → (∀ (j : Nat) v, acc[j]? = some v → ∃ k, (bs.map kyD)[j]? = some k ∧ keyIs k v = true) → PySem.W.EachIs (fun u b => RelV (kV (kyD b)) u) acc bs
  | [], [], _, _, _, _ => .nil
  | [], _ :: _, _, _, hl, _ => by simp at hl
  | _ :: _, [], _, _, hl, _ => by simp at hl
  | b :: bs, v :: acc, j0, hb, hl, h => by
    obtain ⟨k, e1, e2⟩ := h 0 v rfl
    simp at e1
    subst e1
    refine .cons ?_ (keys_each (n := n) (j0 := j0) (fun b hb' => hb b (by simp [hb'])) (by simpa using hl) fun j v e => by simpa using h (j + 1) v (by simpa using e))
    exact relV_key e2
theorem cr_sortD2 (hc : X.calm = true) (hu : X.A.units + 64 < cLine) : CallR X (.builtin "sorted") rSortD2 := by
  intro pins s σ H xs us Q I r h
  obtain ⟨a, ks, bs, rfl, hd, hb, ek, ok, q⟩ := h
  rw [Vals.ref1 r]
  obtain ⟨z, lo, vs, rel, dd⟩ := dk_rd I.hok hd
  obtain ⟨ep, hat⟩ := dd.dictAt
  have hkeys : vs.map (·.1) = bs.map kyD := rel.keys.symm.trans ek
  unfold sortOk at ok
  split at ok
  · rename_i ps eps
    rw [Bool.and_eq_true, Bool.and_eq_true, Bool.and_eq_true] at ok
    obtain ⟨⟨⟨o1, o2⟩, o3⟩, o4⟩ := ok
    have em : bs.map pyD = ps := pys_map eps
    have hal : PySem.W.AllAlike (bs.map pyD) := by
      rw [em]
      intro d hd d' hd'
      exact List.all_eq_true.mp (List.all_eq_true.mp o1 d hd) d' hd'
    have hlen : bs.length ≤ sizeLine := by simpa using o3
    have hvl : vs.length = bs.length := by
      have := congrArg List.length hkeys
      simpa using this
    refine sorted_any (enc := pyD) (R := fun u b => RelV (kV (kyD b)) u) (bs := bs) (PB := fun bs' => bs' = bs) (fun _ h => by rw [h]) (fun Q' hq => PySem.W.kdu_collect (A := X.A.in1) (PySem.W.kdl_dict (knd := mixKind X.prog X.w) (kvs := vs) (ep := ep) lo) (I.ok.hd hc) hat (by rw [hvl]; exact hlen) fun h' tk acc hk hacc => ?_)
      (fun u b hb' ru => ?_) hal (by rw [em]; exact sortable_of o2) hlen (fun b hb' => ?_) fun s1 s' p out bs' c k1 g1 o1 k g o hp hg pb he => ?_
    · refine hq _ acc.toList bs hk rfl rfl rfl (keys_each (n := 0) (j0 := 0) hb (by rw [Array.length_toList, hacc.1, hvl]) fun j v e => ?_)
      obtain ⟨k, x, e1, e2⟩ := hacc.2 j v (by rw [← Array.getElem?_toList]; exact e)
      exact ⟨k, by rw [← hkeys, List.getElem?_map, e1]; rfl, e2⟩
    · obtain ⟨_, e⟩ := ky_py (hb b hb')
      rw [e]
      cases hkd : kyD b with
      | inl i => rw [hkd] at ru; obtain ⟨t, rfl⟩ := ru; exact ⟨_, Reads.int i t⟩
      | inr x => rw [hkd] at ru; obtain ⟨t, rfl⟩ := ru; exact ⟨_, Reads.str x t⟩
    · have : pyD b ∈ ps := by rw [← em]; exact List.mem_map.mpr ⟨b, hb', rfl⟩
      have := of_decide_eq_true (List.all_eq_true.mp o4 _ this)
      omega
    · subst pb
      have I1 : Inv X pins σ H s1 := I.call' (ch := []) o1 (Un.kept k1) (I.hok.kept k1) (by rw [g1]; exact I.bare) (fun _ z => nomatch z)
      have hnp : H p = none := I1.hok.fresh hp
      have hv : Vals ((sortD bs').map fun b => kV (kyD b)) out := by
        have he' : PySem.W.EachIs (fun u (b : D) => RelV (kV (kyD b)) u) out (sortD bs') := he
        exact vals_of_each (f := fun b => kV (kyD b)) he'
      have hl2 : ((sortD bs').map fun b => kV (kyD b)).length ≤ sizeLine := by
        rw [List.length_map, sortD, List.length_mergeSort]
        exact hlen
      have J : Inv X pins σ (upd H p (.lst ((sortD bs').map fun b => kV (kyD b)))) s' :=
        I1.call' (ch := []) o (Un.laid k hp hnp) (I1.hok.laid k hp ⟨hl2, out, c, hv, hg⟩) (by rw [g]; exact I1.bare) (fun _ z => nomatch z)
      exact ⟨.ref p, _, J, rfl, q p hnp⟩
  · cases ok
theorem dk_keys {rows : List (D × V × D)} {kvs : List (D × D)} (e : kvs = rows.map fun r => (r.1, r.2.2)) (hk : dkOk kvs = true) : (∀ r ∈ rows, isKy r.1 = true) ∧ kvs.map (·.1) = rows.map (·.1) := by
  subst e
  refine ⟨fun r hr => ?_, by rw [List.map_map]; rfl⟩
  unfold dkOk at hk
  exact List.all_eq_true.mp hk (r.1, r.2.2) (List.mem_map.mpr ⟨r, hr, rfl⟩)
theorem fun_keysD : FunOk G rKeysD (on1 keysF) := FunOk.one fun H L O v d0 sh d Q o rx e k => by
  unfold keysF at e
  split at e
  · split at e
    · rename_i hk
      cases e
      obtain ⟨a, rows, rfl, ekvs, nd, ha, hr⟩ := rx.dctK_at hk
      obtain ⟨h1, h2⟩ := dk_keys ekvs hk
      refine ⟨a, _, rfl, .inl ha, fun p hp => ?_⟩
      have r : RFs G (fun a => a ∉ O) H ((rows.map fun r => (kyD r.1, r.2.1)).map fun kv => kV kv.1) (rows.map (·.1)) := by
        have := rfs_keys (G := G) (N := fun a => a ∉ O) (H := H) (ks := rows.map (·.1)) (fun k hk' => by
          obtain ⟨r, hr, rfl⟩ := List.mem_map.mp hk'
          exact h1 r hr)
        rw [List.map_map] at this ⊢
        exact this
      rw [h2] at k
      exact k _ _ (upd_new hp) (o.newLst r hp)
    · cases e
  · cases e
theorem fun_lenD2 : FunOk G rLenD2 (on1 lenDF) := FunOk.one fun H L O v d0 sh d Q o rx e k => by
  unfold lenDF at e
  split at e
  · split at e
    · rename_i hk
      cases e
      obtain ⟨a, rows, rfl, ekvs, nd, ha, hr⟩ := rx.dctK_at hk
      refine ⟨a, _, rfl, .inl ha, ?_⟩
      have := k (.int ((rows.map fun r => (kyD r.1, r.2.1)).length : Nat)) H (Same.refl H) (by
        rw [ekvs]
        simp only [List.length_map]
        exact ⟨O, o.cons (.int _)⟩)
      exact this
    · cases e
  · cases e
theorem fun_sortD2 : FunOk G rSortD2 (on1 sortedDF) := FunOk.one fun H L O v d0 sh d Q o rx e k => by
  unfold sortedDF at e
  split at e
  · split at e
    · rename_i hk
      cases e
      obtain ⟨a, rows, rfl, ekvs, nd, ha, hr⟩ := rx.dctK_at hk.1
      obtain ⟨h1, h2⟩ := dk_keys ekvs hk.1
      have h3 : ∀ b ∈ rows.map (·.1), isKy b = true := fun b hb => by
        obtain ⟨r, hr, rfl⟩ := List.mem_map.mp hb
        exact h1 r hr
      refine ⟨a, _, rows.map (·.1), rfl, .inl ha, h3, by rw [List.map_map, List.map_map]; rfl, by rw [← h2]; exact hk.2, fun p hp => ?_⟩
      rw [h2] at k
      exact k _ _ (upd_new hp) (o.newLst (rfs_keys fun b hb => h3 b ((List.mergeSort_perm _ _).mem_iff.mp hb)) hp)
    · cases e
  · cases e
variable {e : Expr} {p pos : Pos}
theorem f_listD {es : List Expr} {as : M (List Rv)} (hc : X.calm = true) (hg : Gl X "list") (hm : X.mg "list" = none) (ha : PA X (e :: es) (TAm G W q as)) (he : starEach (e :: es) X.env = (false, eval e X.env) :: starEach es X.env := by rfl) (hpl : (backTo pos (starEach es X.env)).any (·.1) = false := by rfl) :
    PE X (.Call (.Name "list" p) (e :: es) [] pos) (TEm G W q (mFun (on1 keysF) as)) :=
  pe_mty (cr_keysD hc) fun_keysD hg hm (by decide +kernel) ha (by decide) (by decide) he hpl
theorem f_lenD {es : List Expr} {as : M (List Rv)} (hg : Gl X "len") (hm : X.mg "len" = none) (ha : PA X (e :: es) (TAm G W q as)) (he : starEach (e :: es) X.env = (false, eval e X.env) :: starEach es X.env := by rfl) (hpl : (backTo pos (starEach es X.env)).any (·.1) = false := by rfl) :
    PE X (.Call (.Name "len" p) (e :: es) [] pos) (TEm G W q (mFun (on1 lenDF) as)) :=
  pe_mbi cr_lenD2 fun_lenD2 hg hm (by decide +kernel) ha (by decide) (by decide) he hpl
theorem f_sortedD {es : List Expr} {as : M (List Rv)} (hc : X.calm = true) (hu : X.A.units + 65 < cLine) (hg : Gl X "sorted") (hm : X.mg "sorted" = none) (ha : PA X (e :: es) (TAm G W q as)) (he : starEach (e :: es) X.env = (false, eval e X.env) :: starEach es X.env := by rfl) (hpl : (backTo pos (starEach es X.env)).any (·.1) = false := by rfl) :
    PE X (.Call (.Name "sorted" p) (e :: es) [] pos) (TEm G W q (mFun (on1 sortedDF) as)) :=
  pe_mbi (cr_sortD2 hc (by omega)) fun_sortD2 hg hm (by decide +kernel) ha (by decide) (by decide) he hpl
end
end
end Dt

/-! Storing into lists and dicts, deleting, popping, counting. -/
namespace Dt
noncomputable section
open PySem PySem.Spec PyProof.Rows L2
def tPutA : TSet := fun o i v H Q => rSetL o i v H Q ∨ L2.rSetD o i v H Q
theorem set_any {X : Cx} (hu : X.A.units + 65 < cLine) : PSet X tPutA := fun pins s σ H o i v ov iv u Q I ro ri rv h => by
  rcases h with h | h
  · exact set_list pins s σ H o i v ov iv u Q I ro ri rv h
  · exact set_dict (by omega) pins s σ H o i v ov iv u Q I ro ri rv h
/-- the thing with x under k -/
def stF : Sh × D → D → Sh → D → Option D
  | (.lst c, .lst ds), .int j, sh, x => if fits c sh = true then (ixN ds.length j).map fun i => .lst (ds.set i x) else none
  | (.dct c, .dct kvs), k, sh, x => if dkOk kvs = true ∧ isKy k = true ∧ fits c sh = true ∧ kvs.length < sizeLine then some (.dct (kvPut kvs k x)) else none
  | _, _, _, _ => none
/-- place[k] = x -/
def sPut (as : M (List Rv)) : MS := fun S => match as S with
  | none => none
  | some (.error e, S1) => some (.error e, S1)
  | some (.ok [.tmp sh x, .ref i p, rk], S1) => match S1[i]?, rk.see S1 with
    | some (some sd), some (shk, k) => match pathD sd p with
      | some sd2 => if shk.flat = true then match stF sd2 k sh x with
          | some d3 => some (.ok .nx, S1.set i (some (sd.1, updD sd p d3)))
          | none => none
        else none
      | none => none
    | _, _ => none
  | _ => none
section
variable {X : Cx} {G : Gm} {W : WX} {B : Bw} {q q0 q1 q2 q3 : Bool}
theorem Own.setIx {H : Hp} {a : Addr} {c : Sh} {ds : List D} {w : V} {x : D} {i : Nat} {L : List Cl} (h : Own G H (⟨.lst c, .ref a, .lst ds⟩ :: ⟨c, w, x⟩ :: L)) (hi : i < ds.length) :
    ∃ vs, H a = some (.lst vs) ∧ vs.length = ds.length ∧ Own G (upd H a (.lst (vs.set i w))) (⟨.lst c, .ref a, .lst (ds.set i x)⟩ :: L) := by
  obtain ⟨A, e, hc, ha, o⟩ := h.openLst
  subst e
  refine ⟨_, ha, by simp, ?_⟩
  have hiA : i < A.length := by simpa using hi
  have ht : A[i]? = some A[i] := List.getElem?_eq_getElem hiA
  have o1 : Own G H (⟨.adr, .ref a, .non⟩ :: ((A.set i ⟨c, w, x⟩) ++ L)) := by
    have p : (⟨.adr, .ref a, .non⟩ :: (A ++ (⟨c, w, x⟩ :: L)) : List Cl).Perm (A[i] :: (⟨.adr, .ref a, .non⟩ :: ((A.set i ⟨c, w, x⟩) ++ L))) := by
      rw [set_mid ht]
      conv => lhs; rw [take_drop_perm ht]
      simp only [List.append_assoc, List.cons_append]
      refine (List.Perm.cons _ List.perm_middle).trans ?_
      refine (List.Perm.swap _ _ _).trans (List.Perm.cons _ (List.Perm.cons _ ?_))
      refine List.Perm.append_left _ ?_
      exact List.perm_middle
    exact Own.tail (o.perm p)
  have o2 := (o1.write (o := .lst ((A.set i (⟨c, w, x⟩ : Cl)).map Cl.v))).closeLst (c := c) (fun t ht' => by
    rcases List.mem_or_eq_of_mem_set ht' with h | h
    · exact hc t h
    · rw [h]) upd_same
  have e1 : (A.set i ⟨c, w, x⟩).map Cl.v = (A.map Cl.v).set i w := by rw [List.map_set]
  have e3 : (A.set i ⟨c, w, x⟩).map Cl.d = (A.map Cl.d).set i x := by rw [List.map_set]
  rw [e1, e3] at o2
  exact o2
theorem Own.putA {H : Hp} {shc sh : Sh} {v w y : V} {dc x k d3 : D} {N : Addr → Prop} {L : List Cl} (h : Own G H (⟨shc, v, dc⟩ :: ⟨sh, w, x⟩ :: L)) (hy : RX G N H y k) (e : stF (shc, dc) k sh x = some d3) :
    ∃ a o', v = .ref a ∧ Own G (upd H a o') (⟨shc, .ref a, d3⟩ :: L) ∧ ∀ Q : Hp → Prop, Q (upd H a o') → tPutA (.ref a) y w H Q := by
  cases shc <;> cases dc <;> try cases e
  · rename_i c ds
    cases k <;> try cases e
    rename_i j
    simp only [stF] at e
    split at e
    · rename_i hf
      cases hj : ixN ds.length j with
      | none => rw [hj] at e; cases e
      | some i =>
        rw [hj] at e
        cases e
        have hv : ∃ a, v = .ref a := by
          obtain ⟨O, o⟩ := id h
          obtain ⟨f, rt⟩ := o.1.mem (t := ⟨.lst c, v, .lst ds⟩) (by simp)
          obtain ⟨a, _, e, _⟩ := rt.lstO
          exact ⟨a, e⟩
        obtain ⟨a, rfl⟩ := hv
        have h' : Own G H (⟨.lst c, .ref a, .lst ds⟩ :: ⟨c, w, x⟩ :: L) := by
          have := (h.perm (List.Perm.swap _ _ _)).fit hf
          exact this.perm (List.Perm.swap _ _ _)
        obtain ⟨vs, ha, hl, o⟩ := h'.setIx (ixN_seq hj).2.1
        refine ⟨a, _, rfl, o, fun Q hq => .inl ⟨a, vs, j, i, rfl, hy.int_at, ha, by rw [hl]; exact hj, hq⟩⟩
    · cases e
  · rename_i c kvs
    simp only [stF] at e
    split at e
    · rename_i hh
      cases e
      have h' : Own G H (⟨.dct c, v, .dct kvs⟩ :: ⟨c, w, x⟩ :: L) := by
        have := (h.perm (List.Perm.swap _ _ _)).fit hh.2.2.1
        exact this.perm (List.Perm.swap _ _ _)
      obtain ⟨a, ks, rfl, ha, hl, o⟩ := h'.putK hh.1 hh.2.1
      refine ⟨a, _, rfl, o, fun Q hq => .inr ⟨a, _, rfl, ?_, hq⟩⟩
      rw [hy.key_at hh.2.1]
      exact DPut.k ha (by rw [hl]; exact hh.2.2.2)
    · cases e
theorem Own.apart2 {H : Hp} {sh : Sh} {b : Addr} {d : D} {L : List Cl} (h : Own G H (⟨sh, .ref b, d⟩ :: L)) (hs : (∃ c, sh = .lst c) ∨ ∃ c, sh = .dct c) {t : Cl} (ht : t ∈ L) (hst : t.sh = .adr) {a : Addr} (hv : t.v = .ref a) : a ≠ b := by
  obtain ⟨O, r, nd⟩ := h
  cases r with
  | @cons _ _ f1 f2 h r =>
    have hb : b ∈ f1 := by
      rcases hs with ⟨c, rfl⟩ | ⟨c, rfl⟩
      · cases h with
        | lst => simp
      · cases h with
        | dct => simp
    obtain ⟨f, h1, h2⟩ := RTs.memfp r (t := t) (List.mem_append_left _ ht)
    have ha : a ∈ f := by
      rw [hst, hv] at h1
      cases h1 with
      | adr => simp
    intro e
    subst e
    exact (List.nodup_append.mp nd).2.2 _ hb _ (h2 _ ha) rfl
theorem stF_sh {sd : Sh × D} {k x d3 : D} {sh : Sh} (e : stF sd k sh x = some d3) : (∃ c, sd.1 = .lst c) ∨ ∃ c, sd.1 = .dct c := by
  unfold stF at e
  split at e
  · exact .inl ⟨_, rfl⟩
  · exact .inr ⟨_, rfl⟩
  · cases e
theorem tsm_put {as : M (List Rv)} {D : Ends} {σ : Sg} {H : Hp} (h : TSm G W B (sPut as) D σ H) : TAm G W q as σ H fun vs H2 => ∃ w v y, vs = [w, v, y] ∧ tPutA v y w H2 fun H3 => D.nx σ H3 := by
  obtain ⟨S, T, r, S', ag, ow, e, k⟩ := h
  unfold sPut at e
  split at e
  · cases e
  · rename_i e1
    cases e
    exact ⟨S, T, _, _, ag, ow, e1, fun cv od H' x1 x2 x => k cv od σ H' x1 x2 Kb.refl x⟩
  · rename_i sh x i p rk S1 e1
    split at e
    · rename_i sd shk kd hS hk
      split at e
      · rename_i sd2 hp
        split at e
        · rename_i hfl
          split at e
          · rename_i d3 hput
            cases e
            refine ⟨S, T, _, _, ag, ow, e1, fun vs H1 a1 a2 a3 _ => ?_⟩
            cases vs with
            | nil => exact a3.elim
            | cons w vs => cases vs with
              | nil => exact a3.2.elim
              | cons v vs => cases vs with
                | nil => exact a3.2.2.elim
                | cons y vs => cases vs with
                  | cons => exact a3.2.2.2.elim
                  | nil =>
                    obtain ⟨_, ⟨v0, ev, pv⟩, ok3, _⟩ := a3
                    obtain ⟨sh0, d0⟩ := sd
                    obtain ⟨O, o⟩ := id a2
                    have hy := see_rx a1 o (r := rk) (fun t ht => List.mem_append_right _ (List.mem_append_right _ (List.mem_append_left _ ht))) ok3 hk hfl
                    have o1 : Own G H1 (⟨sh, w, x⟩ :: (cl S1 σ ++ (rk.cls y ++ T))) := by
                      have : Own G H1 (⟨sh, w, x⟩ :: (rk.cls y ++ (cl S1 σ ++ T))) := by simpa [clsA, Rv.cls] using a2
                      exact this.perm ((perm3 _ _ _).cons _)
                    have o1' : Own G H1 (⟨sh, w, x⟩ :: (cl S1 σ ++ T)) := Own.dropMid (A := ⟨sh, w, x⟩ :: cl S1 σ) (B := rk.cls y) o1
                    have pm := (cl_get hS ev).append_right T
                    have o2 : Own G H1 (⟨sh0, v0, d0⟩ :: ⟨sh, w, x⟩ :: (cl (S1.set i none) σ ++ T)) := (o1'.perm (pm.cons _)).perm (List.Perm.swap _ _ _)
                    obtain ⟨C, o3, back⟩ := o2.focus hp pv
                    have o4 : Own G H1 (⟨sd2.1, v, sd2.2⟩ :: ⟨sh, w, x⟩ :: (C ++ (cl (S1.set i none) σ ++ T))) := o3.perm (List.Perm.cons _ List.perm_middle)
                    obtain ⟨a, o', rfl, o5, fin⟩ := o4.putA hy hput
                    refine ⟨w, .ref a, y, rfl, fin _ ?_⟩
                    have fr : ∀ t ∈ C, t.sh = .adr → ∀ b, t.v = .ref b → upd H1 a o' b = H1 b := fun t ht hs b hb => upd_ne (o4.apart2 (stF_sh hput) (t := t) (by simp [ht]) hs hb)
                    have o6 := back _ (cl (S1.set i none) σ ++ T) d3 fr o5
                    refine k σ _ (a1.set ev) (o6.perm ?_) Kb.refl
                    exact ((cl_set a1.length ev).append_right T).symm
          · cases e
        · cases e
      · cases e
    · cases e
  · cases e
theorem s_put {o i value : Expr} {md mk mv : M Rv} {pos pos' : Pos} (hu : X.A.units + 65 < cLine) (hv : PE X value (TEm G W q1 mv)) (ho : PE X o (TEm G W q2 md)) (hi : PE X i (TEm G W q3 mk))
    (hs : swapsWithSole [.Subscript o i pos'] value pos.line X.env = pure false := by rfl) (hw : swappedStores [.Subscript o i pos'] value X.env = pure none := by rfl)
    (h1 : (assignEach [.Subscript o i pos'] X.env).map (·.2) = [assign (.Subscript o i pos') X.env] := by rfl)
    (ha : ∀ v, assign (.Subscript o i pos') X.env v = (do
      let ov ← holding [v] (eval o X.env)
      let iv ← holding [v, ov] (eval i X.env)
      standAt pos'
      holding [v, ov, iv] (setItem ov iv v)
      release [v, ov, iv] []) := by intro _; rfl) :
    PS X (.Assign [.Subscript o i pos'] value pos) (TSm G W B (sPut (mArgs [(q1, mv), (q2, md), (q3, mk)]))) := by
  refine (ps_asg hv (pg_sub ho hi (set_any hu) ha) hs hw h1).imp fun D σ H h => ?_
  have h1 := tsm_put (q := ([(q1, mv), (q2, md), (q3, mk)] : List (Bool × M Rv)).all (·.1)) h
  refine tem_mono (tam_cons h1) fun w H1 h2 => ?_
  refine tem_mono (tam_cons h2) fun v H2 h3 => ?_
  refine tem_mono (tam_cons h3) fun y H3 h4 => ?_
  obtain ⟨w', v', y', e, q⟩ := tam_nil h4
  cases e
  exact q
end
end
end Dt

/-! Popping, deleting, counting, new dicts, places in dicts. -/
namespace Dt
noncomputable section
open PySem PySem.Spec PyProof.Rows L2
/-- place.pop() -/
def mPop (as : M (List Rv)) : M Rv := fun S => match as S with
  | none => none
  | some (.error e, S1) => some (.error e, S1)
  | some (.ok [.ref i p], S1) => match S1[i]? with
    | some (some sd) => match pathD sd p with
      | some (.lst c, .lst ds) => match ds.getLast? with
        | some d => some (.ok (.tmp c d), S1.set i (some (sd.1, updD sd p (.lst ds.dropLast))))
        | none => none
      | _ => none
    | _ => none
  | _ => none
/-- del place[k] -/
def sDel (as : M (List Rv)) : MS := fun S => match as S with
  | none => none
  | some (.error e, S1) => some (.error e, S1)
  | some (.ok [.ref i p, rk], S1) => match S1[i]?, rk.see S1 with
    | some (some sd), some (shk, k) => match pathD sd p with
      | some (.dct c, .dct kvs) => if shk.flat = true ∧ dkOk kvs = true ∧ isKy k = true ∧ (kvGet kvs k).isSome = true then some (.ok .nx, S1.set i (some (sd.1, updD sd p (.dct (kvDrop kvs k))))) else none
      | _ => none
    | _, _ => none
  | _ => none
def mNewD : M Rv := fun S => some (.ok (.tmp (.dct .fz) (.dct [])), S)
def mNewDc (c : Sh) : M Rv := fun S => some (.ok (.tmp (.dct c) (.dct [])), S)
/-- d[k], a place -/
def mKyP (a b : M Rv) : M Rv := fun S => match a S with
  | none => none
  | some (.error e, S1) => some (.error e, S1)
  | some (.ok (.tmp _ _), S1) => none
  | some (.ok (.ref i p), S1) => match b S1 with
    | none => none
    | some (.error e, S2) => some (.error e, S2)
    | some (.ok r2, S2) => match (Rv.ref i p).see S2, r2.see S2 with
      | some (.dct c, .dct kvs), some (sh, k) => if dkOk kvs = true ∧ isKy k = true ∧ (kvGet kvs k).isSome = true ∧ sh.flat = true then some (.ok (.ref i (p ++ [.ky k])), S2) else none
      | _, _ => none
section
variable {X : Cx} {G : Gm} {W : WX} {B : Bw} {q q0 q1 q2 q3 : Bool}
theorem Own.popLst {H : Hp} {a : Addr} {c : Sh} {ds : List D} {d : D} {L : List Cl} (h : Own G H (⟨.lst c, .ref a, .lst ds⟩ :: L)) (hd : ds.getLast? = some d) :
    ∃ vs y, H a = some (.lst vs) ∧ vs[vs.length - 1]? = some y ∧ Own G (upd H a (.lst vs.dropLast)) (⟨.lst c, .ref a, .lst ds.dropLast⟩ :: ⟨c, y, d⟩ :: L) := by
  obtain ⟨A, e, hc, ha, o⟩ := h.openLst
  subst e
  rw [List.getLast?_map] at hd
  cases hA : A.getLast? with
  | none => rw [hA] at hd; cases hd
  | some t =>
    rw [hA] at hd
    cases hd
    have ea : A = A.dropLast ++ [t] := by
      have hne : A ≠ [] := by rintro rfl; cases hA
      rw [List.getLast?_eq_some_getLast hne] at hA
      cases hA
      exact (List.dropLast_concat_getLast hne).symm
    have htc := hc t (by rw [ea]; simp)
    refine ⟨A.map Cl.v, t.v, ha, ?_, ?_⟩
    · conv => lhs; rw [ea]
      simp
    · have o1 : Own G H (⟨.adr, .ref a, .non⟩ :: (A.dropLast ++ (⟨c, t.v, t.d⟩ :: L))) := by
        have : (⟨c, t.v, t.d⟩ : Cl) = t := by rw [← htc]
        rw [this]
        rw [ea] at o
        simpa using o
      have o2 := (o1.write (o := .lst (A.dropLast.map Cl.v))).closeLst (c := c) (fun t ht => hc t (List.dropLast_subset _ ht)) upd_same
      rw [List.map_dropLast, List.map_dropLast] at o2
      exact o2
theorem tem_pop {as : M (List Rv)} {σ : Sg} {H : Hp} {Q : VK} (h : TEm G W false (mPop as) σ H Q) : TAm G W q as σ H fun vs H2 => ∃ x xs, vs = x :: xs ∧ rPop x xs H2 Q := by
  obtain ⟨S, T, r, S', ag, ow, e, k⟩ := h
  unfold mPop at e
  split at e
  · cases e
  · rename_i e1
    cases e
    exact ⟨S, T, _, _, ag, ow, e1, k⟩
  · rename_i i p S1 e1
    split at e
    · rename_i sd hS
      split at e
      · rename_i c ds hp
        split at e
        · rename_i d hd
          cases e
          refine ⟨S, T, _, _, ag, ow, e1, fun vs H1 a1 a2 a3 _ => ?_⟩
          cases vs with
          | nil => exact a3.elim
          | cons v vs => cases vs with
            | cons => exact a3.2.elim
            | nil =>
              obtain ⟨⟨v0, ev, pv⟩, _⟩ := a3
              obtain ⟨sh0, d0⟩ := sd
              have o1 : Own G H1 (cl S1 σ ++ T) := a2
              have pm := (cl_get hS ev).append_right T
              have o2 : Own G H1 (⟨sh0, v0, d0⟩ :: (cl (S1.set i none) σ ++ T)) := o1.perm pm
              obtain ⟨C, o3, back⟩ := o2.focus hp pv
              have hv : ∃ a, v = .ref a := by
                obtain ⟨O, o⟩ := id o3
                obtain ⟨f, rt⟩ := o.1.mem (t := ⟨.lst c, v, .lst ds⟩) (by simp)
                obtain ⟨a, _, e, _⟩ := rt.lstO
                exact ⟨a, e⟩
              obtain ⟨a, rfl⟩ := hv
              obtain ⟨vs, y, ha, hy, o5⟩ := o3.popLst hd
              refine ⟨.ref a, [], rfl, a, vs, y, rfl, rfl, ha, hy, ?_⟩
              have fr : ∀ t ∈ C, t.sh = .adr → ∀ b, t.v = .ref b → upd H1 a (.lst vs.dropLast) b = H1 b := fun t ht hs b hb => upd_ne (o3.apart2 (.inl ⟨c, rfl⟩) (t := t) (by simp [ht]) hs hb)
              have o6 := back _ (⟨c, y, d⟩ :: (cl (S1.set i none) σ ++ T)) (.lst ds.dropLast) fr (o5.perm (List.Perm.cons _ List.perm_middle.symm))
              refine k y _ (a1.set ev) (o6.perm ?_) trivial fun hq => by cases hq
              refine (List.Perm.swap _ _ _).trans (List.Perm.cons _ ?_)
              exact ((cl_set a1.length ev).append_right T).symm
        · cases e
      · cases e
    · cases e
  · cases e
theorem m_pop {o : Expr} {m : M Rv} {apos pos : Pos} (hK : X.K = G.K) (ho : PE X o (TEm G W q0 m)) (hbase : attributeBase o "pop" X.env (eval o X.env) = eval o X.env := by rfl) (hline : (apos.endLine == pos.line) = true := by rfl) :
    PE X (.Call (.Attribute o "pop" apos) [] [] pos) (TEm G W false (mPop (mArgs [(q0, mRecv "list" m)]))) := by
  refine (pe_bm0 PySem.F.plainAttrs_list PySem.F.slot_list_pop PySem.F.type_list_pop (show MtR X "list.pop" rPop from mt_pop) ho hbase hline).imp fun σ H Q h => ?_
  rw [hK]
  exact tem_meth0 (tem_pop h)
theorem tsm_del {as : M (List Rv)} {D : Ends} {σ : Sg} {H : Hp} (h : TSm G W B (sDel as) D σ H) : TAm G W q as σ H fun vs H2 => ∃ v y, vs = [v, y] ∧ ∃ a kvs k, v = .ref a ∧ H2 a = some (.dK kvs) ∧ y = kV k ∧ (valV kvs k).isSome = true ∧ D.nx σ (upd H2 a (.dK (L2.dropK kvs k))) := by
  obtain ⟨S, T, r, S', ag, ow, e, k⟩ := h
  unfold sDel at e
  split at e
  · cases e
  · rename_i e1
    cases e
    exact ⟨S, T, _, _, ag, ow, e1, fun cv od H' x1 x2 x => k cv od σ H' x1 x2 Kb.refl x⟩
  · rename_i i p rk S1 e1
    split at e
    · rename_i sd shk kd hS hk
      split at e
      · rename_i c kvs hp
        split at e
        · rename_i hh
          cases e
          refine ⟨S, T, _, _, ag, ow, e1, fun vs H1 a1 a2 a3 _ => ?_⟩
          cases vs with
          | nil => exact a3.elim
          | cons v vs => cases vs with
            | nil => exact a3.2.elim
            | cons y vs => cases vs with
              | cons => exact a3.2.2.elim
              | nil =>
                obtain ⟨⟨v0, ev, pv⟩, ok3, _⟩ := a3
                obtain ⟨sh0, d0⟩ := sd
                obtain ⟨O, o⟩ := id a2
                have hy := see_rx a1 o (r := rk) (fun t ht => List.mem_append_right _ (List.mem_append_left _ ht)) ok3 hk hh.1
                have o1 : Own G H1 (rk.cls y ++ (cl S1 σ ++ T)) := by simpa [clsA, Rv.cls] using a2
                have o1' : Own G H1 (cl S1 σ ++ T) := o1.drop
                have pm := (cl_get hS ev).append_right T
                have o2 : Own G H1 (⟨sh0, v0, d0⟩ :: (cl (S1.set i none) σ ++ T)) := o1'.perm pm
                obtain ⟨C, o3, back⟩ := o2.focus hp pv
                obtain ⟨a, ks, rfl, ha, hsm, o5⟩ := o3.dropK hh.2.1 hh.2.2.1
                refine ⟨.ref a, y, rfl, a, ks, kyD kd, rfl, ha, hy.key_at hh.2.2.1, by rw [hsm]; exact hh.2.2.2, ?_⟩
                have fr : ∀ t ∈ C, t.sh = .adr → ∀ b, t.v = .ref b → upd H1 a (.dK (L2.dropK ks (kyD kd))) b = H1 b := fun t ht hs b hb => upd_ne (o3.apart2 (.inr ⟨c, rfl⟩) (t := t) (by simp [ht]) hs hb)
                have o6 := back _ (cl (S1.set i none) σ ++ T) (.dct (kvDrop kvs kd)) fr o5
                refine k σ _ (a1.set ev) (o6.perm ?_) Kb.refl
                exact ((cl_set a1.length ev).append_right T).symm
        · cases e
      · cases e
    · cases e
  · cases e
theorem s_del {o i : Expr} {md mk : M Rv} {pos tpos : Pos} (ho : PE X o (TEm G W q2 md)) (hi : PE X i (TEm G W q3 mk)) : PS X (.Delete [.Subscript o i tpos] pos) (TSm G W B (sDel (mArgs [(q2, md), (q3, mk)]))) := by
  refine (ps_ddel ho hi).imp fun D σ H h => ?_
  have h1 := tsm_del (q := ([(q2, md), (q3, mk)] : List (Bool × M Rv)).all (·.1)) h
  refine tem_mono (tam_cons h1) fun v H2 h3 => ?_
  refine tem_mono (tam_cons h3) fun y H3 h4 => ?_
  obtain ⟨v', y', e, a, kvs, k, e1, e2, e3, e4, e5⟩ := tam_nil h4
  cases e
  exact ⟨a, kvs, k, e1, e2, e3, e4, e5⟩
theorem Own.newDct {H : Hp} {L : List Cl} {p : Addr} {c : Sh} (h : Own G H L) (hp : H p = none) : Own G (upd H p (.dK [])) (⟨.dct c, .ref p, .dct []⟩ :: L) := by
  obtain ⟨O, h⟩ := h
  have np := h.notin hp
  obtain ⟨r, nd⟩ := h
  have k : Kp (fun a => a ∉ O) (fun a => a ∉ [p] ++ O) H (upd H p (.dK [])) := ⟨fun a o e _ => upd_new hp a o e, fun a o e n => by
    simp only [List.cons_append, List.nil_append, List.mem_cons, not_or]
    exact ⟨ne_of_none e hp, n⟩⟩
  refine ⟨[p] ++ O, .cons (t := ⟨.dct c, .ref p, .dct []⟩) ?_ (r.mono k fun a _ o e => upd_new hp a o e), List.nodup_cons.mpr ⟨np, nd⟩⟩
  have := RT.dct (G := G) (N := fun a => a ∉ [p] ++ O) (c := c) (es := []) (L := []) (fp := []) (a := p) (o := .dK []) (H := upd H p (.dK [])) upd_same ⟨by simp, .inl ⟨[], rfl, .nil⟩⟩ .nil .nil rfl (by simp)
  exact this
theorem e_newD {c : Sh} {pos : Pos} : PE X (.Dict [] [] pos) (TEm G W false (mNewDc c)) := pe_dnewK.imp fun σ H Q h => by
  obtain ⟨S, T, r, S', ag, ow, e, k⟩ := h
  cases e
  intro p hp
  exact k _ _ ag (ow.newDct hp) trivial fun hq => by cases hq
end
end
end Dt

/-! Places in dicts, counting, dict comprehensions. -/
namespace Dt
noncomputable section
open PySem PySem.Spec PyProof.Rows L2
open Classical in
/-- place[k] op= e -/
def sAugD (f : D → D → Option (Sh × D)) (a b m : M Rv) : MS := fun S => match a S with
  | none => none
  | some (.error e, S1) => some (.error e, S1)
  | some (.ok (.tmp _ _), S1) => none
  | some (.ok (.ref i p), S1) => match b S1 with
    | none => none
    | some (.error e, S2) => some (.error e, S2)
    | some (.ok r2, S2) => match (Rv.ref i p).see S2, r2.see S2 with
      | some (.dct .fz, .dct kvs), some (sh, k) => if dkOk kvs = true ∧ isKy k = true ∧ sh.flat = true ∧ kvs.length < sizeLine then match kvGet kvs k with
          | some old => match m S2 with
            | none => none
            | some (.error e, S3) => some (.error e, S3)
            | some (.ok r3, S3) => match (Rv.ref i p).see S3, r3.see S3, S3[i]? with
              | some (.dct .fz, .dct kvs3), some (sh3, y), some (some sd) => if sh3.flat = true ∧ kvs3 = kvs then match f old y with
                  | some (.fz, new) => some (.ok .nx, S3.set i (some (sd.1, updD sd p (.dct (kvPut kvs k new)))))
                  | _ => none
                else none
              | _, _, _ => none
          | none => none
        else none
      | _, _ => none
section
variable {X : Cx} {G : Gm} {W : WX} {B : Bw} {q q0 q1 q2 q3 : Bool}
theorem RT.dctO {N : Addr → Prop} {H : Hp} {v : V} {c : Sh} {kvs : List (D × D)} {k : D} {f : List Addr} (h : RT G N H (.dct c) v (.dct kvs) f) (hk : dkOk kvs = true) (ky : isKy k = true) :
    ∃ (a : Addr) (ks : List (Key × V)), v = .ref a ∧ H a = some (.dK ks) ∧ (kvGet kvs k).isSome = (valV ks (kyD k)).isSome := by
  cases h with
  | @dct a o _ es L fp h ob rk q ev ec =>
    have hl : (es.map En.k).length = L.length := by
      have := congrArg List.length ev
      simpa using this.symm
    obtain ⟨z1, z2, z3, z4⟩ := zip_rows hl
    have hall : (es.map En.k).all isKy = true := by
      rw [← z1, List.all_map]
      unfold dkOk at hk
      rw [z4, List.all_map] at hk
      exact hk
    have ho := rows_of ob ev.symm hall
    rw [z3, List.map_map] at ho
    have hks : ∀ r ∈ (es.map En.k).zip L, isKy r.1 = true := fun r hr => List.all_eq_true.mp hall _ (by rw [← z1]; exact List.mem_map.mpr ⟨r, hr, rfl⟩)
    refine ⟨a, _, rfl, by rw [h, ho], ?_⟩
    have e1 := find_rows (f := Cl.v) hks ky
    have e2 : valV (((es.map En.k).zip L).map fun r => (kyD r.1, r.2.v)) (kyD k) = valV ((es.map En.k).zip L |>.map ((fun r : D × V => (kyD r.1, r.2)) ∘ fun r => (r.1, r.2.v))) (kyD k) := rfl
    rw [← e2, e1, z4]
    unfold kvGet
    rw [List.find?_map]
    simp only [Option.isSome_map]
    rfl
theorem tem_kyp {a b : M Rv} {σ : Sg} {H : Hp} {Q : VK} (h : TEm G W true (mKyP a b) σ H Q) : tDGet (TEm G W true a) (TEm G W true b) σ H Q := by
  obtain ⟨S, T, r, S', ag, ow, e, kk⟩ := h
  unfold mKyP at e
  split at e
  · cases e
  · rename_i e1
    cases e
    exact ⟨S, T, _, _, ag, ow, e1, kk⟩
  · cases e
  · rename_i i p S1 e1
    split at e
    · rename_i e2
      cases e
    · rename_i e2
      cases e
      refine ⟨S, T, _, _, ag, ow, e1, fun v H1 a1 a2 a3 a4 => ?_⟩
      exact ⟨S1, T, _, _, a1, a2, e2, fun cv od H2 b1 b2 b3 => kk cv od H2 b1 b2 b3⟩
    · rename_i r2 S2 e2
      split at e
      · rename_i c kvs sh k e3 e4
        split at e
        · rename_i hj
          cases e
          refine ⟨S, T, _, _, ag, ow, e1, fun v H1 a1 a2 a3 a4 => ?_⟩
          refine ⟨S1, T, _, _, a1, a2, e2, fun w H2 b1 b2 b3 b4 => ?_⟩
          have k1 : Same H1 H2 := b4 rfl
          have a3' : (Rv.ref i p).ok G σ H2 v := by
            obtain ⟨v0, ev, pv⟩ := a3
            exact ⟨v0, ev, pv.same k1⟩
          obtain ⟨O, o⟩ := id b2
          have hy := see_rx b1 o (r := r2) (fun t ht => ht) b3 e4 hj.2.2.2
          have bdrop : Own G H2 (cl S' σ ++ T) := Own.drop b2
          obtain ⟨O2, o2⟩ := id bdrop
          obtain ⟨f1, rt1⟩ := see_rt (r := .ref i p) (v := v) b1 (T := T) (by simpa [Rv.cls] using o2) a3' e3
          obtain ⟨la, ks, hv, hH, hsm⟩ := rt1.dctO hj.1 hj.2.1
          obtain ⟨v0, ev, pv⟩ := a3'
          rw [hj.2.2.1] at hsm
          obtain ⟨u, hu⟩ := Option.isSome_iff_exists.mp hsm.symm
          refine ⟨la, u, hv, ?_, kk _ H2 b1 ?_ ⟨v0, ev, pv.snoc ⟨la, _, _, hv, hH, hu, rfl⟩⟩ fun _ => (a4 rfl).trans k1⟩
          · rw [hy.key_at hj.2.1, ← hu]
            exact DGet.k hH
          · simpa [Rv.cls] using bdrop
        · cases e
      · cases e
theorem e_kyp {a b : Expr} {ma mb : M Rv} {pos : Pos} (hu : X.A.units + 65 < cLine) (ha : PE X a (TEm G W true ma)) (hb : PE X b (TEm G W true mb)) (hs : NoSl b := by intro _ _; rfl) : PE X (.Subscript a b pos) (TEm G W true (mKyP ma mb)) := by
  refine (pe_dget (by omega) ha hb hs).imp fun σ H Q h => tem_kyp h
theorem tsm_augD {f : D → D → Option (Sh × D)} {rd : V → V → Hp → VK → Prop} (F : Fun2 G (fun x y H Q => rd x y H Q) f) {a b m : M Rv} {D : Ends} {σ : Sg} {H : Hp} (h : TSm G W B (sAugD f a b m) D σ H) :
    sDAug (TEm G W true a) (TEm G W true b) (TEm G W true m) rd D σ H := by
  obtain ⟨S, T, r, S', ag, ow, e, kk⟩ := h
  unfold sAugD at e
  split at e
  · cases e
  · rename_i e1
    cases e
    exact ⟨S, T, _, _, ag, ow, e1, fun cv od H' x1 x2 x => kk cv od σ H' x1 x2 Kb.refl x⟩
  · cases e
  · rename_i i p S1 e1
    refine ⟨S, T, _, _, ag, ow, e1, fun v H1 a1 a2 a3 a4 => ?_⟩
    have a2 : Own G H1 (cl S1 σ ++ T) := a2
    split at e
    · cases e
    · rename_i e2
      cases e
      exact ⟨S1, T, _, _, a1, a2, e2, fun cv od H2 b1 b2 b3 => kk cv od σ H2 b1 b2 Kb.refl b3⟩
    · rename_i r2 S2 e2
      refine ⟨S1, T, _, _, a1, a2, e2, fun w H2 b1 b2 b3 b4 => ?_⟩
      split at e
      · rename_i kvs sh k e3 e4
        split at e
        · rename_i hj
          split at e
          · rename_i old hold
            have k1 : Same H1 H2 := b4 rfl
            have a3' : (Rv.ref i p).ok G σ H2 v := by
              obtain ⟨v0, ev, pv⟩ := a3
              exact ⟨v0, ev, pv.same k1⟩
            obtain ⟨O, o⟩ := id b2
            have hy := see_rx b1 o (r := r2) (fun t ht => ht) b3 e4 hj.2.2.1
            have hy0 := hy.key_at hj.2.1
            subst hy0
            have bdrop : Own G H2 (cl S2 σ ++ T) := Own.drop b2
            obtain ⟨O2, o2⟩ := id bdrop
            have rxd := see_rx (r := .ref i p) (v := v) b1 (A := []) (T := T) (by simpa using o2) (by intro t ht; simp [Rv.cls] at ht) a3' e3 rfl
            obtain ⟨a, rr, rfl, g, hsm, hval⟩ := dget_of (N := fun a => a ∉ O2) rxd (.fz (rf_key hj.2.1)) hj.1 hj.2.1
            obtain ⟨vo, rfl, rfo⟩ := hval old hold
            refine ⟨a, vo, rfl, g, ?_⟩
            -- the old value is kept as a claim
            have o3 : Own G H2 (cl S2 σ ++ (⟨.fz, vo, old⟩ :: T)) := (show Own G H2 (⟨.fz, vo, old⟩ :: (cl S2 σ ++ T)) from ⟨O2, o2.cons rfo⟩).perm List.perm_middle.symm
            split at e
            · cases e
            · rename_i e5
              cases e
              exact ⟨S2, _, _, _, b1, o3, e5, fun cv od H3 c1 c2 c3 => kk cv od σ H3 c1 (OwnX.dropMid (B := [⟨.fz, vo, old⟩]) c2) Kb.refl c3⟩
            · rename_i r3 S3 e5
              refine ⟨S2, _, _, _, b1, o3, e5, fun y H3 c1 c2 c3 c4 => ?_⟩
              split at e
              · rename_i kvs3 sh3 yd sd e6 e7 hS
                split at e
                · rename_i hk3
                  split at e
                  · rename_i new hf
                    cases e
                    obtain ⟨hk3a, rfl⟩ := hk3
                    have k2 : Same H2 H3 := c4 rfl
                    obtain ⟨O3, o3'⟩ := id c2
                    have hyv := see_rx c1 o3' (r := r3) (fun t ht => ht) c3 e7 hk3a
                    have rfo3 : RX G (fun a => a ∉ O3) H3 vo old := by
                      obtain ⟨ff, hh⟩ := o3'.1.mem (t := ⟨.fz, vo, old⟩) (by simp)
                      exact hh.rx rfl
                    have main : ∀ z H4, Same H3 H4 → Own G H4 (⟨.fz, z, new⟩ :: (r3.cls y ++ (cl S3 σ ++ (⟨.fz, vo, old⟩ :: T)))) → ∃ H5, DPut H4 a (kV (kyD k)) z H5 ∧ D.nx σ H5 := by
                      intro z H4 k3 o4
                      have a3'' : (Rv.ref i p).ok G σ H4 (.ref a) := by
                        obtain ⟨v0, ev, pv⟩ := a3'
                        exact ⟨v0, ev, (pv.same k2).same k3⟩
                      obtain ⟨v0, ev, pv⟩ := a3''
                      obtain ⟨sh0, d0⟩ := sd
                      have e6' : pathD (sh0, d0) p = some (.dct .fz, .dct kvs3) := by
                        have : (match S3[i]? with | some (some sd) => pathD sd p | _ => none) = some (Sh.dct .fz, Dt.D.dct kvs3) := e6
                        rw [hS] at this
                        exact this
                      have o5 : Own G H4 (⟨.fz, z, new⟩ :: (cl S3 σ ++ T)) := by
                        have q1 : Own G H4 (([⟨.fz, z, new⟩] : List Cl) ++ (r3.cls y ++ (cl S3 σ ++ (⟨.fz, vo, old⟩ :: T)))) := o4
                        have q2 := q1.dropMid
                        exact Own.dropMid (A := ⟨.fz, z, new⟩ :: cl S3 σ) (B := [⟨.fz, vo, old⟩]) q2
                      have pm := (cl_get hS ev).append_right T
                      have o6 : Own G H4 (⟨sh0, v0, d0⟩ :: ⟨.fz, z, new⟩ :: (cl (S3.set i none) σ ++ T)) := (o5.perm (pm.cons _)).perm (List.Perm.swap _ _ _)
                      obtain ⟨C, o7, back⟩ := o6.focus e6' pv
                      have o8 : Own G H4 (⟨.dct .fz, .ref a, .dct kvs3⟩ :: ⟨.fz, z, new⟩ :: (C ++ (cl (S3.set i none) σ ++ T))) := o7.perm (List.Perm.cons _ List.perm_middle)
                      obtain ⟨a', ks, ea, ha, hl, o9⟩ := o8.putK hj.1 hj.2.1
                      cases ea
                      refine ⟨_, DPut.k ha (by rw [hl]; exact hj.2.2.2), ?_⟩
                      have fr : ∀ t ∈ C, t.sh = .adr → ∀ b, t.v = .ref b → upd H4 a (.dK (L2.putK ks (kyD k) z)) b = H4 b := fun t ht hs b hb => upd_ne (o8.apart2 (.inr ⟨.fz, rfl⟩) (t := t) (by simp [ht]) hs hb)
                      have o10 := back _ (cl (S3.set i none) σ ++ T) (.dct (kvPut kvs3 k new)) fr o9
                      refine kk σ _ (c1.set ev) (o10.perm ?_) Kb.refl
                      exact ((cl_set c1.length ev).append_right T).symm
                    obtain ⟨x', y', ee, hr⟩ := F H3 _ O3 [vo, y] [old, yd] .fz new (fun v' H' => ∃ H5, DPut H' a (kV (kyD k)) v' H5 ∧ D.nx σ H5) o3' (.cons rfo3 (.cons hyv .nil)) hf main
                    cases ee
                    exact hr
                  · cases e
                · cases e
              · cases e
          · cases e
        · cases e
      · cases e
theorem s_augD {op : Operator} {rd : V → V → Hp → VK → Prop} {f : D → D → Option (Sh × D)} {a b value : Expr} {ma mb m : M Rv} {pos tpos : Pos} (hu : X.A.units + 65 < cLine) (hop : InOp X op rd) (F : Fun2 G (fun x y H Q => rd x y H Q) f) (ha : PE X a (TEm G W true ma)) (hb : PE X b (TEm G W true mb)) (hv : PE X value (TEm G W true m))
    (hs : ∀ ov iv new, augStore b ov iv new = (do holding [new, ov, iv] (setItem ov iv new); release [new, ov, iv] []; pure .next) := by intros; rfl) : PS X (.AugAssign (.Subscript a b tpos) op value pos) (TSm G W B (sAugD f ma mb m)) :=
  (ps_daug (by omega) ha hb hv hop hs).imp fun _ _ _ h => tsm_augD F h
end
end
end Dt

/-! Dict comprehensions. -/
namespace Dt
noncomputable section
open PySem PySem.Spec PyProof.Rows L2
def dcN (vs : List Nat) (t : Tg) (tt : M Bool) (mk me : M Rv) (c : Sh) : List D → List (D × D) → List Slot → Option (List (D × D) × List Slot)
  | [], acc, S => some (acc, S)
  | d :: ds, acc, S => match bindT noB t d S with
    | none => none
    | some S1 => match tt S1 with
      | some (.ok false, S2) => dcN vs t tt mk me c ds acc (wipeS S2 vs)
      | some (.ok true, S2) => match mk S2 with
        | some (.ok (.tmp shk k), S3) => match me S3 with
          | some (.ok (.tmp sh x), S4) => if fits c sh = true ∧ shk.flat = true ∧ isKy k = true then dcN vs t tt mk me c ds (kvPut acc k x) (wipeS S4 vs) else none
          | _ => none
        | _ => none
      | _ => none
def mDc (vs : List Nat) (t : Tg) (mi : M (List D)) (tt : M Bool) (mk me : M Rv) (c : Sh) : M Rv := fun S => match mi S with
  | none => none
  | some (.error e, S1) => some (.error e, S1)
  | some (.ok ds, S1) => if ds.length ≤ sizeLine then match dcN vs t tt mk me c ds [] (wipeS S1 vs) with
      | some (acc, S2) => some (.ok (.tmp (.dct c) (.dct acc)), restS S1 S2 vs)
      | none => none
    else none
section
variable {X : Cx} {G : Gm} {W : WX} {B : Bw} {q q1 q2 q3 : Bool}
theorem dcN_wiped {vs : List Nat} {t : Tg} {tt : M Bool} {mk me : M Rv} {c : Sh} : ∀ {ds acc S r}, dcN vs t tt mk me c ds acc (wipeS S vs) = some r → ∃ S', r.2 = wipeS S' vs
  | [], acc, S, r, h => by cases h; exact ⟨S, rfl⟩
  | d :: ds, acc, S, r, h => by
    unfold dcN at h
    split at h
    · cases h
    · split at h
      · exact dcN_wiped h
      · split at h
        · split at h
          · split at h
            · exact dcN_wiped h
            · cases h
          · cases h
        · cases h
      · cases h
theorem kvPut_ok {kvs : List (D × D)} {k x : D} (h : dkOk kvs = true) (hk : isKy k = true) : dkOk (kvPut kvs k x) = true := by
  unfold dkOk at h ⊢
  rw [List.all_eq_true] at h ⊢
  exact putR_isKy h hk
theorem kvPut_len {kvs : List (D × D)} {k x : D} : (kvPut kvs k x).length ≤ kvs.length + 1 := by
  unfold kvPut
  split <;> simp
theorem tem_dc {vs : List Nat} {t : Tg} {mi : M (List D)} {tt : M Bool} {mk me : M Rv} {c : Sh} {σ : Sg} {H : Hp} {Q : VK} (nd : vs.Nodup) (hts : ∀ j ∈ t.slots, j ∈ vs) (h : TEm G W false (mDc vs t mi tt mk me c) σ H Q) :
    tDc (TIm G W mi) (TGm G noB t) (TTm G W0 q1 tt) (TEm G W0 q2 mk) (TEm G W0 q3 me) vs σ H Q := by
  obtain ⟨S, T, r, S', ag, ow, e, k⟩ := h
  unfold mDc at e
  split at e
  · cases e
  · rename_i e1
    cases e
    exact ⟨S, T, _, _, ag, ow, e1, k⟩
  · rename_i ds S1 e1
    split at e
    · rename_i hz
      split at e
      · rename_i acc S2 e2
        cases e
        refine ⟨S, T, _, _, ag, ow, e1, fun J T0 H1 it a1 o1 D hD => ?_⟩
        obtain ⟨Sw, ew⟩ := dcN_wiped e2
        have ew : S2 = wipeS Sw vs := ew
        have p1 : (T0 ++ (cl S1 σ ++ T)).Perm (cl (wipeS S1 vs) (wipe σ vs) ++ (T0 ++ (svs S1 σ vs ++ T))) := by
          rw [cl_wipe_vals]
          refine (((cl_wipe (S := S1) (σ := σ) nd).append_right T).append_left T0).trans ?_
          rw [List.append_assoc]
          refine (perm3 _ _ _).trans ?_
          refine (perm3 (svs S1 σ vs) T0 _).trans ?_
          refine ((perm3 (svs S1 σ vs) (cl (wipeS S1 vs) σ) T).append_left T0).trans ?_
          exact perm3 _ _ _
        have o2 := o1.perm p1
        have o3 : Own G (upd H1 D (.dK [])) (⟨.dct c, .ref D, .dct []⟩ :: (cl (wipeS S1 vs) (wipe σ vs) ++ (T0 ++ (svs S1 σ vs ++ T)))) := Own.newDct o2 hD
        refine ⟨fun i m H' => m + i = ds.length ∧ ∃ Si ac, Ag Si (wipe σ vs) ∧ (∃ Z, Si = wipeS Z vs) ∧ Own G H' (⟨.dct c, .ref D, .dct ac⟩ :: (cl Si (wipe σ vs) ++ (T0 ++ (svs S1 σ vs ++ T)))) ∧ (ac.length ≤ i ∧ dkOk ac = true) ∧ dcN vs t tt mk me c (ds.drop i) ac Si = some (acc, S2),
          ⟨ds.length, by simp, _, [], a1.wipes, ⟨S1, rfl⟩, o3, ⟨by simp, rfl⟩, by simpa using e2⟩, ?_⟩
        rintro i m Hi ⟨hm, Si, ac, ai, ⟨Z, ez⟩, oi, hac, ei⟩
        have oit := it Hi (⟨.dct c, .ref D, .dct ac⟩ :: (cl Si (wipe σ vs) ++ (svs S1 σ vs ++ T))) i (oi.perm (by
          refine ((perm3 _ _ _).cons _).trans ?_
          exact List.perm_middle.symm))
        cases hd : ds.drop i with
        | nil =>
          rw [hd] at ei
          cases ei
          have hl : ds.length ≤ i := List.drop_eq_nil_iff.mp hd
          refine .inl ⟨oit.2 hl, ?_⟩
          have aS : Ag S2 σ := ai.congr (wipe_length σ vs) fun j sd h => by
            rw [ez] at h
            rw [wipe_get, if_neg (wipeS_some h)]
          refine k _ Hi (a1.rest aS) ?_ trivial fun hq => by cases hq
          have ec : cl S2 (wipe σ vs) = cl S2 σ := by rw [ez]; exact cl_wipe_vals
          rw [ec] at oi
          have hS2 : ∀ j ∈ vs, S2[j]? = some none ∨ S2.length ≤ j := fun j hj => by
            rw [ez, wipeS_get, if_pos hj, wipeS_len]
            split
            · exact .inl rfl
            · exact .inr (by omega)
          have pr := cl_rest (S1 := S1) (S2 := S2) (σ := σ) (by rw [a1.length, aS.length]) nd hS2
          refine Own.dropMid (A := [⟨.dct c, .ref D, .dct acc⟩]) (B := T0) (oi.perm (List.Perm.cons _ ?_))
          refine (perm3 _ _ _).trans (List.Perm.append_left T0 ?_)
          rw [← List.append_assoc]
          exact (List.perm_append_comm.trans pr.symm).append_right T
        | cons d rest =>
          rw [hd] at ei
          have hi : i < ds.length := by
            rcases Nat.lt_or_ge i ds.length with h | h
            · exact h
            · rw [List.drop_eq_nil_iff.mpr h] at hd; cases hd
          have hg : ds[i]? = some d := by
            rw [List.drop_eq_getElem_cons hi] at hd
            cases hd
            exact List.getElem?_eq_getElem hi
          have hr : ds.drop (i + 1) = rest := by
            rw [List.drop_eq_getElem_cons hi] at hd
            cases hd
            rfl
          obtain ⟨go, yl⟩ := oit.1 d hg
          refine .inr ⟨go, fun H3 => ∃ Si ac, Ag Si (wipe σ vs) ∧ (∃ Z, Si = wipeS Z vs) ∧ Own G H3 (⟨.dct c, .ref D, .dct ac⟩ :: (cl Si (wipe σ vs) ++ (T0 ++ (svs S1 σ vs ++ T)))) ∧ (ac.length ≤ i + 1 ∧ dkOk ac = true) ∧ dcN vs t tt mk me c rest ac Si = some (acc, S2),
            fun H3 ⟨Si, ac, b1, b2, b3, b4, b5⟩ => ⟨m - 1, by omega, by omega, Si, ac, b1, b2, b3, b4, by rw [hr]; exact b5⟩, fun x H2 y => ?_⟩
          have oy : Own G H2 (⟨.fz, x, d⟩ :: (cl Si (wipe σ vs) ++ (⟨.dct c, .ref D, .dct ac⟩ :: (T0 ++ (svs S1 σ vs ++ T))))) := (yl x H2 y).perm (List.Perm.cons _ (by
            refine List.perm_middle.trans ?_
            refine List.Perm.trans ?_ List.perm_middle.symm
            exact (perm3 _ _ _).cons _))
          have ei : (match bindT noB t d Si with
            | none => none
            | some S1 => match tt S1 with
              | some (.ok false, S2) => dcN vs t tt mk me c rest ac (wipeS S2 vs)
              | some (.ok true, S2) => match mk S2 with
                | some (.ok (.tmp shk k), S3) => match me S3 with
                  | some (.ok (.tmp sh x), S4) => if fits c sh = true ∧ shk.flat = true ∧ isKy k = true then dcN vs t tt mk me c rest (kvPut ac k x) (wipeS S4 vs) else none
                  | _ => none
                | _ => none
              | _ => none) = some (acc, S2) := ei
          split at ei
          · cases ei
          · rename_i S3 e3
            refine ⟨Si, _, d, S3, ai, oy, e3, fun σ2 a2 o2 _ on => ?_⟩
            have ewp : wipe σ2 vs = wipe σ vs := (wipe_only on hts).trans wipe_wipe
            refine ⟨ewp, ?_⟩
            have fin : ∀ {S4 : List Slot} {H4 : Hp} {ac4 : List (Dt.D × Dt.D)}, Ag S4 σ2 → Own G H4 (⟨.dct c, .ref D, .dct ac4⟩ :: (cl S4 σ2 ++ (T0 ++ (svs S1 σ vs ++ T)))) → (ac4.length ≤ i + 1 ∧ dkOk ac4 = true) → dcN vs t tt mk me c rest ac4 (wipeS S4 vs) = some (acc, S2) →
                ∃ Si ac, Ag Si (wipe σ vs) ∧ (∃ Z, Si = wipeS Z vs) ∧ Own G H4 (⟨.dct c, .ref D, .dct ac⟩ :: (cl Si (wipe σ vs) ++ (T0 ++ (svs S1 σ vs ++ T)))) ∧ (ac.length ≤ i + 1 ∧ dkOk ac = true) ∧ dcN vs t tt mk me c rest ac Si = some (acc, S2) := fun {S4 H4 ac4} b1 b2 b3 b4 => by
              refine ⟨wipeS S4 vs, ac4, by rw [← ewp]; exact b1.wipes, ⟨_, rfl⟩, ?_, b3, b4⟩
              rw [← ewp, cl_wipe_vals]
              have pw := cl_wipe (S := S4) (σ := σ2) nd
              refine Own.dropMid (A := [⟨.dct c, .ref D, .dct ac4⟩]) (B := svs S4 σ2 vs) (b2.perm (List.Perm.cons _ ?_))
              refine (pw.append_right _).trans ?_
              rw [List.append_assoc]
              exact .refl _
            split at ei
            · rename_i S4 e4
              refine ⟨S3, _, _, _, a2, o2, e4, fun H4 b1 b2 _ => ?_⟩
              refine iteF ?_
              exact fin b1 (b2.perm List.perm_middle) ⟨by omega, hac.2⟩ ei
            · rename_i S4 e4
              refine ⟨S3, _, _, _, a2, o2, e4, fun H4 b1 b2 _ => ?_⟩
              refine iteT ?_
              split at ei
              · rename_i shk kd S5 e5
                refine ⟨S4, _, _, _, b1, b2, e5, fun yk H5 c1 c2 _ _ => ?_⟩
                split at ei
                · rename_i sh x S6 e6
                  split at ei
                  · rename_i hf
                    have hyk : yk = kV (kyD kd) := by
                      obtain ⟨O, o⟩ := id c2
                      obtain ⟨ff, hh⟩ := o.1.mem (t := ⟨shk, yk, kd⟩) (by simp [Rv.cls])
                      exact (hh.rx hf.2.1).key_at hf.2.2
                    refine ⟨S5, _, _, _, c1, (show Own G H5 (cl S5 σ2 ++ (⟨.dct c, .ref D, .dct ac⟩ :: (T0 ++ (svs S1 σ vs ++ T)))) from Own.drop (L := Rv.cls (.tmp shk kd) yk) c2), e6, fun w H6 d1 d2 _ _ => ?_⟩
                    have c3 : Own G H6 (⟨.dct c, .ref D, .dct ac⟩ :: ⟨c, w, x⟩ :: (cl S6 σ2 ++ (T0 ++ (svs S1 σ vs ++ T)))) := (Own.fit hf.1 d2).perm (by
                      refine (List.perm_middle.cons _).trans ?_
                      exact List.Perm.swap _ _ _)
                    obtain ⟨a, ks, ea, ha, hl, c4⟩ := c3.putK hac.2 hf.2.2
                    cases ea
                    refine ⟨ks, kyD kd, hyk, ha, by omega, ?_⟩
                    exact fin d1 c4 ⟨Nat.le_trans kvPut_len (by omega), kvPut_ok hac.2 hf.2.2⟩ ei
                  · cases ei
                · cases ei
              · cases ei
            · cases ei
      · cases e
    · cases e
theorem e_dc {kx vx tg iter : Expr} {ifs : List Expr} {scope : Scope} {own : List (Str × Nat)} {vs : List Nat} {pos : Pos} {t : Tg} {mi : M (List D)} {tt : M Bool} {mk me : M Rv} {c : Sh} (hc : X.calm = true) (hN : X.N.Nodup) (hi : PI X tg iter (TIm G W mi)) (ok : BlkOk X.N X.env.scope scope own)
    (hg : ∀ (s : Shared) (H : Hp) (C : Addr) (cl : List (Str × Addr)) (fp : List Addr), PG (X.blk s H scope (compEnvC scope cl C X.env) fp) tg (TGm G noB t))
    (ht : ∀ (s : Shared) (H : Hp) (C : Addr) (cl : List (Str × Addr)) (fp : List Addr), PTs (X.blk s H scope (compEnvC scope cl C X.env) fp) ifs (TTm G W0 q1 tt))
    (hk : ∀ (s : Shared) (H : Hp) (C : Addr) (cl : List (Str × Addr)) (fp : List Addr), PE (X.blk s H scope (compEnvC scope cl C X.env) fp) kx (TEm G W0 q2 mk))
    (he : ∀ (s : Shared) (H : Hp) (C : Addr) (cl : List (Str × Addr)) (fp : List Addr), PE (X.blk s H scope (compEnvC scope cl C X.env) fp) vx (TEm G W0 q3 me)) (nd : (own.map (·.2)).Nodup) (hts : ∀ j ∈ t.slots, j ∈ own.map (·.2)) (hvs : own.map (·.2) = vs)
    (hs : ∀ x, foldedSetIterable iter X.env x = pure x := by intro _; rfl) : PE X (.DictComp kx vx [⟨tg, iter, ifs, 0⟩] scope pos) (TEm G W false (mDc vs t mi tt mk me c)) :=
  hvs ▸ (pe_dc hc hN hi ok hg ht hk he hs).imp fun _ _ _ h => tem_dc nd hts h
end
end
end Dt

/-! List comprehensions of two fors. -/
namespace Dt
noncomputable section
open PySem PySem.Spec PyProof.Rows L2
def lc2N (vs : List Nat) (t : Tg) (tt : M Bool) (vs1 : List Nat) (mi1 : M (List D)) (t1 : Tg) (tt1 : M Bool) (me : M Rv) (c : Sh) : List D → List D → List Slot → Option (List D × List Slot)
  | [], acc, S => some (acc, S)
  | d :: ds, acc, S => match bindT noB t d S with
    | none => none
    | some S1 => match tt S1 with
      | some (.ok false, S2) => lc2N vs t tt vs1 mi1 t1 tt1 me c ds acc (wipeS S2 vs)
      | some (.ok true, S2) => match mi1 S2 with
        | some (.ok ds1, S3) => match lcN vs1 t1 tt1 me c ds1 acc (wipeS S3 vs1) with
          | some (acc', S4) => lc2N vs t tt vs1 mi1 t1 tt1 me c ds acc' (wipeS S4 vs)
          | none => none
        | _ => none
      | _ => none
def mLc2 (vs : List Nat) (t : Tg) (mi : M (List D)) (tt : M Bool) (vs1 : List Nat) (mi1 : M (List D)) (t1 : Tg) (tt1 : M Bool) (me : M Rv) (c : Sh) : M Rv := fun S => match mi S with
  | none => none
  | some (.error e, S1) => some (.error e, S1)
  | some (.ok ds, S1) => match lc2N vs t tt vs1 mi1 t1 tt1 me c ds [] (wipeS S1 vs) with
    | some (acc, S2) => if acc.length ≤ sizeLine then some (.ok (.tmp (.lst c) (.lst acc)), restS S1 S2 vs) else none
    | none => none
section
variable {X : Cx} {G : Gm} {W : WX} {B : Bw} {q q1 q2 q3 : Bool}
theorem lcN_grows {vs : List Nat} {t : Tg} {tt : M Bool} {me : M Rv} {c : Sh} : ∀ {ds ac S r}, lcN vs t tt me c ds ac S = some r → ac.length ≤ r.1.length
  | [], ac, S, r, h => by cases h; exact Nat.le_refl _
  | d :: ds, ac, S, r, h => by
    unfold lcN at h
    split at h
    · cases h
    · split at h
      · exact lcN_grows h
      · split at h
        · split at h
          · have := lcN_grows h
            simp at this
            omega
          · cases h
        · cases h
      · cases h
theorem lc2N_grows {vs : List Nat} {t : Tg} {tt : M Bool} {vs1 : List Nat} {mi1 : M (List D)} {t1 : Tg} {tt1 : M Bool} {me : M Rv} {c : Sh} : ∀ {ds ac S r}, lc2N vs t tt vs1 mi1 t1 tt1 me c ds ac S = some r → ac.length ≤ r.1.length
  | [], ac, S, r, h => by cases h; exact Nat.le_refl _
  | d :: ds, ac, S, r, h => by
    unfold lc2N at h
    split at h
    · cases h
    · split at h
      · exact lc2N_grows h
      · split at h
        · split at h
          · rename_i e
            exact Nat.le_trans (lcN_grows e) (lc2N_grows h)
          · cases h
        · cases h
      · cases h
theorem lc2N_wiped {vs : List Nat} {t : Tg} {tt : M Bool} {vs1 : List Nat} {mi1 : M (List D)} {t1 : Tg} {tt1 : M Bool} {me : M Rv} {c : Sh} : ∀ {ds acc S r}, lc2N vs t tt vs1 mi1 t1 tt1 me c ds acc (wipeS S vs) = some r → ∃ S', r.2 = wipeS S' vs
  | [], acc, S, r, h => by cases h; exact ⟨S, rfl⟩
  | d :: ds, acc, S, r, h => by
    unfold lc2N at h
    split at h
    · cases h
    · split at h
      · exact lc2N_wiped h
      · split at h
        · split at h
          · exact lc2N_wiped h
          · cases h
        · cases h
      · cases h
theorem tem_lc2 {vs vs1 : List Nat} {t t1 : Tg} {mi mi1 : M (List D)} {tt tt1 : M Bool} {me : M Rv} {c : Sh} {σ : Sg} {H : Hp} {Q : VK} (nd : vs.Nodup) (nd1 : vs1.Nodup) (hts : ∀ j ∈ t.slots, j ∈ vs) (hts1 : ∀ j ∈ t1.slots, j ∈ vs1) (hsub : ∀ j ∈ vs1, j ∈ vs)
    (h : TEm G W false (mLc2 vs t mi tt vs1 mi1 t1 tt1 me c) σ H Q) :
    tLc2 (TIm G W mi) (TGm G noB t) (TTm G W0 q1 tt) (TIm G W0 mi1) (TGm G noB t1) (TTm G W0 q2 tt1) (TEm G W0 q3 me) vs vs1 σ H Q := by
  obtain ⟨S, T, r, S', ag, ow, e, k⟩ := h
  unfold mLc2 at e
  split at e
  · cases e
  · rename_i e1
    cases e
    exact ⟨S, T, _, _, ag, ow, e1, k⟩
  · rename_i ds S1 e1
    split at e
    · rename_i acc S2 e2
      split at e
      · rename_i hz
        cases e
        refine ⟨S, T, _, _, ag, ow, e1, fun J T0 H1 it a1 o1 D hD => ?_⟩
        obtain ⟨Sw, ew⟩ := lc2N_wiped e2
        have ew : S2 = wipeS Sw vs := ew
        have p1 : (T0 ++ (cl S1 σ ++ T)).Perm (cl (wipeS S1 vs) (wipe σ vs) ++ (T0 ++ (svs S1 σ vs ++ T))) := by
          rw [cl_wipe_vals]
          refine (((cl_wipe (S := S1) (σ := σ) nd).append_right T).append_left T0).trans ?_
          rw [List.append_assoc]
          refine (perm3 _ _ _).trans ?_
          refine (perm3 (svs S1 σ vs) T0 _).trans ?_
          refine ((perm3 (svs S1 σ vs) (cl (wipeS S1 vs) σ) T).append_left T0).trans ?_
          exact perm3 _ _ _
        have o2 := o1.perm p1
        have o3 : Own G (upd H1 D (.lst [])) (⟨.lst c, .ref D, .lst []⟩ :: (cl (wipeS S1 vs) (wipe σ vs) ++ (T0 ++ (svs S1 σ vs ++ T)))) := Own.newLst (A := []) (by simp) o2 hD
        refine ⟨fun i m H' => m + i = ds.length ∧ ∃ Si ac, Ag Si (wipe σ vs) ∧ (∃ Z, Si = wipeS Z vs) ∧ Own G H' (⟨.lst c, .ref D, .lst ac⟩ :: (cl Si (wipe σ vs) ++ (T0 ++ (svs S1 σ vs ++ T)))) ∧ lc2N vs t tt vs1 mi1 t1 tt1 me c (ds.drop i) ac Si = some (acc, S2),
          ⟨ds.length, by simp, _, [], a1.wipes, ⟨S1, rfl⟩, o3, by simpa using e2⟩, ?_⟩
        rintro i m Hi ⟨hm, Si, ac, ai, ⟨Z, ez⟩, oi, ei⟩
        have oit := it Hi (⟨.lst c, .ref D, .lst ac⟩ :: (cl Si (wipe σ vs) ++ (svs S1 σ vs ++ T))) i (oi.perm (by
          refine ((perm3 _ _ _).cons _).trans ?_
          exact List.perm_middle.symm))
        cases hd : ds.drop i with
        | nil =>
          rw [hd] at ei
          cases ei
          have hl : ds.length ≤ i := List.drop_eq_nil_iff.mp hd
          refine .inl ⟨oit.2 hl, ?_⟩
          have aS : Ag S2 σ := ai.congr (wipe_length σ vs) fun j sd h => by
            rw [ez] at h
            rw [wipe_get, if_neg (wipeS_some h)]
          refine k _ Hi (a1.rest aS) ?_ trivial fun hq => by cases hq
          have ec : cl S2 (wipe σ vs) = cl S2 σ := by rw [ez]; exact cl_wipe_vals
          rw [ec] at oi
          have hS2 : ∀ j ∈ vs, S2[j]? = some none ∨ S2.length ≤ j := fun j hj => by
            rw [ez, wipeS_get, if_pos hj, wipeS_len]
            split
            · exact .inl rfl
            · exact .inr (by omega)
          have pr := cl_rest (S1 := S1) (S2 := S2) (σ := σ) (by rw [a1.length, aS.length]) nd hS2
          refine Own.dropMid (A := [⟨.lst c, .ref D, .lst acc⟩]) (B := T0) (oi.perm (List.Perm.cons _ ?_))
          refine (perm3 _ _ _).trans (List.Perm.append_left T0 ?_)
          rw [← List.append_assoc]
          exact (List.perm_append_comm.trans pr.symm).append_right T
        | cons d rest =>
          rw [hd] at ei
          have hi : i < ds.length := by
            rcases Nat.lt_or_ge i ds.length with h | h
            · exact h
            · rw [List.drop_eq_nil_iff.mpr h] at hd; cases hd
          have hg : ds[i]? = some d := by
            rw [List.drop_eq_getElem_cons hi] at hd
            cases hd
            exact List.getElem?_eq_getElem hi
          have hr : ds.drop (i + 1) = rest := by
            rw [List.drop_eq_getElem_cons hi] at hd
            cases hd
            rfl
          obtain ⟨go, yl⟩ := oit.1 d hg
          refine .inr ⟨go, fun H3 => ∃ Si ac, Ag Si (wipe σ vs) ∧ (∃ Z, Si = wipeS Z vs) ∧ Own G H3 (⟨.lst c, .ref D, .lst ac⟩ :: (cl Si (wipe σ vs) ++ (T0 ++ (svs S1 σ vs ++ T)))) ∧ lc2N vs t tt vs1 mi1 t1 tt1 me c rest ac Si = some (acc, S2),
            fun H3 ⟨Si, ac, b1, b2, b3, b5⟩ => ⟨m - 1, by omega, by omega, Si, ac, b1, b2, b3, by rw [hr]; exact b5⟩, fun x H2 y => ?_⟩
          have oy : Own G H2 (⟨.fz, x, d⟩ :: (cl Si (wipe σ vs) ++ (⟨.lst c, .ref D, .lst ac⟩ :: (T0 ++ (svs S1 σ vs ++ T))))) := (yl x H2 y).perm (List.Perm.cons _ (by
            refine List.perm_middle.trans ?_
            refine List.Perm.trans ?_ List.perm_middle.symm
            exact (perm3 _ _ _).cons _))
          have ei : (match bindT noB t d Si with
            | none => none
            | some S1 => match tt S1 with
              | some (.ok false, S2) => lc2N vs t tt vs1 mi1 t1 tt1 me c rest ac (wipeS S2 vs)
              | some (.ok true, S2) => match mi1 S2 with
                | some (.ok ds1, S3) => match lcN vs1 t1 tt1 me c ds1 ac (wipeS S3 vs1) with
                  | some (acc', S4) => lc2N vs t tt vs1 mi1 t1 tt1 me c rest acc' (wipeS S4 vs)
                  | none => none
                | _ => none
              | _ => none) = some (acc, S2) := ei
          split at ei
          · cases ei
          · rename_i S3 e3
            refine ⟨Si, _, d, S3, ai, oy, e3, fun σ2 a2 o2 _ on => ?_⟩
            have ewp : wipe σ2 vs = wipe σ vs := (wipe_only on hts).trans wipe_wipe
            refine ⟨ewp, ?_⟩
            have fin : ∀ {S4 : List Slot} {H4 : Hp} {ac4 : List Dt.D}, Ag S4 σ2 → Own G H4 (⟨.lst c, .ref D, .lst ac4⟩ :: (cl S4 σ2 ++ (T0 ++ (svs S1 σ vs ++ T)))) → lc2N vs t tt vs1 mi1 t1 tt1 me c rest ac4 (wipeS S4 vs) = some (acc, S2) →
                ∃ Si ac, Ag Si (wipe σ vs) ∧ (∃ Z, Si = wipeS Z vs) ∧ Own G H4 (⟨.lst c, .ref D, .lst ac⟩ :: (cl Si (wipe σ vs) ++ (T0 ++ (svs S1 σ vs ++ T)))) ∧ lc2N vs t tt vs1 mi1 t1 tt1 me c rest ac Si = some (acc, S2) := fun {S4 H4 ac4} b1 b2 b4 => by
              refine ⟨wipeS S4 vs, ac4, by rw [← ewp]; exact b1.wipes, ⟨_, rfl⟩, ?_, b4⟩
              rw [← ewp, cl_wipe_vals]
              have pw := cl_wipe (S := S4) (σ := σ2) nd
              refine Own.dropMid (A := [⟨.lst c, .ref D, .lst ac4⟩]) (B := svs S4 σ2 vs) (b2.perm (List.Perm.cons _ ?_))
              refine (pw.append_right _).trans ?_
              rw [List.append_assoc]
              exact .refl _
            split at ei
            · rename_i S4 e4
              refine ⟨S3, _, _, _, a2, o2, e4, fun H4 b1 b2 _ => ?_⟩
              refine iteF ?_
              exact fin b1 (b2.perm List.perm_middle) ei
            · rename_i S4 e4
              refine ⟨S3, _, _, _, a2, o2, e4, fun H4 b1 b2 _ => ?_⟩
              refine iteT ?_
              split at ei
              · rename_i ds1 S5 e5
                split at ei
                · rename_i acc' S6 e6
                  have hlen := lc2N_grows ei
                  have hlen : acc'.length ≤ acc.length := hlen
                  refine ⟨S4, _, _, _, b1, b2, e5, fun J1 T1 H5 it1 c1 o5 => ?_⟩
                  obtain ⟨Sx, ex⟩ := lcN_wiped e6
                  have ex : S6 = wipeS Sx vs1 := ex
                  have o6 : Own G H5 (⟨.lst c, .ref D, .lst ac⟩ :: (cl (wipeS S5 vs1) (wipe σ2 vs1) ++ (T1 ++ (T0 ++ (svs S1 σ vs ++ T))))) := by
                    rw [cl_wipe_vals]
                    have pw := cl_wipe (S := S5) (σ := σ2) nd1
                    refine Own.dropMid (A := [⟨.lst c, .ref D, .lst ac⟩]) (B := svs S5 σ2 vs1) (o5.perm ?_)
                    refine (perm3 _ _ _).trans ?_
                    refine (pw.append_right _).trans ?_
                    rw [List.append_assoc]
                    refine List.Perm.trans ?_ (perm3 _ _ _)
                    refine List.Perm.append_left _ ?_
                    refine (List.Perm.append_left _ List.perm_middle).trans ?_
                    exact List.perm_middle
                  refine ⟨fun j kk H' => kk + j = ds1.length ∧ ∃ Sj ac, Ag Sj (wipe σ2 vs1) ∧ (∃ Z, Sj = wipeS Z vs1) ∧ Own G H' (⟨.lst c, .ref D, .lst ac⟩ :: (cl Sj (wipe σ2 vs1) ++ (T1 ++ (T0 ++ (svs S1 σ vs ++ T))))) ∧ lcN vs1 t1 tt1 me c (ds1.drop j) ac Sj = some (acc', S6),
                    ⟨ds1.length, by simp, _, ac, c1.wipes, ⟨S5, rfl⟩, o6, by simpa using e6⟩, ?_⟩
                  rintro j kk Hj ⟨hmj, Sj, acj, aj, ⟨Zj, ezj⟩, oj, ej⟩
                  have oitj := it1 Hj (⟨.lst c, .ref D, .lst acj⟩ :: (cl Sj (wipe σ2 vs1) ++ (T0 ++ (svs S1 σ vs ++ T)))) j (oj.perm (by
                    refine ((perm3 _ _ _).cons _).trans ?_
                    exact List.perm_middle.symm))
                  cases hdj : ds1.drop j with
                  | nil =>
                    rw [hdj] at ej
                    cases ej
                    have hl : ds1.length ≤ j := List.drop_eq_nil_iff.mp hdj
                    refine .inl ⟨oitj.2 hl, ?_⟩
                    have aS : Ag S6 σ2 := aj.congr (wipe_length σ2 vs1) fun j sd h => by
                      rw [ezj] at h
                      rw [wipe_get, if_neg (wipeS_some h)]
                    have ec : cl S6 (wipe σ2 vs1) = cl S6 σ2 := by rw [ezj]; exact cl_wipe_vals
                    rw [ec] at oj
                    refine fin aS ?_ ei
                    exact Own.dropMid (A := ⟨.lst c, .ref D, .lst acc'⟩ :: cl S6 σ2) (B := T1) oj
                  | cons d1 rest1 =>
                    rw [hdj] at ej
                    have hij : j < ds1.length := by
                      rcases Nat.lt_or_ge j ds1.length with h | h
                      · exact h
                      · rw [List.drop_eq_nil_iff.mpr h] at hdj; cases hdj
                    have hgj : ds1[j]? = some d1 := by
                      rw [List.drop_eq_getElem_cons hij] at hdj
                      cases hdj
                      exact List.getElem?_eq_getElem hij
                    have hrj : ds1.drop (j + 1) = rest1 := by
                      rw [List.drop_eq_getElem_cons hij] at hdj
                      cases hdj
                      rfl
                    obtain ⟨go1, yl1⟩ := oitj.1 d1 hgj
                    refine .inr ⟨go1, fun H3 => ∃ Sj ac, Ag Sj (wipe σ2 vs1) ∧ (∃ Z, Sj = wipeS Z vs1) ∧ Own G H3 (⟨.lst c, .ref D, .lst ac⟩ :: (cl Sj (wipe σ2 vs1) ++ (T1 ++ (T0 ++ (svs S1 σ vs ++ T))))) ∧ lcN vs1 t1 tt1 me c rest1 ac Sj = some (acc', S6),
                      fun H3 ⟨Si, ac, b1, b2, b3, b5⟩ => ⟨kk - 1, by omega, by omega, Si, ac, b1, b2, b3, by rw [hrj]; exact b5⟩, fun x1 H6 y1 => ?_⟩
                    have oy1 : Own G H6 (⟨.fz, x1, d1⟩ :: (cl Sj (wipe σ2 vs1) ++ (⟨.lst c, .ref D, .lst acj⟩ :: (T1 ++ (T0 ++ (svs S1 σ vs ++ T)))))) := (yl1 x1 H6 y1).perm (List.Perm.cons _ (by
                      refine List.perm_middle.trans ?_
                      refine List.Perm.trans ?_ List.perm_middle.symm
                      exact (perm3 _ _ _).cons _))
                    have ej : (match bindT noB t1 d1 Sj with
                      | none => none
                      | some S1 => match tt1 S1 with
                        | some (.ok false, S2) => lcN vs1 t1 tt1 me c rest1 acj (wipeS S2 vs1)
                        | some (.ok true, S2) => match me S2 with
                          | some (.ok (.tmp sh x), S3) => if fits c sh = true then lcN vs1 t1 tt1 me c rest1 (acj ++ [x]) (wipeS S3 vs1) else none
                          | _ => none
                        | _ => none) = some (acc', S6) := ej
                    split at ej
                    · cases ej
                    · rename_i S7 e7
                      refine ⟨Sj, _, d1, S7, aj, oy1, e7, fun σ3 a3 o3 _ on1 => ?_⟩
                      have ewp1 : wipe σ3 vs1 = wipe σ2 vs1 := (wipe_only on1 hts1).trans wipe_wipe
                      refine ⟨ewp1, ?_⟩
                      have fin1 : ∀ {S4 : List Slot} {H4 : Hp} {ac4 : List Dt.D}, Ag S4 σ3 → Own G H4 (⟨.lst c, .ref D, .lst ac4⟩ :: (cl S4 σ3 ++ (T1 ++ (T0 ++ (svs S1 σ vs ++ T))))) → lcN vs1 t1 tt1 me c rest1 ac4 (wipeS S4 vs1) = some (acc', S6) →
                          ∃ Sj ac, Ag Sj (wipe σ2 vs1) ∧ (∃ Z, Sj = wipeS Z vs1) ∧ Own G H4 (⟨.lst c, .ref D, .lst ac⟩ :: (cl Sj (wipe σ2 vs1) ++ (T1 ++ (T0 ++ (svs S1 σ vs ++ T))))) ∧ lcN vs1 t1 tt1 me c rest1 ac Sj = some (acc', S6) := fun {S4 H4 ac4} b1 b2 b4 => by
                        refine ⟨wipeS S4 vs1, ac4, by rw [← ewp1]; exact b1.wipes, ⟨_, rfl⟩, ?_, b4⟩
                        rw [← ewp1, cl_wipe_vals]
                        have pw := cl_wipe (S := S4) (σ := σ3) nd1
                        refine Own.dropMid (A := [⟨.lst c, .ref D, .lst ac4⟩]) (B := svs S4 σ3 vs1) (b2.perm (List.Perm.cons _ ?_))
                        refine (pw.append_right _).trans ?_
                        rw [List.append_assoc]
                        exact .refl _
                      split at ej
                      · rename_i S8 e8
                        refine ⟨S7, _, _, _, a3, o3, e8, fun H7 d1 d2 _ => ?_⟩
                        refine iteF ?_
                        exact fin1 d1 (d2.perm List.perm_middle) ej
                      · rename_i S8 e8
                        refine ⟨S7, _, _, _, a3, o3, e8, fun H7 d1 d2 _ => ?_⟩
                        refine iteT ?_
                        split at ej
                        · rename_i sh x S9 e9
                          split at ej
                          · rename_i hf
                            refine ⟨S8, _, _, _, d1, d2, e9, fun w H8 f1 f2 _ _ => ?_⟩
                            have c3 : Own G H8 (⟨.lst c, .ref D, .lst acj⟩ :: ⟨c, w, x⟩ :: (cl S9 σ3 ++ (T1 ++ (T0 ++ (svs S1 σ vs ++ T))))) := (Own.fit hf f2).perm (by
                              refine (List.perm_middle.cons _).trans ?_
                              exact List.Perm.swap _ _ _)
                            obtain ⟨ws, hw, hl, c4⟩ := c3.append
                            have hgr := lcN_grows ej
                            have hgr : (acj ++ [x]).length ≤ acc'.length := hgr
                            simp at hgr
                            refine ⟨ws, hw, by omega, ?_⟩
                            exact fin1 f1 c4 ej
                          · cases ej
                        · cases ej
                      · cases ej
                · cases ei
              · cases ei
            · cases ei
      · cases e
    · cases e
theorem e_lc2 {elt tg iter tg1 iter1 : Expr} {ifs ifs1 : List Expr} {scope : Scope} {own : List (Str × Nat)} {vs vs1 : List Nat} {pos : Pos} {t t1 : Tg} {mi mi1 : M (List D)} {tt tt1 : M Bool} {me : M Rv} {c : Sh} (hc : X.calm = true) (hN : X.N.Nodup) (hi : PI X tg iter (TIm G W mi)) (ok : BlkOk X.N X.env.scope scope own)
    (hg : ∀ (s : Shared) (H : Hp) (C : Addr) (cl : List (Str × Addr)) (fp : List Addr), PG (X.blk s H scope (compEnvC scope cl C X.env) fp) tg (TGm G noB t))
    (ht : ∀ (s : Shared) (H : Hp) (C : Addr) (cl : List (Str × Addr)) (fp : List Addr), PTs (X.blk s H scope (compEnvC scope cl C X.env) fp) ifs (TTm G W0 q1 tt))
    (hi1 : ∀ (s : Shared) (H : Hp) (C : Addr) (cl : List (Str × Addr)) (fp : List Addr), PI (X.blk s H scope (compEnvC scope cl C X.env) fp) tg1 iter1 (TIm G W0 mi1))
    (hg1 : ∀ (s : Shared) (H : Hp) (C : Addr) (cl : List (Str × Addr)) (fp : List Addr), PG (X.blk s H scope (compEnvC scope cl C X.env) fp) tg1 (TGm G noB t1))
    (ht1 : ∀ (s : Shared) (H : Hp) (C : Addr) (cl : List (Str × Addr)) (fp : List Addr), PTs (X.blk s H scope (compEnvC scope cl C X.env) fp) ifs1 (TTm G W0 q2 tt1))
    (he : ∀ (s : Shared) (H : Hp) (C : Addr) (cl : List (Str × Addr)) (fp : List Addr), PE (X.blk s H scope (compEnvC scope cl C X.env) fp) elt (TEm G W0 q3 me)) (nd : (own.map (·.2)).Nodup) (nd1 : vs1.Nodup) (hts : ∀ j ∈ t.slots, j ∈ own.map (·.2)) (hts1 : ∀ j ∈ t1.slots, j ∈ vs1) (hsub : ∀ j ∈ vs1, j ∈ own.map (·.2)) (hvs : own.map (·.2) = vs)
    (hs : ∀ x, foldedSetIterable iter X.env x = pure x := by intro _; rfl) (hs1 : ∀ env x, foldedSetIterable iter1 env x = pure x := by intro _ _; rfl) : PE X (.ListComp elt [⟨tg, iter, ifs, 0⟩, ⟨tg1, iter1, ifs1, 0⟩] scope pos) (TEm G W false (mLc2 vs t mi tt vs1 mi1 t1 tt1 me c)) :=
  hvs ▸ (pe_lc2 hc hN hi ok hsub hg ht hi1 hg1 ht1 he hs hs1).imp fun _ _ _ h => tem_lc2 nd nd1 hts hts1 hsub h
theorem s_lc2 {i : Nat} {y : Str} {py : Pos} {elt tg iter tg1 iter1 : Expr} {ifs ifs1 : List Expr} {scope : Scope} {own : List (Str × Nat)} {vs vs1 : List Nat} {pos spos : Pos} {t t1 : Tg} {mi mi1 : M (List D)} {tt tt1 : M Bool} {me : M Rv} {c : Sh} (hc : X.calm = true) (hN : X.N.Nodup) (hi : PI X tg iter (TIm G W mi)) (ok : BlkOk X.N X.env.scope scope own)
    (hg : ∀ (s : Shared) (H : Hp) (C : Addr) (cl : List (Str × Addr)) (fp : List Addr), PG (X.blk s H scope (compEnvC scope cl C X.env) fp) tg (TGm G noB t))
    (ht : ∀ (s : Shared) (H : Hp) (C : Addr) (cl : List (Str × Addr)) (fp : List Addr), PTs (X.blk s H scope (compEnvC scope cl C X.env) fp) ifs (TTm G W0 q1 tt))
    (hi1 : ∀ (s : Shared) (H : Hp) (C : Addr) (cl : List (Str × Addr)) (fp : List Addr), PI (X.blk s H scope (compEnvC scope cl C X.env) fp) tg1 iter1 (TIm G W0 mi1))
    (hg1 : ∀ (s : Shared) (H : Hp) (C : Addr) (cl : List (Str × Addr)) (fp : List Addr), PG (X.blk s H scope (compEnvC scope cl C X.env) fp) tg1 (TGm G noB t1))
    (ht1 : ∀ (s : Shared) (H : Hp) (C : Addr) (cl : List (Str × Addr)) (fp : List Addr), PTs (X.blk s H scope (compEnvC scope cl C X.env) fp) ifs1 (TTm G W0 q2 tt1))
    (he : ∀ (s : Shared) (H : Hp) (C : Addr) (cl : List (Str × Addr)) (fp : List Addr), PE (X.blk s H scope (compEnvC scope cl C X.env) fp) elt (TEm G W0 q3 me)) (hsw : swapsWith (.ListComp elt [⟨tg, iter, ifs, 0⟩, ⟨tg1, iter1, ifs1, 0⟩] scope pos) (some (.Name y py)) spos.line X.env = pure true) (nd : (own.map (·.2)).Nodup) (nd1 : vs1.Nodup) (hts : ∀ j ∈ t.slots, j ∈ own.map (·.2)) (hts1 : ∀ j ∈ t1.slots, j ∈ vs1) (hsub : ∀ j ∈ vs1, j ∈ own.map (·.2)) (hvs : own.map (·.2) = vs)
    (hy : X.N[i]? = some y := by rfl) (hyl : X.env.scope.names.lookup y = some .local := by rfl)
    (hs : ∀ x, foldedSetIterable iter X.env x = pure x := by intro _; rfl) (hs1 : ∀ env x, foldedSetIterable iter1 env x = pure x := by intro _ _; rfl) : PS X (.Assign [.Name y py] (.ListComp elt [⟨tg, iter, ifs, 0⟩, ⟨tg1, iter1, ifs1, 0⟩] scope pos) spos) (TSm G W B (sSet B i (mLc2 vs t mi tt vs1 mi1 t1 tt1 me c))) := by
  subst hvs
  refine (ps_setLc2 hc hN hy hyl hsw hi ok hsub hg ht hi1 hg1 ht1 he hs hs1).imp fun D σ H h => ?_
  have h1 := tsm_set (q := false) h
  exact tem_lc2 nd nd1 hts hts1 hsub h1
end
end
end Dt

/-! A place that is looked at; bodies that are never reached; the head with the tables of generator expressions. -/
namespace Dt
noncomputable section
open PySem PySem.Spec PyProof.Rows L2
/-- of a place whose thing is shared: the thing -/
def mPeek (m : M Rv) : M Rv := fun S => match m S with
  | none => none
  | some (.error e, S1) => some (.error e, S1)
  | some (.ok (.tmp sh d), S1) => some (.ok (.tmp sh d), S1)
  | some (.ok (.ref i p), S1) => match (Rv.ref i p).see S1 with
    | some (.fz, d) => some (.ok (.tmp .fz d), S1)
    | _ => none
section
variable {X : Cx} {G : Gm} {W : WX} {B : Bw} {q q0 q1 q2 q3 : Bool}
theorem tem_peek {m : M Rv} {σ : Sg} {H : Hp} {Q : VK} (h : TEm G W q (mPeek m) σ H Q) : TEm G W q m σ H Q := by
  obtain ⟨S, T, r, S', ag, ow, e, k⟩ := h
  unfold mPeek at e
  split at e
  · cases e
  · rename_i e1
    cases e
    exact ⟨S, T, _, _, ag, ow, e1, k⟩
  · rename_i e1
    cases e
    exact ⟨S, T, _, _, ag, ow, e1, k⟩
  · rename_i i p S1 e1
    split at e
    · rename_i d e2
      cases e
      refine ⟨S, T, _, _, ag, ow, e1, fun v H' a1 a2 a3 a4 => ?_⟩
      obtain ⟨O, o⟩ := a2
      obtain ⟨f, rt⟩ := see_rt a1 o a3 e2
      refine k v H' a1 ?_ trivial a4
      have o : OwnO G H' (cl S' σ ++ T ++ tabC G) O := by simpa [Rv.cls] using o
      cases rt with
      | fz h => exact ⟨O, o.cons h⟩
    · cases e
theorem e_peek {e : Expr} {m : M Rv} (h : PE X e (TEm G W q m)) : PE X e (TEm G W q (mPeek m)) := h.imp fun _ _ _ h => tem_peek h
theorem pss_fail {sts : List Stmt} : PSs X sts (TSm G W B mFail) := ⟨fun pins s σ H D I ⟨_, _, _, _, _, _, e, _⟩ => by cases e⟩
theorem ok_never {P : Program} {w : World} {K : PySem.W.Frag} {mg : Str → Option Value} {base : Heap} {x qual : Str} {st : Stmt} {f : Addr} {fd : FuncData} {N ps : List Str} {k p n : Nat} {B : Bw} (F : Fun K x qual st f fd) (S : FnScope N ps (defScope st)) (hp : ps.length = p) (hn : N.length = n) :
    FnOk P w K mg base (L2.CX P w) (k + 1) f fd ps (spF G (fnP p n B mFail)) := fn_p F S hp hn fun _ _ _ _ _ _ _ _ => pss_fail
/-- what is known of a generator expression's def -/
structure GenT (G : Gm) (base : Heap) (mg : Str → Option Value) (fd : FuncData) (c P : Addr) : Prop where
  mem : P ∈ G.tabs
  tb : GxR.TabB base mg c P
  code : fd.code = .ref c
end
end
end Dt

/-! Constants of the text, all and any of a list, counting in short. -/
namespace Dt
noncomputable section
open PySem PySem.Spec PyProof.Rows L2
/-- a constant of the text -/
def ConIs (mg : Str → Option Value) (x : Str) (v : V) : Prop := ∃ u, mg x = some u ∧ RelV v u
section
variable {X : Cx} {G : Gm} {W : WX} {B : Bw} {q q0 q1 q2 q3 : Bool}
theorem e_globS {x y : Str} {pos : Pos} (h : ConIs X.mg x (.str y)) (hg : Gl X x := by rfl) (hd : (x == ("__debug__" : Str)) = false := by decide) : PE X (.Name x pos) (TEm G W true (mCon (.str y.cps.toList))) := by
  obtain ⟨u, h1, h2⟩ := h
  exact pe_mglob hg h1 h2 (fun _ _ => .str y) hd
theorem e_globI {x : Str} {i : Int} {pos : Pos} (h : ConIs X.mg x (.int i)) (hg : Gl X x := by rfl) (hd : (x == ("__debug__" : Str)) = false := by decide) : PE X (.Name x pos) (TEm G W true (mCon (.int i))) := by
  obtain ⟨u, h1, h2⟩ := h
  exact pe_mglob hg h1 h2 (fun _ _ => .int i) hd
theorem rfs_strs {N : Addr → Prop} {H : Hp} : ∀ {ys : List Str}, RFs G N H (ys.map V.str) (ys.map fun s => D.str s.cps.toList)
  | [] => .nil
  | y :: ys => .cons (.str y) rfs_strs
theorem e_globT {x : Str} {a : Addr} {ys : List Str} {pos : Pos} (h : X.mg x = some (.ref a)) (kt : KTup G.K a (ys.map V.str)) (hg : Gl X x := by rfl) (hd : (x == ("__debug__" : Str)) = false := by decide) : PE X (.Name x pos) (TEm G W true (mCon (.tup (ys.map fun s => D.str s.cps.toList)))) :=
  pe_mglob (v := .ref a) hg h rfl (fun _ _ => .tup (.inr kt) rfs_strs) hd
/-! all, any of a list -/
def bls : List D → Option (List Bool)
  | [] => some []
  | .bl b :: ds => match bls ds with
    | some bs => some (b :: bs)
    | none => none
  | _ => none
def allF : D → Option (Sh × D)
  | .lst ds => match bls ds with
    | some bs => some (.fz, .bl (bs.all id))
    | none => none
  | _ => none
def anyF : D → Option (Sh × D)
  | .lst ds => match bls ds with
    | some bs => some (.fz, .bl (bs.any id))
    | none => none
  | _ => none
theorem bls_vs {N : Addr → Prop} {H : Hp} : ∀ {vs : List V} {ds : List D} {bs : List Bool}, RFs G N H vs ds → bls ds = some bs → vs = bs.map V.bl
  | _, _, _, .nil, e => by cases e; rfl
  | _, _, _, .cons h r, e => by
    unfold bls at e
    split at e
    · rename_i hd; cases hd
    · rename_i b ds' hd
      cases hd
      cases h
      split at e
      · rename_i bs' e'
        cases e
        rw [bls_vs r e']
        rfl
      · cases e
    · cases e
theorem fun_all : FunOk G (rAll G.K) (on1 allF) := FunOk.one fun H L O v d0 sh d Q o rx e k => by
  unfold allF at e
  split at e
  · split at e
    · rename_i ds bs hb
      cases e
      obtain ⟨a, vs, rfl, t, r⟩ := rx.lst_at
      rw [bls_vs r hb] at t
      exact ⟨a, bs, rfl, t, k _ H (Same.refl H) ⟨O, o.cons (.bl _)⟩⟩
    · cases e
  · cases e
theorem fun_any : FunOk G (rAny G.K) (on1 anyF) := FunOk.one fun H L O v d0 sh d Q o rx e k => by
  unfold anyF at e
  split at e
  · split at e
    · rename_i ds bs hb
      cases e
      obtain ⟨a, vs, rfl, t, r⟩ := rx.lst_at
      rw [bls_vs r hb] at t
      exact ⟨a, bs, rfl, t, k _ H (Same.refl H) ⟨O, o.cons (.bl _)⟩⟩
    · cases e
  · cases e
variable {e : Expr} {p pos : Pos}
theorem f_all {es : List Expr} {as : M (List Rv)} (hK : X.K = G.K) (hc : X.calm = true) (hg : Gl X "all") (hm : X.mg "all" = none) (ha : PA X (e :: es) (TAm G W q as)) (he : starEach (e :: es) X.env = (false, eval e X.env) :: starEach es X.env := by rfl) (hpl : (backTo pos (starEach es X.env)).any (·.1) = false := by rfl) :
    PE X (.Call (.Name "all" p) (e :: es) [] pos) (TEm G W q (mFun (on1 allF) as)) :=
  pe_mbi (cr_all hc) (hK ▸ fun_all) hg hm (by decide +kernel) ha (by decide) (by decide) he hpl
theorem f_any {es : List Expr} {as : M (List Rv)} (hK : X.K = G.K) (hc : X.calm = true) (hg : Gl X "any") (hm : X.mg "any" = none) (ha : PA X (e :: es) (TAm G W q as)) (he : starEach (e :: es) X.env = (false, eval e X.env) :: starEach es X.env := by rfl) (hpl : (backTo pos (starEach es X.env)).any (·.1) = false := by rfl) :
    PE X (.Call (.Name "any" p) (e :: es) [] pos) (TEm G W q (mFun (on1 anyF) as)) :=
  pe_mbi (cr_any hc) (hK ▸ fun_any) hg hm (by decide +kernel) ha (by decide) (by decide) he hpl
def subIF : D → D → Option (Sh × D)
  | .int i, .int j => some (.fz, .int (i - j))
  | _, _ => none
theorem fun_addR : Fun2 G (fun x y H Q => L2.rAdd x y H Q) addIF := Fun2.mk fun H L O v1 v2 d1 d2 sh d Q o h1 h2 e k => by
  unfold addIF at e
  split at e
  · cases e
    cases h1.int_at; cases h2.int_at
    exact ⟨_, _, rfl, rfl, k _ H (Same.refl H) ⟨O, o.cons (.int _)⟩⟩
  · cases e
theorem fun_subR : Fun2 G (fun x y H Q => L2.rSub x y H Q) subIF := Fun2.mk fun H L O v1 v2 d1 d2 sh d Q o h1 h2 e k => by
  unfold subIF at e
  split at e
  · cases e
    cases h1.int_at; cases h2.int_at
    exact ⟨_, _, rfl, rfl, k _ H (Same.refl H) ⟨O, o.cons (.int _)⟩⟩
  · cases e
/-! the signs of a text -/
def sgD (x : List Nat) : List D := x.map fun c => .str [c]
def iSgn (m : M Rv) : M (List D) := fun S => match m S with
  | none => none
  | some (.error e, S1) => some (.error e, S1)
  | some (.ok (.tmp sh (.str x)), S1) => if sh.whole = true then some (.ok (sgD x), S1) else none
  | _ => none
theorem itok_sgn {x : Str} : ItOk G (Its x) [] (sgD x.cps.toList) := fun H L i h => by
  refine ⟨fun d hd => ?_, fun hl => ?_⟩
  · unfold sgD at hd
    rw [List.getElem?_map] at hd
    cases hc : x.cps.toList[i]? with
    | none => rw [hc] at hd; cases hd
    | some c =>
      rw [hc] at hd
      cases hd
      have hi : i < x.cps.size := by
        have := (List.getElem?_eq_some_iff.mp hc).1
        simpa using this
      refine ⟨hi, fun v H' y => ?_⟩
      obtain ⟨rfl, c', h1, rfl⟩ := y
      have : c' = c := by
        rw [Array.getElem?_toList] at hc
        rw [hc] at h1
        exact (Option.some.inj h1).symm
      subst this
      have := Own.strC (⟨#[c']⟩ : Str) h
      exact this
  · show x.cps.size ≤ i
    simpa [sgD] using hl
theorem i_sgn {tg e : Expr} {m : M Rv} (he : PE X e (TEm G W q m)) : PI X tg e (TIm G W (iSgn m)) := (pi_str he).imp fun σ H R h => by
  obtain ⟨S, T, r, S', ag, ow, e, k⟩ := h
  unfold iSgn at e
  split at e
  · cases e
  · rename_i e1
    cases e
    exact ⟨S, T, _, _, ag, ow, e1, k⟩
  · rename_i sh x S1 e1
    split at e
    · rename_i w
      cases e
      refine ⟨S, T, _, _, ag, ow, e1, fun v H' a1 a2 _ _ => ?_⟩
      have a3 : Own G H' (⟨.fz, v, .str x⟩ :: (cl S' σ ++ T)) := Own.freeze w a2
      obtain ⟨O, o⟩ := id a3
      have hv := (RX.fz o.head.1).str_at
      subst hv
      refine ⟨_, rfl, k _ [] H' ?_ a1 a3.tail⟩
      have := itok_sgn (G := G) (x := ⟨x.toArray⟩)
      simpa using this
    · cases e
  · cases e
end
end
end Dt

/-! Dict comprehensions stored in a name; tests in dicts. -/
namespace Dt
noncomputable section
open PySem PySem.Spec PyProof.Rows L2
theorem swD_true {kx vx : Expr} {gs : List Comprehension} {scope : Scope} {pos py : Pos} {y : Str} {l : Nat} {env : Env} (hk : env.scope.kind = .function) (hy : env.scope.names.lookup y = some .local) (hl : (py.line == pos.line) = true)
    (ha : (scope.names.any fun (n, k) => n == y && (k == .local || k == .cell)) = false) : swapsWith (.DictComp kx vx gs scope pos) (some (.Name y py)) l env = pure true := by
  have ky : env.kindOf y = some .local := hy
  have hb : env.blockKind = .function := by unfold Env.blockKind; rw [hk]; rfl
  unfold swapsWith
  simp only [hb, ky, ha, Expr.pos, hl]
  rfl
theorem swS_true {kx : Expr} {gs : List Comprehension} {scope : Scope} {pos py : Pos} {y : Str} {l : Nat} {env : Env} (hk : env.scope.kind = .function) (hy : env.scope.names.lookup y = some .local) (hl : (py.line == pos.line) = true)
    (ha : (scope.names.any fun (n, k) => n == y && (k == .local || k == .cell)) = false) : swapsWith (.SetComp kx gs scope pos) (some (.Name y py)) l env = pure true := by
  have ky : env.kindOf y = some .local := hy
  have hb : env.blockKind = .function := by unfold Env.blockKind; rw [hk]; rfl
  unfold swapsWith
  simp only [hb, ky, ha, Expr.pos, hl]
  rfl
section
variable {X : Cx} {G : Gm} {W : WX} {B : Bw} {q q0 q1 q2 q3 : Bool} {a b : Expr} {ma mb : M Rv} {pos : Pos}
theorem t_inD (hu : X.A.units + 65 < cLine) (ha : PE X a (TEm G W q1 ma)) (hb : PE X b (TEm G W q2 mb)) (hm : behindInMarks .In b = false := by rfl) : PT X (.Compare a [.In] [b] pos) (TTm G W (q1 && q2) (mBool (mOp2 (dinF false) q1 ma q2 mb))) := pt_mcmp (op_inDi hu) fun_din ha hb hm
theorem t_notinD (hu : X.A.units + 65 < cLine) (ha : PE X a (TEm G W q1 ma)) (hb : PE X b (TEm G W q2 mb)) (hm : behindInMarks .NotIn b = false := by rfl) : PT X (.Compare a [.NotIn] [b] pos) (TTm G W (q1 && q2) (mBool (mOp2 (dinF true) q1 ma q2 mb))) := pt_mcmp (op_notInDi hu) fun_din ha hb hm
theorem s_dc {i : Nat} {y : Str} {py : Pos} {kx vx tg iter : Expr} {ifs : List Expr} {scope : Scope} {own : List (Str × Nat)} {vs : List Nat} {spos : Pos} {t : Tg} {mi : M (List D)} {tt : M Bool} {mk me : M Rv} {c : Sh} (hc : X.calm = true) (hN : X.N.Nodup) (hi : PI X tg iter (TIm G W mi)) (ok : BlkOk X.N X.env.scope scope own)
    (hg : ∀ (s : Shared) (H : Hp) (C : Addr) (cl : List (Str × Addr)) (fp : List Addr), PG (X.blk s H scope (compEnvC scope cl C X.env) fp) tg (TGm G noB t))
    (ht : ∀ (s : Shared) (H : Hp) (C : Addr) (cl : List (Str × Addr)) (fp : List Addr), PTs (X.blk s H scope (compEnvC scope cl C X.env) fp) ifs (TTm G W0 q1 tt))
    (hk : ∀ (s : Shared) (H : Hp) (C : Addr) (cl : List (Str × Addr)) (fp : List Addr), PE (X.blk s H scope (compEnvC scope cl C X.env) fp) kx (TEm G W0 q2 mk))
    (he : ∀ (s : Shared) (H : Hp) (C : Addr) (cl : List (Str × Addr)) (fp : List Addr), PE (X.blk s H scope (compEnvC scope cl C X.env) fp) vx (TEm G W0 q3 me)) (hsw : swapsWith (.DictComp kx vx [⟨tg, iter, ifs, 0⟩] scope pos) (some (.Name y py)) spos.line X.env = pure true) (nd : (own.map (·.2)).Nodup) (hts : ∀ j ∈ t.slots, j ∈ own.map (·.2)) (hvs : own.map (·.2) = vs)
    (hy : X.N[i]? = some y := by rfl) (hyl : X.env.scope.names.lookup y = some .local := by rfl) (hs : ∀ x, foldedSetIterable iter X.env x = pure x := by intro _; rfl) : PS X (.Assign [.Name y py] (.DictComp kx vx [⟨tg, iter, ifs, 0⟩] scope pos) spos) (TSm G W B (sSet B i (mDc vs t mi tt mk me c))) := by
  subst hvs
  refine PS.imp (t := tAsg (tDc (TIm G W mi) (TGm G noB t) (TTm G W0 q1 tt) (TEm G W0 q2 mk) (TEm G W0 q3 me) (own.map (·.2))) (gName i)) ⟨fun pins s σ H D I h => ?_⟩ fun D σ H h => tem_dc nd hts (tsm_set (q := false) h)
  rw [exec_Assign_Name_used _ _ _ _ hsw]
  refine wpAny_bind (wpAny_standAt (wpAny_bind ?_))
  show wpAny _ X.A (do let _ ← comprehension (.DictComp kx vx [⟨tg, iter, ifs, 0⟩] scope pos) scope X.env (firstIterPos [⟨tg, iter, ifs, 0⟩] pos) newDict false (eval iter X.env) (some (assign (.Name y py) X.env))) _ _ s
  have h : tDc (TIm G W mi) (TGm G noB t) (TTm G W0 q1 tt) (TEm G W0 q2 mk) (TEm G W0 q3 me) (own.map (·.2)) σ H (fun x H1 => gName i x σ H1 D.nx) := h
  refine wpAny_bind (thn (dc_core (Qf := fun _ s' => SP X pins D .next s') hc hN I hi ok hg ht hk he hs h fun L C s' m H' I' q hn f => ?_) fun _ s' hq => wpAny_pure (wpAny_pure hq))
  show wpAny _ _ (assign (.Name y py) X.env (.ref L)) _ _ _
  refine wpAny_assign_Name (store_ok2 (v := V.ref L) I' hN hy (.inl hyl) rfl (fun s2 I2 ⟨a, sb, ha⟩ => ?_) (.inr hyl))
  obtain ⟨f0, f1, f2, f3, f4, f5⟩ := f
  have haC : C ≠ a := by
    rcases ha with z | z
    · rw [z]; exact f1
    · exact fun e => f4 y a z e.symm
  exact ⟨m, hn.sameBut sb haC, fun h3 sb3 => ⟨_, H', I2.turned (t' := s2.toks) (fun b o hb e => (sb3.2 b hb).trans e) f0 f1 f3 f4 f5, q⟩⟩
end
end
end Dt

/-! How the newer cores are computed. -/
namespace Dt
noncomputable section
open PySem PySem.Spec PyProof.Rows L2
def seeP (o : Option Slot) (p : List Stp) : Option (Sh × D) := match o with
  | some (some sd) => pathD sd p
  | _ => none
section
variable {S S1 : List Slot} {X : XP} {Q : Rv → List Slot → Prop} {QB : Bool → List Slot → Prop} {QA : List Rv → List Slot → Prop} {QI : List D → List Slot → Prop} {K : Kn} {B : Bw}
@[simp] theorem see_tmp {sh : Sh} {d : D} : (Rv.tmp sh d).see S = some (sh, d) := (rfl)
@[simp] theorem see_ref {i : Nat} {p : List Stp} : (Rv.ref i p).see S = seeP S[i]? p := (rfl)
@[simp] theorem seeP_s {sd : Sh × D} {p : List Stp} : seeP (some (some sd)) p = pathD sd p := (rfl)
@[simp] theorem pathD_0 {sd : Sh × D} : pathD sd [] = some sd := by unfold pathD; rfl
def pathI (c : Sh) (o : Option D) (p : List Stp) : Option (Sh × D) := match o with
  | some d => pathD (c, d) p
  | none => none
@[simp] theorem pathI_s {c : Sh} {d : D} {p : List Stp} : pathI c (some d) p = pathD (c, d) p := (rfl)
@[simp] theorem pathD_ix {c : Sh} {ds : List D} {i : Nat} {p : List Stp} : pathD (.lst c, .lst ds) (.ix i :: p) = pathI c ds[i]? p := by
  conv => lhs; unfold pathD
  rfl
@[simp] theorem pathD_ky {c : Sh} {kvs : List (D × D)} {k : D} {p : List Stp} : pathD (.dct c, .dct kvs) (.ky k :: p) = if dkOk kvs = true ∧ isKy k = true then pathI c (kvGet kvs k) p else none := by
  conv => lhs; unfold pathD
  rfl
def pathF (cs : List Sh) (fs : List (Nat × D)) (j : Option Nat) (p : List Stp) : Option (Sh × D) := match j with
  | some j => match cs[j]?, fs[j]? with
    | some sh, some kd => pathD (sh, kd.2) p
    | _, _ => none
  | none => none
@[simp] theorem pathD_fld {cs : List Sh} {c k : Nat} {fs : List (Nat × D)} {p : List Stp} : pathD (.ins cs, .ins c fs) (.fld k :: p) = pathF cs fs (fs.findIdx? (fun x => x.1 == k)) p := by
  conv => lhs; unfold pathD
  rfl
theorem pathF_s {cs : List Sh} {fs : List (Nat × D)} {j : Nat} {sh : Sh} {kd : Nat × D} {p : List Stp} (h1 : cs[j]? = some sh) (h2 : fs[j]? = some kd) : pathF cs fs (some j) p = pathD (sh, kd.2) p := by
  unfold pathF
  simp only [h1, h2]
/-! fields of a name -/
def Evg (o : Option Slot) (c k i : Nat) (Q : Rv → Prop) : Prop := match o with
  | some (some (.fz, .ins c' fs)) => c' = c ∧ ∃ d, fs.lookup k = some d ∧ Q (.tmp .fz d)
  | some (some (.ins cs, .ins c' fs)) => c' = c ∧ (fs.lookup k).isSome = true ∧ Q (.ref i [.fld k])
  | _ => False
@[simp] theorem evf_r {c k i : Nat} {Q : Rv → Prop} : Evf c k (.ref i []) S Q ↔ Evg S[i]? c k i Q := by
  unfold Evf
  rw [see_ref]
  cases S[i]? with
  | none => exact Iff.rfl
  | some x => cases x with
    | none => exact Iff.rfl
    | some sd =>
      obtain ⟨sh, d⟩ := sd
      simp only [seeP_s, pathD_0]
      cases sh <;> cases d <;> exact Iff.rfl
@[simp] theorem evg_f {c k i c' : Nat} {fs : List (Nat × D)} {Q : Rv → Prop} : Evg (some (some (.fz, .ins c' fs))) c k i Q ↔ c' = c ∧ ∃ d, fs.lookup k = some d ∧ Q (.tmp .fz d) := Iff.rfl
@[simp] theorem evg_o {c k i c' : Nat} {cs : List Sh} {fs : List (Nat × D)} {Q : Rv → Prop} : Evg (some (some (.ins cs, .ins c' fs))) c k i Q ↔ c' = c ∧ (fs.lookup k).isSome = true ∧ Q (.ref i [.fld k]) := Iff.rfl
/-! a place looked at -/
def Epk (r : Rv) (S : List Slot) (Q : Sh → D → Prop) : Prop := match r with
  | .tmp sh d => Q sh d
  | .ref i p => ∃ d, seeP S[i]? p = some (.fz, d) ∧ Q .fz d
@[simp] theorem epk_t {sh : Sh} {d : D} {Q : Sh → D → Prop} : Epk (.tmp sh d) S Q ↔ Q sh d := Iff.rfl
@[simp] theorem epk_r {i : Nat} {p : List Stp} {Q : Sh → D → Prop} : Epk (.ref i p) S Q ↔ ∃ d, seeP S[i]? p = some (.fz, d) ∧ Q .fz d := Iff.rfl
@[simp] theorem e_peekE {m : M Rv} : Ev (mPeek m) S X Q ↔ Ev m S X fun r S1 => Epk r S1 fun sh d => Q (.tmp sh d) S1 := by
  unfold Ev mPeek
  cases m S with
  | none => exact Iff.rfl
  | some x =>
    obtain ⟨r, S1⟩ := x
    cases r with
    | error e => exact Iff.rfl
    | ok rv => cases rv with
      | tmp sh d => exact Iff.rfl
      | ref i p =>
        simp only [see_ref, epk_r]
        cases seeP S1[i]? p with
        | none => simp
        | some sd =>
          obtain ⟨sh, d⟩ := sd
          cases sh <;> simp
/-! things at places, in operands -/
def seeQ (o : Option (Sh × D)) (k : Option (List D)) : Option (List D) := match o with
  | some (sh, d) => if sh.flat = true then consO d k else none
  | _ => none
@[simp] theorem seeQ_s {sh : Sh} {d : D} {k : Option (List D)} : seeQ (some (sh, d)) k = if sh.flat = true then consO d k else none := (rfl)
@[simp] theorem e_seeRp {i : Nat} {s : Stp} {p : List Stp} {rs : List Rv} : seeAll S (.ref i (s :: p) :: rs) = seeQ (seeP S[i]? (s :: p)) (seeAll S rs) := by
  have h : seeAll S (.ref i (s :: p) :: rs) = match (Rv.ref i (s :: p)).see S with
    | some (sh, d) => if sh.flat = true then match seeAll S rs with
          | some ds => some (d :: ds)
          | none => none
        else none
    | none => none := rfl
  rw [h, see_ref]
  cases seeP S[i]? (s :: p) with
  | none => rfl
  | some sd =>
    obtain ⟨sh, d⟩ := sd
    simp only [seeQ_s]
    split
    · cases seeAll S rs <;> rfl
    · rfl
@[simp] theorem fl_set {b : Bool} : Sh.flat (.set b) = true := (rfl)
@[simp] theorem w_set {b : Bool} : Sh.whole (.set b) = true := by simp [Sh.whole]
@[simp] theorem w_ins {cs : List Sh} : Sh.whole (.ins cs) = wholes cs := by simp [Sh.whole]
@[simp] theorem ws_0 : wholes [] = true := by simp [wholes]
@[simp] theorem ws_1 {c : Sh} {cs : List Sh} : wholes (c :: cs) = (c.whole && wholes cs) := by simp [wholes]
@[simp] theorem ft_dct : fits (.dct .fz) (.dct .fz) = true := (rfl)
@[simp] theorem shOk_dct {c : Sh} : shOk (.dct c) = true := (rfl)
@[simp] theorem shOk_set {c : Bool} : shOk (.set c) = true := (rfl)
/-! x[i] and d[k] as places -/
def Eix (r1 r2 : Rv) (S : List Slot) (Q : Rv → Prop) : Prop := match r1 with
  | .ref i p => match seeP S[i]? p, r2.see S with
    | some (.lst c, .lst ds), some (sh, .int j) => 0 ≤ j ∧ j < ds.length ∧ shOk sh = true ∧ Q (.ref i (p ++ [.ix j.toNat]))
    | _, _ => False
  | _ => False
@[simp] theorem e_ixp {a b : M Rv} : Ev (mIxP a b) S X Q ↔ Ev a S X fun r S1 => (∃ i p, r = .ref i p) ∧ Ev b S1 X fun r2 S2 => Eix r r2 S2 fun r' => Q r' S2 := by
  unfold Ev mIxP
  cases a S with
  | none => exact Iff.rfl
  | some x =>
    obtain ⟨r, S1⟩ := x
    cases r with
    | error e => exact Iff.rfl
    | ok rv => cases rv with
      | tmp sh d => simp
      | ref i p =>
        simp only [Rv.ref.injEq, exists_and_left, exists_eq', and_true, true_and]
        cases b S1 with
        | none => exact Iff.rfl
        | some y =>
          obtain ⟨r2, S2⟩ := y
          cases r2 with
          | error e => exact Iff.rfl
          | ok r2 =>
            simp only [Eix, see_ref]
            cases seeP S2[i]? p with
            | none => exact Iff.rfl
            | some sd =>
              obtain ⟨sh0, d0⟩ := sd
              cases r2.see S2 with
              | none => cases sh0 <;> cases d0 <;> exact Iff.rfl
              | some sd2 =>
                obtain ⟨sh, d⟩ := sd2
                cases sh0 <;> cases d0 <;> cases d <;> try exact Iff.rfl
                rename_i c ds j
                by_cases h : 0 ≤ j ∧ j < ds.length ∧ shOk sh = true
                · simp [h]
                · simp only [if_neg h]
                  exact ⟨fun q => q.elim, fun q => h ⟨q.1, q.2.1, q.2.2.1⟩⟩
def Eix2 (o o2 : Option (Sh × D)) (i : Nat) (p : List Stp) (Q : Rv → Prop) : Prop := match o, o2 with
  | some (.lst _, .lst ds), some (sh, .int j) => 0 ≤ j ∧ j < ds.length ∧ shOk sh = true ∧ Q (.ref i (p ++ [.ix j.toNat]))
  | _, _ => False
@[simp] theorem eix_r {i : Nat} {p : List Stp} {r2 : Rv} {Q : Rv → Prop} : Eix (.ref i p) r2 S Q ↔ Eix2 (seeP S[i]? p) (r2.see S) i p Q := by
  unfold Eix Eix2
  rfl
@[simp] theorem eix2_e {c sh : Sh} {ds : List D} {j : Int} {i : Nat} {p : List Stp} {Q : Rv → Prop} : Eix2 (some (.lst c, .lst ds)) (some (sh, .int j)) i p Q ↔ 0 ≤ j ∧ j < ds.length ∧ shOk sh = true ∧ Q (.ref i (p ++ [.ix j.toNat])) := Iff.rfl
def Eky (r1 r2 : Rv) (S : List Slot) (Q : Rv → Prop) : Prop := match r1 with
  | .ref i p => match seeP S[i]? p, r2.see S with
    | some (.dct c, .dct kvs), some (sh, k) => dkOk kvs = true ∧ isKy k = true ∧ (kvGet kvs k).isSome = true ∧ sh.flat = true ∧ Q (.ref i (p ++ [.ky k]))
    | _, _ => False
  | _ => False
@[simp] theorem e_kyP {a b : M Rv} : Ev (mKyP a b) S X Q ↔ Ev a S X fun r S1 => (∃ i p, r = .ref i p) ∧ Ev b S1 X fun r2 S2 => Eky r r2 S2 fun r' => Q r' S2 := by
  unfold Ev mKyP
  cases a S with
  | none => exact Iff.rfl
  | some x =>
    obtain ⟨r, S1⟩ := x
    cases r with
    | error e => exact Iff.rfl
    | ok rv => cases rv with
      | tmp sh d => simp
      | ref i p =>
        simp only [Rv.ref.injEq, exists_and_left, exists_eq', and_true, true_and]
        cases b S1 with
        | none => exact Iff.rfl
        | some y =>
          obtain ⟨r2, S2⟩ := y
          cases r2 with
          | error e => exact Iff.rfl
          | ok r2 =>
            simp only [Eky, see_ref]
            cases seeP S2[i]? p with
            | none => exact Iff.rfl
            | some sd =>
              obtain ⟨sh0, d0⟩ := sd
              cases r2.see S2 with
              | none => cases sh0 <;> cases d0 <;> exact Iff.rfl
              | some sd2 =>
                obtain ⟨sh, d⟩ := sd2
                cases sh0 <;> cases d0 <;> try exact Iff.rfl
                rename_i c kvs
                by_cases h : dkOk kvs = true ∧ isKy d = true ∧ (kvGet kvs d).isSome = true ∧ sh.flat = true
                · simp [h]
                · simp only [if_neg h]
                  exact ⟨fun q => q.elim, fun q => h ⟨q.1, q.2.1, q.2.2.1, q.2.2.2.1⟩⟩
def Eky2 (o o2 : Option (Sh × D)) (i : Nat) (p : List Stp) (Q : Rv → Prop) : Prop := match o, o2 with
  | some (.dct _, .dct kvs), some (sh, k) => dkOk kvs = true ∧ isKy k = true ∧ (kvGet kvs k).isSome = true ∧ sh.flat = true ∧ Q (.ref i (p ++ [.ky k]))
  | _, _ => False
@[simp] theorem eky_r {i : Nat} {p : List Stp} {r2 : Rv} {Q : Rv → Prop} : Eky (.ref i p) r2 S Q ↔ Eky2 (seeP S[i]? p) (r2.see S) i p Q := by
  unfold Eky Eky2
  rfl
@[simp] theorem eky2_e {c sh : Sh} {kvs : List (D × D)} {k : D} {i : Nat} {p : List Stp} {Q : Rv → Prop} : Eky2 (some (.dct c, .dct kvs)) (some (sh, k)) i p Q ↔ dkOk kvs = true ∧ isKy k = true ∧ (kvGet kvs k).isSome = true ∧ sh.flat = true ∧ Q (.ref i (p ++ [.ky k])) := Iff.rfl
def Evxp (o : Option (Sh × D)) (P : Sh → D → Prop) : Prop := match o with
  | some (sh, d) => P sh d
  | none => False
@[simp] theorem evxp_e {sh : Sh} {d : D} {P : Sh → D → Prop} : Evxp (some (sh, d)) P ↔ P sh d := Iff.rfl
@[simp] theorem evx_rp {i : Nat} {s : Stp} {p : List Stp} {P : Sh → D → Prop} : Evx (.ref i (s :: p)) S P ↔ Evxp (seeP S[i]? (s :: p)) P := by
  unfold Evx Evxp
  rw [see_ref]
  all_goals rfl
@[simp] theorem k_refp {q : Bool} {i : Nat} {s : Stp} {p : List Stp} : (Rv.ref i (s :: p)).keeps q = q := (rfl)
/-! operands first -/
def val {α : Type} (a : α) (S1 : List Slot) : M α := fun _ => some (.ok a, S1)
section
variable {as : M (List Rv)} {m : M Rv} {ms : List (Bool × M Rv)}
theorem e_appendP0 : Ev (mAppendP as) S X Q ↔ Ev as S X fun rs S1 => Ev (mAppendP (val rs S1)) S1 X Q := by
  unfold Ev mAppendP
  cases as S with
  | none => exact Iff.rfl
  | some x => obtain ⟨r, S1⟩ := x; cases r <;> exact Iff.rfl
theorem e_pop0 : Ev (mPop as) S X Q ↔ Ev as S X fun rs S1 => Ev (mPop (val rs S1)) S1 X Q := by
  unfold Ev mPop
  cases as S with
  | none => exact Iff.rfl
  | some x => obtain ⟨r, S1⟩ := x; cases r <;> exact Iff.rfl
@[simp] theorem e_appendP : Ev (mAppendP (mArgs ms)) S X Q ↔ Ev (mArgs ms) S X fun rs S1 => Ev (mAppendP (val rs S1)) S1 X Q := e_appendP0
@[simp] theorem e_pop : Ev (mPop (mArgs ms)) S X Q ↔ Ev (mArgs ms) S X fun rs S1 => Ev (mPop (val rs S1)) S1 X Q := e_pop0
theorem e_put : Es (sPut as) S K ↔ Ev as S K.ex fun rs S1 => Es (sPut (val rs S1)) S1 K := by
  unfold Es Ev sPut
  cases as S with
  | none => exact Iff.rfl
  | some x => obtain ⟨r, S1⟩ := x; cases r <;> exact Iff.rfl
theorem e_del : Es (sDel as) S K ↔ Ev as S K.ex fun rs S1 => Es (sDel (val rs S1)) S1 K := by
  unfold Es Ev sDel
  cases as S with
  | none => exact Iff.rfl
  | some x => obtain ⟨r, S1⟩ := x; cases r <;> exact Iff.rfl
end
/-- what stands at the place: sd the name's thing, then the thing at the path -/
def Epl (o : Option Slot) (p : List Stp) (P : Sh × D → Sh → D → Prop) : Prop := match o with
  | some (some sd) => match pathD sd p with
    | some (sh, d) => P sd sh d
    | none => False
  | _ => False
def Epl2 (sd : Sh × D) (o : Option (Sh × D)) (P : Sh × D → Sh → D → Prop) : Prop := match o with
  | some (sh, d) => P sd sh d
  | none => False
@[simp] theorem epl_e {sd : Sh × D} {p : List Stp} {P : Sh × D → Sh → D → Prop} : Epl (some (some sd)) p P ↔ Epl2 sd (pathD sd p) P := Iff.rfl
@[simp] theorem epl2_e {sd : Sh × D} {sh : Sh} {d : D} {P : Sh × D → Sh → D → Prop} : Epl2 sd (some (sh, d)) P ↔ P sd sh d := Iff.rfl
def Els (sh : Sh) (d : D) (P : Sh → List D → Prop) : Prop := match sh, d with
  | .lst c, .lst ds => P c ds
  | _, _ => False
@[simp] theorem els_e {c : Sh} {ds : List D} {P : Sh → List D → Prop} : Els (.lst c) (.lst ds) P ↔ P c ds := Iff.rfl
@[simp] theorem e_appendPv {i : Nat} {p : List Stp} {sh : Sh} {d : D} : Ev (mAppendP (val [.ref i p, .tmp sh d] S1)) S1 X Q ↔ Epl S1[i]? p fun sd sh0 d0 => Els sh0 d0 fun c ds => fits c sh = true ∧ ds.length < sizeLine ∧ Q (.tmp .fz .non) (S1.set i (some (sd.1, updD sd p (.lst (ds ++ [d]))))) := by
  unfold Ev mAppendP val Epl
  simp only
  cases S1[i]? with
  | none => exact Iff.rfl
  | some y => cases y with
    | none => exact Iff.rfl
    | some sd =>
      simp only
      cases pathD sd p with
      | none => exact Iff.rfl
      | some sd2 =>
        obtain ⟨sh2, d2⟩ := sd2
        cases sh2 <;> cases d2 <;> try exact Iff.rfl
        rename_i c ds
        by_cases hc : fits c sh = true ∧ ds.length < sizeLine
        · simp [hc]
        · simp only [if_neg hc, els_e]
          exact ⟨fun q => q.elim, fun q => hc ⟨q.1, q.2.1⟩⟩
@[simp] theorem e_popv {i : Nat} {p : List Stp} : Ev (mPop (val [.ref i p] S1)) S1 X Q ↔ Epl S1[i]? p fun sd sh0 d0 => Els sh0 d0 fun c ds => ∃ d, ds.getLast? = some d ∧ Q (.tmp c d) (S1.set i (some (sd.1, updD sd p (.lst ds.dropLast)))) := by
  unfold Ev mPop val Epl
  simp only
  cases S1[i]? with
  | none => exact Iff.rfl
  | some y => cases y with
    | none => exact Iff.rfl
    | some sd =>
      simp only
      cases pathD sd p with
      | none => exact Iff.rfl
      | some sd2 =>
        obtain ⟨sh2, d2⟩ := sd2
        cases sh2 <;> cases d2 <;> try exact Iff.rfl
        rename_i c ds
        simp only [els_e]
        cases ds.getLast? with
        | none => simp
        | some d => simp
def Ekv (r : Rv) (S : List Slot) (P : Sh → D → Prop) : Prop := match r.see S with
  | some (sh, d) => P sh d
  | none => False
@[simp] theorem ekv_t {sh : Sh} {d : D} {P : Sh → D → Prop} : Ekv (.tmp sh d) S P ↔ P sh d := Iff.rfl
def Ekv2 (o : Option (Sh × D)) (P : Sh → D → Prop) : Prop := match o with
  | some (sh, d) => P sh d
  | none => False
@[simp] theorem ekv_r {i : Nat} {p : List Stp} {P : Sh → D → Prop} : Ekv (.ref i p) S P ↔ Ekv2 (seeP S[i]? p) P := Iff.rfl
@[simp] theorem ekv2_e {sh : Sh} {d : D} {P : Sh → D → Prop} : Ekv2 (some (sh, d)) P ↔ P sh d := Iff.rfl
def Est (o : Option D) (P : D → Prop) : Prop := match o with
  | some d => P d
  | none => False
@[simp] theorem est_e {d : D} {P : D → Prop} : Est (some d) P ↔ P d := Iff.rfl
@[simp] theorem est_n {P : D → Prop} : Est none P ↔ False := Iff.rfl
@[simp] theorem est_if {c : Prop} [Decidable c] {a b : Option D} {P : D → Prop} : Est (if c then a else b) P ↔ if c then Est a P else Est b P := by split <;> exact Iff.rfl
@[simp] theorem est_map {α : Type} {o : Option α} {f : α → D} {P : D → Prop} : Est (o.map f) P ↔ ∃ x, o = some x ∧ P (f x) := by cases o <;> simp
@[simp] theorem stF_lst {c sh : Sh} {ds : List D} {j : Int} {x : D} : stF (.lst c, .lst ds) (.int j) sh x = if fits c sh = true then (ixN ds.length j).map fun i => .lst (ds.set i x) else none := (rfl)
@[simp] theorem stF_dct {c sh : Sh} {kvs : List (D × D)} {k x : D} : stF (.dct c, .dct kvs) k sh x = if dkOk kvs = true ∧ isKy k = true ∧ fits c sh = true ∧ kvs.length < sizeLine then some (.dct (kvPut kvs k x)) else none := (rfl)
theorem ixN_nat {n j : Nat} (h : j < n) : ixN n (j : Int) = some j := by
  unfold ixN
  rw [if_pos (by omega), if_pos (by omega)]
  simp
theorem e_putv {i : Nat} {p : List Stp} {sh : Sh} {x : D} {rk : Rv} : Es (sPut (val [.tmp sh x, .ref i p, rk] S1)) S1 K ↔ Epl S1[i]? p fun sd sh0 d0 => Ekv rk S1 fun shk k => shk.flat = true ∧ Est (stF (sh0, d0) k sh x) fun d3 => K.nx (S1.set i (some (sd.1, updD sd p d3))) := by
  unfold Es Ev sPut val Epl Ekv
  simp only
  cases S1[i]? with
  | none => exact Iff.rfl
  | some y => cases y with
    | none => exact Iff.rfl
    | some sd =>
      simp only
      cases rk.see S1 with
      | none => cases pathD sd p <;> exact Iff.rfl
      | some kd =>
        obtain ⟨shk, k⟩ := kd
        simp only
        cases pathD sd p with
        | none => exact Iff.rfl
        | some sd2 =>
          simp only
          by_cases h : shk.flat = true
          · simp only [if_pos h, h, true_and]
            cases stF sd2 k sh x <;> exact Iff.rfl
          · simp [h]
@[simp] theorem e_putE {q1 q2 q3 : Bool} {mv md mk : M Rv} : Es (sPut (mArgs [(q1, mv), (q2, md), (q3, mk)])) S K ↔ Ev (mArgs [(q1, mv), (q2, md), (q3, mk)]) S K.ex fun rs S1 => Es (sPut (val rs S1)) S1 K := e_put
@[simp] theorem e_putvE {i : Nat} {p : List Stp} {sh : Sh} {x : D} {rk : Rv} : Es (sPut (val [.tmp sh x, .ref i p, rk] S1)) S1 K ↔ Epl S1[i]? p fun sd sh0 d0 => Ekv rk S1 fun shk k => shk.flat = true ∧ Est (stF (sh0, d0) k sh x) fun d3 => K.nx (S1.set i (some (sd.1, updD sd p d3))) := e_putv
def Edc (sh : Sh) (d : D) (P : Sh → List (D × D) → Prop) : Prop := match sh, d with
  | .dct c, .dct kvs => P c kvs
  | _, _ => False
@[simp] theorem edc_e {c : Sh} {kvs : List (D × D)} {P : Sh → List (D × D) → Prop} : Edc (.dct c) (.dct kvs) P ↔ P c kvs := Iff.rfl
@[simp] theorem e_delE {q2 q3 : Bool} {md mk : M Rv} : Es (sDel (mArgs [(q2, md), (q3, mk)])) S K ↔ Ev (mArgs [(q2, md), (q3, mk)]) S K.ex fun rs S1 => Es (sDel (val rs S1)) S1 K := e_del
@[simp] theorem e_delv {i : Nat} {p : List Stp} {rk : Rv} : Es (sDel (val [.ref i p, rk] S1)) S1 K ↔ Epl S1[i]? p fun sd sh0 d0 => Ekv rk S1 fun shk k => Edc sh0 d0 fun c kvs => shk.flat = true ∧ dkOk kvs = true ∧ isKy k = true ∧ (kvGet kvs k).isSome = true ∧ K.nx (S1.set i (some (sd.1, updD sd p (.dct (kvDrop kvs k))))) := by
  unfold Es Ev sDel val Epl Ekv
  simp only
  cases S1[i]? with
  | none => exact Iff.rfl
  | some y => cases y with
    | none => exact Iff.rfl
    | some sd =>
      simp only
      cases rk.see S1 with
      | none => cases pathD sd p <;> exact Iff.rfl
      | some kd =>
        obtain ⟨shk, k⟩ := kd
        simp only
        cases pathD sd p with
        | none => exact Iff.rfl
        | some sd2 =>
          obtain ⟨sh2, d2⟩ := sd2
          cases sh2 <;> cases d2 <;> try exact Iff.rfl
          rename_i c kvs
          simp only [edc_e]
          by_cases h : shk.flat = true ∧ dkOk kvs = true ∧ isKy k = true ∧ (kvGet kvs k).isSome = true
          · rw [if_pos h]
            exact ⟨fun q => ⟨h.1, h.2.1, h.2.2.1, h.2.2.2, q⟩, fun q => q.2.2.2.2⟩
          · rw [if_neg h]
            exact ⟨fun q => q.elim, fun q => h ⟨q.1, q.2.1, q.2.2.1, q.2.2.2.1⟩⟩
@[simp] theorem e_newDc {c : Sh} : Ev (mNewDc c) S X Q ↔ Q (.tmp (.dct c) (.dct [])) S := by unfold Ev; exact Iff.rfl
@[simp] theorem updD_0 {sd : Sh × D} {d : D} : updD sd [] d = d := by unfold updD; rfl
end
end
end Dt

/-! Sets, dicts, sorting numbers: as plain lists. -/
namespace Dt
noncomputable section
open PySem PySem.Spec PyProof.Rows L2
@[simp] theorem set_lst {ds : List D} : setF (.lst ds) = if setOk ds = true then some (.set (tupOf ds), .set (dedD ds)) else none := (rfl)
@[simp] theorem lenS_e {ds : List D} : lenSF (.set ds) = some (.fz, .int (ds.length : Nat)) := (rfl)
open Classical in
@[simp] theorem sortedS_e {ds : List D} : sortedSF (.set ds) = if sortOk ds = true ∧ kds 8 ds = true ∧ ds.Nodup then some (.lst .fz, .lst (sortD ds)) else none := (rfl)
@[simp] theorem dget_e {kvs : List (D × D)} {y : D} : dgetF (.dct kvs) y = if dkOk kvs = true ∧ isKy y = true then (kvGet kvs y).map fun d => (.fz, d) else none := (rfl)
@[simp] theorem din_e {kvs : List (D × D)} {y : D} {n : Bool} : dinF n y (.dct kvs) = if dkOk kvs = true ∧ isKy y = true then some (.fz, .bl (if n = true then !(kvGet kvs y).isSome else (kvGet kvs y).isSome)) else none := (rfl)
@[simp] theorem keys_e {kvs : List (D × D)} : keysF (.dct kvs) = if dkOk kvs = true then some (.lst .fz, .lst (kvs.map (·.1))) else none := (rfl)
@[simp] theorem lenD_e {kvs : List (D × D)} : lenDF (.dct kvs) = if dkOk kvs = true then some (.fz, .int (kvs.length : Nat)) else none := (rfl)
@[simp] theorem sortedD_e {kvs : List (D × D)} : sortedDF (.dct kvs) = if dkOk kvs = true ∧ sortOk (kvs.map (·.1)) = true then some (.lst .fz, .lst (sortD (kvs.map (·.1)))) else none := (rfl)
@[simp] theorem isKy_int {i : Int} : isKy (.int i) = true := (rfl)
@[simp] theorem isKy_str {x : List Nat} : isKy (.str x) = true := (rfl)
@[simp] theorem add_lst {xs ys : List D} : addF (.lst xs) (.lst ys) = if xs.length + ys.length ≤ sizeLine then some (.lst .fz, .lst (xs ++ ys)) else none := (rfl)
@[simp] theorem add_tup {xs ys : List D} : addF (.tup xs) (.tup ys) = if xs.length + ys.length ≤ sizeLine then some (.fz, .tup (xs ++ ys)) else none := (rfl)
theorem dkOk_iff {kvs : List (D × D)} : dkOk kvs = true ↔ ∀ k ∈ kvs.map (·.1), isKy k = true := by
  unfold dkOk
  simp [List.all_eq_true]
open Classical in
theorem kvGet_some {kvs : List (D × D)} {k : D} : (kvGet kvs k).isSome = decide (k ∈ kvs.map (·.1)) := by
  unfold kvGet
  rw [Option.isSome_map]
  by_cases h : k ∈ kvs.map (·.1)
  · obtain ⟨p, hp, rfl⟩ := List.mem_map.mp h
    simp only [h, decide_true]
    rw [List.find?_isSome]
    exact ⟨p, hp, by simp⟩
  · simp only [h, decide_false]
    cases hf : kvs.find? (fun p => decide (p.1 = k)) with
    | none => rfl
    | some p =>
      have h1 := List.mem_of_find?_eq_some hf
      have h2 := List.find?_some hf
      exact absurd (List.mem_map.mpr ⟨p, h1, by simpa using h2⟩) h
theorem kvPut_new {kvs : List (D × D)} {k x : D} (h : k ∉ kvs.map (·.1)) : kvPut kvs k x = kvs ++ [(k, x)] := if_neg h
/-! numbers sorted -/
def srt (l : List Int) : List Int := l.mergeSort fun a b => decide (a ≤ b)
theorem srt_perm (l : List Int) : (srt l).Perm l := List.mergeSort_perm _ _
theorem srt_sorted (l : List Int) : (srt l).Pairwise (· ≤ ·) := by
  have := List.pairwise_mergeSort (le := fun a b : Int => decide (a ≤ b)) (fun a b c h1 h2 => by simp at *; omega) (fun a b => by simp; omega) l
  refine this.imp fun h => by simpa using h
theorem srt_eq {l l' : List Int} (h : l.Nodup) (h' : l'.Nodup) (m : ∀ x, x ∈ l ↔ x ∈ l') : srt l = srt l' := by
  have p : l.Perm l' := (List.perm_ext_iff_of_nodup h h').mpr m
  exact List.Perm.eq_of_pairwise (le := fun a b : Int => a ≤ b) (fun a b _ _ h1 h2 => Int.le_antisymm h1 h2) (srt_sorted l) (srt_sorted l') ((srt_perm l).trans (p.trans (srt_perm l').symm))
theorem leD_int {i j : Int} : leD (.int i) (.int j) = decide (i ≤ j) := by
  have := congrFun (congrFun (PySem.W.dataLe_int (fun b : Int => b)) i) j
  exact this
theorem sortD_int (l : List Int) : sortD (l.map D.int) = (srt l).map D.int := by
  unfold sortD srt
  rw [List.map_mergeSort (r := fun a b : Int => decide (a ≤ b)) (s := leD) (f := D.int)]
  intro a _ b _
  exact leD_int.symm
theorem pys_int : ∀ l : List Int, D.pys (l.map D.int) = some (l.map PyData.int)
  | [] => by simp [D.pys]
  | i :: l => by simp [D.pys, D.py, pys_int l]
@[simp] theorem sortOk_int (l : List Int) (hl : l.length ≤ sizeLine) : sortOk (l.map D.int) = true := by
  unfold sortOk
  rw [pys_int]
  simp only [Bool.and_eq_true, List.all_eq_true, decide_eq_true_eq, List.mem_map, List.length_map]
  refine ⟨⟨⟨?_, ?_⟩, hl⟩, ?_⟩
  · rintro _ ⟨i, _, rfl⟩ _ ⟨j, _, rfl⟩; rfl
  · unfold sortable
    rw [Bool.or_eq_true]
    refine .inr (List.all_eq_true.mpr ?_)
    intro d hd
    obtain ⟨i, _, rfl⟩ := List.mem_map.mp hd
    rfl
  · rintro _ ⟨i, _, rfl⟩
    show (0 : Nat) ≤ 60
    decide
theorem sorted_int (l : List Int) (hl : l.length ≤ sizeLine) : sortedF (.lst (l.map D.int)) = some (.lst .fz, .lst ((srt l).map D.int)) := by
  rw [← sortD_int]
  exact if_pos (sortOk_int l hl)
theorem int_inj {l l' : List Int} (h : l.map D.int = l'.map D.int) : l = l' := by
  induction l generalizing l' with
  | nil => cases l' with
    | nil => rfl
    | cons => simp at h
  | cons a l ih => cases l' with
    | nil => simp at h
    | cons b l' =>
      simp only [List.map_cons, List.cons.injEq, D.int.injEq] at h
      rw [h.1, ih h.2]
/-! comprehensions, exactly -/
section
variable {vs : List Nat} {t : Tg} {mi : M (List D)} {tt : M Bool} {me mk : M Rv} {c : Sh} {S S1 : List Slot} {X : XP} {Q : Rv → List Slot → Prop}
theorem dc_inv (J : List Slot → Prop) (p : D → Bool) (f g : D → D) : ∀ {ds : List D} {acc : List (D × D)} {S : List Slot}, J S →
    (∀ d ∈ ds, ∀ S, J S → ∃ S1, bindT noB t d S = some S1 ∧ Ev tt S1 noX fun b S2 => b = p d ∧ (p d = true → Ev mk S2 noX fun r S3 => Tmp r fun shk k => k = f d ∧ shk.flat = true ∧ isKy k = true ∧ Ev me S3 noX fun r S4 => Tmp r fun sh x => x = g d ∧ fits c sh = true ∧ J (wipeS S4 vs)) ∧ (p d = false → J (wipeS S2 vs))) →
    ∃ S', dcN vs t tt mk me c ds acc S = some ((ds.filter p).foldl (fun acc d => kvPut acc (f d) (g d)) acc, S') ∧ J S'
  | [], acc, S, hJ, _ => ⟨S, by simp [dcN], hJ⟩
  | d :: ds, acc, S, hJ, st => by
    obtain ⟨S1, e1, h1⟩ := st d (by simp) S hJ
    rcases h1.ex with ⟨_, _, _, h⟩ | ⟨b, S2, e2, rfl, h2, h3⟩
    · exact h.elim
    unfold dcN
    simp only [e1, e2]
    cases hp : p d with
    | false =>
      obtain ⟨S', e, hJ'⟩ := dc_inv J p f g (ds := ds) (acc := acc) (h3 hp) fun d hd => st d (by simp [hd])
      exact ⟨S', by simp [hp, e], hJ'⟩
    | true =>
      rcases (h2 hp).ex with ⟨_, _, _, h⟩ | ⟨r, S3, e3, h4⟩
      · exact h.elim
      cases r with
      | ref => exact h4.elim
      | tmp shk k =>
        obtain ⟨rfl, hf, hk, h5⟩ := h4
        rcases h5.ex with ⟨_, _, _, h⟩ | ⟨r, S4, e4, h6⟩
        · exact h.elim
        cases r with
        | ref => exact h6.elim
        | tmp sh x =>
          obtain ⟨rfl, hfit, hJ4⟩ := h6
          obtain ⟨S', e, hJ'⟩ := dc_inv J p f g (ds := ds) (acc := kvPut acc (f d) (g d)) hJ4 fun d hd => st d (by simp [hd])
          exact ⟨S', by simp [hp, e3, e4, hf, hk, hfit, e], hJ'⟩
theorem ev_dc (p : D → Bool) (f g : D → D)
    (h : Ev mi S X fun ds S1 => ds.length ≤ sizeLine ∧
        (∀ d ∈ ds, ∃ S2, bindT noB t d (wipeS S1 vs) = some S2 ∧ Ev tt S2 noX fun b S3 => b = p d ∧ (p d = true → Ev mk S3 noX fun r S4 => Tmp r fun shk k => k = f d ∧ shk.flat = true ∧ isKy k = true ∧ Ev me S4 noX fun r S5 => Tmp r fun sh x => x = g d ∧ fits c sh = true ∧ wipeS S5 vs = wipeS S1 vs) ∧ (p d = false → wipeS S3 vs = wipeS S1 vs)) ∧
        Q (.tmp (.dct c) (.dct ((ds.filter p).foldl (fun acc d => kvPut acc (f d) (g d)) []))) (restS S1 (wipeS S1 vs) vs)) : Ev (mDc vs t mi tt mk me c) S X Q := by
  rcases h.ex with ⟨e, S1, h1, h2⟩ | ⟨ds, S1, h1, hl, st, q⟩
  · refine (Ev.err (x := e) (S1 := S1) ?_).mpr h2
    unfold mDc
    simp only [h1]
  · obtain ⟨S', e2, rfl⟩ := dc_inv (vs := vs) (t := t) (tt := tt) (mk := mk) (me := me) (c := c) (fun S' => S' = wipeS S1 vs) p f g (ds := ds) (acc := []) rfl (fun d hd S hS => by subst hS; exact st d hd)
    refine (Ev.ok (S1 := restS S1 (wipeS S1 vs) vs) ?_).mpr q
    unfold mDc
    simp only [h1, if_pos hl, e2]
theorem sc_inv (J : List Slot → Prop) (p : D → Bool) (g : D → D) : ∀ {ds acc : List D} {S : List Slot}, J S →
    (∀ d ∈ ds, ∀ S, J S → ∃ S1, bindT noB t d S = some S1 ∧ Ev tt S1 noX fun b S2 => b = p d ∧ (p d = true → Ev me S2 noX fun r S4 => Tmp r fun sh x => x = g d ∧ sh.whole = true ∧ J (wipeS S4 vs)) ∧ (p d = false → J (wipeS S2 vs))) →
    ∃ S', scN vs t tt me ds acc S = some (((ds.filter p).map g).foldl addD acc, S') ∧ J S'
  | [], acc, S, hJ, _ => ⟨S, by simp [scN], hJ⟩
  | d :: ds, acc, S, hJ, st => by
    obtain ⟨S1, e1, h1⟩ := st d (by simp) S hJ
    rcases h1.ex with ⟨_, _, _, h⟩ | ⟨b, S2, e2, rfl, h2, h3⟩
    · exact h.elim
    unfold scN
    simp only [e1, e2]
    cases hp : p d with
    | false =>
      obtain ⟨S', e, hJ'⟩ := sc_inv J p g (ds := ds) (acc := acc) (h3 hp) fun d hd => st d (by simp [hd])
      exact ⟨S', by simp [hp, e], hJ'⟩
    | true =>
      rcases (h2 hp).ex with ⟨_, _, _, h⟩ | ⟨r, S3, e3, h4⟩
      · exact h.elim
      cases r with
      | ref => exact h4.elim
      | tmp sh x =>
        obtain ⟨rfl, hw, hJ4⟩ := h4
        obtain ⟨S', e, hJ'⟩ := sc_inv J p g (ds := ds) (acc := addD acc (g d)) hJ4 fun d hd => st d (by simp [hd])
        exact ⟨S', by simp [hp, e3, hw, e], hJ'⟩
theorem ev_sc (p : D → Bool) (g : D → D)
    (h : Ev mi S X fun ds S1 => (∀ d ∈ ds, ∃ S2, bindT noB t d (wipeS S1 vs) = some S2 ∧ Ev tt S2 noX fun b S3 => b = p d ∧ (p d = true → Ev me S3 noX fun r S5 => Tmp r fun sh x => x = g d ∧ sh.whole = true ∧ wipeS S5 vs = wipeS S1 vs) ∧ (p d = false → wipeS S3 vs = wipeS S1 vs)) ∧
        setOk (dedD ((ds.filter p).map g)) = true ∧ (dedD ((ds.filter p).map g)).length < 75 ∧ Q (.tmp (.set (tupOf (dedD ((ds.filter p).map g)))) (.set (dedD ((ds.filter p).map g)))) (restS S1 (wipeS S1 vs) vs)) : Ev (mSc vs t mi tt me) S X Q := by
  rcases h.ex with ⟨e, S1, h1, h2⟩ | ⟨ds, S1, h1, st, ok, hl, q⟩
  · refine (Ev.err (x := e) (S1 := S1) ?_).mpr h2
    unfold mSc
    simp only [h1]
  · obtain ⟨S', e2, rfl⟩ := sc_inv (vs := vs) (t := t) (tt := tt) (me := me) (fun S' => S' = wipeS S1 vs) p g (ds := ds) (acc := []) rfl (fun d hd S hS => by subst hS; exact st d hd)
    refine (Ev.ok (S1 := restS S1 (wipeS S1 vs) vs) ?_).mpr q
    unfold mSc
    have e3 : ((ds.filter p).map g).foldl addD [] = dedD ((ds.filter p).map g) := rfl
    rw [e3] at e2
    simp only [h1, e2, if_pos (⟨ok, hl⟩ : _ ∧ _)]
theorem lc2_inv {vs1 : List Nat} {mi1 : M (List D)} {t1 : Tg} {tt1 : M Bool} (J : List Slot → Prop) (f : D → List D) : ∀ {ds acc : List D} {S : List Slot}, J S →
    (∀ d ∈ ds, ∀ S, J S → ∃ S1, bindT noB t d S = some S1 ∧ Ev tt S1 noX fun b S2 => (b = true ∧ Ev mi1 S2 noX fun ds1 S3 => ∀ acc, ∃ S4, lcN vs1 t1 tt1 me c ds1 acc (wipeS S3 vs1) = some (acc ++ f d, S4) ∧ J (wipeS S4 vs)) ∨ (b = false ∧ f d = [] ∧ J (wipeS S2 vs))) →
    ∃ S', lc2N vs t tt vs1 mi1 t1 tt1 me c ds acc S = some (acc ++ ds.flatMap f, S') ∧ J S'
  | [], acc, S, hJ, _ => ⟨S, by simp [lc2N], hJ⟩
  | d :: ds, acc, S, hJ, st => by
    obtain ⟨S1, e1, h1⟩ := st d (by simp) S hJ
    rcases h1.ex with ⟨_, _, _, h⟩ | ⟨b, S2, e2, h2⟩
    · exact h.elim
    unfold lc2N
    simp only [e1, e2]
    rcases h2 with ⟨rfl, h2⟩ | ⟨rfl, hf, hJ2⟩
    · rcases h2.ex with ⟨_, _, _, h⟩ | ⟨ds1, S3, e3, h3⟩
      · exact h.elim
      obtain ⟨S4, e4, hJ4⟩ := h3 acc
      obtain ⟨S', e, hJ'⟩ := lc2_inv J f (ds := ds) (acc := acc ++ f d) hJ4 fun d hd => st d (by simp [hd])
      exact ⟨S', by simp [e3, e4, e], hJ'⟩
    · obtain ⟨S', e, hJ'⟩ := lc2_inv J f (ds := ds) (acc := acc) hJ2 fun d hd => st d (by simp [hd])
      exact ⟨S', by simp [hf, e], hJ'⟩
theorem ev_lc2 {vs1 : List Nat} {mi1 : M (List D)} {t1 : Tg} {tt1 : M Bool} (p : D → D → Bool) (g : D → D → D) (f : D → List D)
    (h : Ev mi S X fun ds S1 => (∀ d ∈ ds, ∃ S2, bindT noB t d (wipeS S1 vs) = some S2 ∧ Ev tt S2 noX fun b S3 => b = true ∧ Ev mi1 S3 noX fun ds1 S4 =>
          (∀ d1 ∈ ds1, ∃ S5, bindT noB t1 d1 (wipeS S4 vs1) = some S5 ∧ Ev tt1 S5 noX fun b S6 => b = p d d1 ∧ (p d d1 = true → Ev me S6 noX fun r S7 => Tmp r fun sh x => x = g d d1 ∧ fits c sh = true ∧ wipeS S7 vs1 = wipeS S4 vs1) ∧ (p d d1 = false → wipeS S6 vs1 = wipeS S4 vs1)) ∧
          f d = (ds1.filter (p d)).map (g d) ∧ wipeS (wipeS S4 vs1) vs = wipeS S1 vs) ∧ (ds.flatMap f).length ≤ sizeLine ∧ Q (.tmp (.lst c) (.lst (ds.flatMap f))) (restS S1 (wipeS S1 vs) vs)) : Ev (mLc2 vs t mi tt vs1 mi1 t1 tt1 me c) S X Q := by
  rcases h.ex with ⟨e, S1, h1, h2⟩ | ⟨ds, S1, h1, st, hl, q⟩
  · refine (Ev.err (x := e) (S1 := S1) ?_).mpr h2
    unfold mLc2
    simp only [h1]
  · obtain ⟨S', e2, rfl⟩ := lc2_inv (vs := vs) (t := t) (tt := tt) (me := me) (c := c) (vs1 := vs1) (mi1 := mi1) (t1 := t1) (tt1 := tt1) (fun S' => S' = wipeS S1 vs) f (ds := ds) (acc := []) rfl (fun d hd S hS => by
      subst hS
      obtain ⟨S2, e2, h2⟩ := st d hd
      refine ⟨S2, e2, h2.monoQ fun b S3 ⟨hb, h3⟩ => .inl ⟨hb, h3.monoQ fun ds1 S4 ⟨h4, h5, h6⟩ acc => ?_⟩⟩
      obtain ⟨S', e5, rfl⟩ := lc_inv (vs := vs1) (t := t1) (tt := tt1) (me := me) (c := c) (fun S' => S' = wipeS S4 vs1) (p d) (g d) (ds := ds1) (acc := acc) rfl (fun d1 hd1 S hS => by
        subst hS
        obtain ⟨S5, e5, h5⟩ := h4 d1 hd1
        rcases h5.ex with ⟨_, _, _, h⟩ | ⟨b, S6, e6, rfl, h7, h8⟩
        · exact h.elim
        refine ⟨S5, S6, e5, e6, fun hp => ?_, h8⟩
        rcases (h7 hp).ex with ⟨_, _, _, h⟩ | ⟨r, S7, e7, h9⟩
        · exact h.elim
        cases r with
        | ref => exact h9.elim
        | tmp sh x =>
          obtain ⟨rfl, hf, hw⟩ := h9
          exact ⟨sh, S7, e7, hf, hw⟩)
      exact ⟨_, by rw [h5]; exact e5, h6⟩)
    refine (Ev.ok (r := .tmp (.lst c) (.lst (ds.flatMap f))) (S1 := restS S1 (wipeS S1 vs) vs) ?_).mpr q
    unfold mLc2
    simp only [List.nil_append] at e2
    simp only [h1, e2, if_pos hl]
end
@[simp] theorem e_isgn {m : M Rv} {S : List Slot} {X : XP} {Q : List D → List Slot → Prop} {x : List Nat} {sh : Sh} : Ev (iSgn (mCon (.str x))) S X Q ↔ Q (sgD x) S := by
  unfold Ev iSgn mCon
  simp
end
end Dt

/-! Comprehensions whose turns change the slots. -/
namespace Dt
noncomputable section
open PySem PySem.Spec PyProof.Rows L2
section
variable {vs : List Nat} {t : Tg} {mi : M (List D)} {tt : M Bool} {me : M Rv} {c : Sh} {S S1 : List Slot} {X : XP} {Q : Rv → List Slot → Prop}
theorem lc_ix (J : Nat → List Slot → Prop) (P : D → Prop) : ∀ {ds acc : List D} {S : List Slot} {k0 : Nat}, J k0 S → (∀ x ∈ acc, P x) →
    (∀ k d, ds[k]? = some d → ∀ S, J (k0 + k) S → ∃ S1, bindT noB t d S = some S1 ∧ Ev tt S1 noX fun b S2 => (b = true → Ev me S2 noX fun r S3 => Tmp r fun sh x => P x ∧ fits c sh = true ∧ J (k0 + k + 1) (wipeS S3 vs)) ∧ (b = false → J (k0 + k + 1) (wipeS S2 vs))) →
    ∃ xs S', lcN vs t tt me c ds acc S = some (xs, S') ∧ J (k0 + ds.length) S' ∧ (∀ x ∈ xs, P x) ∧ xs.length ≤ acc.length + ds.length
  | [], acc, S, k0, hJ, hP, _ => ⟨acc, S, by simp [lcN], hJ, hP, by simp⟩
  | d :: ds, acc, S, k0, hJ, hP, st => by
    obtain ⟨S1, e1, h1⟩ := st 0 d rfl S hJ
    rcases h1.ex with ⟨_, _, _, h⟩ | ⟨b, S2, e2, h2, h3⟩
    · exact h.elim
    have st' : ∀ k d, ds[k]? = some d → ∀ S, J (k0 + 1 + k) S → ∃ S1, bindT noB t d S = some S1 ∧ Ev tt S1 noX fun b S2 => (b = true → Ev me S2 noX fun r S3 => Tmp r fun sh x => P x ∧ fits c sh = true ∧ J (k0 + 1 + k + 1) (wipeS S3 vs)) ∧ (b = false → J (k0 + 1 + k + 1) (wipeS S2 vs)) := fun k d hd S hJ => by
      have := st (k + 1) d (by simpa using hd) S (by rw [show k0 + (k + 1) = k0 + 1 + k by omega]; exact hJ)
      rw [show k0 + (k + 1) + 1 = k0 + 1 + k + 1 by omega] at this
      exact this
    unfold lcN
    simp only [e1, e2]
    cases b with
    | false =>
      obtain ⟨xs, S', e, hJ', hx, hl⟩ := lc_ix J P (ds := ds) (acc := acc) (h3 rfl) hP st'
      exact ⟨xs, S', by simp [e], by rw [List.length_cons, show k0 + (ds.length + 1) = k0 + 1 + ds.length by omega]; exact hJ', hx, by simp; omega⟩
    | true =>
      rcases (h2 rfl).ex with ⟨_, _, _, h⟩ | ⟨r, S3, e3, h4⟩
      · exact h.elim
      cases r with
      | ref => exact h4.elim
      | tmp sh x =>
        obtain ⟨px, hf, hJ3⟩ := h4
        obtain ⟨xs, S', e, hJ', hx, hl⟩ := lc_ix J P (ds := ds) (acc := acc ++ [x]) hJ3 (fun y hy => by
          rcases List.mem_append.mp hy with h | h
          · exact hP y h
          · simp at h; subst h; exact px) st'
        exact ⟨xs, S', by simp [e3, hf, e], by rw [List.length_cons, show k0 + (ds.length + 1) = k0 + 1 + ds.length by omega]; exact hJ', hx, by simp at hl ⊢; omega⟩
/-- a comprehension whose items keep P; J k: the slots before turn k -/
theorem ev_lcJ (P : D → Prop)
    (h : Ev mi S X fun ds S1 => ds.length ≤ sizeLine ∧ ∃ J : Nat → List Slot → Prop, J 0 (wipeS S1 vs) ∧
        (∀ k d, ds[k]? = some d → ∀ S, J k S → ∃ S2, bindT noB t d S = some S2 ∧ Ev tt S2 noX fun b S3 => (b = true → Ev me S3 noX fun r S4 => Tmp r fun sh x => P x ∧ fits c sh = true ∧ J (k + 1) (wipeS S4 vs)) ∧ (b = false → J (k + 1) (wipeS S3 vs))) ∧
        ∀ (xs : List D) (S2 : List Slot), (∀ x ∈ xs, P x) → xs.length ≤ ds.length → J ds.length S2 → Q (.tmp (.lst c) (.lst xs)) (restS S1 S2 vs)) : Ev (mLc vs t mi tt me c) S X Q := by
  rcases h.ex with ⟨e, S1, h1, h2⟩ | ⟨ds, S1, h1, hl, J, j0, st, q⟩
  · refine (Ev.err (x := e) (S1 := S1) ?_).mpr h2
    unfold mLc
    simp only [h1]
  · obtain ⟨xs, S', e2, hJ, hx, hlx⟩ := lc_ix (vs := vs) (t := t) (tt := tt) (me := me) (c := c) J P (ds := ds) (acc := []) (k0 := 0) j0 (by simp) (fun k d hd S hS => by
      simp only [Nat.zero_add] at hS ⊢
      exact st k d hd S hS)
    simp only [Nat.zero_add] at hJ
    refine (Ev.ok (r := .tmp (.lst c) (.lst xs)) (S1 := restS S1 S' vs) ?_).mpr (q xs S' hx (by simpa using hlx) hJ)
    unfold mLc
    simp only [h1, if_pos hl, e2]
end
end
end Dt

/-! A list comprehension over a dict of a name: it is locked meanwhile. -/
namespace Dt
noncomputable section
open PySem PySem.Spec PyProof.Rows L2
/-- [.. for t in d if ..], d the dict of slot i -/
def mLcD (i : Nat) (vs : List Nat) (t : Tg) (tt : M Bool) (me : M Rv) (c : Sh) : M Rv := fun S => match S[i]? with
  | some (some (.dct c0, .dct kvs)) => if dkOk kvs = true ∧ i ∉ vs ∧ kvs.length ≤ sizeLine then match lcN vs t tt me c (kvs.map (·.1)) [] (wipeS (S.set i none) vs) with
      | some (acc, S2) => match S2[i]? with
        | some none => some (.ok (.tmp (.lst c) (.lst acc)), (restS (S.set i none) S2 vs).set i (some (.dct c0, .dct kvs)))
        | _ => none
      | none => none
    else none
  | _ => none
section
variable {X : Cx} {G : Gm} {W : WX} {B : Bw} {q q1 q2 : Bool}
theorem tem_lcD {i : Nat} {vs : List Nat} {t : Tg} {tt : M Bool} {me : M Rv} {c : Sh} {σ : Sg} {H : Hp} {Q : VK} {td : TE} (htd : ∀ (σ : Sg) (H : Hp) (v : V) (Q : VK), σ[i]? = some (some v) → Q v H → td σ H Q) (nd : vs.Nodup) (hts : ∀ j ∈ t.slots, j ∈ vs) (h : TEm G W false (mLcD i vs t tt me c) σ H Q) :
    ∃ d u, H d = some u ∧ Mut (some u) ∧ ∀ (od : Obj) (Q' : VK), (∀ v H', H' d = some (.frz od u) → Q v (upd H' d u) → Q' v H') → tLc (iKeys td) (TGm G noB t) (TTm G W0 true tt) (TEm G W0 true me) vs σ (upd H d (.frz od u)) Q' := by
  obtain ⟨S, T, r, S', ag, ow, e, k⟩ := h
  unfold mLcD at e
  split at e
  · rename_i c0 kvs hS
    split at e
    · rename_i hz
      obtain ⟨hk, hiv, hz⟩ := hz
      split at e
      · rename_i acc S2 e2
        split at e
        · rename_i hS2i
          cases e
          obtain ⟨v, hv⟩ := ag.get hS
          have hcm : clm S σ i = [⟨.dct c0, v, .dct kvs⟩] := by
            unfold clm
            simp only [hS, hv]
          have ow1 : Own G H (⟨.dct c0, v, .dct kvs⟩ :: (cl (S.set i none) σ ++ T)) := ow.perm (by
            have := (cl_clm (S := S) (σ := σ) (i := i)).append_right T
            rw [hcm] at this
            exact this)
          obtain ⟨d, rows, rfl, ekv, hrs, hnd, hd, ow2⟩ := ow1.openDctK hk
          have hiy : ∀ r ∈ rows, isKy r.1 = true := fun r hr => by
            have := List.all_eq_true.mp hk (r.1, r.2.d) (by rw [ekv]; exact List.mem_map.mpr ⟨r, hr, rfl⟩)
            exact this
          refine ⟨d, _, hd, trivial, fun od Q' hQ' => ?_⟩
          have ow3 := Own.write (o := .frz od (.dK (rows.map fun r => (kyD r.1, r.2.v)))) ow2
          generalize hT' : (⟨.adr, .ref d, .non⟩ :: (rows.map (·.2) ++ T) : List Cl) = T'
          have ow4 : Own G (upd H d (.frz od (.dK (rows.map fun r => (kyD r.1, r.2.v))))) (cl (S.set i none) σ ++ T') := ow3.perm (by
            rw [← hT']
            refine ((perm3 _ _ _).cons _).trans ?_
            exact List.perm_middle.symm)
          have agn : Ag (S.set i none) σ := ag.unset
          generalize hSn : S.set i none = Sn at *
          obtain ⟨Sw, ew⟩ := lcN_wiped e2
          have ew : S2 = wipeS Sw vs := ew
          refine htd σ _ _ _ hv ⟨d, od, rfl, .inl ⟨_, upd_same, fun D hD => ?_⟩⟩
          have hDd : d ≠ D := fun z => by rw [← z, upd_same] at hD; cases hD
          have p1 : (cl Sn σ ++ T').Perm (cl (wipeS Sn vs) (wipe σ vs) ++ (svs Sn σ vs ++ T')) := by
            rw [cl_wipe_vals]
            refine ((cl_wipe (S := Sn) (σ := σ) nd).append_right T').trans ?_
            rw [List.append_assoc]
            exact perm3 _ _ _
          have o2 := ow4.perm p1
          have o3 : Own G (upd (upd H d (.frz od (.dK (rows.map fun r => (kyD r.1, r.2.v))))) D (.lst [])) (⟨.lst c, .ref D, .lst []⟩ :: (cl (wipeS Sn vs) (wipe σ vs) ++ (svs Sn σ vs ++ T'))) := Own.newLst (A := []) (by simp) o2 hD
          have hkl : (kvs.map (·.1)) = rows.map (·.1) := by rw [ekv, List.map_map]; rfl
          refine ⟨fun i m H' => H' d = some (.frz od (.dK (rows.map fun r => (kyD r.1, r.2.v)))) ∧ m + i = rows.length ∧ ∃ Si ac, Ag Si (wipe σ vs) ∧ (∃ Z, Si = wipeS Z vs) ∧ Own G H' (⟨.lst c, .ref D, .lst ac⟩ :: (cl Si (wipe σ vs) ++ (svs Sn σ vs ++ T'))) ∧ ac.length ≤ i ∧ lcN vs t tt me c ((rows.map (·.1)).drop i) ac Si = some (acc, S2),
            ⟨rows.length, by rw [upd_ne hDd, upd_same], by simp, _, [], agn.wipes, ⟨Sn, rfl⟩, o3, by simp, by rw [← hkl]; simpa using e2⟩, ?_⟩
          rintro j m Hi ⟨hdi, hm, Si, ac, ai, ⟨Z, ez⟩, oi, hac, ei⟩
          cases hdr : (rows.map (·.1)).drop j with
          | nil =>
            rw [hdr] at ei
            cases ei
            have hl : rows.length ≤ j := by simpa using List.drop_eq_nil_iff.mp hdr
            refine .inl ⟨⟨hdi, by simpa using hl⟩, hQ' _ _ hdi ?_⟩
            have aS : Ag S2 σ := ai.congr (wipe_length σ vs) fun j sd h => by
              rw [ez] at h
              rw [wipe_get, if_neg (wipeS_some h)]
            have agr := agn.rest aS (vs := vs)
            have ec : cl S2 (wipe σ vs) = cl S2 σ := by rw [ez]; exact cl_wipe_vals
            rw [ec] at oi
            have hS2 : ∀ j ∈ vs, S2[j]? = some none ∨ S2.length ≤ j := fun j hj => by
              rw [ez, wipeS_get, if_pos hj, wipeS_len]
              split
              · exact .inl rfl
              · exact .inr (by omega)
            have pr := cl_rest (S1 := Sn) (S2 := S2) (σ := σ) (by rw [agn.length, aS.length]) nd hS2
            have hri : (restS Sn S2 vs)[i]? = some none := by rw [restS_get hiv]; exact hS2i
            have hlt : i < (restS Sn S2 vs).length := (List.getElem?_eq_some_iff.mp hri).1
            -- the lock is undone
            have oj : Own G Hi (⟨.adr, .ref d, .non⟩ :: (rows.map (·.2) ++ (⟨.lst c, .ref D, .lst acc⟩ :: (cl (restS Sn S2 vs) σ ++ T)))) := oi.perm (by
              rw [← hT']
              refine List.Perm.trans (List.Perm.cons _ (?_ : List.Perm _ (⟨.adr, .ref d, .non⟩ :: (rows.map (·.2) ++ (cl (restS Sn S2 vs) σ ++ T))))) ?_
              · have h1 : (cl S2 σ ++ (svs Sn σ vs ++ (⟨.adr, .ref d, .non⟩ :: (rows.map (·.2) ++ T)))).Perm ((svs Sn σ vs ++ cl S2 σ) ++ (⟨.adr, .ref d, .non⟩ :: (rows.map (·.2) ++ T))) := by
                  rw [List.append_assoc]
                  exact perm3 _ _ _
                refine h1.trans ?_
                refine (pr.symm.append_right _).trans ?_
                refine List.perm_middle.trans (List.Perm.cons _ ?_)
                exact perm3 _ _ _
              · refine (List.Perm.swap _ _ _).trans (List.Perm.cons _ ?_)
                exact List.perm_middle.symm)
            have ok := Own.write (o := .dK (rows.map fun r => (kyD r.1, r.2.v))) oj
            have ol := Own.closeDctK (c := c0) hrs hnd hiy upd_same ok
            rw [← ekv] at ol
            have hg : ((restS Sn S2 vs).set i (some (.dct c0, .dct kvs)))[i]? = some (some (.dct c0, .dct kvs)) := List.getElem?_set_self hlt
            have hcm2 : clm ((restS Sn S2 vs).set i (some (.dct c0, .dct kvs))) σ i = [⟨.dct c0, .ref d, .dct kvs⟩] := by
              unfold clm
              simp only [hg, hv]
            have pz := cl_clm (S := (restS Sn S2 vs).set i (some (.dct c0, .dct kvs))) (σ := σ) (i := i)
            rw [hcm2, List.set_set, cl_setnone (σ := σ) hri] at pz
            refine k _ _ (agr.set hv) (ol.perm ?_) trivial fun hq => by cases hq
            refine (List.Perm.swap _ _ _).trans (List.Perm.cons _ ?_)
            exact (pz.append_right T).symm
          | cons x rest =>
            rw [hdr] at ei
            have hi : j < rows.length := by
              rcases Nat.lt_or_ge j rows.length with h | h
              · exact h
              · rw [List.drop_eq_nil_iff.mpr (by simpa using h)] at hdr; cases hdr
            have hg : (rows.map (·.1))[j]? = some x := by
              rw [List.drop_eq_getElem_cons (by simpa using hi)] at hdr
              cases hdr
              exact List.getElem?_eq_getElem (by simpa using hi)
            have hr : (rows.map (·.1)).drop (j + 1) = rest := by
              rw [List.drop_eq_getElem_cons (by simpa using hi)] at hdr
              cases hdr
              rfl
            refine .inr ⟨⟨hdi, by simpa using hi⟩, fun H3 => H3 d = some (.frz od (.dK (rows.map fun r => (kyD r.1, r.2.v)))) ∧ ∃ Si ac, Ag Si (wipe σ vs) ∧ (∃ Z, Si = wipeS Z vs) ∧ Own G H3 (⟨.lst c, .ref D, .lst ac⟩ :: (cl Si (wipe σ vs) ++ (svs Sn σ vs ++ T'))) ∧ ac.length ≤ j + 1 ∧ lcN vs t tt me c rest ac Si = some (acc, S2),
              fun H3 ⟨b0, Si, ac, b1, b2, b3, b4, b5⟩ => ⟨m - 1, by omega, b0, by omega, Si, ac, b1, b2, b3, b4, by rw [hr]; exact b5⟩, fun y H2 yl => ?_⟩
            obtain ⟨rfl, kk, vv, ek, rfl⟩ := yl
            rw [List.getElem?_map] at ek hg
            obtain ⟨r0, hr0, er0⟩ := Option.map_eq_some_iff.mp hg
            rw [hr0] at ek
            cases ek
            subst er0
            have hky := hiy r0 (List.mem_of_getElem? hr0)
            have oy : Own G H2 (⟨.fz, kV (kyD r0.1), r0.1⟩ :: (cl Si (wipe σ vs) ++ (⟨.lst c, .ref D, .lst ac⟩ :: (svs Sn σ vs ++ T')))) := by
              obtain ⟨O, o⟩ := oi.perm (List.perm_middle.symm)
              exact ⟨O, o.cons (rf_key hky)⟩
            have ei : (match bindT noB t r0.1 Si with
              | none => none
              | some S1 => match tt S1 with
                | some (.ok false, S2) => lcN vs t tt me c rest ac (wipeS S2 vs)
                | some (.ok true, S2) => match me S2 with
                  | some (.ok (.tmp sh x), S3) => if fits c sh = true then lcN vs t tt me c rest (ac ++ [x]) (wipeS S3 vs) else none
                  | _ => none
                | _ => none) = some (acc, S2) := ei
            split at ei
            · cases ei
            · rename_i S3 e3
              refine ⟨Si, _, r0.1, S3, ai, oy, e3, fun σ2 a2 o2 _ on => ?_⟩
              have ewp : wipe σ2 vs = wipe σ vs := (wipe_only on hts).trans wipe_wipe
              refine ⟨ewp, ?_⟩
              have fin : ∀ {S4 : List Slot} {H4 : Hp} {ac4 : List Dt.D}, H4 d = some (.frz od (.dK (rows.map fun r => (kyD r.1, r.2.v)))) → Ag S4 σ2 → Own G H4 (⟨.lst c, .ref D, .lst ac4⟩ :: (cl S4 σ2 ++ (svs Sn σ vs ++ T'))) → ac4.length ≤ j + 1 → lcN vs t tt me c rest ac4 (wipeS S4 vs) = some (acc, S2) →
                  H4 d = some (.frz od (.dK (rows.map fun r => (kyD r.1, r.2.v)))) ∧ ∃ Si ac, Ag Si (wipe σ vs) ∧ (∃ Z, Si = wipeS Z vs) ∧ Own G H4 (⟨.lst c, .ref D, .lst ac⟩ :: (cl Si (wipe σ vs) ++ (svs Sn σ vs ++ T'))) ∧ ac.length ≤ j + 1 ∧ lcN vs t tt me c rest ac Si = some (acc, S2) := fun {S4 H4 ac4} b0 b1 b2 b3 b4 => by
                refine ⟨b0, wipeS S4 vs, ac4, by rw [← ewp]; exact b1.wipes, ⟨_, rfl⟩, ?_, b3, b4⟩
                rw [← ewp, cl_wipe_vals]
                have pw := cl_wipe (S := S4) (σ := σ2) nd
                refine Own.dropMid (A := [⟨.lst c, .ref D, .lst ac4⟩]) (B := svs S4 σ2 vs) (b2.perm (List.Perm.cons _ ?_))
                refine (pw.append_right _).trans ?_
                rw [List.append_assoc]
                exact .refl _
              split at ei
              · rename_i S4 e4
                refine ⟨S3, _, _, _, a2, o2, e4, fun H4 b1 b2 sm => ?_⟩
                refine iteF ?_
                exact fin (sm rfl _ _ hdi) b1 (b2.perm List.perm_middle) (by omega) ei
              · rename_i S4 e4
                refine ⟨S3, _, _, _, a2, o2, e4, fun H4 b1 b2 sm => ?_⟩
                refine iteT ?_
                split at ei
                · rename_i sh x S5 e5
                  split at ei
                  · rename_i hf
                    refine ⟨S4, _, _, _, b1, b2, e5, fun w H5 c1 c2 _ sm2 => ?_⟩
                    have hd5 := sm2 rfl _ _ (sm rfl _ _ hdi)
                    have c3 : Own G H5 (⟨.lst c, .ref D, .lst ac⟩ :: ⟨c, w, x⟩ :: (cl S5 σ2 ++ (svs Sn σ vs ++ T'))) := (Own.fit hf c2).perm (by
                      refine (List.perm_middle.cons _).trans ?_
                      exact List.Perm.swap _ _ _)
                    obtain ⟨ws, hw, hl, c4⟩ := c3.append
                    refine ⟨ws, hw, by have := hz; rw [ekv] at this; simp at this; omega, ?_⟩
                    exact fin (by rw [upd_ne hDd]; exact hd5) c1 c4 (by simp; omega) ei
                  · cases ei
                · cases ei
              · cases ei
        · cases e
      · cases e
    · cases e
  · cases e
theorem e_lcD {i : Nat} {x : Str} {p0 : Pos} {elt tg : Expr} {ifs : List Expr} {scope : Scope} {own : List (Str × Nat)} {vs : List Nat} {pos : Pos} {t : Tg} {tt : M Bool} {me : M Rv} {c : Sh} (hc : X.calm = true) (hN : X.N.Nodup) (ok : BlkOk X.N X.env.scope scope own)
    (hg : ∀ (s : Shared) (H : Hp) (C : Addr) (cl : List (Str × Addr)) (fp : List Addr), PG (X.blk s H scope (compEnvC scope cl C X.env) fp) tg (TGm G noB t))
    (ht : ∀ (s : Shared) (H : Hp) (C : Addr) (cl : List (Str × Addr)) (fp : List Addr), PTs (X.blk s H scope (compEnvC scope cl C X.env) fp) ifs (TTm G W0 true tt))
    (he : ∀ (s : Shared) (H : Hp) (C : Addr) (cl : List (Str × Addr)) (fp : List Addr), PE (X.blk s H scope (compEnvC scope cl C X.env) fp) elt (TEm G W0 true me)) (nd : (own.map (·.2)).Nodup) (hts : ∀ j ∈ t.slots, j ∈ own.map (·.2)) (hvs : own.map (·.2) = vs)
    (hi : X.N[i]? = some x := by rfl) (hv : Vis X.env.scope x := by first | exact Or.inl rfl | exact Or.inr (Or.inl rfl) | exact Or.inr (Or.inr rfl)) (hd : (x == ("__debug__" : Str)) = false := by decide) (hcd : (x == ("__classdict__" : Str)) = false := by decide) (hs : ∀ z, foldedSetIterable (.Name x p0) X.env z = pure z := by intro _; rfl) : PE X (.ListComp elt [⟨tg, .Name x p0, ifs, 0⟩] scope pos) (TEm G W false (mLcD i vs t tt me c)) := by
  subst hvs
  refine (pe_lock (pe_lc hc hN (pi_keys (pe_var hi hv hd hcd)) ok hg ht he hs)).imp fun σ H Q h => ?_
  obtain ⟨d, u, hd, mu, k⟩ := tem_lcD (td := tVar i) (fun σ H v Q e q => ⟨v, e, q⟩) nd hts h
  exact ⟨d, u, hd, mu, fun od => k od _ fun v H' e q => ⟨e, q⟩⟩
theorem s_lcD {i0 : Nat} {y : Str} {py : Pos} {i : Nat} {x : Str} {p0 : Pos} {elt tg : Expr} {ifs : List Expr} {scope : Scope} {own : List (Str × Nat)} {vs : List Nat} {pos spos : Pos} {t : Tg} {tt : M Bool} {me : M Rv} {c : Sh} (hc : X.calm = true) (hN : X.N.Nodup) (ok : BlkOk X.N X.env.scope scope own)
    (hg : ∀ (s : Shared) (H : Hp) (C : Addr) (cl : List (Str × Addr)) (fp : List Addr), PG (X.blk s H scope (compEnvC scope cl C X.env) fp) tg (TGm G noB t))
    (ht : ∀ (s : Shared) (H : Hp) (C : Addr) (cl : List (Str × Addr)) (fp : List Addr), PTs (X.blk s H scope (compEnvC scope cl C X.env) fp) ifs (TTm G W0 true tt))
    (he : ∀ (s : Shared) (H : Hp) (C : Addr) (cl : List (Str × Addr)) (fp : List Addr), PE (X.blk s H scope (compEnvC scope cl C X.env) fp) elt (TEm G W0 true me)) (hk : X.env.scope.kind = .function) (hl : (py.line == pos.line) = true) (hany : (scope.names.any fun (n, k) => n == y && (k == .local || k == .cell)) = false) (nd : (own.map (·.2)).Nodup) (hts : ∀ j ∈ t.slots, j ∈ own.map (·.2)) (hvs : own.map (·.2) = vs)
    (hy : X.N[i0]? = some y := by rfl) (hyl : X.env.scope.names.lookup y = some .local := by rfl) (hle : (py.line == spos.line) = true := by rfl) (hpp : spos.line = pos.line := by rfl)
    (hi : X.N[i]? = some x := by rfl) (hv : Vis X.env.scope x := by first | exact Or.inl rfl | exact Or.inr (Or.inl rfl) | exact Or.inr (Or.inr rfl)) (hd : (x == ("__debug__" : Str)) = false := by decide) (hcd : (x == ("__classdict__" : Str)) = false := by decide) (hs : ∀ z, foldedSetIterable (.Name x p0) X.env z = pure z := by intro _; rfl) : PS X (.Assign [.Name y py] (.ListComp elt [⟨tg, .Name x p0, ifs, 0⟩] scope pos) spos) (TSm G W B (sSet B i0 (mLcD i vs t tt me c))) := by
  subst hvs
  refine (ps_lock (ps_setLc hc hN hy hyl (sw_true hk hyl hl hany) (pi_keys (pe_var hi hv hd hcd)) ok hg ht he hs)).imp fun D σ H h => ?_
  have h1 := tsm_set (q := false) h
  obtain ⟨d, u, hd, mu, k⟩ := tem_lcD (td := tVar i) (fun σ H v Q e q => ⟨v, e, q⟩) nd hts h1
  exact ⟨d, u, hd, mu, fun od => k od _ fun v H' e q => ⟨e, q⟩⟩
end
end
end Dt

/-! How these are computed; dicts whose keys are the numbers below n. -/
namespace Dt
noncomputable section
open PySem PySem.Spec PyProof.Rows L2
section
variable {S : List Slot} {K : Kn} {X : XP} {Q : Rv → List Slot → Prop}
theorem es_augD {f : D → D → Option (Sh × D)} {i j : Nat} {y old new k : D} {kvs : List (D × D)} {sh : Sh} (h1 : S[i]? = some (some (.dct .fz, .dct kvs))) (h2 : S[j]? = some (some (sh, k))) (hk : dkOk kvs = true) (hy : isKy k = true) (hs : sh.flat = true) (hl : kvs.length < sizeLine) (ho : kvGet kvs k = some old) (hf : f old y = some (.fz, new))
    (q : K.nx (S.set i (some (.dct .fz, .dct (kvPut kvs k new))))) : Es (sAugD f (mRef i) (mRef j) (mCon y)) S K := by
  unfold Es Ev sAugD mRef mCon
  simp only [h1, h2, see_ref, seeP_s, pathD_0, hk, hy, hs, hl, ho, and_self, if_true, see_tmp, fl_fz, hf, updD_0]
  exact q
theorem ev_lcD {i : Nat} {vs : List Nat} {t : Tg} {tt : M Bool} {me : M Rv} {c c0 : Sh} {kvs : List (D × D)} (p : D → Bool) (g : D → D) (hS : S[i]? = some (some (.dct c0, .dct kvs))) (hk : dkOk kvs = true) (hiv : i ∉ vs) (hl : kvs.length ≤ sizeLine)
    (st : ∀ d ∈ kvs.map (·.1), ∃ S2, bindT noB t d (wipeS (S.set i none) vs) = some S2 ∧ Ev tt S2 noX fun b S3 => b = p d ∧ (p d = true → Ev me S3 noX fun r S4 => Tmp r fun sh x => x = g d ∧ fits c sh = true ∧ wipeS S4 vs = wipeS (S.set i none) vs) ∧ (p d = false → wipeS S3 vs = wipeS (S.set i none) vs))
    (q : Q (.tmp (.lst c) (.lst (((kvs.map (·.1)).filter p).map g))) ((restS (S.set i none) (wipeS (S.set i none) vs) vs).set i (some (.dct c0, .dct kvs)))) : Ev (mLcD i vs t tt me c) S X Q := by
  obtain ⟨S', e, rfl⟩ := lc_inv (vs := vs) (t := t) (tt := tt) (me := me) (c := c) (fun S' => S' = wipeS (S.set i none) vs) p g (ds := kvs.map (·.1)) (acc := []) rfl (fun d hd S' hS => by
    subst hS
    obtain ⟨S2, e2, h2⟩ := st d hd
    rcases h2.ex with ⟨_, _, _, h⟩ | ⟨b, S3, e3, rfl, h3, h4⟩
    · exact h.elim
    refine ⟨S2, S3, e2, e3, fun hp => ?_, h4⟩
    rcases (h3 hp).ex with ⟨_, _, _, h⟩ | ⟨r, S4, e4, h5⟩
    · exact h.elim
    cases r with
    | ref => exact h5.elim
    | tmp sh x =>
      obtain ⟨rfl, hf, hw⟩ := h5
      exact ⟨_, S4, e4, hf, hw⟩)
  have hi : i < S.length := (List.getElem?_eq_some_iff.mp hS).1
  have hn : (wipeS (S.set i none) vs)[i]? = some none := by
    rw [wipeS_get, if_neg hiv]
    exact List.getElem?_set_self hi
  refine (Ev.ok (r := .tmp (.lst c) (.lst (((kvs.map (·.1)).filter p).map g))) (S1 := (restS (S.set i none) (wipeS (S.set i none) vs) vs).set i (some (.dct c0, .dct kvs))) ?_).mpr q
  unfold mLcD
  simp only [List.nil_append] at e
  simp only [hS, hk, hiv, hl, not_false_eq_true, and_self, if_true, e, hn]
end
/-! things changed at places -/
theorem updD_ix {c : Sh} {ds : List D} {i : Nat} {p : List Stp} {d d3 : D} (h : ds[i]? = some d) : updD (.lst c, .lst ds) (.ix i :: p) d3 = .lst (ds.set i (updD (c, d) p d3)) := by
  conv => lhs; unfold updD
  simp only [h]
theorem updD_fld {cs : List Sh} {c k j : Nat} {fs : List (Nat × D)} {p : List Stp} {d3 : D} {sh : Sh} {kd : Nat × D} (h0 : fs.findIdx? (fun x => x.1 == k) = some j) (h1 : cs[j]? = some sh) (h2 : fs[j]? = some kd) : updD (.ins cs, .ins c fs) (.fld k :: p) d3 = .ins c (fs.set j (k, updD (sh, kd.2) p d3)) := by
  conv => lhs; unfold updD
  simp only [h0, h1, h2]
theorem updD_ky {c : Sh} {kvs : List (D × D)} {k : D} {p : List Stp} {d d3 : D} (h : kvGet kvs k = some d) : updD (.dct c, .dct kvs) (.ky k :: p) d3 = .dct (kvPut kvs k (updD (c, d) p d3)) := by
  conv => lhs; unfold updD
  simp only [h]
/-! a dict whose keys are 0, 1, .. n-1 -/
def fnD (n : Nat) (f : Nat → D) : List (D × D) := (List.range n).map fun (s : Nat) => (.int s, f s)
theorem fnD_keys {n : Nat} {f : Nat → D} : (fnD n f).map (·.1) = (List.range n).map fun (s : Nat) => D.int s := by
  unfold fnD
  rw [List.map_map]
  rfl
@[simp] theorem fnD_len {n : Nat} {f : Nat → D} : (fnD n f).length = n := by simp [fnD]
@[simp] theorem fnD_ok {n : Nat} {f : Nat → D} : dkOk (fnD n f) = true := by
  rw [dkOk_iff, fnD_keys]
  intro k hk
  obtain ⟨s, _, rfl⟩ := List.mem_map.mp hk
  rfl
theorem fnD_succ {n : Nat} {f : Nat → D} : fnD (n + 1) f = fnD n f ++ [(.int n, f n)] := by
  unfold fnD
  rw [List.range_succ, List.map_append]
  rfl
open Classical in
theorem fnD_get {n : Nat} {f : Nat → D} {s : Nat} (h : s < n) : kvGet (fnD n f) (.int s) = some (f s) := by
  induction n with
  | zero => omega
  | succ n ih =>
    rw [fnD_succ]
    unfold kvGet at ih ⊢
    rw [List.find?_append]
    by_cases hs : s < n
    · have := ih hs
      rw [Option.map_eq_some_iff] at this
      obtain ⟨p, hp, e⟩ := this
      rw [hp]
      exact congrArg some e
    · have : s = n := by omega
      subst this
      have hn : (fnD s f).find? (fun p => decide (p.1 = D.int s)) = none := by
        rw [List.find?_eq_none]
        intro p hp
        unfold fnD at hp
        obtain ⟨t, ht, rfl⟩ := List.mem_map.mp hp
        have := List.mem_range.mp ht
        simp
        omega
      rw [hn]
      simp
theorem fnD_put {n : Nat} {f : Nat → D} {s : Nat} {x : D} (h : s < n) : kvPut (fnD n f) (.int s) x = fnD n (fun t => if t = s then x else f t) := by
  have hk : D.int s ∈ (fnD n f).map (·.1) := by
    rw [fnD_keys]
    exact List.mem_map.mpr ⟨s, List.mem_range.mpr h, rfl⟩
  unfold kvPut
  rw [if_pos hk]
  unfold fnD
  rw [List.map_map]
  refine List.map_congr_left fun t _ => ?_
  by_cases e : t = s
  · simp [e]
  · have : ¬ (t : Int) = s := by omega
    simp [e, this]
theorem fnD_new {n : Nat} {f : Nat → D} {x : D} : kvPut (fnD n f) (.int n) x = fnD (n + 1) (fun t => if t = n then x else f t) := by
  have hk : D.int n ∉ (fnD n f).map (·.1) := by
    rw [fnD_keys]
    intro h
    obtain ⟨s, hs, e⟩ := List.mem_map.mp h
    have := List.mem_range.mp hs
    cases e
    omega
  rw [kvPut_new hk, fnD_succ]
  congr 1
  · unfold fnD
    refine List.map_congr_left fun t ht => ?_
    have := List.mem_range.mp ht
    have : ¬ t = n := by omega
    simp [this]
  · simp
theorem fnD_congr {n : Nat} {f g : Nat → D} (h : ∀ s, s < n → f s = g s) : fnD n f = fnD n g := by
  unfold fnD
  refine List.map_congr_left fun t ht => ?_
  rw [h t (List.mem_range.mp ht)]
theorem fnD_fold {x : D} : ∀ n : Nat, (rangeD 0 n).foldl (fun acc d => kvPut acc d x) [] = fnD n fun _ => x
  | 0 => rfl
  | n + 1 => by
    have e : rangeD 0 (n + 1) = rangeD 0 n ++ [.int n] := by
      unfold rangeD
      rw [List.range_succ, List.map_append]
      simp
    rw [e, List.foldl_append, fnD_fold n]
    simp only [List.foldl_cons, List.foldl_nil]
    rw [fnD_new]
    refine fnD_congr fun s _ => ?_
    split <;> rfl
end
end Dt

/-! list(range(n)). -/
namespace Dt
noncomputable section
open PySem PySem.Spec PyProof.Rows L2
def rRg (x : V) (H : Hp) (Q : VK) : Prop := ∃ n, x = .int n ∧ RgOk 0 n ∧ ∀ q, H q = none → Q (.ref q) (upd H q (.lst (rgV 0 n)))
def rgF : D → Option (Sh × D)
  | .int j => if 0 ≤ j ∧ j ≤ 16777216 then some (.lst .fz, .lst (rangeD 0 j.toNat)) else none
  | _ => none
@[simp] theorem rg_int {j : Int} : rgF (.int j) = if 0 ≤ j ∧ j ≤ 16777216 then some (.lst .fz, .lst (rangeD 0 j.toNat)) else none := (rfl)
section
variable {X : Cx} {G : Gm} {W : WX} {B : Bw} {q : Bool}
theorem rfs_rng {N : Addr → Prop} {H : Hp} {n : Int} : RFs G N H (rgV 0 n) (rangeD 0 n.toNat) := by
  unfold rgV rangeD
  rw [show n - 0 = n by omega]
  generalize List.range n.toNat = l
  induction l with
  | nil => exact .nil
  | cons i l ih => exact .cons (.int _) ih
theorem fun_rg : Fun1 G rRg rgF := Fun1.mk fun H L O v d0 sh d Q o rx e k => by
  unfold rgF at e
  split at e
  · rename_i j
    split at e
    · rename_i hj
      cases e
      have hv := rx.int_at
      subst hv
      exact ⟨j, rfl, RgOk.of_le (by omega) (by omega) (by omega) (by omega), fun p hp => k _ _ (upd_new hp) (o.newLst rfs_rng hp)⟩
    · cases e
  · cases e
theorem e_lrg {a : Expr} {m : M Rv} {p p0 rp pos : Pos} (hc : X.calm = true) (hg : Gl X "list") (hm : X.mg "list" = none) (hg1 : Gl X "range") (hm1 : X.mg "range" = none) (ha : PE X a (TEm G W q m)) (na : starEach [a] X.env = (false, eval a X.env) :: starEach [] X.env := by rfl)
    (na1 : starEach [.Call (.Name "range" p) [a] [] rp] X.env = (false, eval (.Call (.Name "range" p) [a] [] rp) X.env) :: starEach [] X.env := by rfl) : PE X (.Call (.Name "list" p0) [.Call (.Name "range" p) [a] [] rp] [] pos) (TEm G W q (mOp1 rgF q m)) :=
  (pe_listRg hc hg hm (prg_1 hg1 hm1 ha na) na1).imp fun σ H Q h => by
    refine tem_mono (tem_op1 fun_rg h) fun x H1 h => ?_
    obtain ⟨n, e, ok, k⟩ := h
    exact ⟨n, e, ok, k⟩
end
/-- a block's names, told by its surrounding's -/
def relS (scope base : Scope) : Scope :=
  { scope with names := scope.names.map fun (n, k) => if (k == .free && base.kind == .function && base.names.lookup n == some .cell) then (n, .cell) else (n, k) }
theorem relabel_eq {scope : Scope} {env : Env} : relabel scope env = relS scope env.scope := rfl
theorem blkOk_in {N : List Str} {sc sb scope : Scope} {own : List (Str × Nat)} {env : Env} (hb : env.scope = sb) (h : blkC N (relS sc sb) scope own = true) : BlkOk N (relabel sc env) scope own := by
  rw [relabel_eq, hb]
  exact blkOk_by h
end
end Dt

/-! Chains of comparisons with any middle; slices. -/
namespace Dt
noncomputable section
open PySem PySem.Spec PyProof.Rows L2
/-- a, b compared, then b, c, where b is a number -/
def bChn (f f' : D → D → Option (Sh × D)) (q1 : Bool) (ma : M Rv) (q2 : Bool) (mb : M Rv) (q3 : Bool) (mc : M Rv) : M Bool := fun S => match mArgs [(q1, ma), (q2, mb)] S with
  | none => none
  | some (.error e, S1) => some (.error e, S1)
  | some (.ok rs, S1) => match seeAll S1 rs with
    | some [d1, .int j] => match f d1 (.int j) with
      | some (.fz, .bl true) => mBool (mOp2 f' true (mCon (.int j)) q3 mc) S1
      | some (.fz, .bl false) => some (.ok false, S1)
      | _ => none
    | _ => none
section
variable {X : Cx} {G : Gm} {W : WX} {q q1 q2 q3 : Bool} {ma mb mc : M Rv} {a b c : Expr} {pos p : Pos}
theorem tam_two {σ : Sg} {H : Hp} {Q : List V → Hp → Prop} (h : TAm G W (([(q1, ma), (q2, mb)] : List (Bool × M Rv)).all (·.1)) (mArgs [(q1, ma), (q2, mb)]) σ H Q) : TEm G W q1 ma σ H fun x H1 => TEm G W q2 mb σ H1 fun y H2 => Q [x, y] H2 :=
  tem_mono (tam_cons h) fun x H1 h1 => tem_mono (tam_cons h1) fun y H2 h2 => tam_nil h2
theorem tem_chn {r r' : R2} {f f' : D → D → Option (Sh × D)} {σ : Sg} {H : Hp} {Q : VK} (F : Fun2 G r f) (F' : Fun2 G r' f') (h : TTm G W (q1 && (q2 && q3)) (bChn f f' q1 ma q2 mb q3 mc) σ H fun b H' => Q (.bl b) H') :
    tChain r r' (TEm G W q1 ma) (TEm G W q2 mb) (TEm G W q3 mc) σ H Q := by
  refine tem_mono (tam_two (Q := fun vs H2 => ∃ x y, vs = [x, y] ∧ r x y H2 fun z H3 => ∃ k, z = .bl k ∧ (if k = true then TEm G W q3 mc σ H3 fun w' H4 => r' y w' H4 Q else Q (.bl false) H3)) ?_) fun x H1 h1 => tem_mono h1 fun y H2 h2 => by
      obtain ⟨x', y', e, h3⟩ := h2
      cases e
      exact h3
  obtain ⟨S, T, re, S', ag, ow, e, k⟩ := h
  unfold bChn at e
  split at e
  · cases e
  · rename_i ex S1 e1
    cases e
    exact ⟨S, T, _, _, ag, ow, e1, k⟩
  · rename_i rs S1 e1
    refine ⟨S, T, _, S1, ag, ow, e1, fun vs H1 ag1 ow1 ok1 s1 => ?_⟩
    split at e
    · rename_i ds d1 j e2
      obtain ⟨O, o⟩ := ow1
      have rx := see_rxs ag1 o (fun t ht => ht) ok1 e2
      have two : ∀ (bv : Bool) (Q' : VK), f d1 (.int j) = some (.fz, .bl bv) → (∀ v H', Same H1 H' → Own G H' (⟨.fz, v, .bl bv⟩ :: (clsA rs vs ++ (cl S1 σ ++ T))) → Q' v H') → ∃ x, vs = [x, .int j] ∧ r x (.int j) H1 Q' := fun bv Q' ef hq => by
        have e3 : on2 f [d1, .int j] = some (.fz, .bl bv) := ef
        obtain ⟨x, y, ev, hr⟩ := F H1 _ O vs _ _ _ Q' o rx e3 hq
        subst ev
        cases rx with
        | cons h1 rx => cases rx with
          | cons h2 _ =>
            cases h2.int_at
            exact ⟨x, rfl, hr⟩
      have fin : ∀ (bv : Bool), f d1 (.int j) = some (.fz, .bl bv) → (∀ v H', Same H1 H' → Own G H' (⟨.fz, v, .bl bv⟩ :: (clsA rs vs ++ (cl S1 σ ++ T))) → ∃ k, v = .bl k ∧ (if k = true then TEm G W q3 mc σ H' fun w' H4 => r' (.int j) w' H4 Q else Q (.bl false) H')) →
          ∃ x y, vs = [x, y] ∧ r x y H1 fun z H3 => ∃ k, z = .bl k ∧ (if k = true then TEm G W q3 mc σ H3 fun w' H4 => r' y w' H4 Q else Q (.bl false) H3) := fun bv ef hq => by
        obtain ⟨x, ev, hr⟩ := two bv _ ef hq
        exact ⟨x, _, ev, hr⟩
      split at e
      · rename_i ef
        refine fin true ef fun v H' s2 o2 => ?_
        · have hv := Own.bl_head o2
          subst hv
          have o3 : Own G H' (cl S1 σ ++ (clsA rs vs ++ T)) := (Own.tail o2).perm (perm3 _ _ _)
          have h4 : TTm G W q3 (mBool (mOp2 f' true (mCon (.int j)) q3 mc)) σ H' fun b H' => Q (.bl b) H' := by
            refine ⟨S1, _, _, _, ag1, o3, e, ?_⟩
            cases re with
            | ok bb => exact fun H'' b1 b2 b3 => k H'' b1 (Own.dropMid b2) fun hq => ((s1 (by simp [andL hq, andL (andR hq)])).trans s2).trans (b3 (andR (andR hq)))
            | error ex => exact fun cv od H'' b1 b2 b3 => k cv od H'' b1 (OwnX.dropMid b2) b3
          have h5 : TEm G W (true && q3) (mOp2 f' true (mCon (.int j)) q3 mc) σ H' Q := by
            rw [Bool.true_and]
            exact tem_mono (ttm_val h4) fun v H1 ⟨c, e, hq⟩ => by rw [e]; exact hq
          have h6 := con_ok (v := .int j) (fun _ _ => .int j) (tem_op2 F' h5)
          exact ⟨true, rfl, by rw [if_pos rfl]; exact h6⟩
      · rename_i ef
        cases e
        refine fin false ef fun v H' s2 o2 => ?_
        · have hv := Own.bl_head o2
          subst hv
          have o3 : Own G H' (cl S' σ ++ (clsA rs vs ++ T)) := (Own.tail o2).perm (perm3 _ _ _)
          exact ⟨false, rfl, by
            rw [if_neg (by decide)]
            exact k H' ag1 (Own.dropMid o3) fun hq => (s1 (by simp [andL hq, andL (andR hq)])).trans s2⟩
      · cases e
    · cases e
theorem ttm_chn {r r' : R2} {f f' : D → D → Option (Sh × D)} {σ : Sg} {H : Hp} {Q : Bool → Hp → Prop} (F : Fun2 G r f) (F' : Fun2 G r' f') (h : TTm G W (q1 && (q2 && q3)) (bChn f f' q1 ma q2 mb q3 mc) σ H Q) :
    tTest (tChain r r' (TEm G W q1 ma) (TEm G W q2 mb) (TEm G W q3 mc)) σ H Q := tem_chn (Q := fun x H' => ∃ k, x = .bl k ∧ Q k H') F F' (ttm_mono h fun b H' hq => ⟨b, rfl, hq⟩)
theorem tem_ofB {m : M Bool} {σ : Sg} {H : Hp} {Q : VK} (h : TEm G W q (mOfB m) σ H Q) : TTm G W q m σ H fun b H' => Q (.bl b) H' := by
  obtain ⟨S, T, r, S', ag, ow, e, k⟩ := h
  unfold mOfB at e
  split at e
  · cases e
  · rename_i e1
    cases e
    exact ⟨S, T, _, _, ag, ow, e1, k⟩
  · rename_i bb S1 e1
    cases e
    exact ⟨S, T, _, _, ag, ow, e1, fun H' a1 a2 a3 => k _ H' a1 (Own.blC bb a2) trivial a3⟩
theorem e_chn {op op' : CmpOp} {r r' : R2} {f f' : D → D → Option (Sh × D)} (ho : OpR X (compareOp op) r) (ho' : OpR X (compareOp op') r') (F : Fun2 G r f) (F' : Fun2 G r' f') (ha : PE X a (TEm G W q1 ma)) (hb : PE X b (TEm G W q2 mb)) (hc : PE X c (TEm G W q3 mc))
    (hm : lastMarks [op, op'] [b, c] = false := by with_unfolding_all rfl) :
    PE X (.Compare a [op, op'] [b, c] pos) (TEm G W (q1 && (q2 && q3)) (mOfB (bChn f f' q1 ma q2 mb q3 mc))) :=
  (pe_chain ho ho' ha hb hc hm).imp fun _ _ _ h => tem_chn F F' (tem_ofB h)
theorem t_chn {op op' : CmpOp} {r r' : R2} {f f' : D → D → Option (Sh × D)} (ho : OpR X (compareOp op) r) (ho' : OpR X (compareOp op') r') (F : Fun2 G r f) (F' : Fun2 G r' f') (ha : PE X a (TEm G W q1 ma)) (hb : PE X b (TEm G W q2 mb)) (hc : PE X c (TEm G W q3 mc))
    (hm : lastMarks [op, op'] [b, c] = false := by with_unfolding_all rfl) :
    PT X (.Compare a [op, op'] [b, c] pos) (TTm G W (q1 && (q2 && q3)) (bChn f f' q1 ma q2 mb q3 mc)) :=
  (pt_chain ho ho' ha hb hc hm).imp fun _ _ _ h => ttm_chn F F' h

/-! slices -/
/-- it is a number -/
def mI (m : M Rv) : M Rv := fun S => match m S with
  | none => none
  | some (.error e, S1) => some (.error e, S1)
  | some (.ok r, S1) => match r.see S1 with
    | some (sh, .int _) => if sh.flat = true then some (.ok r, S1) else none
    | _ => none
def cutD {α : Type} (xs : List α) (lo hi : Option Int) : List α := (xs.drop (HT.sIx xs.length 0 lo)).take (HT.sIx xs.length xs.length hi - HT.sIx xs.length 0 lo)
def sliF (lo hi : Option Int) : D → Option (Sh × D)
  | .lst xs => some (.lst .fz, .lst (cutD xs lo hi))
  | .tup xs => some (.fz, .tup (cutD xs lo hi))
  | .str x => if x.length ≤ sizeLine then some (.fz, .str (cutD x lo hi)) else none
  | _ => none
def rSl (K : PySem.W.Frag) : V → Option Int → Option Int → Hp → VK → Prop := fun x lo hi H Q => rSlL K x lo hi H Q ∨ (rSlA K x lo hi H Q ∨ rSlS x lo hi H Q)
theorem sl_any {X : Cx} : SlR X (rSl X.K) := SlR.or sl_list (SlR.or sl_tupA sl_str)
theorem RFs.cut {N : Addr → Prop} {H : Hp} {vs : List V} {ds : List D} {lo hi : Option Int} (r : RFs G N H vs ds) : RFs G N H (cutV vs lo hi) (cutD ds lo hi) := by
  unfold cutV cutD
  rw [r.length]
  exact (r.drop _).take _
theorem cut_all {α : Type} {xs : List α} {lo hi : Option Int} (h : HT.sIx xs.length 0 lo = 0 ∧ HT.sIx xs.length xs.length hi = xs.length) : cutD xs lo hi = xs := by
  unfold cutD
  rw [h.1, h.2]
  simp
theorem fun_sli {lo hi : Option Int} : ∀ (H : Hp) (L : List Cl) (O : List Addr) (v : V) (d0 : D) (sh : Sh) (d : D) (Q : VK), OwnO G H (L ++ tabC G) O → RX G (fun a => a ∉ O) H v d0 → sliF lo hi d0 = some (sh, d) →
    (∀ v H', Same H H' → Own G H' (⟨sh, v, d⟩ :: L) → Q v H') → rSl G.K v lo hi H Q := fun H L O v d0 sh d Q o rx e k => by
  unfold sliF at e
  split at e
  · cases e
    obtain ⟨a, vs, rfl, t, r⟩ := rx.lst_at
    exact .inl ⟨a, vs, rfl, t, fun p hp => k _ _ (upd_new hp) (o.newLst r.cut hp)⟩
  · cases e
    obtain ⟨a, vs, rfl, t, r⟩ := rx.tup_at
    refine .inr (.inl ⟨a, vs, rfl, t, fun hw => ?_, fun _ p hp => k _ _ (upd_new hp) ⟨O, o.newTup r.cut hp⟩⟩)
    have hw' := hw
    rw [r.length] at hw'
    refine k _ H (Same.refl H) ⟨O, o.cons ?_⟩
    rw [cut_all hw']
    cases rx with
    | fz h => exact h
  · split at e
    · rename_i x hz
      cases e
      cases rx.str_at
      refine .inr (.inr ⟨_, rfl, by rw [str_len]; exact hz, k _ H (Same.refl H) ⟨O, o.cons ?_⟩⟩)
      have := RF.str (G := G) (N := fun a => a ∉ O) (H := H) (cutS ⟨x.toArray⟩ lo hi)
      have e2 : (cutS ⟨x.toArray⟩ lo hi).cps.toList = cutD x lo hi := by
        unfold cutS cutD
        simp [Str.length]
      rw [e2] at this
      exact this
    · cases e
  · cases e
def sl1F : D → D → Option (Sh × D)
  | x, .int i => sliF (some i) none x
  | _, _ => none
def sl2F : D → D → Option (Sh × D)
  | x, .int i => sliF none (some i) x
  | _, _ => none
def on3 (f : D → D → D → Option (Sh × D)) : List D → Option (Sh × D)
  | [x, y, z] => f x y z
  | _ => none
def sl3F : D → D → D → Option (Sh × D)
  | x, .int i, .int j => sliF (some i) (some j) x
  | _, _, _ => none
theorem fun_sl1 : Fun2 G (fun x y H Q => ∃ i, y = .int i ∧ rSl G.K x (some i) none H Q) sl1F := Fun2.mk fun H L O v1 v2 d1 d2 sh d Q o h1 h2 e k => by
  unfold sl1F at e
  split at e
  · cases h2.int_at
    exact ⟨_, rfl, fun_sli H L O v1 _ sh d Q o h1 e k⟩
  · cases e
theorem fun_sl2 : Fun2 G (fun x y H Q => ∃ i, y = .int i ∧ rSl G.K x none (some i) H Q) sl2F := Fun2.mk fun H L O v1 v2 d1 d2 sh d Q o h1 h2 e k => by
  unfold sl2F at e
  split at e
  · cases h2.int_at
    exact ⟨_, rfl, fun_sli H L O v1 _ sh d Q o h1 e k⟩
  · cases e
theorem fun_sl0 : Fun1 G (fun x H Q => rSl G.K x none none H Q) (sliF none none) := Fun1.mk fun H L O v1 d1 sh d Q o h1 e k => fun_sli H L O v1 _ sh d Q o h1 e k
theorem fun_sl3 : FunOk G (fun vs H Q => ∃ x i j, vs = [x, .int i, .int j] ∧ rSl G.K x (some i) (some j) H Q) (on3 sl3F) := by
  intro H L O vs ds sh d Q o rx e k
  cases rx with
  | nil => cases e
  | cons h1 rx => cases rx with
    | nil => cases e
    | cons h2 rx => cases rx with
      | nil => cases e
      | cons h3 rx => cases rx with
        | cons h4 rx => cases e
        | nil =>
          unfold on3 sl3F at e
          simp only at e
          split at e
          · cases h2.int_at; cases h3.int_at
            exact ⟨_, _, _, rfl, fun_sli H L O _ _ sh d Q o h1 e k⟩
          · cases e
theorem tam_three {σ : Sg} {H : Hp} {Q : List V → Hp → Prop} (h : TAm G W (([(q1, ma), (q2, mb), (q3, mc)] : List (Bool × M Rv)).all (·.1)) (mArgs [(q1, ma), (q2, mb), (q3, mc)]) σ H Q) : TEm G W q1 ma σ H fun x H1 => TEm G W q2 mb σ H1 fun y H2 => TEm G W q3 mc σ H2 fun z H3 => Q [x, y, z] H3 :=
  tem_mono (tam_cons h) fun x H1 h1 => tam_two h1
theorem e_sl0 (hK : X.K = G.K) (ha : PE X a (TEm G W q1 ma)) : PE X (.Subscript a (.Slice none none none p) pos) (TEm G W q1 (mOp1 (sliF none none) q1 ma)) :=
  (pe_slice sl_any ha po_none po_none).imp fun σ H Q h => tem_mono (tem_op1 fun_sl0 h) fun x H1 h1 => by rw [hK]; exact h1
theorem e_sl1 (hK : X.K = G.K) (ha : PE X a (TEm G W q1 ma)) (hb : PE X b (TEm G W q2 mb)) : PE X (.Subscript a (.Slice (some b) none none p) pos) (TEm G W (q1 && q2) (mOp2 sl1F q1 ma q2 mb)) :=
  (pe_slice sl_any ha (po_some hb) po_none).imp fun σ H Q h => tem_mono (tem_op2 fun_sl1 h) fun x H1 h1 => tem_mono h1 fun y H2 ⟨i, ey, h2⟩ => ⟨i, ey, by rw [hK]; exact h2⟩
theorem e_sl2 (hK : X.K = G.K) (ha : PE X a (TEm G W q1 ma)) (hb : PE X b (TEm G W q2 mb)) : PE X (.Subscript a (.Slice none (some b) none p) pos) (TEm G W (q1 && q2) (mOp2 sl2F q1 ma q2 mb)) :=
  (pe_slice sl_any ha po_none (po_some hb)).imp fun σ H Q h => tem_mono (tem_op2 fun_sl2 h) fun x H1 h1 => tem_mono h1 fun y H2 ⟨i, ey, h2⟩ => ⟨i, ey, by rw [hK]; exact h2⟩
theorem tem_I {σ : Sg} {H : Hp} {Q : VK} (h : TEm G W q (mI mb) σ H Q) : TEm G W q mb σ H fun v H1 => (∃ i, v = .int i) ∧ Q v H1 := by
  obtain ⟨S, T, re, S', ag, ow, e, k⟩ := h
  unfold mI at e
  split at e
  · cases e
  · rename_i ex S1 e1
    cases e
    exact ⟨S, T, _, _, ag, ow, e1, k⟩
  · rename_i r S1 e1
    split at e
    · rename_i sh i e2
      split at e
      · rename_i w
        cases e
        refine ⟨S, T, _, _, ag, ow, e1, fun v H1 ag1 ow1 ok1 s1 => ⟨⟨i, ?_⟩, k v H1 ag1 ow1 ok1 s1⟩⟩
        obtain ⟨O, o⟩ := ow1
        exact (see_rx ag1 o (fun t ht => ht) ok1 e2 w).int_at
      · cases e
    · cases e
theorem e_sl3 (hK : X.K = G.K) (ha : PE X a (TEm G W q1 ma)) (hb : PE X b (TEm G W q2 mb)) (hc : PE X c (TEm G W q3 mc)) : PE X (.Subscript a (.Slice (some b) (some c) none p) pos) (TEm G W (([(q1, ma), (q2, mI mb), (q3, mc)] : List (Bool × M Rv)).all (·.1)) (mFun (on3 sl3F) (mArgs [(q1, ma), (q2, mI mb), (q3, mc)]))) :=
  (pe_slice sl_any ha (po_some hb) (po_some hc)).imp fun σ H Q h => tem_mono (tam_three (tem_fun fun_sl3 h)) fun x H1 h1 => tem_mono (tem_I h1) fun y H2 ⟨⟨i, ei⟩, h2⟩ => by
    subst ei
    refine ⟨i, rfl, tem_mono h2 fun z H3 ⟨x', i', j, ev, h3⟩ => ?_⟩
    cases ev
    exact ⟨j, rfl, by rw [hK]; exact h3⟩
end
/-! how these are computed -/
/-- two things, the second a number -/
def Evn (ds : List D) (K : D → Int → Prop) : Prop := match ds with
  | [d1, .int j] => K d1 j
  | _ => False
theorem evn_congr {ds ds' : List D} {K : D → Int → Prop} (h : ds = ds') : Evn ds K = Evn ds' K := by rw [h]
@[simp] theorem evn_e {d1 : D} {j : Int} {K : D → Int → Prop} : Evn [d1, .int j] K ↔ K d1 j := Iff.rfl
section
variable {S S1 : List Slot} {X : XP} {Q : Rv → List Slot → Prop} {QB : Bool → List Slot → Prop}
@[simp] theorem e_mI {m : M Rv} : Ev (mI m) S X Q ↔ Ev m S X fun r S1 => Evx r S1 fun sh d => (∃ i, d = .int i) ∧ sh.flat = true ∧ Q r S1 := by
  unfold Ev mI
  cases m S with
  | none => exact Iff.rfl
  | some x =>
    obtain ⟨r, S1⟩ := x
    cases r with
    | error e => exact Iff.rfl
    | ok rv =>
      simp only [Evx]
      cases rv.see S1 with
      | none => exact Iff.rfl
      | some y =>
        obtain ⟨sh, d⟩ := y
        cases d <;> simp
        by_cases h : sh.flat = true
        · simp [h]
        · simp [h]
@[simp] theorem ev_chn {f f' : D → D → Option (Sh × D)} {q1 q2 q3 : Bool} {ma mb mc : M Rv} : Ev (bChn f f' q1 ma q2 mb q3 mc) S X QB ↔ Ev (mArgs [(q1, ma), (q2, mb)]) S X fun rs S1 => Evv (seeAll S1 rs) fun ds => Evn ds fun d1 j => Evo (f d1 (.int j)) fun sh d => Evb (.tmp sh d) fun t => if t = true then Ev (mBool (mOp2 f' true (mCon (.int j)) q3 mc)) S1 X QB else QB false S1 := by
  unfold Ev bChn
  cases mArgs [(q1, ma), (q2, mb)] S with
  | none => exact Iff.rfl
  | some x =>
    obtain ⟨r, S1⟩ := x
    cases r with
    | error e => exact Iff.rfl
    | ok rs =>
      simp only
      cases seeAll S1 rs with
      | none => exact Iff.rfl
      | some ds =>
        simp only [evv_s]
        cases ds with
        | nil => exact Iff.rfl
        | cons d1 ds => cases ds with
          | nil => exact Iff.rfl
          | cons d2 ds => cases ds with
            | cons => cases d2 <;> exact Iff.rfl
            | nil => cases d2 <;> try exact Iff.rfl
                     rename_i j
                     simp only [Evn]
                     cases f d1 (.int j) with
                     | none => exact Iff.rfl
                     | some y =>
                       obtain ⟨sh, d⟩ := y
                       simp only [evo_s]
                       cases sh <;> cases d <;> try exact Iff.rfl
                       rename_i b
                       cases b <;> simp
@[simp] theorem sl1_int {x : D} {i : Int} : sl1F x (.int i) = sliF (some i) none x := (rfl)
@[simp] theorem sl2_int {x : D} {i : Int} : sl2F x (.int i) = sliF none (some i) x := (rfl)
@[simp] theorem sl3_int {x : D} {i j : Int} : sl3F x (.int i) (.int j) = sliF (some i) (some j) x := (rfl)
@[simp] theorem sli_lst {xs : List D} {lo hi : Option Int} : sliF lo hi (.lst xs) = some (.lst .fz, .lst (cutD xs lo hi)) := (rfl)
@[simp] theorem sli_tup {xs : List D} {lo hi : Option Int} : sliF lo hi (.tup xs) = some (.fz, .tup (cutD xs lo hi)) := (rfl)
@[simp] theorem sli_str {xs : List Nat} {lo hi : Option Int} : sliF lo hi (.str xs) = if xs.length ≤ sizeLine then some (.fz, .str (cutD xs lo hi)) else none := (rfl)
theorem cut_to {α : Type} {xs : List α} {k : Nat} : cutD xs none (some (k : Int)) = xs.take k := by
  unfold cutD
  rw [HT.sIx_none, HT.sIx_nat]
  simp [List.take_eq_take_iff]
theorem cut_from {α : Type} {xs : List α} {k : Nat} : cutD xs (some (k : Int)) none = xs.drop k := by
  unfold cutD
  rw [HT.sIx_none, HT.sIx_nat]
  rw [List.take_of_length_le (by simp)]
  by_cases h : k ≤ xs.length
  · rw [Nat.min_eq_left h]
  · rw [Nat.min_eq_right (by omega), List.drop_length, List.drop_of_length_le (by omega)]
end
end
end Dt

/-! Except clauses in a row, each with a name or without. -/
namespace Dt
open PySem PySem.Spec PyProof.Rows L2
abbrev Sui := Addr → Value → Option Addr → TS
/-- the ends behind which the clause's name is gone -/
def goneE (i : Nat) (D : Ends) : Ends := { nx := fun τ J => D.nx (τ.set i none) J, rt := D.rt, bk := fun τ J => D.bk (τ.set i none) J, ct := fun τ J => D.ct (τ.set i none) J }
def namedS (i : Nat) (ts : Sui) : Sui := fun a cls d D τ J => ts a cls d (goneE i D) (τ.set i (some (.ref a))) J
inductive HdG (X : Cx) : List ExceptHandler → List (Value × Sui) → Prop
  | nil : HdG X [] []
  | bare {x : Str} {c : Value} {ts : Sui} {b0 : Stmt} {bs : List Stmt} {np hp : Pos} {hds : List ExceptHandler} {l : List (Value × Sui)} (nm : Names X x c)
      (su : ∀ (a : Addr) (o : Obj) (cls : Value) (d : Option Addr) (pn : List (Addr × Obj)), Zc cls d o → (∃ vs, o.data = .fields vs) → PSs (X.suite a ((a, o) :: pn)) (b0 :: bs) (ts a cls d)) (rest : HdG X hds l) :
      HdG X (.ExceptHandler (some (.Name x np)) none (b0 :: bs) hp :: hds) ((c, ts) :: l)
  | named {x n : Str} {i : Nat} {c : Value} {ts : Sui} {b0 : Stmt} {bs : List Stmt} {np hp : Pos} {hds : List ExceptHandler} {l : List (Value × Sui)} (nm : Names X x c) (at_ : X.N[i]? = some n) (loc : X.env.kindOf n = some .local)
      (su : ∀ (a : Addr) (o : Obj) (cls : Value) (d : Option Addr) (pn : List (Addr × Obj)), Zc cls d o → (∃ vs, o.data = .fields vs) → PSs (X.suite a ((a, o) :: pn)) (b0 :: bs) (ts a cls d)) (rest : HdG X hds l) :
      HdG X (.ExceptHandler (some (.Name x np)) (some n) (b0 :: bs) hp :: hds) ((c, namedS i ts) :: l)
section
variable {X : Cx} {body : List Stmt} {h0 : ExceptHandler} {hds : List ExceptHandler} {l : List (Value × Sui)} {pos : Pos} {tb : WX → TS} {Wo : WX}
theorem ps_try_g (hst : X.stack = X.env :: X.outer) (hfm : X.env.frame = some X.env.locals) (nd : X.N.Nodup) (tk : Takes X Wo)
    (hb : ∀ (W : WX) (pn : List (Addr × Obj)) (xe : Value → Shared → Prop), Takes (X.tr pn xe) W → PassesOwn (model X.prog X.w) X.A X.env xe → PSs (X.tr pn xe) body (tb W))
    (hg : HdG X (h0 :: hds) l) : PS X (.Try body (h0 :: hds) [] [] pos) (fun D τ J => tb (wMany X.K Wo D l) D τ J) := by
  refine ⟨fun pins s0 τ J D I q => ?_⟩
  have ok := I.ok
  have frs_ : X.A.frames = some (X.env :: X.outer) := by rw [ok.frames, hst]
  refine wpAny_Try_except ?_
  refine wpAny_mono ((hb (wMany X.K Wo D l) (X.pn ++ pins) (fun u t1 => wpAny (model X.prog X.w) X.A (noteFrame u X.env) (fun _ t2 => wpAny (model X.prog X.w) X.A (setFlight u none) (fun _ t3 => wpAny (model X.prog X.w) X.A (handleBy u X.env (h0 :: hds)) (SP X pins D) X.xe t3) X.xe t2) X.xe t1) (fun u t xx => ?caught) PassesOwn.looking).run [] s0 τ J D (I.toTry _) q) (fun f t hsp => ?ended) (fun u t hu => hu)
  case ended =>
    cases f with
    | next => exact let ⟨τ', J', K, z⟩ := hsp; wpAny_execs_nil ⟨τ', J', K.ofTry ok, z⟩
    | brk => exact let ⟨τ', J', K, z⟩ := hsp; ⟨τ', J', K.ofTry ok, z⟩
    | cont => exact let ⟨τ', J', K, z⟩ := hsp; ⟨τ', J', K.ofTry ok, z⟩
    | ret u => exact let ⟨v, τ', J', K, r, z⟩ := hsp; ⟨v, τ', J', K.ofTry ok, r, z⟩
  case caught =>
    obtain ⟨a, B, sI, pins', τ', J', cls, d, rfl, K', nb, up, sky, na, os, ag, w⟩ := xx
    have K0 := Inv.ofTry K' ok
    have sk : Sky B (X.env :: X.outer) a (Zc cls d) X.env.locals t.heap := by rw [← hst]; exact sky
    refine Sky.land Zc.steady frs_ hfm sk fun g3 fl3 up3 => ?_
    obtain ⟨o3, vs3, e3, z3, d3⟩ := fl3.there
    have K3 : Inv X pins τ' J' { t with heap := g3 } := K0.landed nb fl3.1 (up.trans up3) os ag
    have away : a ∉ frs (X.env :: X.outer) := fun hm => by
      obtain ⟨_, o', e', hn⟩ := fl3.2.2.1.mem hm
      rw [e3] at e'
      cases e'
      exact hn _ d3
    have aL : a ≠ X.env.locals := fun z => away (List.mem_filterMap.mpr ⟨X.env, List.mem_cons_self, by rw [hfm, z]⟩)
    have aF : a ∉ X.fs := fun hm => away (let ⟨e, he, z⟩ := List.mem_filterMap.mp hm; List.mem_filterMap.mpr ⟨e, List.mem_cons_of_mem _ he, z⟩)
    have S3 := K3.suite e3 d3 na aL aF
    have LT : PySem.W.Looks (model X.prog X.w) g3 (typeOf (.ref a)) cls := fun A Q E s k q => wpAny_typeOf_ref (k _ _ e3) (by rw [z3.1]; exact q)
    have named_ : ∀ {x : Str} {c : Value} {np : Pos} {Q E : Value → Shared → Prop}, Names X x c → Q c { t with heap := g3 } → wpAny (model X.prog X.w) (X.A.mark (some (.ref a))) (eval (.Name x np) X.env) Q E { t with heap := g3 } := fun {x c np Q E} nm q => by
      rcases nm with ⟨hg, hdbg, hm | ⟨hm, hv, hnn⟩⟩
      · exact ld_glob (X := X.suite a ((a, o3) :: (X.pn ++ pins))) S3 hg hm q hdbg
      · exact ld_blt (X := X.suite a ((a, o3) :: (X.pn ++ pins))) S3 hg hm hv q hnn hdbg
    have go : ∀ {hs : List ExceptHandler} {m : List (Value × Sui)}, HdG X hs m → wMany X.K Wo D m cls d τ' J' → wpAny (model X.prog X.w) X.A (handleBy (.ref a) X.env hs) (SP X pins D) X.xe { t with heap := g3 } := fun hk => by
      induction hk with
      | nil =>
        intro w
        refine wpAny_handleBy_nil ?_
        obtain ⟨_, _, _, o4, vs4, T4, oT4, ts4, e4, z4, d4, f4, r4⟩ := id fl3
        unfold PySem.passOn
        refine wpAny_bind (wpAny_field e4 d4 f4 ?_)
        have out : wpAny (model X.prog X.w) X.A (setFlight (.ref a) X.env.frame) (fun _ t4 => wpAny (model X.prog X.w) X.A (throw (.ref a) : Sem Flow) (SP X pins D) X.xe t4) X.xe { t with heap := g3 } := by
          rw [hfm]
          exact HandSPX.setFlight_upZ fl3 fun g4 hh up4 => wpAny_throw (tk _ _ ⟨a, B, sI, pins, τ', J', cls, d, rfl, K0, nb, (up.trans up3).trans up4, .inr (.inr (by rw [hst]; exact hh)), na, os, ag, w⟩)
        rw [if_neg (show ¬ ((Value.ref T4 == Value.none) = true) by simp)]
        first
          | exact wpAny_bind (wpAny_pure (wpAny_bind out))
          | exact wpAny_bind out
      | @bare x c ts b0 bs np hp hds2 l2 nm su rest ih =>
        intro w
        obtain ⟨b, hb1, yes, no⟩ := w
        refine wpAny_handleBy_cons (codeAny_handlers_test (named_ nm ((PySem.W.exm_one K3.kIn LT hb1).here ?_))) (by rintro ⟨⟩)
        cases b with
        | false => exact ih (no rfl)
        | true =>
          refine codeAny_handlers_suite (HandSPX.lands_againZ fl3 fun g4 fl4 up4 => ?_)
          obtain ⟨o4, vs4, e4, z4, d4⟩ := fl4.there
          have K4 : Inv X pins τ' J' { t with heap := g4 } := K0.landed nb fl4.1 ((up.trans up3).trans up4) os ag
          refine wpAny_mono ((su a o4 cls d (X.pn ++ pins) z4 ⟨_, d4⟩).run [] _ _ J' _ (K4.suite e4 d4 na aL aF) (yes rfl a na)) (fun f t6 hsp => ?_) (fun _ _ z => z.elim)
          cases f with
          | next => exact let ⟨_, _, K6, z⟩ := hsp; ⟨_, _, K6.unsuite ok, z⟩
          | brk => exact let ⟨_, _, K6, z⟩ := hsp; ⟨_, _, K6.unsuite ok, z⟩
          | cont => exact let ⟨_, _, K6, z⟩ := hsp; ⟨_, _, K6.unsuite ok, z⟩
          | ret u => exact let ⟨_, _, _, K6, r6, z⟩ := hsp; ⟨_, _, _, K6.unsuite ok, r6, z⟩
      | @named x n i c ts b0 bs np hp hds2 l2 nm at_ loc su rest ih =>
        intro w
        obtain ⟨b, hb1, yes, no⟩ := w
        refine wpAny_handleBy_cons (codeAny_handlers_test (named_ nm ((PySem.W.exm_one K3.kIn LT hb1).here ?_))) (by rintro ⟨⟩)
        cases b with
        | false => exact ih (no rfl)
        | true =>
          refine codeAny_handlers_suite_as (HandSPX.lands_againZ fl3 fun g4 fl4 up4 => ?_)
          obtain ⟨o4, vs4, e4, z4, d4⟩ := fl4.there
          have K4 : Inv X pins τ' J' { t with heap := g4 } := K0.landed nb fl4.1 ((up.trans up3).trans up4) os ag
          refine store_ok (X := X.suite a ((a, o4) :: (X.pn ++ pins))) (v := .ref a) (K4.suite e4 d4 na aL aF) nd at_ (.inl loc) rfl (fun t5 S5 => ?_) (.inr loc)
          refine wpAny_mono ((su a o4 cls d (X.pn ++ pins) z4 ⟨_, d4⟩).run [] t5 _ J' _ S5 (yes rfl a na)) (fun f t6 hsp => ?_) (fun _ _ z => z.elim)
          have bye : ∀ {τ6 : Sg} {J6 : Hp} {Q : Shared → Prop}, Inv (X.suite a ((a, o4) :: (X.pn ++ pins))) [] τ6 J6 t6 → (∀ t7, Inv X pins (τ6.set i none) J6 t7 → Q t7) → wpAny (model X.prog X.w) X.A (do bindName X.env n .none; unbindBehindTheSuite X.env n hp) (fun _ t7 => Q t7) X.xe t6 := fun K6 hq => gone_ok (K6.unsuite ok) nd at_ loc hq
          cases f with
          | next => exact let ⟨_, _, K6, z⟩ := hsp; bye K6 fun t7 K7 => ⟨_, _, K7, z⟩
          | brk => exact let ⟨_, _, K6, z⟩ := hsp; bye K6 fun t7 K7 => ⟨_, _, K7, z⟩
          | cont => exact let ⟨_, _, K6, z⟩ := hsp; bye K6 fun t7 K7 => ⟨_, _, K7, z⟩
          | ret u => exact let ⟨_, _, _, K6, r6, z⟩ := hsp; bye K6 fun t7 K7 => ⟨_, _, _, K7, r6, z⟩
    exact go hg w
end
end Dt

/-! raise and try in the core. -/
namespace Dt
noncomputable section
open PySem PySem.Spec PyProof.Rows L2
/-- an except clause: its class's number, its name's slot, its suite -/
structure Hn where
  c : Nat
  nm : Option Nat
  s : Exc → MS
def suiteR (nm : Option Nat) (m : MS) (S : List Slot) : Option (Except Exc Fl × List Slot) := match nm with
  | none => match m S with
    | some (.ok f, S2) => some (.ok f, S2)
    | _ => none
  | some i => if i < S.length then match m (S.set i none) with
      | some (.ok f, S2) => some (.ok f, S2.set i none)
      | _ => none
    else none
def hnd (xm : Nat → Nat → Option Bool) : List Hn → Exc → List Slot → Option (Except Exc Fl × List Slot)
  | [], ex, S => some (.error ex, S)
  | h :: r, ex, S => match xm ex.c h.c with
    | some true => suiteR h.nm (h.s ex) S
    | some false => hnd xm r ex S
    | none => none
def sTry (xm : Nat → Nat → Option Bool) (b : MS) (hs : List Hn) : MS := fun S => match b S with
  | some (.error ex, S1) => hnd xm hs ex S1
  | r => r
def sRaise (ex : Exc) : MS := fun S => some (.error ex, S)
def sRaiseF (c f : Nat) (m : M Rv) : MS := fun S => match m S with
  | none => none
  | some (.error e, S1) => some (.error e, S1)
  | some (.ok rv, S1) => match rv.see S1 with
    | some (sh, d) => if sh.flat = true ∧ (scalV d).isSome = true then some (.error ⟨c, some (f, d)⟩, S1) else none
    | none => none
/-- what is known of the caught exception -/
def KX (G : Gm) (nm : Option Nat) (a : Addr) (d : Option Addr) (ex : Exc) (σ : Sg) (H : Hp) : Prop :=
  (∀ i, nm = some i → σ[i]? = some (some (.ref a))) ∧ ∀ f x, ex.arg = some (f, x) → ∃ dd v, d = some dd ∧ scalV x = some v ∧ H dd = some (.xd [(G.fld f, v)])
abbrev Wno : WX := fun _ _ _ _ => False
def suiT (G : Gm) (B : Bw) (h : Hn) : Sui := fun a cls d D σ H => ∃ ex, cls = .ref (G.cls ex.c) ∧ KX G h.nm a d ex σ H ∧ TSm G Wno B (h.s ex) D σ H
def hnL (G : Gm) (B : Bw) (hs : List Hn) : List (Value × Sui) := hs.map fun h => (.ref (G.cls h.c), match h.nm with
  | none => suiT G B h
  | some i => namedS i (suiT G B h))
section
variable {X : Cx} {G : Gm} {W : WX} {B : Bw} {q q1 q2 q3 : Bool}
theorem Ag.clear : ∀ {S : List Slot} {σ : Sg}, Ag S σ → ∀ {i : Nat}, Ag (S.set i none) (σ.set i none)
  | [], [], _, _ => trivial
  | none :: S, _ :: σ, h, 0 => h
  | none :: S, _ :: σ, h, i + 1 => Ag.clear (S := S) (σ := σ) h
  | some _ :: S, some _ :: σ, h, 0 => h
  | some _ :: S, some _ :: σ, h, i + 1 => Ag.clear (S := S) (σ := σ) h
  | some _ :: S, none :: σ, h, _ => h.elim
  | [], _ :: _, h, _ => h.elim
  | none :: _, [], h, _ => h.elim
  | some _ :: _, [], h, _ => h.elim
theorem Own.unsetS {H : Hp} {S : List Slot} {σ : Sg} {i : Nat} {v : Option V} {A T : List Cl} (h : Own G H (A ++ (cl S σ ++ T))) : Own G H (A ++ (cl (S.set i none) (σ.set i v) ++ T)) := by
  rw [cl_none_store]
  obtain ⟨Z, p⟩ := cl_unset_sub (S := S) (σ := σ) (i := i)
  refine Own.dropMid (A := A) (B := Z) (h.perm ?_)
  rw [← List.append_assoc Z]
  exact (p.append_right T).append_left A
theorem tsm_try {xm : Nat → Nat → Option Bool} {b : MS} {hs : List Hn} {D : Ends} {σ : Sg} {H : Hp} (hx : ∀ a c v, xm a c = some v → PySem.W.exmOne G.K (.ref (G.cls a)) (.ref (G.cls c)) = some v) (hB : ∀ h ∈ hs, ∀ i, h.nm = some i → B i = false)
    (h : TSm G W B (sTry xm b hs) D σ H) : TSm G (wMany G.K W D (hnL G B hs)) B b D σ H := by
  obtain ⟨S, T, r, S', ag, ow, e, k⟩ := h
  unfold sTry at e
  split at e
  · rename_i ex S1 e1
    refine ⟨S, T, _, S1, ag, ow, e1, fun cv od σ' H' a1 a2 kb x => ?_⟩
    obtain ⟨x1, x2⟩ := x
    subst x1
    have fact : ∀ f y, ex.arg = some (f, y) → ∃ dd v, od = some dd ∧ scalV y = some v ∧ H' dd = some (.xd [(G.fld f, v)]) := fun f y ea => by
      obtain ⟨c0, ar⟩ := ex
      simp only at ea
      subst ea
      cases od with
      | none => simp at x2
      | some dd =>
        obtain ⟨O, o⟩ := a2
        obtain ⟨_, rt⟩ := o.1.mem (t := ⟨.tab, .ref dd, .tup [.int f, y]⟩) (by simp [exL])
        cases rt with
        | tab ht =>
          rcases ht with ⟨z, _⟩ | ⟨f', y', v, z, sv, hv⟩
          · cases z
          · have z' : (f : Int) = f' ∧ y = y' := by simpa using z
            obtain ⟨z1, rfl⟩ := z'
            have z2 : f = f' := by omega
            subst z2
            exact ⟨dd, v, rfl, sv, hv⟩
    have a3 : Own G H' (cl S1 σ' ++ T) := Own.drop a2
    induction hs with
    | nil =>
      unfold hnd at e
      cases e
      exact k _ od σ' H' a1 a2 kb ⟨rfl, x2⟩
    | cons h r ih =>
      unfold hnd at e
      have B' : ∀ g ∈ r, ∀ i, g.nm = some i → B i = false := fun g hg => hB g (List.mem_cons_of_mem _ hg)
      have Bh := hB h (List.mem_cons_self ..)
      split at e
      · rename_i em
        refine ⟨true, hx _ _ _ em, fun _ a ha => ?_, fun z => by cases z⟩
        obtain ⟨hc, nm, hsu⟩ := h
        cases nm with
        | none =>
          refine ⟨ex, rfl, ⟨fun i z => (by cases z), fact⟩, ?_⟩
          unfold suiteR at e
          simp only at e
          split at e
          · rename_i fl S2 e2
            cases e
            refine ⟨S1, T, _, _, a1, a3, e2, ?_⟩
            cases fl with
            | nx => exact fun σ'' H'' b1 b2 kb2 => k σ'' H'' b1 b2 (kb.trans kb2)
            | bk => exact fun σ'' H'' b1 b2 kb2 => k σ'' H'' b1 b2 (kb.trans kb2)
            | ct => exact fun σ'' H'' b1 b2 kb2 => k σ'' H'' b1 b2 (kb.trans kb2)
            | rt sh d => exact fun v σ'' H'' b1 b2 kb2 => k v σ'' H'' b1 b2 (kb.trans kb2)
          · cases e
        | some i =>
          have Bi := Bh i rfl
          unfold suiteR at e
          simp only at e
          split at e
          · rename_i hi
            split at e
            · rename_i fl S2 e2
              cases e
              have hs : (σ'.set i (some (.ref a)))[i]? = some (some (V.ref a)) := List.getElem?_set_self (by rw [← a1.length]; exact hi)
              refine ⟨ex, rfl, ⟨fun j z => (by cases z; exact hs), fact⟩, ?_⟩
              refine ⟨S1.set i none, T, _, _, a1.store, Own.unsetS (A := []) a3, e2, ?_⟩
              have kk : ∀ {σ''}, Kb B (σ'.set i (some (.ref a))) σ'' → Kb B σ (σ''.set i none) := fun kb2 => ((kb.trans (Kb.set Bi)).trans kb2).trans (Kb.set Bi)
              cases fl with
              | nx => exact fun σ'' H'' b1 b2 kb2 => k _ H'' b1.clear (Own.unsetS (A := []) b2) (kk kb2)
              | bk => exact fun σ'' H'' b1 b2 kb2 => k _ H'' b1.clear (Own.unsetS (A := []) b2) (kk kb2)
              | ct => exact fun σ'' H'' b1 b2 kb2 => k _ H'' b1.clear (Own.unsetS (A := []) b2) (kk kb2)
              | rt sh d => exact fun v σ'' H'' b1 b2 kb2 => k v _ H'' b1.clear (Own.unsetS (A := [⟨sh, v, d⟩]) b2) (kk kb2)
            · cases e
          · cases e
      · rename_i em
        exact ⟨false, hx _ _ _ em, fun z => (by cases z), fun _ => ih B' e⟩
      · cases e
  · rename_i r' hne
    refine ⟨S, T, r, S', ag, ow, e, ?_⟩
    cases r with
    | error ex => exact absurd e (hne ex S')
    | ok f => cases f <;> exact k
theorem s_try {xm : Nat → Nat → Option Bool} {body : List Stmt} {h0 : ExceptHandler} {hds : List ExceptHandler} {mb : MS} {hs : List Hn} {pos : Pos} (hK : X.K = G.K) (hst : X.stack = X.env :: X.outer) (hfm : X.env.frame = some X.env.locals) (nd : X.N.Nodup) (tk : Takes X W)
    (hx : ∀ a c v, xm a c = some v → PySem.W.exmOne G.K (.ref (G.cls a)) (.ref (G.cls c)) = some v) (hB : (hs.all fun h => match h.nm with | none => true | some i => !B i) = true)
    (hb : ∀ (W : WX) (pn : List (Addr × Obj)) (xe : Value → Shared → Prop), Takes (X.tr pn xe) W → PassesOwn (model X.prog X.w) X.A X.env xe → PSs (X.tr pn xe) body (TSm G W B mb))
    (hg : HdG X (h0 :: hds) (hnL G B hs)) : PS X (.Try body (h0 :: hds) [] [] pos) (TSm G W B (sTry xm mb hs)) :=
  (ps_try_g (tb := fun W => TSm G W B mb) hst hfm nd tk hb hg).imp fun D σ H h => by
    rw [hK]
    refine tsm_try hx (fun g hg i hi => ?_) h
    have := List.all_eq_true.mp hB g hg
    rw [hi] at this
    simpa using this
/-- which class is which one's, by a table -/
def xmL (l : List ((Nat × Nat) × Bool)) (a c : Nat) : Option Bool := l.lookup (a, c)
theorem xmL_ok {l : List ((Nat × Nat) × Bool)} (h : ∀ p ∈ l, PySem.W.exmOne G.K (.ref (G.cls p.1.1)) (.ref (G.cls p.1.2)) = some p.2) : ∀ a c v, xmL l a c = some v → PySem.W.exmOne G.K (.ref (G.cls a)) (.ref (G.cls c)) = some v := by
  intro a c v e
  unfold xmL at e
  induction l with
  | nil => cases e
  | cons p l ih =>
    obtain ⟨⟨a', c'⟩, v'⟩ := p
    rw [List.lookup_cons] at e
    split at e
    · rename_i hq
      cases e
      have : (a, c) = (a', c') := by simpa using hq
      cases this
      exact h _ (List.mem_cons_self ..)
    · exact ih (fun q hq => h q (List.mem_cons_of_mem _ hq)) e

/-! raise -/
theorem s_raise {c : Nat} {e : Expr} {pos : Pos} (hc : X.calm = true) (tk : Takes X W) (he : PMk X e (fun _ H Q => Q (.ref (G.cls c)) none H)) : PS X (.Raise (some e) none pos) (TSm G W B (sRaise ⟨c, none⟩)) :=
  (ps_raise hc tk he).imp fun D σ H h => by
    obtain ⟨S, T, r, S', ag, ow, e, k⟩ := h
    cases e
    exact k _ none σ H ag ow Kb.refl ⟨rfl, fun z => by cases z⟩
theorem Own.newXd {H : Hp} {L : List Cl} {p : Addr} {f : Nat} {x : D} {v : V} (h : Own G H L) (hp : H p = none) (hv : scalV x = some v) : Own G (upd H p (.xd [(G.fld f, v)])) (⟨.tab, .ref p, .tup [.int f, x]⟩ :: L) := by
  obtain ⟨O, h⟩ := h
  have np := h.notin hp
  obtain ⟨r, nd⟩ := h
  have k : Kp (fun a => a ∉ O) (fun a => a ∉ [p] ++ O) H (upd H p (.xd [(G.fld f, v)])) := ⟨fun a o e _ => upd_new hp a o e, fun a o e n => by
    simp only [List.cons_append, List.nil_append, List.mem_cons, not_or]
    exact ⟨ne_of_none e hp, n⟩⟩
  exact ⟨[p] ++ O, .cons (t := ⟨.tab, .ref p, .tup [.int f, x]⟩) (.tab (.inr ⟨f, x, v, rfl, hv, upd_same⟩)) (r.mono k fun a _ o e => upd_new hp a o e), List.nodup_cons.mpr ⟨np, nd⟩⟩
theorem scal_at {N : Addr → Prop} {H : Hp} {v : V} {x : D} (h : RX G N H v x) (hs : (scalV x).isSome = true) : scalV x = some v := by
  unfold scalV at hs ⊢
  cases x with
  | int i => cases h.int_at; rfl
  | str z => cases h.str_at; rfl
  | _ => simp at hs
theorem tsm_raiseF {c f : Nat} {m : M Rv} {D : Ends} {σ : Sg} {H : Hp} (h : TSm G W B (sRaiseF c f m) D σ H) : TEm G W q m σ H fun v H1 => ∀ d, H1 d = none → W (.ref (G.cls c)) (some d) σ (upd H1 d (.xd [(G.fld f, v)])) := by
  obtain ⟨S, T, r, S', ag, ow, e, k⟩ := h
  unfold sRaiseF at e
  split at e
  · cases e
  · rename_i ex S1 e1
    cases e
    exact ⟨S, T, _, _, ag, ow, e1, fun cv od H' b1 b2 b3 => k cv od σ H' b1 b2 Kb.refl b3⟩
  · rename_i rv S1 e1
    split at e
    · rename_i sh x e2
      split at e
      · rename_i w
        cases e
        refine ⟨S, T, _, _, ag, ow, e1, fun v H1 b1 b2 b3 _ d hd => ?_⟩
        have sv : scalV x = some v := by
          obtain ⟨O, o⟩ := b2
          exact scal_at (see_rx b1 o (fun t ht => ht) b3 e2 w.1) w.2
        refine k _ (some d) σ _ b1 ?_ Kb.refl ⟨rfl, fun _ => rfl⟩
        exact Own.newXd (f := f) (Own.drop b2) hd sv
      · cases e
    · cases e
theorem s_raiseF {c f : Nat} {a e : Expr} {m : M Rv} {pos : Pos} (hc : X.calm = true) (tk : Takes X W) (ha : PE X a (TEm G W q m)) (he : ∀ {ta : TE}, PE X a ta → PMk X e (fun σ H Q => ta σ H fun v H1 => ∀ d, H1 d = none → Q (.ref (G.cls c)) (some d) (upd H1 d (.xd [(G.fld f, v)])))) :
    PS X (.Raise (some e) none pos) (TSm G W B (sRaiseF c f m)) := (ps_raise hc tk (he ha)).imp fun D σ H h => tsm_raiseF h

/-! suites -/
section
variable {K : Sg → Hp → Prop} {nm : Option Nat} {a : Addr} {o : Obj} {cls : Value} {d : Option Addr} {pn : List (Addr × Obj)} {sts : List Stmt}
theorem KX.same {ex : Exc} {σ : Sg} {H H' : Hp} (h : KX G nm a d ex σ H) (k : Same H H') : KX G nm a d ex σ H' := ⟨h.1, fun f x e => let ⟨dd, v, h1, h2, h3⟩ := h.2 f x e; ⟨dd, v, h1, h2, k _ _ h3⟩⟩
/-- .. with what is known -/
def KE_ (K : Sg → Hp → Prop) (t : TE) : TE := fun σ H Q => K σ H ∧ t σ H Q
def KA (K : Sg → Hp → Prop) (t : TA) : TA := fun σ H Q => K σ H ∧ t σ H Q
theorem sui_of {h : Hn} (hs : ∀ ex, cls = .ref (G.cls ex.c) → PSs X sts (fun D σ H => KX G h.nm a d ex σ H ∧ TSm G Wno B (h.s ex) D σ H)) : PSs X sts (suiT G B h a cls d) :=
  ⟨fun pins s σ H D I q => let ⟨ex, e1, e2, e3⟩ := q; (hs ex e1).run pins s σ H D I ⟨e2, e3⟩⟩
theorem sui_plain {h : Hn} {m : MS} (e : ∀ ex, h.s ex = m) (hs : PSs X sts (TSm G Wno B m)) : PSs X sts (suiT G B h a cls d) :=
  sui_of fun ex _ => hs.imp fun _ _ _ q => by rw [e ex] at q; exact q.2
theorem k_weak {e : Expr} {t : TE} (h : PE X e t) : PE X e (KE_ K t) := h.imp fun _ _ _ q => q.2
theorem tem_keep {m : M Rv} {σ : Sg} {H : Hp} {Q : VK} (h : TEm G W true m σ H Q) : TEm G W true m σ H fun v H1 => Same H H1 ∧ Q v H1 := by
  obtain ⟨S, T, r, S', ag, ow, e, k⟩ := h
  refine ⟨S, T, r, S', ag, ow, e, ?_⟩
  cases r with
  | ok rv => exact fun v H' x1 x2 x3 x4 => ⟨x4 rfl, k v H' x1 x2 x3 x4⟩
  | error ex => exact k
theorem ka_nil : PA X [] (KA K (TAm G W true (mArgs []))) := pa_nil.imp fun _ _ _ h => tam_nil h.2
theorem ka_cons {e : Expr} {es : List Expr} {m : M Rv} {ms : List (Bool × M Rv)} (hK : ∀ σ H H', K σ H → Same H H' → K σ H') (he : PE X e (KE_ K (TEm G W true m))) (hs : PA X es (KA K (TAm G W (ms.all (·.1)) (mArgs ms))))
    (hst : starEach (e :: es) X.env = (false, eval e X.env) :: starEach es X.env := by rfl) : PA X (e :: es) (KA K (TAm G W (((true, m) :: ms).all (·.1)) (mArgs ((true, m) :: ms)))) := (pa_cons he hs hst).imp fun σ H Q h => ⟨h.1, by
      refine tem_mono (tem_keep (tam_cons h.2)) fun v H1 h1 => ?_
      exact ⟨hK _ _ _ h.1 h1.1, h1.2⟩⟩
theorem k_fld {c k : Nat} {ex : Exc} {x : D} {i : Nat} {n f : Str} {np pos : Pos} (hf : G.fld k = f) (ea : ex.arg = some (k, x)) (ec : cls = .ref (G.cls c)) (T : L2.XfC X.K (G.cls c)) (hno : PySem.W.findIn X.K (.ref (G.cls c)) f = some none)
    (hz : Zc cls d o) (hfl : ∃ vs, o.data = .fields vs) (hN : (X.suite a ((a, o) :: pn)).N[i]? = some n) (hv : Vis X.env.scope n) (hd : (n == ("__debug__" : Str)) = false) (hcd : (n == ("__classdict__" : Str)) = false)
    (hb : attributeBase (.Name n np) f X.env (eval (.Name n np) X.env) = eval (.Name n np) X.env := by rfl) :
    PE (X.suite a ((a, o) :: pn)) (.Attribute (.Name n np) f pos) (KE_ (KX G (some i) a d ex) (TEm G W true (mCon x))) := by
  refine (pe_xf (X := X) T hno hz hfl (pe_var (X := X.suite a ((a, o) :: pn)) hN hv hd hcd) hb).imp fun σ H Q h => ?_
  obtain ⟨⟨k1, k2⟩, h⟩ := h
  obtain ⟨dd, v, e1, e2, e3⟩ := k2 k x ea
  refine ⟨_, k1 i rfl, rfl, ec, dd, _, v, e1, e3, ?_, ?_⟩
  · rw [← hf]
    simp [List.lookup]
  · refine con_ok (v := v) (fun H N => ?_) h
    unfold scalV at e2
    cases x with
    | int j => cases e2; exact .int j
    | str z =>
      cases e2
      have := RF.str (G := G) (N := N) (H := H) ⟨z.toArray⟩
      simpa using this
    | _ => cases e2
end
end
end
end Dt

/-! Suites that look at the caught exception; how try and raise are computed. -/
namespace Dt
noncomputable section
open PySem PySem.Spec PyProof.Rows L2
/-- a suite that uses the field k of an exception of the class c -/
def exV (c k : Nat) (s : D → MS) (ex : Exc) : MS := match ex.arg with
  | some (k', x) => if ex.c = c ∧ k' = k then s x else mFail
  | none => mFail
@[simp] theorem exV_e {c k : Nat} {s : D → MS} {x : D} : exV c k s ⟨c, some (k, x)⟩ = s x := by simp [exV]
section
variable {X : Cx} {G : Gm} {W : WX} {B : Bw} {q q1 q2 q3 : Bool} {K : Sg → Hp → Prop} {nm : Option Nat} {a : Addr} {o : Obj} {cls : Value} {d : Option Addr} {pn : List (Addr × Obj)} {sts : List Stmt}
theorem sui_val {c c0 k : Nat} {s : D → MS} (hs : ∀ x ex, ex.arg = some (k, x) → cls = .ref (G.cls c) → PSs X sts (fun D σ H => KX G nm a d ex σ H ∧ TSm G Wno B (s x) D σ H)) : PSs X sts (suiT G B ⟨c0, nm, exV c k s⟩ a cls d) :=
  ⟨fun pins s' σ H D I q => by
    obtain ⟨ex, e1, e2, e3⟩ := q
    obtain ⟨c1, ar⟩ := ex
    cases ar with
    | none =>
      obtain ⟨_, _, _, _, _, _, e, _⟩ := e3
      cases e
    | some y =>
      obtain ⟨k1, x⟩ := y
      unfold exV at e3
      simp only at e3
      by_cases h : c1 = c ∧ k1 = k
      · rw [if_pos h] at e3
        obtain ⟨rfl, rfl⟩ := h
        exact (hs x _ rfl e1).run pins s' σ H D I ⟨e2, e3⟩
      · rw [if_neg h] at e3
        obtain ⟨_, _, _, _, _, _, e, _⟩ := e3
        cases e⟩
theorem tem_tup {as : M (List Rv)} {σ : Sg} {H : Hp} {Q : VK} (h : TEm G W q (mTup as) σ H Q) : TAm G W q as σ H fun vs H1 => vs.length ≤ sizeLine ∧ ∀ p, H1 p = none → Q (.ref p) (upd H1 p (.tup vs)) := by
  obtain ⟨S, T, r, S', ag, ow, e, k⟩ := h
  unfold mTup at e
  split at e
  · cases e
  · rename_i e1
    cases e
    exact ⟨S, T, _, _, ag, ow, e1, k⟩
  · rename_i rs S1 e1
    split at e
    · rename_i hz
      split at e
      · rename_i ds e2
        cases e
        refine ⟨S, T, _, _, ag, ow, e1, fun vs H' a1 a2 a3 a4 => ⟨line1000 (by rw [clsA_len a3]; exact hz), fun p hp => ?_⟩⟩
        obtain ⟨A, w, ev, ed, o⟩ := tmps_cls (A := []) e2 a3 (by simp) a2
        obtain ⟨O, o⟩ := o
        rw [List.nil_append, List.append_assoc] at o
        obtain ⟨rA, o'⟩ := o.heads w
        rw [ev, ed] at rA
        exact k _ _ a1 ⟨O, o'.newTup rA hp⟩ trivial fun hq => (a4 hq).trans (upd_new hp)
      · cases e
    · cases e
theorem k_tup {es : List Expr} {as : M (List Rv)} {x1 : Nat} {pos : Pos} (ha : PA X es (KA K (TAm G W q as))) : PE X (.Tuple es x1 pos) (KE_ K (TEm G W q (mTup as))) := (pe_tup ha).imp fun σ H Q h => ⟨h.1, tem_tup h.2⟩
theorem k_eq {a b : Expr} {ma mb : M Rv} {pos : Pos} (hX : X.K = G.K) (hu : X.A.units + 64 < cLine) (hK : ∀ σ H H', K σ H → Same H H' → K σ H') (ha : PE X a (KE_ K (TEm G W true ma))) (hb : PE X b (KE_ K (TEm G W q2 mb))) (hm : behindInMarks (.Eq) b = false := by rfl) : PE X (.Compare a [.Eq] [b] pos) (KE_ K (TEm G W (true && q2) (mOp2 eqF true ma q2 mb))) :=
  (pe_cmpR (op_eqD hu) ha hb hm).imp fun σ H Q h => by
    refine ⟨h.1, ?_⟩
    rw [hX]
    have h2 := tem_op2 fun_eq h.2
    refine tem_mono (tem_keep h2) fun x H1 h1 => ?_
    exact ⟨hK _ _ _ h.1 h1.1, h1.2⟩
theorem s_kret {e : Expr} {m : M Rv} {pos : Pos} (he : PE X e (KE_ K (TEm G W q m))) : PSs X [.Return (some e) pos] (fun D σ H => K σ H ∧ TSm G W B (sRet m) D σ H) := (pss_one (ps_ret he)).imp fun D σ H h => by
  refine ⟨h.1, ?_⟩
  obtain ⟨S, T, r, S', ag, ow, e, k⟩ := h.2
  unfold sRet at e
  split at e
  · cases e
  · rename_i e1
    cases e
    exact ⟨S, T, _, _, ag, ow, e1, fun cv od H' a1 a2 x => k cv od σ H' a1 a2 Kb.refl x⟩
  · rename_i rv S1 e1
    cases e
    exact ⟨S, T, _, _, ag, ow, e1, fun v H' a1 a2 _ _ => k v σ H' a1 a2 Kb.refl⟩
  · cases e
end
/-! how these are computed -/
@[irreducible] def Eh (xm : Nat → Nat → Option Bool) (hs : List Hn) (ex : Exc) (S : List Slot) (K : Kn) : Prop := Ev (fun S => hnd xm hs ex S) S K.ex K.at
def Esu (nm : Option Nat) (m : MS) (S : List Slot) (K : Kn) : Prop := match nm with
  | none => Es m S ⟨noX, K.nx, K.rt, K.bk, K.ct⟩
  | some i => i < S.length ∧ Es m (S.set i none) ⟨noX, fun S => K.nx (S.set i none), fun sh d S => K.rt sh d (S.set i none), fun S => K.bk (S.set i none), fun S => K.ct (S.set i none)⟩
section
variable {S : List Slot} {K : Kn} {xm : Nat → Nat → Option Bool} {hs : List Hn} {ex : Exc}
@[simp] theorem esu_none {m : MS} : Esu none m S K ↔ Es m S ⟨noX, K.nx, K.rt, K.bk, K.ct⟩ := Iff.rfl
@[simp] theorem esu_some {i : Nat} {m : MS} : Esu (some i) m S K ↔ i < S.length ∧ Es m (S.set i none) ⟨noX, fun S => K.nx (S.set i none), fun sh d S => K.rt sh d (S.set i none), fun S => K.bk (S.set i none), fun S => K.ct (S.set i none)⟩ := Iff.rfl
@[simp] theorem eh_nil : Eh xm [] ex S K ↔ K.ex ex S := by unfold Eh Ev hnd; exact Iff.rfl
theorem suiteR_e {nm : Option Nat} {m : MS} : Ev (suiteR nm m) S K.ex K.at ↔ Esu nm m S K := by
  unfold Esu
  cases nm with
  | none =>
    unfold Es Ev suiteR
    simp only
    cases m S with
    | none => exact Iff.rfl
    | some y =>
      obtain ⟨r, S2⟩ := y
      cases r with
      | error e => exact Iff.rfl
      | ok fl => cases fl <;> exact Iff.rfl
  | some i =>
    unfold Es Ev suiteR
    simp only
    by_cases hi : i < S.length
    · rw [if_pos hi]
      cases m (S.set i none) with
      | none => simp
      | some y =>
        obtain ⟨r, S2⟩ := y
        cases r with
        | error e => simp
        | ok fl => cases fl <;> simp [hi, Kn.at]
    · rw [if_neg hi]
      simp [hi]
theorem eh_yes {h : Hn} (e : xm ex.c h.c = some true) : Eh xm (h :: hs) ex S K ↔ Esu h.nm (h.s ex) S K := by
  rw [← suiteR_e]
  unfold Eh Ev hnd
  rw [e]
theorem eh_no {h : Hn} (e : xm ex.c h.c = some false) : Eh xm (h :: hs) ex S K ↔ Eh xm hs ex S K := by
  have e2 : hnd xm (h :: hs) ex S = hnd xm hs ex S := by
    conv => lhs; unfold hnd
    rw [e]
  unfold Eh
  rw [show (fun S => hnd xm (h :: hs) ex S) = (fun S => hnd xm (h :: hs) ex S) from rfl]
  unfold Ev
  simp only [e2]
/-- the choice of a clause -/
def Ehc (o : Option Bool) (Y N : Prop) : Prop := match o with
  | some true => Y
  | some false => N
  | none => False
@[simp] theorem ehc_t {Y N : Prop} : Ehc (some true) Y N ↔ Y := Iff.rfl
@[simp] theorem ehc_f {Y N : Prop} : Ehc (some false) Y N ↔ N := Iff.rfl
@[simp] theorem eh_cons {h : Hn} : Eh xm (h :: hs) ex S K ↔ Ehc (xm ex.c h.c) (Esu h.nm (h.s ex) S K) (Eh xm hs ex S K) := by
  cases e : xm ex.c h.c with
  | none =>
    unfold Eh Ev hnd
    rw [e]
    exact Iff.rfl
  | some b => cases b with
    | true => exact eh_yes e
    | false => exact eh_no e
@[simp] theorem ev_try {b : MS} : Es (sTry xm b hs) S K ↔ Es b S ⟨fun ex S1 => Eh xm hs ex S1 K, K.nx, K.rt, K.bk, K.ct⟩ := by
  unfold Es Ev sTry
  cases b S with
  | none => exact Iff.rfl
  | some y =>
    obtain ⟨r, S1⟩ := y
    cases r with
    | error e =>
      unfold Eh Ev
      exact Iff.rfl
    | ok fl => cases fl <;> exact Iff.rfl
@[simp] theorem ev_raise : Es (sRaise ex) S K ↔ K.ex ex S := by unfold Es Ev; exact Iff.rfl
@[simp] theorem ev_raiseF {c f : Nat} {m : M Rv} : Es (sRaiseF c f m) S K ↔ Ev m S K.ex fun r S1 => Evx r S1 fun sh d => sh.flat = true ∧ (scalV d).isSome = true ∧ K.ex ⟨c, some (f, d)⟩ S1 := by
  unfold Es Ev sRaiseF
  cases m S with
  | none => exact Iff.rfl
  | some y =>
    obtain ⟨r, S1⟩ := y
    cases r with
    | error e => exact Iff.rfl
    | ok rv =>
      simp only [Evx]
      cases rv.see S1 with
      | none => exact Iff.rfl
      | some z =>
        obtain ⟨sh, d⟩ := z
        simp only
        by_cases h : sh.flat = true ∧ (scalV d).isSome = true
        · rw [if_pos h]
          simp only [h.1, h.2, true_and]
        · rw [if_neg h]
          exact ⟨fun z => z.elim, fun z => h ⟨z.1, z.2.1⟩⟩
@[simp] theorem scalV_i {i : Int} : scalV (.int i) = some (.int i) := (rfl)
@[simp] theorem scalV_s {x : List Nat} : scalV (.str x) = some (.str ⟨x.toArray⟩) := (rfl)
end
theorem ef_err {f : Fs} {as : List (Sh × D)} {ex : Exc} {xs : List Slot} {X : XP} {Q : Sh → D → List Slot → Prop} (e : f as = some (.error ex, xs)) : Ef f as X Q ↔ X ex xs := by
  unfold Ef
  rw [e]
theorem Ef.errs {f : Fs} {as : List (Sh × D)} {X : XP} (h : Ef f as X fun _ _ _ => False) : ∃ ex xs, f as = some (.error ex, xs) ∧ X ex xs := by
  rcases h.ex with h | ⟨_, _, _, _, h⟩
  · exact h
  · exact h.elim
theorem of_efx {f : Fs} {as : List (Sh × D)} {ex : Exc} {xs : List Slot} (h : Ef f as (fun ex' xs' => ex' = ex ∧ xs' = xs) fun _ _ _ => False) : f as = some (.error ex, xs) := by
  obtain ⟨ex', xs', e, h1, h2⟩ := h.errs
  rw [e, h1, h2]
end
end Dt

namespace K78
noncomputable section
open PySem PySem.Spec PyProof.Rows L2 Dt
def topS (i : Nat) : Stmt := PySem.Challenge.pw_parley_k78_tests_of_behaviours.main.body.getD i (.Pass ⟨0, 0, 0, 0⟩)
abbrev s_is_event : Stmt := topS 10
abbrev N_is_event : List Str := ["word", "letter"]
theorem sc_is_event : FnScope N_is_event ["word"] (defScope s_is_event) := ⟨rfl, rfl, rfl, by decide +kernel, rfl, by decide +kernel, by decide +kernel⟩
abbrev s_is_action : Stmt := topS 15
abbrev N_is_action : List Str := ["word"]
theorem sc_is_action : FnScope N_is_action ["word"] (defScope s_is_action) := ⟨rfl, rfl, rfl, by decide +kernel, rfl, by decide +kernel, by decide +kernel⟩
abbrev s_System___init__ : Stmt := inClass (topS 16) 0
abbrev N_System___init__ : List Str := ["self", "count", "edges", "state", "action", "target"]
theorem sc_System___init__ : FnScope N_System___init__ ["self", "count", "edges"] (defScope s_System___init__) := ⟨rfl, rfl, rfl, by decide +kernel, rfl, by decide +kernel, by decide +kernel⟩
def B_System___init__ : Bw := fun i => i == 0
abbrev s_System_events : Stmt := inClass (topS 16) 7
abbrev N_System_events : List Str := ["self", "state", "action", "target"]
theorem sc_System_events : FnScope N_System_events ["self"] (defScope s_System_events) := ⟨rfl, rfl, rfl, by decide +kernel, rfl, by decide +kernel, by decide +kernel⟩
abbrev s_test_of : Stmt := topS 19
abbrev N_test_of : List Str := ["first", "behaviour", "trace", "events", "offers", "size", "edges", "at", "action"]
theorem sc_test_of : FnScope N_test_of ["first", "behaviour"] (defScope s_test_of) := ⟨rfl, rfl, rfl, by decide +kernel, rfl, by decide +kernel, by decide +kernel⟩
abbrev s__law_cell : Stmt := topS 21
abbrev N__law_cell : List Str := ["script", "k"]
theorem sc__law_cell : FnScope N__law_cell ["script", "k"] (defScope s__law_cell) := ⟨rfl, rfl, rfl, by decide +kernel, rfl, by decide +kernel, by decide +kernel⟩
abbrev s__law_draws : Stmt := topS 22
abbrev N__law_draws : List Str := ["cell", "count", "rows", "left", "k", "mixed"]
theorem sc__law_draws : FnScope N__law_draws ["cell", "count"] (defScope s__law_draws) := ⟨rfl, rfl, rfl, by decide +kernel, rfl, by decide +kernel, by decide +kernel⟩
abbrev s__law_like : Stmt := topS 23
abbrev N__law_like : List Str := ["actual", "due", "k"]
theorem sc__law_like : FnScope N__law_like ["actual", "due"] (defScope s__law_like) := ⟨rfl, rfl, rfl, by decide +kernel, rfl, by decide +kernel, by decide +kernel⟩
abbrev s__law_few : Stmt := topS 24
abbrev N__law_few : List Str := ["draw", "words", "k"]
theorem sc__law_few : FnScope N__law_few ["draw", "words"] (defScope s__law_few) := ⟨rfl, rfl, rfl, by decide +kernel, rfl, by decide +kernel, by decide +kernel⟩
abbrev s__law_system : Stmt := topS 25
abbrev N__law_system : List Str := ["cell", "most", "draws", "count", "edges", "k", "draw", "action"]
theorem sc__law_system : FnScope N__law_system ["cell", "most"] (defScope s__law_system) := ⟨rfl, rfl, rfl, by decide +kernel, rfl, by decide +kernel, by decide +kernel⟩
abbrev s__law_made : Stmt := topS 26
abbrev N__law_made : List Str := ["parts"]
theorem sc__law_made : FnScope N__law_made ["parts"] (defScope s__law_made) := ⟨rfl, rfl, rfl, by decide +kernel, rfl, by decide +kernel, by decide +kernel⟩
abbrev s__law_once : Stmt := topS 27
abbrev N__law_once : List Str := ["rows", "found", "row"]
theorem sc__law_once : FnScope N__law_once ["rows"] (defScope s__law_once) := ⟨rfl, rfl, rfl, by decide +kernel, rfl, by decide +kernel, by decide +kernel⟩
abbrev s__law_test_of : Stmt := topS 28
abbrev N__law_test_of : List Str := ["first", "behaviour", "size", "edges", "k", "events", "edge", "action"]
theorem sc__law_test_of : FnScope N__law_test_of ["first", "behaviour"] (defScope s__law_test_of) := ⟨rfl, rfl, rfl, by decide +kernel, rfl, by decide +kernel, by decide +kernel⟩
abbrev s__law_refused : Stmt := topS 29
abbrev N__law_refused : List Str := ["system", "behaviour"]
theorem sc__law_refused : FnScope N__law_refused ["system", "behaviour"] (defScope s__law_refused) := ⟨rfl, rfl, rfl, by decide +kernel, rfl, by decide +kernel, by decide +kernel⟩
abbrev s_law : Stmt := topS 30
abbrev N_law : List Str := ["script", "k", "parts", "draws", "trace", "j", "offers", "system", "behaviour", "count", "edges", "made"]
theorem sc_law : FnScope N_law ["script"] (defScope s_law) := ⟨rfl, rfl, rfl, by decide +kernel, rfl, by decide +kernel, by decide +kernel⟩
def y_RESERVED : List Str := ["stop", "skip", "tau", "tick", "true", "loops"]
abbrev FLDS : List Str := [("count" : Str), ("edges" : Str), ("rows" : Str), ("limit" : Str), ("model" : Str), ("line" : Str), ("name" : Str), ("test" : Str), ("order" : Str), ("numbers" : Str), ("system" : Str), ("lost" : Str), ("labels" : Str), ("moves" : Str), ("first" : Str), ("second" : Str), ("table" : Str), ("first_lost" : Str), ("second_lost" : Str), ("traces" : Str), ("differences" : Str), ("rounds" : Str), ("modal" : Str), ("writer" : Str), ("known" : Str), ("struck" : Str), ("script" : Str), ("places" : Str), ("taken" : Str), ("tokens" : Str), ("at" : Str), ("parts" : Str), ("tree" : Str), ("network" : Str), ("slimming" : Str), ("sizes" : Str), ("definitions" : Str)]
structure Tx (K : PySem.W.Frag) (mg : Str → Option Value) (f : Nat → Addr) (fd : Nat → FuncData) (ca : Nat → Addr) (C : Nat → Addr) : Prop where
  F0 : Fun K "is_event" "is_event" s_is_event (f 0) (fd 0)
  B0 : Binds K (fd 0) ["word"] []
  g0 : mg "is_event" = some (.ref (f 0))
  F1 : Fun K "is_action" "is_action" s_is_action (f 1) (fd 1)
  B1 : Binds K (fd 1) ["word"] []
  g1 : mg "is_action" = some (.ref (f 1))
  F2 : Fun K "__init__" "System.__init__" s_System___init__ (f 2) (fd 2)
  B2 : Binds K (fd 2) ["self", "count", "edges"] []
  F3 : Fun K "events" "System.events" s_System_events (f 3) (fd 3)
  B3 : Binds K (fd 3) ["self"] []
  me3 : Meth K (C 3) "events" (f 3)
  F4 : Fun K "test_of" "test_of" s_test_of (f 4) (fd 4)
  B4 : Binds K (fd 4) ["first", "behaviour"] []
  g4 : mg "test_of" = some (.ref (f 4))
  F5 : Fun K "_law_cell" "_law_cell" s__law_cell (f 5) (fd 5)
  B5 : Binds K (fd 5) ["script", "k"] []
  g5 : mg "_law_cell" = some (.ref (f 5))
  F6 : Fun K "_law_draws" "_law_draws" s__law_draws (f 6) (fd 6)
  B6 : Binds K (fd 6) ["cell", "count"] []
  g6 : mg "_law_draws" = some (.ref (f 6))
  F7 : Fun K "_law_like" "_law_like" s__law_like (f 7) (fd 7)
  B7 : Binds K (fd 7) ["actual", "due"] []
  g7 : mg "_law_like" = some (.ref (f 7))
  F8 : Fun K "_law_few" "_law_few" s__law_few (f 8) (fd 8)
  B8 : Binds K (fd 8) ["draw", "words"] []
  g8 : mg "_law_few" = some (.ref (f 8))
  F9 : Fun K "_law_system" "_law_system" s__law_system (f 9) (fd 9)
  B9 : Binds K (fd 9) ["cell", "most"] []
  g9 : mg "_law_system" = some (.ref (f 9))
  F10 : Fun K "_law_made" "_law_made" s__law_made (f 10) (fd 10)
  B10 : Binds K (fd 10) ["parts"] []
  g10 : mg "_law_made" = some (.ref (f 10))
  F11 : Fun K "_law_once" "_law_once" s__law_once (f 11) (fd 11)
  B11 : Binds K (fd 11) ["rows"] []
  g11 : mg "_law_once" = some (.ref (f 11))
  F12 : Fun K "_law_test_of" "_law_test_of" s__law_test_of (f 12) (fd 12)
  B12 : Binds K (fd 12) ["first", "behaviour"] []
  g12 : mg "_law_test_of" = some (.ref (f 12))
  F13 : Fun K "_law_refused" "_law_refused" s__law_refused (f 13) (fd 13)
  B13 : Binds K (fd 13) ["system", "behaviour"] []
  g13 : mg "_law_refused" = some (.ref (f 13))
  F14 : Fun K "law" "law" s_law (f 14) (fd 14)
  B14 : Binds K (fd 14) ["script"] []
  g14 : mg "law" = some (.ref (f 14))
  z_abs : mg "abs" = none
  z_all : mg "all" = none
  z_any : mg "any" = none
  z_bool : mg "bool" = none
  z_int : mg "int" = none
  z_isinstance : mg "isinstance" = none
  z_len : mg "len" = none
  z_list : mg "list" = none
  z_range : mg "range" = none
  z_set : mg "set" = none
  z_sorted : mg "sorted" = none
  z_str : mg "str" = none
  z_tuple : mg "tuple" = none
  k_DIGITS : ConIs mg "DIGITS" (.str "0123456789")
  k_LONGEST : ConIs mg "LONGEST" (.int 12)
  k_LOWER : ConIs mg "LOWER" (.str "abcdefghijklmnopqrstuvwxyz")
  k_MOST_STATES : ConIs mg "MOST_STATES" (.int 20000)
  k_PASS : ConIs mg "PASS" (.str "pass")
  g_RESERVED : mg "RESERVED" = some (.ref (ca 5))
  k_RESERVED : KTup K (ca 5) (y_RESERVED.map V.str)
  k_TAU : ConIs mg "TAU" (.str "tau")
  k_TICK : ConIs mg "TICK" (.str "tick")
  cl_3 : Cls K (C 3)
  gC_3 : mg "System" = some (.ref (C 3))
  mk_3 : Mk K (C 3) (f 2)
  xg_1 : mg "BadArgument" = some (.ref (C 1))
  xg_2 : mg "BadSystem" = some (.ref (C 2))
  xx_1 : PySem.W.excIn K (C 1) [.type "ValueError", .type "Exception", .type "BaseException", .type "object"] "ValueError.__new__" = true
  xk_1 : PySem.W.keepIn K (.ref (C 1)) = true
  xb_1 : PySem.W.subIn K (.ref (C 1)) (.type "BaseException") = some true
  xt_1 : PySem.W.typeIn K (.ref (C 1)) = some (.type "type")
  xx_2 : PySem.W.excIn K (C 2) [.type "ValueError", .type "Exception", .type "BaseException", .type "object"] "ValueError.__new__" = true
  xk_2 : PySem.W.keepIn K (.ref (C 2)) = true
  xb_2 : PySem.W.subIn K (.ref (C 2)) (.type "BaseException") = some true
  xt_2 : PySem.W.typeIn K (.ref (C 2)) = some (.type "type")
  xm_1_1 : PySem.W.exmOne K (.ref (C 1)) (.ref (C 1)) = some true
  xm_2_1 : PySem.W.exmOne K (.ref (C 2)) (.ref (C 1)) = some false
  na_3_0 : NoAttr K (C 3) "count"
  na_3_1 : NoAttr K (C 3) "edges"
  na_3_2 : NoAttr K (C 3) "rows"
structure Gx (G : Gm) (base : Heap) (mg : Str → Option Value) (fd : Nat → FuncData) : Prop where
  G0 : ∃ c P, GenT G base mg (fd 0) c P
  G1 : ∃ c P, GenT G base mg (fd 4) c P
section
variable {G : Gm} {mg : Str → Option Value} {f : Nat → Addr} {fd : Nat → FuncData} {ca : Nat → Addr}
theorem na_3_0 (T : Tx G.K mg f fd ca G.cls) (hG : G.fld = fldOf FLDS) : NoAttr G.K (G.cls 3) (G.fld 0) := by rw [hG]; exact T.na_3_0
theorem na_3_1 (T : Tx G.K mg f fd ca G.cls) (hG : G.fld = fldOf FLDS) : NoAttr G.K (G.cls 3) (G.fld 1) := by rw [hG]; exact T.na_3_1
theorem na_3_2 (T : Tx G.K mg f fd ca G.cls) (hG : G.fld = fldOf FLDS) : NoAttr G.K (G.cls 3) (G.fld 2) := by rw [hG]; exact T.na_3_2
theorem hf_0 {G : Gm} (hG : G.fld = fldOf FLDS) : G.fld 0 = "count" := by rw [hG]; rfl
theorem hf_1 {G : Gm} (hG : G.fld = fldOf FLDS) : G.fld 1 = "edges" := by rw [hG]; rfl
theorem hf_2 {G : Gm} (hG : G.fld = fldOf FLDS) : G.fld 2 = "rows" := by rw [hG]; rfl
theorem hn_System_events {G : Gm} (hG : G.fld = fldOf FLDS) : ∀ i, i < 37 → G.fld i ≠ "events" := by rw [hG]; decide +kernel
end
def XML : List ((Nat × Nat) × Bool) := [((1, 1), true), ((2, 1), false)]
theorem xm_ok {G : Gm} {mg : Str → Option Value} {f : Nat → Addr} {fd : Nat → FuncData} {ca : Nat → Addr} (T : Tx G.K mg f fd ca G.cls) : ∀ p ∈ XML, PySem.W.exmOne G.K (.ref (G.cls p.1.1)) (.ref (G.cls p.1.2)) = some p.2 := by
  exact (List.forall_mem_cons.mpr ⟨T.xm_1_1, (List.forall_mem_cons.mpr ⟨T.xm_2_1, (fun _ z => nomatch z)⟩)⟩)
def b_System_events : MS :=
(sSeq (sRet (mFun (on1 tupF) (mArgs [(false, (mFun (on1 sortedSF) (mArgs [(false, (mSc [1, 2, 3] (.tu [1, 2, 3]) (iSeq (mPeek (mFld 3 1 (mRef 0)))) (mBool (mOp2 notInF true (mRef 2) true (mTup (mArgs [(true, (mCon (.str (S "tau")))), (true, (mCon (.str (S "tick"))))])))) (mFrz 2)))])))])))
sPass)
def f_System_events : Fs := fnP 1 4 noB b_System_events
theorem len_System_events : Fs.len f_System_events := fnP_len
def b__law_cell : MS :=
(sSeq (sIf (mBool (mOp2 ltF true (mRef 1) true (mFun (on1 lenF) (mArgs [(true, (mRef 0))]))))
(sSeq (sRet (mFun (on1 absF) (mArgs [(true, (mFun (on1 intF) (mArgs [(true, (mOp2 idxF true (mRef 0) true (mRef 1)))])))])))
sPass)
sPass)
(sSeq (sRet (mCon (.int 0)))
sPass))
def f__law_cell : Fs := fnP 2 2 noB b__law_cell
theorem len__law_cell : Fs.len f__law_cell := fnP_len
def b__law_draws : MS :=
(sSeq (sSet noB 2 (mLst .fz (mArgs [])))
(sSeq (sSet noB 3 (mFrz 0))
(sSeq (sFor noB (.nm 4) (iRng (mArgs [(true, (mRef 1))]))
(sSeq (sIf (bAnd (mBool (mOp2 geF true (mRef 0) true (mOp2 powF true (mCon (.int 10)) true (mCon (.int 18))))) (mBool (mOp2 gtF true (mRef 3) true (mCon (.int 0)))))
(sSeq (sExpr (mAppend (mArgs ((true, mRecv "list" (mRef 2)) :: [(true, (mOp2 modF true (mFun (on1 intF) (mArgs [(true, (mRef 3))])) true (mCon (.int 4096))))]))))
(sSeq (sSet noB 3 (mOp2 divF true (mRef 3) true (mCon (.int 4096))))
sPass))
(sSeq (sSet noB 5 (mOp2 modF true (mFun (on1 intF) (mArgs [(true, (mOp2 addF true (mOp2 mulF true (mRef 0) true (mCon (.int 48271))) true (mOp2 mulF true (mOp2 addF true (mRef 4) true (mCon (.int 1))) true (mCon (.int 69621)))))])) true (mCon (.int 2147483647))))
(sSeq (sSet noB 5 (mOp2 modF true (mFun (on1 intF) (mArgs [(true, (mOp2 addF true (mOp2 addF true (mOp2 mulF true (mRef 5) true (mRef 5)) true (mOp2 mulF true (mRef 5) true (mCon (.int 16807)))) true (mOp2 mulF true (mRef 4) true (mCon (.int 7919)))))])) true (mCon (.int 2147483629))))
(sSeq (sSet noB 5 (mOp2 modF true (mFun (on1 intF) (mArgs [(true, (mOp2 addF true (mOp2 addF true (mOp2 mulF true (mRef 5) true (mRef 5)) true (mRef 0)) true (mOp2 mulF true (mCon (.int 13)) true (mRef 4))))])) true (mCon (.int 2147483587))))
(sSeq (sExpr (mAppend (mArgs ((true, mRecv "list" (mRef 2)) :: [(true, (mOp2 modF true (mOp2 divF true (mRef 5) true (mCon (.int 7))) true (mCon (.int 4096))))]))))
sPass)))))
sPass))
(sSeq (sRet (mMove 2))
sPass))))
def f__law_draws : Fs := fnP 2 6 noB b__law_draws
theorem len__law_draws : Fs.len f__law_draws := fnP_len
def b__law_like (rec : Fs) : MS :=
(sSeq (sIf (mBool (mOp2 isNF true (mRef 1) true (mCon .non)))
(sSeq (sRet (mOp2 isNF true (mRef 0) true (mCon .non)))
sPass)
sPass)
(sSeq (sIf (mBool (mFun (on2 isiF) (mArgs [(true, (mRef 1)), (true, (mCon (.ty "bool")))])))
(sSeq (sRet (vAnd (mFun (on2 isiF) (mArgs [(true, (mRef 0)), (true, (mCon (.ty "bool")))])) (mOp2 eqF true (mRef 0) true (mRef 1))))
sPass)
sPass)
(sSeq (sIf (mBool (mFun (on2 isiF) (mArgs [(true, (mRef 1)), (true, (mCon (.ty "str")))])))
(sSeq (sRet (vAnd (mFun (on2 isiF) (mArgs [(true, (mRef 0)), (true, (mCon (.ty "str")))])) (mOp2 eqF true (mRef 0) true (mRef 1))))
sPass)
sPass)
(sSeq (sIf (mBool (mFun (on2 isiF) (mArgs [(true, (mRef 1)), (true, (mCon (.ty "int")))])))
(sSeq (sRet (vAnd (mFun (on2 isiF) (mArgs [(true, (mRef 0)), (true, (mCon (.ty "int")))])) (vAnd (vNot (mFun (on2 isiF) (mArgs [(true, (mRef 0)), (true, (mCon (.ty "bool")))]))) (mOp2 eqF true (mRef 0) true (mRef 1)))))
sPass)
sPass)
(sSeq (sIf (bOr (mBool (mOp2 neF true (mFun (on2 isiF) (mArgs [(true, (mRef 1)), (true, (mCon (.ty "list")))])) true (mFun (on2 isiF) (mArgs [(true, (mRef 0)), (true, (mCon (.ty "list")))])))) (mBool (mOp2 neF true (mFun (on2 isiF) (mArgs [(true, (mRef 1)), (true, (mCon (.ty "tuple")))])) true (mFun (on2 isiF) (mArgs [(true, (mRef 0)), (true, (mCon (.ty "tuple")))])))))
(sSeq (sRet (mCon (.bl false)))
sPass)
sPass)
(sSeq (sIf (mBool (mOp2 neF true (mFun (on1 lenF) (mArgs [(true, (mRef 0))])) true (mFun (on1 lenF) (mArgs [(true, (mRef 1))]))))
(sSeq (sRet (mCon (.bl false)))
sPass)
sPass)
(sSeq (sRet (mFun (on1 allF) (mArgs [(false, (mLc [2] (.nm 2) (iRng (mArgs [(true, (mFun (on1 lenF) (mArgs [(true, (mRef 1))])))])) bYes (mCall (rec) (mArgs [(true, (mOp2 idxF true (mRef 0) true (mRef 2))), (true, (mOp2 idxF true (mRef 1) true (mRef 2)))])) .fz))])))
sPass)))))))
def r__law_like : Nat → Fs
  | 0 => fnP 2 3 noB mFail
  | k + 1 => fnP 2 3 noB (b__law_like (r__law_like k))
theorem rlen__law_like : ∀ k, (r__law_like k).len
  | 0 => fnP_len
  | _ + 1 => fnP_len
def f__law_like : Fs := r__law_like 8
theorem len__law_like : Fs.len f__law_like := rlen__law_like _
def b__law_few : MS :=
(sSeq (sRet (mFun (on1 tupF) (mArgs [(false, (mFun (on1 sortedF) (mArgs [(false, (mLc [2] (.nm 2) (iRng (mArgs [(true, (mFun (on1 lenF) (mArgs [(true, (mRef 1))])))])) (mBool (mOp2 eqF true (mOp2 modF true (mOp2 divF true (mRef 0) true (mOp2 idxF true (mLst .fz (mArgs [(true, (mCon (.int 1))), (true, (mCon (.int 2))), (true, (mCon (.int 4))), (true, (mCon (.int 8))), (true, (mCon (.int 16))), (true, (mCon (.int 32)))])) true (mRef 2))) true (mCon (.int 2))) true (mCon (.int 1)))) (mOp2 idxF true (mRef 1) true (mRef 2)) .fz))])))])))
sPass)
def f__law_few : Fs := fnP 2 3 noB b__law_few
theorem len__law_few : Fs.len f__law_few := fnP_len
def b__law_once : MS :=
(sSeq (sSet noB 1 (mLst .fz (mArgs [])))
(sSeq (sFor noB (.nm 2) (iSeq (mFrz 0))
(sSeq (sIf (mBool (mOp2 notInF true (mRef 2) true (mRef 1)))
(sSeq (sExpr (mAppend (mArgs ((true, mRecv "list" (mRef 1)) :: [(true, (mFrz 2))]))))
sPass)
sPass)
sPass))
(sSeq (sRet (mMove 1))
sPass)))
def f__law_once : Fs := fnP 1 3 noB b__law_once
theorem len__law_once : Fs.len f__law_once := fnP_len
def b__law_system : MS :=
(sSeq (sSet noB 2 (mCall f__law_draws (mArgs [(true, (mFrz 0)), (true, (mOp2 addF true (mOp2 mulF true (mCon (.int 3)) true (mRef 1)) true (mCon (.int 4))))])))
(sSeq (sSet noB 3 (mOp2 addF true (mCon (.int 1)) true (mOp2 modF true (mOp2 idxF true (mRef 2) true (mCon (.int 0))) true (mRef 1))))
(sSeq (sSet noB 4 (mLst .fz (mArgs [])))
(sSeq (sFor noB (.nm 5) (iRng (mArgs [(true, (mOp2 modF true (mOp2 idxF true (mRef 2) true (mCon (.int 1))) true (mOp2 mulF true (mCon (.int 3)) true (mRef 1))))]))
(sSeq (sSet noB 6 (mOp2 idxF true (mRef 2) true (mOp2 addF true (mCon (.int 2)) true (mRef 5))))
(sSeq (sSet noB 7 (mOp2 idxF true (mLst .fz (mArgs [(true, (mCon (.str (S "a")))), (true, (mCon (.str (S "b")))), (true, (mCon (.str (S "tau")))), (true, (mCon (.str (S "a")))), (true, (mCon (.str (S "c")))), (true, (mCon (.str (S "tau")))), (true, (mCon (.str (S "b")))), (true, (mCon (.str (S "tick")))), (true, (mCon (.str (S "a")))), (true, (mCon (.str (S "tau"))))])) true (mOp2 modF true (mRef 6) true (mOp2 addF true (mCon (.int 9)) true (mOp2 modF true (mOp2 idxF true (mRef 2) true (mCon (.int 2))) true (mCon (.int 2)))))))
(sSeq (sExpr (mAppend (mArgs ((true, mRecv "list" (mRef 4)) :: [(true, (mTup (mArgs [(true, (mOp2 modF true (mOp2 divF true (mRef 6) true (mCon (.int 10))) true (mRef 3))), (true, (mFrz 7)), (true, (mOp2 modF true (mOp2 divF true (mRef 6) true (mCon (.int 100))) true (mRef 3)))])))]))))
sPass))))
(sSeq (sRet (mTup (mArgs [(true, (mFrz 3)), (true, (mFrz 4))])))
sPass)))))
def f__law_system : Fs := fnP 2 8 noB b__law_system
theorem len__law_system : Fs.len f__law_system := fnP_len
def b__law_test_of : MS :=
(sSeq (sSet noB 2 (mFun (on1 lenF) (mArgs [(true, (mOp2 idxF true (mRef 1) true (mCon (.int 1))))])))
(sSeq (sSet noB 3 (mLst .fz (mArgs [(true, (mTup (mArgs [(true, (mOp2 addF true (mRef 2) true (mCon (.int 1)))), (true, (mCon (.str (S "pass")))), (true, (mOp2 addF true (mRef 2) true (mCon (.int 1))))])))])))
(sSeq (sFor noB (.nm 4) (iRng (mArgs [(true, (mRef 2))]))
(sSeq (sSet noB 3 (mOp2 addF true (mRef 3) true (mLst .fz (mArgs [(true, (mTup (mArgs [(true, (mFrz 4)), (true, (mOp2 idxF true (mOp2 idxF true (mRef 1) true (mCon (.int 1))) true (mRef 4))), (true, (mOp2 addF true (mRef 4) true (mCon (.int 1))))]))), (true, (mTup (mArgs [(true, (mFrz 4)), (true, (mCon (.str (S "tau")))), (true, (mOp2 addF true (mRef 2) true (mCon (.int 1))))])))]))))
sPass))
(sSeq (sIf (mBool (mOp2 eqF true (mOp2 idxF true (mRef 1) true (mCon (.int 0))) true (mCon (.str (S "divergence")))))
(sSeq (sExpr (mAppend (mArgs ((true, mRecv "list" (mRef 3)) :: [(true, (mTup (mArgs [(true, (mFrz 2)), (true, (mCon (.str (S "tau")))), (true, (mOp2 addF true (mRef 2) true (mCon (.int 1))))])))]))))
sPass)
sPass)
(sSeq (sIf (mBool (mOp2 eqF true (mOp2 idxF true (mRef 1) true (mCon (.int 0))) true (mCon (.str (S "failure")))))
(sSeq (sSet noB 5 (mOp2 addF false (mLc [6] (.nm 6) (iSeq (mOp2 idxF true (mRef 0) true (mCon (.int 1)))) (mBool (mOp2 neF true (mOp2 idxF true (mRef 6) true (mCon (.int 1))) true (mCon (.str (S "tau"))))) (mOp2 idxF true (mRef 6) true (mCon (.int 1))) .fz) true (mLst .fz (mArgs [(true, (mCon (.str (S "tick"))))]))))
(sSeq (sSet noB 3 (mOp2 addF true (mRef 3) false (mLc [7] (.nm 7) (iSeq (mFrz 5)) (mBool (mOp2 notInF true (mRef 7) true (mOp2 idxF true (mRef 1) true (mCon (.int 2))))) (mTup (mArgs [(true, (mFrz 2)), (true, (mFrz 7)), (true, (mOp2 addF true (mRef 2) true (mCon (.int 1))))])) .fz)))
sPass))
sPass)
(sSeq (sRet (mTup (mArgs [(true, (mOp2 addF true (mRef 2) true (mCon (.int 2)))), (false, (mCall f__law_once (mArgs [(true, (mFrz 3))])))])))
sPass))))))
def f__law_test_of : Fs := fnP 2 8 noB b__law_test_of
theorem len__law_test_of : Fs.len f__law_test_of := fnP_len
def b_is_event : MS :=
(sSeq (sIf (bOr (mBool (mOp2 ltF true (mFun (on1 lenF) (mArgs [(true, (mRef 0))])) true (mCon (.int 1)))) (bOr (mBool (mOp2 gtF true (mFun (on1 lenF) (mArgs [(true, (mRef 0))])) true (mCon (.int 12)))) (bOr (mBool (mOp2 notInF true (mOp2 idxF true (mRef 0) true (mCon (.int 0))) true (mCon (.str (S "abcdefghijklmnopqrstuvwxyz"))))) (mBool (mOp2 inF true (mRef 0) true (mCon (.tup (y_RESERVED.map fun s => D.str s.cps.toList))))))))
(sSeq (sRet (mCon (.bl false)))
sPass)
sPass)
(sSeq (sRet (mGen [1] (.nm 1) false (iSgn (mFrz 0)) (vOr (mOp2 inF true (mRef 1) true (mCon (.str (S "abcdefghijklmnopqrstuvwxyz")))) (mOp2 inF true (mRef 1) true (mCon (.str (S "0123456789")))))))
sPass))
def f_is_event : Fs := fnP 1 2 noB b_is_event
theorem len_is_event : Fs.len f_is_event := fnP_len
def b_is_action : MS :=
(sSeq (sRet (vOr (mOp2 inF true (mRef 0) true (mTup (mArgs [(true, (mCon (.str (S "tau")))), (true, (mCon (.str (S "tick"))))]))) (mCall f_is_event (mArgs [(true, (mFrz 0))]))))
sPass)
def f_is_action : Fs := fnP 1 1 noB b_is_action
theorem len_is_action : Fs.len f_is_action := fnP_len
def b_System___init__ : MS :=
(sSeq (sIf (bOr (mBool (mOp2 ltF true (mRef 1) true (mCon (.int 1)))) (mBool (mOp2 gtF true (mRef 1) true (mCon (.int 20000)))))
(sSeq (sRaise ⟨2, none⟩)
sPass)
sPass)
(sSeq (sFor B_System___init__ (.tu [3, 4, 5]) (iSeq (mFrz 2))
(sSeq (sIf (bOr (bNot (bAnd (mBool (mOp2 leF true (mCon (.int 0)) true (mRef 3))) (mBool (mOp2 ltIF true (mRef 3) true (mRef 1))))) (bOr (bNot (bAnd (mBool (mOp2 leF true (mCon (.int 0)) true (mRef 5))) (mBool (mOp2 ltIF true (mRef 5) true (mRef 1))))) (bNot (mBool (mCall f_is_action (mArgs [(true, (mFrz 4))]))))))
(sSeq (sRaise ⟨2, none⟩)
sPass)
sPass)
sPass))
(sSeq (sFldSet 0 3 0 (mFrz 1))
(sSeq (sFldSet 0 3 1 (mFun (on1 tupF) (mArgs [(true, (mFun (on1 sortedSF) (mArgs [(true, (mFun (on1 setF) (mArgs [(true, (mRef 2))])))])))])))
(sSeq (sFldSet 0 3 2 (mLc [3] (.nm 3) (iRng (mArgs [(true, (mRef 1))])) bYes (mLst (.fz) (mArgs [])) (.lst .fz)))
(sSeq (sFor B_System___init__ (.tu [3, 4, 5]) (iSeq (mPeek (mFld 3 1 (mRef 0))))
(sSeq (sExpr (mAppendP (mArgs ((true, mRecv "list" (mIxP (mFld 3 2 (mRef 0)) (mRef 3))) :: [(true, (mTup (mArgs [(true, (mFrz 4)), (true, (mFrz 5))])))]))))
sPass))
sPass))))))
def f_System___init__ : Fs := fnP 3 6 B_System___init__ b_System___init__
theorem len_System___init__ : Fs.len f_System___init__ := fnP_len
def b_test_of : MS :=
(sSeq (sSet noB 2 (mOp2 idxF true (mRef 1) true (mCon (.int 1))))
(sSeq (sSet noB 3 (mCall f_System_events (mArgs [(true, (mInst 3 37 (mFrz 0)))])))
(sSeq (sIf (bOr (mBool (mOp2 inF true (mCon (.str (S "pass"))) true (mRef 3))) (bOr (mBool (mOp2 inF true (mCon (.str (S "pass"))) true (mRef 2))) (mBool (mGen [4] (.nm 4) true (iSeq (mOp2 sl1F true (mRef 1) true (mCon (.int 2)))) (mOp2 inF true (mCon (.str (S "pass"))) true (mRef 4))))))
(sSeq (sRaise ⟨1, none⟩)
sPass)
sPass)
(sSeq (sSet noB 5 (mFun (on1 lenF) (mArgs [(true, (mRef 2))])))
(sSeq (sSet noB 6 (mLst .fz (mArgs [(true, (mTup (mArgs [(true, (mOp2 addF true (mRef 5) true (mCon (.int 1)))), (true, (mCon (.str (S "pass")))), (true, (mOp2 addF true (mRef 5) true (mCon (.int 1))))])))])))
(sSeq (sFor noB (.nm 7) (iRng (mArgs [(true, (mRef 5))]))
(sSeq (sExpr (mAppend (mArgs ((true, mRecv "list" (mRef 6)) :: [(true, (mTup (mArgs [(true, (mFrz 7)), (true, (mOp2 idxF true (mRef 2) true (mRef 7))), (true, (mOp2 addF true (mRef 7) true (mCon (.int 1))))])))]))))
(sSeq (sExpr (mAppend (mArgs ((true, mRecv "list" (mRef 6)) :: [(true, (mTup (mArgs [(true, (mFrz 7)), (true, (mCon (.str (S "tau")))), (true, (mOp2 addF true (mRef 5) true (mCon (.int 1))))])))]))))
sPass)))
(sSeq (sIf (mBool (mOp2 eqF true (mOp2 idxF true (mRef 1) true (mCon (.int 0))) true (mCon (.str (S "divergence")))))
(sSeq (sExpr (mAppend (mArgs ((true, mRecv "list" (mRef 6)) :: [(true, (mTup (mArgs [(true, (mFrz 5)), (true, (mCon (.str (S "tau")))), (true, (mOp2 addF true (mRef 5) true (mCon (.int 1))))])))]))))
sPass)
sPass)
(sSeq (sIf (mBool (mOp2 eqF true (mOp2 idxF true (mRef 1) true (mCon (.int 0))) true (mCon (.str (S "failure")))))
(sSeq (sFor noB (.nm 8) (iSeq (mOp2 addF true (mRef 3) true (mTup (mArgs [(true, (mCon (.str (S "tick"))))]))))
(sSeq (sIf (mBool (mOp2 notInF true (mRef 8) true (mOp2 idxF true (mRef 1) true (mCon (.int 2)))))
(sSeq (sExpr (mAppend (mArgs ((true, mRecv "list" (mRef 6)) :: [(true, (mTup (mArgs [(true, (mFrz 5)), (true, (mFrz 8)), (true, (mOp2 addF true (mRef 5) true (mCon (.int 1))))])))]))))
sPass)
sPass)
sPass))
sPass)
sPass)
(sSeq (sRet (mMake 3 f_System___init__ (mArgs [(true, (mOp2 addF true (mRef 5) true (mCon (.int 2)))), (true, (mFrz 6))])))
sPass)))))))))
def f_test_of : Fs := fnP 2 9 noB b_test_of
theorem len_test_of : Fs.len f_test_of := fnP_len
def b__law_made : MS :=
(sSeq (sRet (mMake 3 f_System___init__ (mArgs [(true, (mOp2 idxF true (mRef 0) true (mCon (.int 0)))), (true, (mFun (on1 listF) (mArgs [(true, (mOp2 idxF true (mRef 0) true (mCon (.int 1))))])))])))
sPass)
def f__law_made : Fs := fnP 1 1 noB b__law_made
theorem len__law_made : Fs.len f__law_made := fnP_len
def b__law_refused : MS :=
(sSeq (sTry (xmL XML)
(sSeq (sExpr (mCall f_test_of (mArgs [(true, (mFrz 0)), (true, (mFrz 1))])))
sPass)
[⟨1, none, fun _ => (sSeq (sRet (mCon (.bl true)))
sPass)⟩])
(sSeq (sRet (mCon (.bl false)))
sPass))
def f__law_refused : Fs := fnP 2 2 noB b__law_refused
theorem len__law_refused : Fs.len f__law_refused := fnP_len
def b_law : MS :=
(sSeq (sFor noB (.nm 1) (iRng (mArgs [(true, (mCon (.int 4)))]))
(sSeq (sSet noB 2 (mCall f__law_system (mArgs [(false, (mCall f__law_cell (mArgs [(true, (mFrz 0)), (true, (mFrz 1))]))), (true, (mCon (.int 6)))])))
(sSeq (sSet noB 3 (mCall f__law_draws (mArgs [(false, (mCall f__law_cell (mArgs [(true, (mFrz 0)), (true, (mOp2 addF true (mCon (.int 4)) true (mRef 1)))]))), (true, (mCon (.int 8)))])))
(sSeq (sSet noB 4 (mFun (on1 tupF) (mArgs [(false, (mLc [5] (.nm 5) (iRng (mArgs [(true, (mOp2 modF true (mOp2 idxF true (mRef 3) true (mCon (.int 0))) true (mCon (.int 5))))])) bYes (mOp2 idxF true (mLst .fz (mArgs [(true, (mCon (.str (S "a")))), (true, (mCon (.str (S "b")))), (true, (mCon (.str (S "tick")))), (true, (mCon (.str (S "zz"))))])) true (mOp2 modF true (mOp2 idxF true (mRef 3) true (mOp2 addF true (mCon (.int 1)) true (mRef 5))) true (mCon (.int 4)))) .fz))])))
(sSeq (sSet noB 6 (mCall f__law_few (mArgs [(true, (mOp2 modF true (mOp2 idxF true (mRef 3) true (mCon (.int 6))) true (mCon (.int 16)))), (true, (mLst .fz (mArgs [(true, (mCon (.str (S "a")))), (true, (mCon (.str (S "b")))), (true, (mCon (.str (S "c")))), (true, (mCon (.str (S "tick"))))])))])))
(sSeq (sSet noB 7 (mCall f__law_made (mArgs [(true, (mFrz 2))])))
(sSeq (sFor noB (.nm 8) (iSeq (mLst .fz (mArgs [(true, (mTup (mArgs [(true, (mCon (.str (S "trace")))), (true, (mFrz 4))]))), (true, (mTup (mArgs [(true, (mCon (.str (S "divergence")))), (true, (mFrz 4))]))), (true, (mTup (mArgs [(true, (mCon (.str (S "failure")))), (true, (mFrz 4)), (true, (mFrz 6))])))])))
(sSeq (sBind noB (.tu [9, 10]) (mCall f__law_test_of (mArgs [(true, (mFrz 2)), (true, (mFrz 8))])))
(sSeq (sSet noB 11 (mCall f_test_of (mArgs [(true, (mFrz 7)), (true, (mFrz 8))])))
(sSeq (sIf (bOr (bNot (mBool (mCall f__law_like (mArgs [(true, (mPeek (mFld 3 0 (mRef 11)))), (true, (mFrz 9))])))) (bNot (mBool (mCall f__law_like (mArgs [(true, (mPeek (mFld 3 1 (mRef 11)))), (true, (mFun (on1 tupF) (mArgs [(true, (mFun (on1 sortedF) (mArgs [(true, (mRef 10))])))])))])))))
(sSeq (sRet (mCon (.bl false)))
sPass)
sPass)
(sSeq (sIf (bNot (mBool (mCall f__law_refused (mArgs [(true, (mFrz 7)), (true, (mOp2 addF true (mTup (mArgs [(true, (mOp2 idxF true (mRef 8) true (mCon (.int 0)))), (true, (mOp2 addF true (mRef 4) true (mTup (mArgs [(true, (mCon (.str (S "pass"))))]))))])) true (mOp2 sl1F true (mRef 8) true (mCon (.int 2)))))]))))
(sSeq (sRet (mCon (.bl false)))
sPass)
sPass)
(sSeq (sIf (bNot (mBool (mCall f__law_refused (mArgs [(false, (mMake 3 f_System___init__ (mArgs [(true, (mCon (.int 1))), (true, (mLst .fz (mArgs [(true, (mTup (mArgs [(true, (mCon (.int 0))), (true, (mCon (.str (S "pass")))), (true, (mCon (.int 0)))])))])))]))), (true, (mFrz 8))]))))
(sSeq (sRet (mCon (.bl false)))
sPass)
sPass)
sPass))))))
(sSeq (sIf (bNot (mBool (mCall f__law_refused (mArgs [(true, (mFrz 7)), (true, (mTup (mArgs [(true, (mCon (.str (S "failure")))), (true, (mFrz 4)), (true, (mTup (mArgs [(true, (mCon (.str (S "a")))), (true, (mCon (.str (S "pass"))))])))])))]))))
(sSeq (sRet (mCon (.bl false)))
sPass)
sPass)
sPass))))))))
(sSeq (sRet (mCon (.bl true)))
sPass))
def f_law : Fs := fnP 1 12 noB b_law
theorem len_law : Fs.len f_law := fnP_len
section
variable {P : Program} {w : World} {mg : Str → Option Value} {base : Heap} {G : Gm} {f : Nat → Addr} {fd : Nat → FuncData} {ca : Nat → Addr}
theorem ok_System_events (T : Tx G.K mg f fd ca G.cls) (hG : G.fld = fldOf FLDS) (hw : w = G.w) (Γ : Gx G base mg fd) : FnOk P w G.K mg base (L2.CX P w) 1 (f 3) (fd 3) ["self"] (spF G f_System_events) := by
  refine fn_p T.F3 sc_System_events rfl rfl fun cdv A outer s H E hcd hr => ?_
  unfold b_System_events
  exact (pss_mcons (ps_mret (f_tuple rfl rfl T.z_tuple (pc (f_sortedS rfl hw rfl (room65 hr) rfl T.z_sorted (pc (e_sc rfl hw rfl (room65 hr) sc_System_events.nd (pi_mseq rfl (e_peek (pe_mfld rfl T.cl_3 (na_3_1 T hG) (ir 0) (hf_1 hG) rfl))) (blkOk_by (N := N_System_events) (sc := defScope s_System_events) (own := [("state", 1), ("action", 2), ("target", 3)]) (by decide +kernel)) (fun _ _ _ _ _ => (pg_mtup rfl rfl (pgs_mcons (g_nm (i := 1) sc_System_events.nd) (pgs_mcons (g_nm (i := 2) sc_System_events.nd) (pgs_mcons (g_nm (i := 3) sc_System_events.nd) pgs_mnil rfl) rfl) rfl) rfl rfl)) (fun _ _ _ _ _ => (ifs_1 (t_notin rfl (room65 hr) (ir 2) (pe_mtup (pc (e_globS T.k_TAU) (pc (e_globS T.k_TICK) pn))) rfl))) (fun _ _ _ _ _ => (iz 2)) (by decide) (by decide) rfl) pn)) pn) rfl rfl))
pss_mnil)
theorem ok__law_cell (T : Tx G.K mg f fd ca G.cls) (hG : G.fld = fldOf FLDS) (hw : w = G.w) (Γ : Gx G base mg fd) : FnOk P w G.K mg base (L2.CX P w) 1 (f 5) (fd 5) ["script", "k"] (spF G f__law_cell) := by
  refine fn_p T.F5 sc__law_cell rfl rfl fun cdv A outer s H E hcd hr => ?_
  unfold b__law_cell
  exact (pss_mcons (ps_mif (t_lt rfl hr.units (ir 1) (f_len rfl rfl T.z_len (pc (ir 0) pn) rfl rfl) rfl)
(pss_mcons (ps_mret (f_abs rfl T.z_abs (pc (f_int rfl T.z_int (pc (o_idx rfl (ir 0) (ir 1) (fun _ _ => rfl)) pn) rfl rfl) pn) rfl rfl))
pss_mnil)
pss_mnil)
(pss_mcons (ps_mret pe_mint)
pss_mnil))
theorem ok__law_draws (T : Tx G.K mg f fd ca G.cls) (hG : G.fld = fldOf FLDS) (hw : w = G.w) (Γ : Gx G base mg fd) : FnOk P w G.K mg base (L2.CX P w) 1 (f 6) (fd 6) ["cell", "count"] (spF G f__law_draws) := by
  refine fn_p T.F6 sc__law_draws rfl rfl fun cdv A outer s H E hcd hr => ?_
  unfold b__law_draws
  exact (pss_mcons (s_set (i := 2) sc__law_draws.nd (pe_mlst pn))
(pss_mcons (s_set (i := 3) sc__law_draws.nd (iz 0))
(pss_mcons (s_for (L2.passes_of rfl) rfl (i_rng1 rfl T.z_range (ir 1)) (g_nm (i := 4) sc__law_draws.nd)
(pss_mcons (ps_mif (L2.PW.pt (pw_mand (t_ge (ir 0) (o_pow pe_mint pe_mint) rfl) (pw_mand1 (t_gt (ir 3) pe_mint rfl))))
(pss_mcons (s_expr (m_append rfl (ir 2) (pc (o_mod (f_int rfl T.z_int (pc (ir 3) pn) rfl rfl) pe_mint) pn)))
(pss_mcons (s_set (i := 3) sc__law_draws.nd (o_div (ir 3) pe_mint))
pss_mnil))
(pss_mcons (s_set (i := 5) sc__law_draws.nd (o_mod (f_int rfl T.z_int (pc (o_add rfl (o_mul (ir 0) pe_mint) (o_mul (o_add rfl (ir 4) pe_mint) pe_mint)) pn) rfl rfl) pe_mint))
(pss_mcons (s_set (i := 5) sc__law_draws.nd (o_mod (f_int rfl T.z_int (pc (o_add rfl (o_add rfl (o_mul (ir 5) (ir 5)) (o_mul (ir 5) pe_mint)) (o_mul (ir 4) pe_mint)) pn) rfl rfl) pe_mint))
(pss_mcons (s_set (i := 5) sc__law_draws.nd (o_mod (f_int rfl T.z_int (pc (o_add rfl (o_add rfl (o_mul (ir 5) (ir 5)) (ir 0)) (o_mul pe_mint (ir 4))) pn) rfl rfl) pe_mint))
(pss_mcons (s_expr (m_append rfl (ir 2) (pc (o_mod (o_div (ir 5) pe_mint) pe_mint) pn)))
pss_mnil)))))
pss_mnil))
(pss_mcons (ps_mret (im 2))
pss_mnil))))
theorem okr__law_like (T : Tx G.K mg f fd ca G.cls) (hG : G.fld = fldOf FLDS) (hw : w = G.w) (Γ : Gx G base mg fd) : ∀ k, FnOk P w G.K mg base (L2.CX P w) (1 + k) (f 7) (fd 7) ["actual", "due"] (spF G (r__law_like k))
  | 0 => ok_never T.F7 sc__law_like rfl rfl
  | k + 1 => by
    have ih := okr__law_like T hG hw Γ k
    have rec_len := rlen__law_like
    refine fn_p (k := 1 + k) T.F7 sc__law_like rfl rfl fun cdv A outer s H E hcd hr => ?_
    unfold b__law_like
    exact (pss_mcons (ps_mif (t_is (ir 1) pe_mnon rfl)
(pss_mcons (ps_mret (c_is (ir 0) pe_mnon rfl))
pss_mnil)
pss_mnil)
(pss_mcons (ps_mif (tv (f_isinstance rfl rfl T.z_isinstance (pc (ir 1) (pc (pe_mtyv rfl T.z_bool (by decide +kernel) (by decide) (by decide)) pn)) rfl rfl))
(pss_mcons (ps_mret (pe_mand (f_isinstance rfl rfl T.z_isinstance (pc (ir 0) (pc (pe_mtyv rfl T.z_bool (by decide +kernel) (by decide) (by decide)) pn)) rfl rfl) (v_one (c_eq rfl hr.units (ir 0) (ir 1) rfl))))
pss_mnil)
pss_mnil)
(pss_mcons (ps_mif (tv (f_isinstance rfl rfl T.z_isinstance (pc (ir 1) (pc (pe_mtyv rfl T.z_str (by decide +kernel) (by decide) (by decide)) pn)) rfl rfl))
(pss_mcons (ps_mret (pe_mand (f_isinstance rfl rfl T.z_isinstance (pc (ir 0) (pc (pe_mtyv rfl T.z_str (by decide +kernel) (by decide) (by decide)) pn)) rfl rfl) (v_one (c_eq rfl hr.units (ir 0) (ir 1) rfl))))
pss_mnil)
pss_mnil)
(pss_mcons (ps_mif (tv (f_isinstance rfl rfl T.z_isinstance (pc (ir 1) (pc (pe_mtyv rfl T.z_int (by decide +kernel) (by decide) (by decide)) pn)) rfl rfl))
(pss_mcons (ps_mret (pe_mand (f_isinstance rfl rfl T.z_isinstance (pc (ir 0) (pc (pe_mtyv rfl T.z_int (by decide +kernel) (by decide) (by decide)) pn)) rfl rfl) (pe_mand (pe_mnotv (f_isinstance rfl rfl T.z_isinstance (pc (ir 0) (pc (pe_mtyv rfl T.z_bool (by decide +kernel) (by decide) (by decide)) pn)) rfl rfl)) (v_one (c_eq rfl hr.units (ir 0) (ir 1) rfl)))))
pss_mnil)
pss_mnil)
(pss_mcons (ps_mif (L2.PW.pt (pw_mor (t_ne rfl hr.units (f_isinstance rfl rfl T.z_isinstance (pc (ir 1) (pc (pe_mtyv rfl T.z_list (by decide +kernel) (by decide) (by decide)) pn)) rfl rfl) (f_isinstance rfl rfl T.z_isinstance (pc (ir 0) (pc (pe_mtyv rfl T.z_list (by decide +kernel) (by decide) (by decide)) pn)) rfl rfl) rfl) (pw_mor1 (t_ne rfl hr.units (f_isinstance rfl rfl T.z_isinstance (pc (ir 1) (pc (pe_mtyv rfl T.z_tuple (by decide +kernel) (by decide) (by decide)) pn)) rfl rfl) (f_isinstance rfl rfl T.z_isinstance (pc (ir 0) (pc (pe_mtyv rfl T.z_tuple (by decide +kernel) (by decide) (by decide)) pn)) rfl rfl) rfl))))
(pss_mcons (ps_mret pe_mbl)
pss_mnil)
pss_mnil)
(pss_mcons (ps_mif (t_ne rfl hr.units (f_len rfl rfl T.z_len (pc (ir 0) pn) rfl rfl) (f_len rfl rfl T.z_len (pc (ir 1) pn) rfl rfl) rfl)
(pss_mcons (ps_mret pe_mbl)
pss_mnil)
pss_mnil)
(pss_mcons (ps_mret (f_all rfl rfl rfl T.z_all (pc (e_lc rfl sc__law_like.nd (i_rng1 rfl T.z_range (f_len rfl rfl T.z_len (pc (ir 1) pn) rfl rfl)) (blkOk_by (N := N__law_like) (sc := defScope s__law_like) (own := [("k", 2)]) (by decide +kernel)) (fun _ _ _ _ _ => (g_nm (i := 2) sc__law_like.nd)) (fun _ _ _ _ _ => ifs_0) (fun _ _ _ _ _ => (f_call (rec_len _) rfl ih (hr.mono (Nat.le_refl _)) T.g7 T.F7.kp T.B7 takes_0 (pc (o_idx rfl (ir 0) (ir 2) (fun _ _ => rfl)) (pc (o_idx rfl (ir 1) (ir 2) (fun _ _ => rfl)) pn)))) (by decide) (by decide) rfl) pn)))
pss_mnil)))))))
theorem ok__law_like (T : Tx G.K mg f fd ca G.cls) (hG : G.fld = fldOf FLDS) (hw : w = G.w) (Γ : Gx G base mg fd) : FnOk P w G.K mg base (L2.CX P w) 9 (f 7) (fd 7) ["actual", "due"] (spF G f__law_like) := okr__law_like T hG hw Γ 8
theorem ok__law_few (T : Tx G.K mg f fd ca G.cls) (hG : G.fld = fldOf FLDS) (hw : w = G.w) (Γ : Gx G base mg fd) : FnOk P w G.K mg base (L2.CX P w) 1 (f 8) (fd 8) ["draw", "words"] (spF G f__law_few) := by
  refine fn_p T.F8 sc__law_few rfl rfl fun cdv A outer s H E hcd hr => ?_
  unfold b__law_few
  exact (pss_mcons (ps_mret (f_tuple rfl rfl T.z_tuple (pc (f_sorted rfl hr.units rfl T.z_sorted (pc (e_lc rfl sc__law_few.nd (i_rng1 rfl T.z_range (f_len rfl rfl T.z_len (pc (ir 1) pn) rfl rfl)) (blkOk_by (N := N__law_few) (sc := defScope s__law_few) (own := [("k", 2)]) (by decide +kernel)) (fun _ _ _ _ _ => (g_nm (i := 2) sc__law_few.nd)) (fun _ _ _ _ _ => (ifs_1 (t_eq rfl hr.units (o_mod (o_div (ir 0) (o_idx rfl (pe_mlst (pc pe_mint (pc pe_mint (pc pe_mint (pc pe_mint (pc pe_mint (pc pe_mint pn))))))) (ir 2) (fun _ _ => rfl))) pe_mint) pe_mint rfl))) (fun _ _ _ _ _ => (o_idx rfl (ir 1) (ir 2) (fun _ _ => rfl))) (by decide) (by decide) rfl) pn) rfl rfl) pn) rfl rfl))
pss_mnil)
theorem ok__law_once (T : Tx G.K mg f fd ca G.cls) (hG : G.fld = fldOf FLDS) (hw : w = G.w) (Γ : Gx G base mg fd) : FnOk P w G.K mg base (L2.CX P w) 1 (f 11) (fd 11) ["rows"] (spF G f__law_once) := by
  refine fn_p T.F11 sc__law_once rfl rfl fun cdv A outer s H E hcd hr => ?_
  unfold b__law_once
  exact (pss_mcons (s_set (i := 1) sc__law_once.nd (pe_mlst pn))
(pss_mcons (s_for (L2.passes_of rfl) rfl (pi_mseq rfl (iz 0)) (g_nm (i := 2) sc__law_once.nd)
(pss_mcons (ps_mif (t_notin rfl (room65 hr) (ir 2) (ir 1) rfl)
(pss_mcons (s_expr (m_append rfl (ir 1) (pc (iz 2) pn)))
pss_mnil)
pss_mnil)
pss_mnil))
(pss_mcons (ps_mret (im 1))
pss_mnil)))
theorem ok__law_system (T : Tx G.K mg f fd ca G.cls) (hG : G.fld = fldOf FLDS) (hw : w = G.w) (Γ : Gx G base mg fd) : FnOk P w G.K mg base (L2.CX P w) 2 (f 9) (fd 9) ["cell", "most"] (spF G f__law_system) := by
  refine fn_p T.F9 sc__law_system rfl rfl fun cdv A outer s H E hcd hr => ?_
  unfold b__law_system
  exact (pss_mcons (s_set (i := 2) sc__law_system.nd (f_call len__law_draws rfl (ok__law_draws T hG hw Γ) (hr.mono (by decide)) T.g6 T.F6.kp T.B6 takes_fn (pc (iz 0) (pc (o_add rfl (o_mul pe_mint (ir 1)) pe_mint) pn))))
(pss_mcons (s_set (i := 3) sc__law_system.nd (o_add rfl pe_mint (o_mod (o_idx rfl (ir 2) pe_mint (fun _ _ => rfl)) (ir 1))))
(pss_mcons (s_set (i := 4) sc__law_system.nd (pe_mlst pn))
(pss_mcons (s_for (L2.passes_of rfl) rfl (i_rng1 rfl T.z_range (o_mod (o_idx rfl (ir 2) pe_mint (fun _ _ => rfl)) (o_mul pe_mint (ir 1)))) (g_nm (i := 5) sc__law_system.nd)
(pss_mcons (s_set (i := 6) sc__law_system.nd (o_idx rfl (ir 2) (o_add rfl pe_mint (ir 5)) (fun _ _ => rfl)))
(pss_mcons (s_set (i := 7) sc__law_system.nd (o_idx rfl (pe_mlst (pc pe_mstr (pc pe_mstr (pc pe_mstr (pc pe_mstr (pc pe_mstr (pc pe_mstr (pc pe_mstr (pc pe_mstr (pc pe_mstr (pc pe_mstr pn))))))))))) (o_mod (ir 6) (o_add rfl pe_mint (o_mod (o_idx rfl (ir 2) pe_mint (fun _ _ => rfl)) pe_mint))) (fun _ _ => rfl)))
(pss_mcons (s_expr (m_append rfl (ir 4) (pc (pe_mtup (pc (o_mod (o_div (ir 6) pe_mint) (ir 3)) (pc (iz 7) (pc (o_mod (o_div (ir 6) pe_mint) (ir 3)) pn)))) pn)))
pss_mnil))))
(pss_mcons (ps_mret (pe_mtup (pc (iz 3) (pc (iz 4) pn))))
pss_mnil)))))
theorem ok__law_test_of (T : Tx G.K mg f fd ca G.cls) (hG : G.fld = fldOf FLDS) (hw : w = G.w) (Γ : Gx G base mg fd) : FnOk P w G.K mg base (L2.CX P w) 2 (f 12) (fd 12) ["first", "behaviour"] (spF G f__law_test_of) := by
  refine fn_p T.F12 sc__law_test_of rfl rfl fun cdv A outer s H E hcd hr => ?_
  unfold b__law_test_of
  exact (pss_mcons (s_set (i := 2) sc__law_test_of.nd (f_len rfl rfl T.z_len (pc (o_idx rfl (ir 1) pe_mint (fun _ _ => rfl)) pn) rfl rfl))
(pss_mcons (s_set (i := 3) sc__law_test_of.nd (pe_mlst (pc (pe_mtup (pc (o_add rfl (ir 2) pe_mint) (pc pe_mstr (pc (o_add rfl (ir 2) pe_mint) pn)))) pn)))
(pss_mcons (s_for (L2.passes_of rfl) rfl (i_rng1 rfl T.z_range (ir 2)) (g_nm (i := 4) sc__law_test_of.nd)
(pss_mcons (s_set (i := 3) sc__law_test_of.nd (o_add rfl (ir 3) (pe_mlst (pc (pe_mtup (pc (iz 4) (pc (o_idx rfl (o_idx rfl (ir 1) pe_mint (fun _ _ => rfl)) (ir 4) (fun _ _ => rfl)) (pc (o_add rfl (ir 4) pe_mint) pn)))) (pc (pe_mtup (pc (iz 4) (pc pe_mstr (pc (o_add rfl (ir 2) pe_mint) pn)))) pn)))))
pss_mnil))
(pss_mcons (ps_mif (t_eq rfl hr.units (o_idx rfl (ir 1) pe_mint (fun _ _ => rfl)) pe_mstr rfl)
(pss_mcons (s_expr (m_append rfl (ir 3) (pc (pe_mtup (pc (iz 2) (pc pe_mstr (pc (o_add rfl (ir 2) pe_mint) pn)))) pn)))
pss_mnil)
pss_mnil)
(pss_mcons (ps_mif (t_eq rfl hr.units (o_idx rfl (ir 1) pe_mint (fun _ _ => rfl)) pe_mstr rfl)
(pss_mcons (s_set (i := 5) sc__law_test_of.nd (o_add rfl (e_lc rfl sc__law_test_of.nd (pi_mseq rfl (o_idx rfl (ir 0) pe_mint (fun _ _ => rfl))) (blkOk_by (N := N__law_test_of) (sc := defScope s__law_test_of) (own := [("edge", 6)]) (by decide +kernel)) (fun _ _ _ _ _ => (g_nm (i := 6) sc__law_test_of.nd)) (fun _ _ _ _ _ => (ifs_1 (t_ne rfl hr.units (o_idx rfl (ir 6) pe_mint (fun _ _ => rfl)) pe_mstr rfl))) (fun _ _ _ _ _ => (o_idx rfl (ir 6) pe_mint (fun _ _ => rfl))) (by decide) (by decide) rfl) (pe_mlst (pc pe_mstr pn))))
(pss_mcons (s_set (i := 3) sc__law_test_of.nd (o_add rfl (ir 3) (e_lc rfl sc__law_test_of.nd (pi_mseq rfl (iz 5)) (blkOk_by (N := N__law_test_of) (sc := defScope s__law_test_of) (own := [("action", 7)]) (by decide +kernel)) (fun _ _ _ _ _ => (g_nm (i := 7) sc__law_test_of.nd)) (fun _ _ _ _ _ => (ifs_1 (t_notin rfl (room65 hr) (ir 7) (o_idx rfl (ir 1) pe_mint (fun _ _ => rfl)) rfl))) (fun _ _ _ _ _ => (pe_mtup (pc (iz 2) (pc (iz 7) (pc (o_add rfl (ir 2) pe_mint) pn))))) (by decide) (by decide) rfl)))
pss_mnil))
pss_mnil)
(pss_mcons (ps_mret (pe_mtup (pc (o_add rfl (ir 2) pe_mint) (pc (f_call len__law_once rfl (ok__law_once T hG hw Γ) (hr.mono (by decide)) T.g11 T.F11.kp T.B11 takes_fn (pc (iz 3) pn)) pn))))
pss_mnil))))))
theorem ok_is_event (T : Tx G.K mg f fd ca G.cls) (hG : G.fld = fldOf FLDS) (hw : w = G.w) (Γ : Gx G base mg fd) : FnOk P w G.K mg base (L2.CX P w) 4 (f 0) (fd 0) ["word"] (spF G f_is_event) := by
  obtain ⟨c0, P0, GT0⟩ := Γ.G0
  refine fn_p T.F0 sc_is_event rfl rfl fun cdv A outer s H E hcd hr => ?_
  unfold b_is_event
  exact (pss_mcons (ps_mif (L2.PW.pt (pw_mor (t_lt rfl hr.units (f_len rfl rfl T.z_len (pc (ir 0) pn) rfl rfl) pe_mint rfl) (pw_mor (t_gt (f_len rfl rfl T.z_len (pc (ir 0) pn) rfl rfl) (e_globI T.k_LONGEST) rfl) (pw_mor (t_notin rfl (room65 hr) (o_idx rfl (ir 0) pe_mint (fun _ _ => rfl)) (e_globS T.k_LOWER) rfl) (pw_mor1 (t_in rfl (room65 hr) (ir 0) (e_globT T.g_RESERVED T.k_RESERVED) rfl))))))
(pss_mcons (ps_mret pe_mbl)
pss_mnil)
pss_mnil)
(pss_mcons (ps_mret (e_gall (k := 0) (hr.mono (by decide)) sc_is_event.nd GT0.mem GT0.tb (hcd.symm.trans GT0.code) rfl T.z_all (i_sgn (iz 0)) (blkOk_by (N := N_is_event) (sc := defScope s_is_event) (own := [("letter", 1)]) (by decide +kernel)) (by decide +kernel) (fun _ _ _ _ _ _ => (g_nm (i := 1) sc_is_event.nd)) (fun _ _ _ _ _ _ hr => (pe_mor (c_in rfl (room65 hr) (ir 1) (e_globS T.k_LOWER) rfl) (v_one (c_in rfl (room65 hr) (ir 1) (e_globS T.k_DIGITS) rfl)))) (by decide) (by decide) rfl))
pss_mnil))
theorem ok_is_action (T : Tx G.K mg f fd ca G.cls) (hG : G.fld = fldOf FLDS) (hw : w = G.w) (Γ : Gx G base mg fd) : FnOk P w G.K mg base (L2.CX P w) 5 (f 1) (fd 1) ["word"] (spF G f_is_action) := by
  refine fn_p T.F1 sc_is_action rfl rfl fun cdv A outer s H E hcd hr => ?_
  unfold b_is_action
  exact (pss_mcons (ps_mret (pe_mor (c_in rfl (room65 hr) (ir 0) (pe_mtup (pc (e_globS T.k_TAU) (pc (e_globS T.k_TICK) pn))) rfl) (v_one (f_call len_is_event rfl (ok_is_event T hG hw Γ) (hr.mono (by decide)) T.g0 T.F0.kp T.B0 takes_fn (pc (iz 0) pn)))))
pss_mnil)
theorem ok_System___init__ (T : Tx G.K mg f fd ca G.cls) (hG : G.fld = fldOf FLDS) (hw : w = G.w) (Γ : Gx G base mg fd) : FnOk P w G.K mg base (L2.CX P w) 6 (f 2) (fd 2) ["self", "count", "edges"] (spF G f_System___init__) := by
  refine fn_p T.F2 sc_System___init__ rfl rfl fun cdv A outer s H E hcd hr => ?_
  unfold b_System___init__
  exact (pss_mcons (ps_mif (L2.PW.pt (pw_mor (t_lt rfl hr.units (ir 1) pe_mint rfl) (pw_mor1 (t_gt (ir 1) (e_globI T.k_MOST_STATES) rfl))))
(pss_mcons (s_raise rfl takes_fn (pmk_own PySem.F.excBase_ValueError T.xx_2 T.xg_2 T.xk_2 (raises_own T.xb_2 T.xt_2) rfl))
pss_mnil)
pss_mnil)
(pss_mcons (s_for (L2.passes_of rfl) rfl (pi_mseq rfl (iz 2)) (pg_mtup rfl rfl (pgs_mcons (g_nm (i := 3) sc_System___init__.nd) (pgs_mcons (g_nm (i := 4) sc_System___init__.nd) (pgs_mcons (g_nm (i := 5) sc_System___init__.nd) pgs_mnil rfl) rfl) rfl) rfl rfl)
(pss_mcons (ps_mif (L2.PW.pt (pw_mor (pt_mnot (t_chain 3 op_le op_ltI fun_le fun_ltI pe_mint (ir 1))) (pw_mor (pt_mnot (t_chain 5 op_le op_ltI fun_le fun_ltI pe_mint (ir 1))) (pw_mor1 (pt_mnot (tv (f_call len_is_action rfl (ok_is_action T hG hw Γ) (hr.mono (by decide)) T.g1 T.F1.kp T.B1 takes_fn (pc (iz 4) pn))))))))
(pss_mcons (s_raise rfl takes_fn (pmk_own PySem.F.excBase_ValueError T.xx_2 T.xg_2 T.xk_2 (raises_own T.xb_2 T.xt_2) rfl))
pss_mnil)
pss_mnil)
pss_mnil))
(pss_mcons (s_fld (i := 0) rfl T.cl_3 (na_3_0 T hG) (hf_0 hG) (iz 1))
(pss_mcons (s_fld (i := 0) rfl T.cl_3 (na_3_1 T hG) (hf_1 hG) (f_tuple rfl rfl T.z_tuple (pc (f_sortedS rfl hw rfl (room65 hr) rfl T.z_sorted (pc (f_set rfl hw rfl (room65 hr) rfl T.z_set (pc (ir 2) pn)) pn)) pn) rfl rfl))
(pss_mcons (s_fld (i := 0) rfl T.cl_3 (na_3_2 T hG) (hf_2 hG) (e_lc rfl sc_System___init__.nd (i_rng1 rfl T.z_range (ir 1)) (blkOk_by (N := N_System___init__) (sc := defScope s_System___init__) (own := [("state", 3)]) (by decide +kernel)) (fun _ _ _ _ _ => (g_nm (i := 3) sc_System___init__.nd)) (fun _ _ _ _ _ => ifs_0) (fun _ _ _ _ _ => (pe_mlst pn)) (by decide) (by decide) rfl))
(pss_mcons (s_for (L2.passes_of rfl) rfl (pi_mseq rfl (e_peek (pe_mfld rfl T.cl_3 (na_3_1 T hG) (ir 0) (hf_1 hG) rfl))) (pg_mtup rfl rfl (pgs_mcons (g_nm (i := 3) sc_System___init__.nd) (pgs_mcons (g_nm (i := 4) sc_System___init__.nd) (pgs_mcons (g_nm (i := 5) sc_System___init__.nd) pgs_mnil rfl) rfl) rfl) rfl rfl)
(pss_mcons (s_expr (m_appendP rfl (pe_mixp rfl (pe_mfld rfl T.cl_3 (na_3_2 T hG) (ir 0) (hf_2 hG) rfl) (ir 3) (fun _ _ => rfl)) (pc (pe_mtup (pc (iz 4) (pc (iz 5) pn))) pn)))
pss_mnil))
pss_mnil))))))
theorem ok_test_of (T : Tx G.K mg f fd ca G.cls) (hG : G.fld = fldOf FLDS) (hw : w = G.w) (Γ : Gx G base mg fd) : FnOk P w G.K mg base (L2.CX P w) 8 (f 4) (fd 4) ["first", "behaviour"] (spF G f_test_of) := by
  obtain ⟨c1, P1, GT1⟩ := Γ.G1
  refine fn_p T.F4 sc_test_of rfl rfl fun cdv A outer s H E hcd hr => ?_
  unfold b_test_of
  exact (pss_mcons (s_set (i := 2) sc_test_of.nd (o_idx rfl (ir 1) pe_mint (fun _ _ => rfl)))
(pss_mcons (s_set (i := 3) sc_test_of.nd (e_meth0 len_System_events (ok_System_events T hG hw Γ) (hr.mono (by decide)) T.cl_3 T.me3 (hn_System_events hG) T.B3 takes_fn (iz 0)))
(pss_mcons (ps_mif (L2.PW.pt (pw_mor (t_in rfl (room65 hr) (e_globS T.k_PASS) (ir 3) rfl) (pw_mor (t_in rfl (room65 hr) (e_globS T.k_PASS) (ir 2) rfl) (pw_mor1 (tv (e_gany (k := 0) (hr.mono (by decide)) sc_test_of.nd GT1.mem GT1.tb (hcd.symm.trans GT1.code) rfl T.z_any (pi_mseq rfl (e_sl1 rfl (ir 1) pe_mint)) (blkOk_by (N := N_test_of) (sc := defScope s_test_of) (own := [("offers", 4)]) (by decide +kernel)) (by decide +kernel) (fun _ _ _ _ _ _ => (g_nm (i := 4) sc_test_of.nd)) (fun _ _ _ _ _ _ hr => (c_in rfl (room65 hr) (e_globS T.k_PASS) (ir 4) rfl)) (by decide) (by decide) rfl))))))
(pss_mcons (s_raise rfl takes_fn (pmk_own PySem.F.excBase_ValueError T.xx_1 T.xg_1 T.xk_1 (raises_own T.xb_1 T.xt_1) rfl))
pss_mnil)
pss_mnil)
(pss_mcons (s_set (i := 5) sc_test_of.nd (f_len rfl rfl T.z_len (pc (ir 2) pn) rfl rfl))
(pss_mcons (s_set (i := 6) sc_test_of.nd (pe_mlst (pc (pe_mtup (pc (o_add rfl (ir 5) pe_mint) (pc (e_globS T.k_PASS) (pc (o_add rfl (ir 5) pe_mint) pn)))) pn)))
(pss_mcons (s_for (L2.passes_of rfl) rfl (i_rng1 rfl T.z_range (ir 5)) (g_nm (i := 7) sc_test_of.nd)
(pss_mcons (s_expr (m_append rfl (ir 6) (pc (pe_mtup (pc (iz 7) (pc (o_idx rfl (ir 2) (ir 7) (fun _ _ => rfl)) (pc (o_add rfl (ir 7) pe_mint) pn)))) pn)))
(pss_mcons (s_expr (m_append rfl (ir 6) (pc (pe_mtup (pc (iz 7) (pc (e_globS T.k_TAU) (pc (o_add rfl (ir 5) pe_mint) pn)))) pn)))
pss_mnil)))
(pss_mcons (ps_mif (t_eq rfl hr.units (o_idx rfl (ir 1) pe_mint (fun _ _ => rfl)) pe_mstr rfl)
(pss_mcons (s_expr (m_append rfl (ir 6) (pc (pe_mtup (pc (iz 5) (pc (e_globS T.k_TAU) (pc (o_add rfl (ir 5) pe_mint) pn)))) pn)))
pss_mnil)
pss_mnil)
(pss_mcons (ps_mif (t_eq rfl hr.units (o_idx rfl (ir 1) pe_mint (fun _ _ => rfl)) pe_mstr rfl)
(pss_mcons (s_for (L2.passes_of rfl) rfl (pi_mseq rfl (o_add rfl (ir 3) (pe_mtup (pc (e_globS T.k_TICK) pn)))) (g_nm (i := 8) sc_test_of.nd)
(pss_mcons (ps_mif (t_notin rfl (room65 hr) (ir 8) (o_idx rfl (ir 1) pe_mint (fun _ _ => rfl)) rfl)
(pss_mcons (s_expr (m_append rfl (ir 6) (pc (pe_mtup (pc (iz 5) (pc (iz 8) (pc (o_add rfl (ir 5) pe_mint) pn)))) pn)))
pss_mnil)
pss_mnil)
pss_mnil))
pss_mnil)
pss_mnil)
(pss_mcons (ps_mret (e_make len_System___init__ rfl (ok_System___init__ T hG hw Γ) (hr.mono (by decide)) T.gC_3 T.mk_3 T.B2 takes_fn (pc (o_add rfl (ir 5) pe_mint) (pc (iz 6) pn))))
pss_mnil)))))))))
theorem ok__law_made (T : Tx G.K mg f fd ca G.cls) (hG : G.fld = fldOf FLDS) (hw : w = G.w) (Γ : Gx G base mg fd) : FnOk P w G.K mg base (L2.CX P w) 8 (f 10) (fd 10) ["parts"] (spF G f__law_made) := by
  refine fn_p T.F10 sc__law_made rfl rfl fun cdv A outer s H E hcd hr => ?_
  unfold b__law_made
  exact (pss_mcons (ps_mret (e_make len_System___init__ rfl (ok_System___init__ T hG hw Γ) (hr.mono (by decide)) T.gC_3 T.mk_3 T.B2 takes_fn (pc (o_idx rfl (ir 0) pe_mint (fun _ _ => rfl)) (pc (f_list rfl rfl T.z_list (pc (o_idx rfl (ir 0) pe_mint (fun _ _ => rfl)) pn) rfl rfl) pn))))
pss_mnil)
theorem ok__law_refused (T : Tx G.K mg f fd ca G.cls) (hG : G.fld = fldOf FLDS) (hw : w = G.w) (Γ : Gx G base mg fd) : FnOk P w G.K mg base (L2.CX P w) 9 (f 13) (fd 13) ["system", "behaviour"] (spF G f__law_refused) := by
  refine fn_p T.F13 sc__law_refused rfl rfl fun cdv A outer s H E hcd hr => ?_
  unfold b__law_refused
  exact (pss_mcons (s_try rfl rfl rfl sc__law_refused.nd takes_fn (xmL_ok (xm_ok T)) rfl (fun _ _ _ tk1 ps1 =>
(pss_mcons (s_expr (f_call len_test_of rfl (ok_test_of T hG hw Γ) (hr.mono (by decide)) T.g4 T.F4.kp T.B4 tk1 (pc (iz 0) (pc (iz 1) pn))))
pss_mnil))
(.bare ⟨rfl, by decide, .inl T.xg_1⟩ (fun _ _ _ _ _ hz hfl => (sui_plain (fun _ => rfl) (pss_mcons (ps_mret pe_mbl)
pss_mnil))) .nil))
(pss_mcons (ps_mret pe_mbl)
pss_mnil))
theorem ok_law (T : Tx G.K mg f fd ca G.cls) (hG : G.fld = fldOf FLDS) (hw : w = G.w) (Γ : Gx G base mg fd) : FnOk P w G.K mg base (L2.CX P w) 10 (f 14) (fd 14) ["script"] (spF G f_law) := by
  refine fn_p T.F14 sc_law rfl rfl fun cdv A outer s H E hcd hr => ?_
  unfold b_law
  exact (pss_mcons (s_for (L2.passes_of rfl) rfl (i_rng1 rfl T.z_range pe_mint) (g_nm (i := 1) sc_law.nd)
(pss_mcons (s_set (i := 2) sc_law.nd (f_call len__law_system rfl (ok__law_system T hG hw Γ) (hr.mono (by decide)) T.g9 T.F9.kp T.B9 takes_fn (pc (f_call len__law_cell rfl (ok__law_cell T hG hw Γ) (hr.mono (by decide)) T.g5 T.F5.kp T.B5 takes_fn (pc (iz 0) (pc (iz 1) pn))) (pc pe_mint pn))))
(pss_mcons (s_set (i := 3) sc_law.nd (f_call len__law_draws rfl (ok__law_draws T hG hw Γ) (hr.mono (by decide)) T.g6 T.F6.kp T.B6 takes_fn (pc (f_call len__law_cell rfl (ok__law_cell T hG hw Γ) (hr.mono (by decide)) T.g5 T.F5.kp T.B5 takes_fn (pc (iz 0) (pc (o_add rfl pe_mint (ir 1)) pn))) (pc pe_mint pn))))
(pss_mcons (s_set (i := 4) sc_law.nd (f_tuple rfl rfl T.z_tuple (pc (e_lc rfl sc_law.nd (i_rng1 rfl T.z_range (o_mod (o_idx rfl (ir 3) pe_mint (fun _ _ => rfl)) pe_mint)) (blkOk_by (N := N_law) (sc := defScope s_law) (own := [("j", 5)]) (by decide +kernel)) (fun _ _ _ _ _ => (g_nm (i := 5) sc_law.nd)) (fun _ _ _ _ _ => ifs_0) (fun _ _ _ _ _ => (o_idx rfl (pe_mlst (pc pe_mstr (pc pe_mstr (pc pe_mstr (pc pe_mstr pn))))) (o_mod (o_idx rfl (ir 3) (o_add rfl pe_mint (ir 5)) (fun _ _ => rfl)) pe_mint) (fun _ _ => rfl))) (by decide) (by decide) rfl) pn) rfl rfl))
(pss_mcons (s_set (i := 6) sc_law.nd (f_call len__law_few rfl (ok__law_few T hG hw Γ) (hr.mono (by decide)) T.g8 T.F8.kp T.B8 takes_fn (pc (o_mod (o_idx rfl (ir 3) pe_mint (fun _ _ => rfl)) pe_mint) (pc (pe_mlst (pc pe_mstr (pc pe_mstr (pc pe_mstr (pc pe_mstr pn))))) pn))))
(pss_mcons (s_set (i := 7) sc_law.nd (f_call len__law_made rfl (ok__law_made T hG hw Γ) (hr.mono (by decide)) T.g10 T.F10.kp T.B10 takes_fn (pc (iz 2) pn)))
(pss_mcons (s_for (L2.passes_of rfl) rfl (pi_mseq rfl (pe_mlst (pc (pe_mtup (pc pe_mstr (pc (iz 4) pn))) (pc (pe_mtup (pc pe_mstr (pc (iz 4) pn))) (pc (pe_mtup (pc pe_mstr (pc (iz 4) (pc (iz 6) pn)))) pn))))) (g_nm (i := 8) sc_law.nd)
(pss_mcons (ps_mbind (f_call len__law_test_of rfl (ok__law_test_of T hG hw Γ) (hr.mono (by decide)) T.g12 T.F12.kp T.B12 takes_fn (pc (iz 2) (pc (iz 8) pn))) (pg_mtup rfl rfl (pgs_mcons (g_nm (i := 9) sc_law.nd) (pgs_mcons (g_nm (i := 10) sc_law.nd) pgs_mnil rfl) rfl) rfl rfl) rfl rfl rfl)
(pss_mcons (s_set (i := 11) sc_law.nd (f_call len_test_of rfl (ok_test_of T hG hw Γ) (hr.mono (by decide)) T.g4 T.F4.kp T.B4 takes_fn (pc (iz 7) (pc (iz 8) pn))))
(pss_mcons (ps_mif (L2.PW.pt (pw_mor (pt_mnot (tv (f_call len__law_like rfl (ok__law_like T hG hw Γ) (hr.mono (by decide)) T.g7 T.F7.kp T.B7 takes_fn (pc (e_peek (pe_mfld rfl T.cl_3 (na_3_0 T hG) (ir 11) (hf_0 hG) rfl)) (pc (iz 9) pn))))) (pw_mor1 (pt_mnot (tv (f_call len__law_like rfl (ok__law_like T hG hw Γ) (hr.mono (by decide)) T.g7 T.F7.kp T.B7 takes_fn (pc (e_peek (pe_mfld rfl T.cl_3 (na_3_1 T hG) (ir 11) (hf_1 hG) rfl)) (pc (f_tuple rfl rfl T.z_tuple (pc (f_sorted rfl hr.units rfl T.z_sorted (pc (ir 10) pn) rfl rfl) pn) rfl rfl) pn))))))))
(pss_mcons (ps_mret pe_mbl)
pss_mnil)
pss_mnil)
(pss_mcons (ps_mif (pt_mnot (tv (f_call len__law_refused rfl (ok__law_refused T hG hw Γ) (hr.mono (by decide)) T.g13 T.F13.kp T.B13 takes_fn (pc (iz 7) (pc (o_add rfl (pe_mtup (pc (o_idx rfl (ir 8) pe_mint (fun _ _ => rfl)) (pc (o_add rfl (ir 4) (pe_mtup (pc pe_mstr pn))) pn))) (e_sl1 rfl (ir 8) pe_mint)) pn)))))
(pss_mcons (ps_mret pe_mbl)
pss_mnil)
pss_mnil)
(pss_mcons (ps_mif (pt_mnot (tv (f_call len__law_refused rfl (ok__law_refused T hG hw Γ) (hr.mono (by decide)) T.g13 T.F13.kp T.B13 takes_fn (pc (e_make len_System___init__ rfl (ok_System___init__ T hG hw Γ) (hr.mono (by decide)) T.gC_3 T.mk_3 T.B2 takes_fn (pc pe_mint (pc (pe_mlst (pc (pe_mtup (pc pe_mint (pc pe_mstr (pc pe_mint pn)))) pn)) pn))) (pc (iz 8) pn)))))
(pss_mcons (ps_mret pe_mbl)
pss_mnil)
pss_mnil)
pss_mnil))))))
(pss_mcons (ps_mif (pt_mnot (tv (f_call len__law_refused rfl (ok__law_refused T hG hw Γ) (hr.mono (by decide)) T.g13 T.F13.kp T.B13 takes_fn (pc (iz 7) (pc (pe_mtup (pc pe_mstr (pc (iz 4) (pc (pe_mtup (pc pe_mstr (pc pe_mstr pn))) pn)))) pn)))))
(pss_mcons (ps_mret pe_mbl)
pss_mnil)
pss_mnil)
pss_mnil))))))))
(pss_mcons (ps_mret pe_mbl)
pss_mnil))
end
theorem all_mk {P : Program} {w : World} {K : PySem.W.Frag} {h : Heap} {mg : Str → Option Value} {fa : Addr} {C1 : Addr}
    {C2 : Addr}
    {C3 : Addr}
    {f0 : Addr} {oc0 kV0 dc0 pm0 ct0 : Value} {od0 an0 : Option Addr} {sl0 : Array (Option Value)} {cc0 P0 : Addr}
    {f1 : Addr} {oc1 kV1 dc1 pm1 ct1 : Value} {od1 an1 : Option Addr} {sl1 : Array (Option Value)} {cd1 : Value}
    {f2 : Addr} {oc2 kV2 dc2 pm2 ct2 : Value} {od2 an2 : Option Addr} {sl2 : Array (Option Value)} {cd2 : Value}
    {f3 : Addr} {oc3 kV3 dc3 pm3 ct3 : Value} {od3 an3 : Option Addr} {sl3 : Array (Option Value)} {cd3 : Value}
    {f4 : Addr} {oc4 kV4 dc4 pm4 ct4 : Value} {od4 an4 : Option Addr} {sl4 : Array (Option Value)} {cc4 P4 : Addr}
    {f5 : Addr} {oc5 kV5 dc5 pm5 ct5 : Value} {od5 an5 : Option Addr} {sl5 : Array (Option Value)} {cd5 : Value}
    {f6 : Addr} {oc6 kV6 dc6 pm6 ct6 : Value} {od6 an6 : Option Addr} {sl6 : Array (Option Value)} {cd6 : Value}
    {f7 : Addr} {oc7 kV7 dc7 pm7 ct7 : Value} {od7 an7 : Option Addr} {sl7 : Array (Option Value)} {cd7 : Value}
    {f8 : Addr} {oc8 kV8 dc8 pm8 ct8 : Value} {od8 an8 : Option Addr} {sl8 : Array (Option Value)} {cd8 : Value}
    {f9 : Addr} {oc9 kV9 dc9 pm9 ct9 : Value} {od9 an9 : Option Addr} {sl9 : Array (Option Value)} {cd9 : Value}
    {f10 : Addr} {oc10 kV10 dc10 pm10 ct10 : Value} {od10 an10 : Option Addr} {sl10 : Array (Option Value)} {cd10 : Value}
    {f11 : Addr} {oc11 kV11 dc11 pm11 ct11 : Value} {od11 an11 : Option Addr} {sl11 : Array (Option Value)} {cd11 : Value}
    {f12 : Addr} {oc12 kV12 dc12 pm12 ct12 : Value} {od12 an12 : Option Addr} {sl12 : Array (Option Value)} {cd12 : Value}
    {f13 : Addr} {oc13 kV13 dc13 pm13 ct13 : Value} {od13 an13 : Option Addr} {sl13 : Array (Option Value)} {cd13 : Value}
    {f14 : Addr} {oc14 kV14 dc14 pm14 ct14 : Value} {od14 an14 : Option Addr} {sl14 : Array (Option Value)} {cd14 : Value}
    {tc0 : Tok}
    {tc1 : Tok}
    {tc2 : Tok}
    {tc3 : Tok}
    {tc4 : Tok}
    {ca5 : Addr} {tk5_0 tk5_1 tk5_2 tk5_3 tk5_4 tk5_5 : Tok} {nn5 : Nat} {csl5 : Array (Option Value)} {cdd5 : Option Addr}
    {tc6 : Tok}
    {tc7 : Tok}
    (X : K.In h) (G : h.Ns mainGlobals mg) (hfa : mg "law" = some (.ref fa))
    (aC3 : PySem.W.nsIn K mainGlobals "System" = some (some (.ref C3)))
    (a0 : PySem.W.nsIn K mainGlobals "is_event" = some (some (.ref f0)))
    (l0 : K.lookup f0 = some ⟨oc0, od0, .func (PySem.W.fnOf "is_event" "is_event" (defArgs s_is_event) (defBody s_is_event) (defScope s_is_event) .none kV0 dc0 pm0 an0 (.ref cc0) ct0), sl0⟩)
    (c0 : PySem.W.codeIn K (.ref cc0) "is_event" = true)
    (k0 : PySem.W.keepIn K (.ref f0) = true)
    (a1 : PySem.W.nsIn K mainGlobals "is_action" = some (some (.ref f1)))
    (l1 : K.lookup f1 = some ⟨oc1, od1, .func (PySem.W.fnOf "is_action" "is_action" (defArgs s_is_action) (defBody s_is_action) (defScope s_is_action) .none kV1 dc1 pm1 an1 cd1 ct1), sl1⟩)
    (c1 : PySem.W.codeIn K cd1 "is_action" = true)
    (k1 : PySem.W.keepIn K (.ref f1) = true)
    (a2 : PySem.W.findIn K (.ref C3) "__init__" = some (some (.ref f2)))
    (i2 : PySem.W.isFn K (.ref f2) = true)
    (l2 : K.lookup f2 = some ⟨oc2, od2, .func (PySem.W.fnOf "__init__" "System.__init__" (defArgs s_System___init__) (defBody s_System___init__) (defScope s_System___init__) .none kV2 dc2 pm2 an2 cd2 ct2), sl2⟩)
    (c2 : PySem.W.codeIn K cd2 "System.__init__" = true)
    (k2 : PySem.W.keepIn K (.ref f2) = true)
    (a3 : PySem.W.findIn K (.ref C3) "events" = some (some (.ref f3)))
    (i3 : PySem.W.isFn K (.ref f3) = true)
    (l3 : K.lookup f3 = some ⟨oc3, od3, .func (PySem.W.fnOf "events" "System.events" (defArgs s_System_events) (defBody s_System_events) (defScope s_System_events) .none kV3 dc3 pm3 an3 cd3 ct3), sl3⟩)
    (c3 : PySem.W.codeIn K cd3 "System.events" = true)
    (k3 : PySem.W.keepIn K (.ref f3) = true)
    (a4 : PySem.W.nsIn K mainGlobals "test_of" = some (some (.ref f4)))
    (l4 : K.lookup f4 = some ⟨oc4, od4, .func (PySem.W.fnOf "test_of" "test_of" (defArgs s_test_of) (defBody s_test_of) (defScope s_test_of) .none kV4 dc4 pm4 an4 (.ref cc4) ct4), sl4⟩)
    (c4 : PySem.W.codeIn K (.ref cc4) "test_of" = true)
    (k4 : PySem.W.keepIn K (.ref f4) = true)
    (a5 : PySem.W.nsIn K mainGlobals "_law_cell" = some (some (.ref f5)))
    (l5 : K.lookup f5 = some ⟨oc5, od5, .func (PySem.W.fnOf "_law_cell" "_law_cell" (defArgs s__law_cell) (defBody s__law_cell) (defScope s__law_cell) .none kV5 dc5 pm5 an5 cd5 ct5), sl5⟩)
    (c5 : PySem.W.codeIn K cd5 "_law_cell" = true)
    (k5 : PySem.W.keepIn K (.ref f5) = true)
    (a6 : PySem.W.nsIn K mainGlobals "_law_draws" = some (some (.ref f6)))
    (l6 : K.lookup f6 = some ⟨oc6, od6, .func (PySem.W.fnOf "_law_draws" "_law_draws" (defArgs s__law_draws) (defBody s__law_draws) (defScope s__law_draws) .none kV6 dc6 pm6 an6 cd6 ct6), sl6⟩)
    (c6 : PySem.W.codeIn K cd6 "_law_draws" = true)
    (k6 : PySem.W.keepIn K (.ref f6) = true)
    (a7 : PySem.W.nsIn K mainGlobals "_law_like" = some (some (.ref f7)))
    (l7 : K.lookup f7 = some ⟨oc7, od7, .func (PySem.W.fnOf "_law_like" "_law_like" (defArgs s__law_like) (defBody s__law_like) (defScope s__law_like) .none kV7 dc7 pm7 an7 cd7 ct7), sl7⟩)
    (c7 : PySem.W.codeIn K cd7 "_law_like" = true)
    (k7 : PySem.W.keepIn K (.ref f7) = true)
    (a8 : PySem.W.nsIn K mainGlobals "_law_few" = some (some (.ref f8)))
    (l8 : K.lookup f8 = some ⟨oc8, od8, .func (PySem.W.fnOf "_law_few" "_law_few" (defArgs s__law_few) (defBody s__law_few) (defScope s__law_few) .none kV8 dc8 pm8 an8 cd8 ct8), sl8⟩)
    (c8 : PySem.W.codeIn K cd8 "_law_few" = true)
    (k8 : PySem.W.keepIn K (.ref f8) = true)
    (a9 : PySem.W.nsIn K mainGlobals "_law_system" = some (some (.ref f9)))
    (l9 : K.lookup f9 = some ⟨oc9, od9, .func (PySem.W.fnOf "_law_system" "_law_system" (defArgs s__law_system) (defBody s__law_system) (defScope s__law_system) .none kV9 dc9 pm9 an9 cd9 ct9), sl9⟩)
    (c9 : PySem.W.codeIn K cd9 "_law_system" = true)
    (k9 : PySem.W.keepIn K (.ref f9) = true)
    (a10 : PySem.W.nsIn K mainGlobals "_law_made" = some (some (.ref f10)))
    (l10 : K.lookup f10 = some ⟨oc10, od10, .func (PySem.W.fnOf "_law_made" "_law_made" (defArgs s__law_made) (defBody s__law_made) (defScope s__law_made) .none kV10 dc10 pm10 an10 cd10 ct10), sl10⟩)
    (c10 : PySem.W.codeIn K cd10 "_law_made" = true)
    (k10 : PySem.W.keepIn K (.ref f10) = true)
    (a11 : PySem.W.nsIn K mainGlobals "_law_once" = some (some (.ref f11)))
    (l11 : K.lookup f11 = some ⟨oc11, od11, .func (PySem.W.fnOf "_law_once" "_law_once" (defArgs s__law_once) (defBody s__law_once) (defScope s__law_once) .none kV11 dc11 pm11 an11 cd11 ct11), sl11⟩)
    (c11 : PySem.W.codeIn K cd11 "_law_once" = true)
    (k11 : PySem.W.keepIn K (.ref f11) = true)
    (a12 : PySem.W.nsIn K mainGlobals "_law_test_of" = some (some (.ref f12)))
    (l12 : K.lookup f12 = some ⟨oc12, od12, .func (PySem.W.fnOf "_law_test_of" "_law_test_of" (defArgs s__law_test_of) (defBody s__law_test_of) (defScope s__law_test_of) .none kV12 dc12 pm12 an12 cd12 ct12), sl12⟩)
    (c12 : PySem.W.codeIn K cd12 "_law_test_of" = true)
    (k12 : PySem.W.keepIn K (.ref f12) = true)
    (a13 : PySem.W.nsIn K mainGlobals "_law_refused" = some (some (.ref f13)))
    (l13 : K.lookup f13 = some ⟨oc13, od13, .func (PySem.W.fnOf "_law_refused" "_law_refused" (defArgs s__law_refused) (defBody s__law_refused) (defScope s__law_refused) .none kV13 dc13 pm13 an13 cd13 ct13), sl13⟩)
    (c13 : PySem.W.codeIn K cd13 "_law_refused" = true)
    (k13 : PySem.W.keepIn K (.ref f13) = true)
    (a14 : PySem.W.nsIn K mainGlobals "law" = some (some (.ref f14)))
    (l14 : K.lookup f14 = some ⟨oc14, od14, .func (PySem.W.fnOf "law" "law" (defArgs s_law) (defBody s_law) (defScope s_law) .none kV14 dc14 pm14 an14 cd14 ct14), sl14⟩)
    (c14 : PySem.W.codeIn K cd14 "law" = true)
    (k14 : PySem.W.keepIn K (.ref f14) = true)
    (z_abs : PySem.W.nsIn K mainGlobals "abs" = some none)
    (z_all : PySem.W.nsIn K mainGlobals "all" = some none)
    (z_any : PySem.W.nsIn K mainGlobals "any" = some none)
    (z_bool : PySem.W.nsIn K mainGlobals "bool" = some none)
    (z_int : PySem.W.nsIn K mainGlobals "int" = some none)
    (z_isinstance : PySem.W.nsIn K mainGlobals "isinstance" = some none)
    (z_len : PySem.W.nsIn K mainGlobals "len" = some none)
    (z_list : PySem.W.nsIn K mainGlobals "list" = some none)
    (z_range : PySem.W.nsIn K mainGlobals "range" = some none)
    (z_set : PySem.W.nsIn K mainGlobals "set" = some none)
    (z_sorted : PySem.W.nsIn K mainGlobals "sorted" = some none)
    (z_str : PySem.W.nsIn K mainGlobals "str" = some none)
    (z_tuple : PySem.W.nsIn K mainGlobals "tuple" = some none)
    (ga0 : PySem.W.nsIn K mainGlobals "DIGITS" = some (some (.str "0123456789" tc0)))
    (ga1 : PySem.W.nsIn K mainGlobals "LONGEST" = some (some (.int 12 tc1)))
    (ga2 : PySem.W.nsIn K mainGlobals "LOWER" = some (some (.str "abcdefghijklmnopqrstuvwxyz" tc2)))
    (ga3 : PySem.W.nsIn K mainGlobals "MOST_STATES" = some (some (.int 20000 tc3)))
    (ga4 : PySem.W.nsIn K mainGlobals "PASS" = some (some (.str "pass" tc4)))
    (ga5 : PySem.W.nsIn K mainGlobals "RESERVED" = some (some (.ref ca5)))
    (gl5 : K.lookup ca5 = some ⟨.type "tuple", cdd5, .seq #[.str "stop" tk5_0, .str "skip" tk5_1, .str "tau" tk5_2, .str "tick" tk5_3, .str "true" tk5_4, .str "loops" tk5_5] nn5, csl5⟩)
    (ga6 : PySem.W.nsIn K mainGlobals "TAU" = some (some (.str "tau" tc6)))
    (ga7 : PySem.W.nsIn K mainGlobals "TICK" = some (some (.str "tick" tc7)))
    (pg3 : PySem.W.plainGet K C3 Str.empty = true)
    (hd3 : PySem.W.hasDictIn K C3 = true)
    (po3 : PySem.W.plainOver K C3 = true)
    (sa3 : PySem.W.findIn K (.ref C3) "__setattr__" = some (some (.builtin "object.__setattr__")))
    (mk3 : PySem.W.makesIn K C3 = true)
    (kc3 : PySem.W.keepIn K (.ref C3) = true)
    (nf3_0 : PySem.W.findIn K (.ref C3) "count" = some none)
    (nf3_1 : PySem.W.findIn K (.ref C3) "edges" = some none)
    (nf3_2 : PySem.W.findIn K (.ref C3) "rows" = some none)
    (xg_1 : PySem.W.nsIn K mainGlobals "BadArgument" = some (some (.ref C1)))
    (xg_2 : PySem.W.nsIn K mainGlobals "BadSystem" = some (some (.ref C2)))
    (xx_1 : PySem.W.excIn K C1 [.type "ValueError", .type "Exception", .type "BaseException", .type "object"] "ValueError.__new__" = true)
    (xk_1 : PySem.W.keepIn K (.ref C1) = true)
    (xb_1 : PySem.W.subIn K (.ref C1) (.type "BaseException") = some true)
    (xt_1 : PySem.W.typeIn K (.ref C1) = some (.type "type"))
    (xx_2 : PySem.W.excIn K C2 [.type "ValueError", .type "Exception", .type "BaseException", .type "object"] "ValueError.__new__" = true)
    (xk_2 : PySem.W.keepIn K (.ref C2) = true)
    (xb_2 : PySem.W.subIn K (.ref C2) (.type "BaseException") = some true)
    (xt_2 : PySem.W.typeIn K (.ref C2) = some (.type "type"))
    (xm_1_1 : PySem.W.exmOne K (.ref C1) (.ref C1) = some true)
    (xm_2_1 : PySem.W.exmOne K (.ref C2) (.ref C1) = some false)
    (hc0 : PySem.W.CodeHd h cc0 P0)
    (hc4 : PySem.W.CodeHd h cc4 P4)
    (ht0 : h.get? P0 = some { cls := .none, data := .fields #[] })
    (ht4 : h.get? P4 = some { cls := .none, data := .fields #[] })
    (hn0 : K.lookup P0 = none)
    (hn4 : K.lookup P4 = none)
    (hnd : [P0, P4].Nodup)
    : ∃ (G : Gm) (fd : FuncData) (cs : List (Addr × Addr)), (G.K = K ∧ G.tabs = cs.map (·.2) ∧ (cs.map (·.2)).Nodup) ∧ (∀ p ∈ cs, h.get? p.2 = some { cls := .none, data := .fields #[] }) ∧ (∀ p ∈ cs, K.lookup p.2 = none) ∧ (∀ p ∈ cs, PySem.W.CodeHd h p.1 p.2) ∧ (∀ s v, BindsTo s fd ⟨[v], []⟩ [("script", v)]) ∧ ∀ base : Heap, K.In base → base.Ns mainGlobals mg → (∀ p ∈ cs, GxR.TabB base mg p.1 p.2) → FnOk P w K mg base (L2.CX P w) 10 fa fd ["script"] (spF G f_law) := by
  have F0 := fun_mk (st := s_is_event) l0 c0 k0
  have F1 := fun_mk (st := s_is_action) l1 c1 k1
  have F2 := fun_mk (st := s_System___init__) l2 c2 k2
  have F3 := fun_mk (st := s_System_events) l3 c3 k3
  have F4 := fun_mk (st := s_test_of) l4 c4 k4
  have F5 := fun_mk (st := s__law_cell) l5 c5 k5
  have F6 := fun_mk (st := s__law_draws) l6 c6 k6
  have F7 := fun_mk (st := s__law_like) l7 c7 k7
  have F8 := fun_mk (st := s__law_few) l8 c8 k8
  have F9 := fun_mk (st := s__law_system) l9 c9 k9
  have F10 := fun_mk (st := s__law_made) l10 c10 k10
  have F11 := fun_mk (st := s__law_once) l11 c11 k11
  have F12 := fun_mk (st := s__law_test_of) l12 c12 k12
  have F13 := fun_mk (st := s__law_refused) l13 c13 k13
  have F14 := fun_mk (st := s_law) l14 c14 k14
  have T : Tx K mg (fun i => ([f0, f1, f2, f3, f4, f5, f6, f7, f8, f9, f10, f11, f12, f13, f14] : List Addr).getD i 0) (fun i => ([PySem.W.fnOf "is_event" "is_event" (defArgs s_is_event) (defBody s_is_event) (defScope s_is_event) .none kV0 dc0 pm0 an0 (.ref cc0) ct0, PySem.W.fnOf "is_action" "is_action" (defArgs s_is_action) (defBody s_is_action) (defScope s_is_action) .none kV1 dc1 pm1 an1 cd1 ct1, PySem.W.fnOf "__init__" "System.__init__" (defArgs s_System___init__) (defBody s_System___init__) (defScope s_System___init__) .none kV2 dc2 pm2 an2 cd2 ct2, PySem.W.fnOf "events" "System.events" (defArgs s_System_events) (defBody s_System_events) (defScope s_System_events) .none kV3 dc3 pm3 an3 cd3 ct3, PySem.W.fnOf "test_of" "test_of" (defArgs s_test_of) (defBody s_test_of) (defScope s_test_of) .none kV4 dc4 pm4 an4 (.ref cc4) ct4, PySem.W.fnOf "_law_cell" "_law_cell" (defArgs s__law_cell) (defBody s__law_cell) (defScope s__law_cell) .none kV5 dc5 pm5 an5 cd5 ct5, PySem.W.fnOf "_law_draws" "_law_draws" (defArgs s__law_draws) (defBody s__law_draws) (defScope s__law_draws) .none kV6 dc6 pm6 an6 cd6 ct6, PySem.W.fnOf "_law_like" "_law_like" (defArgs s__law_like) (defBody s__law_like) (defScope s__law_like) .none kV7 dc7 pm7 an7 cd7 ct7, PySem.W.fnOf "_law_few" "_law_few" (defArgs s__law_few) (defBody s__law_few) (defScope s__law_few) .none kV8 dc8 pm8 an8 cd8 ct8, PySem.W.fnOf "_law_system" "_law_system" (defArgs s__law_system) (defBody s__law_system) (defScope s__law_system) .none kV9 dc9 pm9 an9 cd9 ct9, PySem.W.fnOf "_law_made" "_law_made" (defArgs s__law_made) (defBody s__law_made) (defScope s__law_made) .none kV10 dc10 pm10 an10 cd10 ct10, PySem.W.fnOf "_law_once" "_law_once" (defArgs s__law_once) (defBody s__law_once) (defScope s__law_once) .none kV11 dc11 pm11 an11 cd11 ct11, PySem.W.fnOf "_law_test_of" "_law_test_of" (defArgs s__law_test_of) (defBody s__law_test_of) (defScope s__law_test_of) .none kV12 dc12 pm12 an12 cd12 ct12, PySem.W.fnOf "_law_refused" "_law_refused" (defArgs s__law_refused) (defBody s__law_refused) (defScope s__law_refused) .none kV13 dc13 pm13 an13 cd13 ct13, PySem.W.fnOf "law" "law" (defArgs s_law) (defBody s_law) (defScope s_law) .none kV14 dc14 pm14 an14 cd14 ct14] : List FuncData).getD i (PySem.W.fnOf "" "" (defArgs s_law) (defBody s_law) (defScope s_law) .none .none .none .none none .none .none)) (fun i => ([0, 0, 0, 0, 0, ca5, 0, 0] : List Addr).getD i 0) (fun i => ([0, C1, C2, C3, 0, 0, 0, 0, 0, 0, 0, 0, 0, 0, 0, 0, 0, 0, 0, 0, 0, 0, 0, 0, 0, 0, 0, 0, 0, 0, 0] : List Addr).getD i 0) := {
    F0 := F0
    B0 := F0.binds (ps := ["word"]) fun _ _ _ _ _ _ us hl => match us, hl with | [_], _ => rfl
    g0 := PySem.W.mg_of X G a0
    F1 := F1
    B1 := F1.binds (ps := ["word"]) fun _ _ _ _ _ _ us hl => match us, hl with | [_], _ => rfl
    g1 := PySem.W.mg_of X G a1
    F2 := F2
    B2 := F2.binds (ps := ["self", "count", "edges"]) fun _ _ _ _ _ _ us hl => match us, hl with | [_, _, _], _ => rfl
    F3 := F3
    B3 := F3.binds (ps := ["self"]) fun _ _ _ _ _ _ us hl => match us, hl with | [_], _ => rfl
    me3 := ⟨a3, i3, k3⟩
    F4 := F4
    B4 := F4.binds (ps := ["first", "behaviour"]) fun _ _ _ _ _ _ us hl => match us, hl with | [_, _], _ => rfl
    g4 := PySem.W.mg_of X G a4
    F5 := F5
    B5 := F5.binds (ps := ["script", "k"]) fun _ _ _ _ _ _ us hl => match us, hl with | [_, _], _ => rfl
    g5 := PySem.W.mg_of X G a5
    F6 := F6
    B6 := F6.binds (ps := ["cell", "count"]) fun _ _ _ _ _ _ us hl => match us, hl with | [_, _], _ => rfl
    g6 := PySem.W.mg_of X G a6
    F7 := F7
    B7 := F7.binds (ps := ["actual", "due"]) fun _ _ _ _ _ _ us hl => match us, hl with | [_, _], _ => rfl
    g7 := PySem.W.mg_of X G a7
    F8 := F8
    B8 := F8.binds (ps := ["draw", "words"]) fun _ _ _ _ _ _ us hl => match us, hl with | [_, _], _ => rfl
    g8 := PySem.W.mg_of X G a8
    F9 := F9
    B9 := F9.binds (ps := ["cell", "most"]) fun _ _ _ _ _ _ us hl => match us, hl with | [_, _], _ => rfl
    g9 := PySem.W.mg_of X G a9
    F10 := F10
    B10 := F10.binds (ps := ["parts"]) fun _ _ _ _ _ _ us hl => match us, hl with | [_], _ => rfl
    g10 := PySem.W.mg_of X G a10
    F11 := F11
    B11 := F11.binds (ps := ["rows"]) fun _ _ _ _ _ _ us hl => match us, hl with | [_], _ => rfl
    g11 := PySem.W.mg_of X G a11
    F12 := F12
    B12 := F12.binds (ps := ["first", "behaviour"]) fun _ _ _ _ _ _ us hl => match us, hl with | [_, _], _ => rfl
    g12 := PySem.W.mg_of X G a12
    F13 := F13
    B13 := F13.binds (ps := ["system", "behaviour"]) fun _ _ _ _ _ _ us hl => match us, hl with | [_, _], _ => rfl
    g13 := PySem.W.mg_of X G a13
    F14 := F14
    B14 := F14.binds (ps := ["script"]) fun _ _ _ _ _ _ us hl => match us, hl with | [_], _ => rfl
    g14 := PySem.W.mg_of X G a14
    z_abs := PySem.W.mg_none_of X G z_abs
    z_all := PySem.W.mg_none_of X G z_all
    z_any := PySem.W.mg_none_of X G z_any
    z_bool := PySem.W.mg_none_of X G z_bool
    z_int := PySem.W.mg_none_of X G z_int
    z_isinstance := PySem.W.mg_none_of X G z_isinstance
    z_len := PySem.W.mg_none_of X G z_len
    z_list := PySem.W.mg_none_of X G z_list
    z_range := PySem.W.mg_none_of X G z_range
    z_set := PySem.W.mg_none_of X G z_set
    z_sorted := PySem.W.mg_none_of X G z_sorted
    z_str := PySem.W.mg_none_of X G z_str
    z_tuple := PySem.W.mg_none_of X G z_tuple
    k_DIGITS := ⟨_, PySem.W.mg_of X G ga0, ⟨_, rfl⟩⟩
    k_LONGEST := ⟨_, PySem.W.mg_of X G ga1, ⟨_, rfl⟩⟩
    k_LOWER := ⟨_, PySem.W.mg_of X G ga2, ⟨_, rfl⟩⟩
    k_MOST_STATES := ⟨_, PySem.W.mg_of X G ga3, ⟨_, rfl⟩⟩
    k_PASS := ⟨_, PySem.W.mg_of X G ga4, ⟨_, rfl⟩⟩
    g_RESERVED := PySem.W.mg_of X G ga5
    k_RESERVED := ⟨_, _, _, gl5, rfl, rfl, (by decide : 6 ≤ sizeLine), (.cons ⟨_, rfl⟩ (.cons ⟨_, rfl⟩ (.cons ⟨_, rfl⟩ (.cons ⟨_, rfl⟩ (.cons ⟨_, rfl⟩ (.cons ⟨_, rfl⟩ .nil))))))⟩
    k_TAU := ⟨_, PySem.W.mg_of X G ga6, ⟨_, rfl⟩⟩
    k_TICK := ⟨_, PySem.W.mg_of X G ga7, ⟨_, rfl⟩⟩
    cl_3 := ⟨pg3, hd3, po3, sa3⟩
    gC_3 := PySem.W.mg_of X G aC3
    mk_3 := ⟨mk3, a2, i2, kc3⟩
    na_3_0 := nf3_0
    na_3_1 := nf3_1
    na_3_2 := nf3_2
    xg_1 := PySem.W.mg_of X G xg_1
    xg_2 := PySem.W.mg_of X G xg_2
    xx_1 := xx_1
    xk_1 := xk_1
    xb_1 := xb_1
    xt_1 := xt_1
    xx_2 := xx_2
    xk_2 := xk_2
    xb_2 := xb_2
    xt_2 := xt_2
    xm_1_1 := xm_1_1
    xm_2_1 := xm_2_1
  }
  have e := hfa.symm.trans T.g14
  cases e
  refine ⟨(⟨K, w, (fun i => ([0, C1, C2, C3, 0, 0, 0, 0, 0, 0, 0, 0, 0, 0, 0, 0, 0, 0, 0, 0, 0, 0, 0, 0, 0, 0, 0, 0, 0, 0, 0] : List Addr).getD i 0), fldOf FLDS, fldOf_inj FLDS (by decide +kernel) (by decide +kernel), [P0, P4]⟩ : Gm), PySem.W.fnOf "law" "law" (defArgs s_law) (defBody s_law) (defScope s_law) .none kV14 dc14 pm14 an14 cd14 ct14, [(cc0, P0), (cc4, P4)], ⟨rfl, rfl, hnd⟩, (List.forall_mem_cons.mpr ⟨ht0, (List.forall_mem_cons.mpr ⟨ht4, (fun _ z => nomatch z)⟩)⟩), (List.forall_mem_cons.mpr ⟨hn0, (List.forall_mem_cons.mpr ⟨hn4, (fun _ z => nomatch z)⟩)⟩), (List.forall_mem_cons.mpr ⟨hc0, (List.forall_mem_cons.mpr ⟨hc4, (fun _ z => nomatch z)⟩)⟩), fun s v => .of_eq rfl, fun base _ _ TB => ?_⟩
  exact ok_law (G := (⟨K, w, (fun i => ([0, C1, C2, C3, 0, 0, 0, 0, 0, 0, 0, 0, 0, 0, 0, 0, 0, 0, 0, 0, 0, 0, 0, 0, 0, 0, 0, 0, 0, 0, 0] : List Addr).getD i 0), fldOf FLDS, fldOf_inj FLDS (by decide +kernel) (by decide +kernel), [P0, P4]⟩ : Gm)) T rfl rfl ⟨⟨cc0, P0, by simp, TB (cc0, P0) (by simp), rfl⟩, ⟨cc4, P4, by simp, TB (cc4, P4) (by simp), rfl⟩⟩
end
end K78

namespace K78
noncomputable section
open Dt PySem
def cellI (ns : List Int) (k : Nat) : Int := if k < ns.length then if ns[k]?.getD 0 < 0 then - ns[k]?.getD 0 else ns[k]?.getD 0 else 0
theorem cell_nn (ns : List Int) (k : Nat) : 0 ≤ cellI ns k := by
  unfold cellI
  repeat' split
  all_goals omega
theorem run_cell (ns : List Int) (k : Nat) : f__law_cell [(.fz, .lst (ns.map D.int)), (.fz, .int k)] = some (.ok (.fz, .int (cellI ns k)), [none, none]) := of_ef (by
  refine Ef.fn rfl (by decide) ?_
  unfold b__law_cell
  simp [cellI]
  by_cases hk : k < ns.length
  · simp [hk]
  · simp [hk])
def Draw (d : Int) : Prop := 0 ≤ d ∧ d < 4096
theorem small_len {α : Type} {ds : List α} (h : ds.length ≤ 100) : ds.length < PySem.sizeLine := sizeLine_lt (by omega)
theorem draw_mod (l : Int) : Draw (l % 4096) := ⟨Int.emod_nonneg _ (by decide), Int.emod_lt_of_pos _ (by decide)⟩
theorem run_draws (c : Int) (hc : 0 ≤ c) (n : Nat) (hn : n ≤ 100) : ∃ ds : List Int, ds.length = n ∧ (∀ d ∈ ds, Draw d) ∧ f__law_draws [(.fz, .int c), (.fz, .int n)] = some (.ok (.lst .fz, .lst (ds.map D.int)), [none, none]) := by
  have h : Ef f__law_draws [(.fz, .int c), (.fz, .int n)] noX fun sh d xs => ∃ ds : List Int, ds.length = n ∧ (∀ d ∈ ds, Draw d) ∧ sh = .lst .fz ∧ d = .lst (ds.map D.int) ∧ xs = [none, none] := by
    generalize hN : (n : Int) = N
    refine Ef.fn rfl (by decide) ?_
    subst hN
    unfold b__law_draws
    simp
    refine ⟨by omega, ?_⟩
    refine ev_forN (fun k S => ∃ (ds : List Int) (l : Int) (x4 x5 : Slot), ds.length = k ∧ (∀ d ∈ ds, Draw d) ∧ 0 ≤ l ∧ S = [some (.fz, .int c), some (.fz, .int n), some (.lst .fz, .lst (ds.map D.int)), some (.fz, .int l), x4, x5]) (k0 := 0) ?_ ?_ ?_
    · exact ⟨[], c, none, none, rfl, by simp, hc, rfl⟩
    · intro k d S hd ⟨ds, l, x4, x5, hk, hds, hl, hS⟩
      simp at hd
      obtain ⟨hk3, rfl⟩ := hd
      subst hS
      refine ⟨_, rfl, ?_⟩
      have hz := small_len (ds := ds) (by omega)
      have push : ∀ v : Int, Draw v → ∀ d ∈ ds ++ [v], Draw d := fun v hv d hd => by
        rcases List.mem_append.mp hd with h | h
        · exact hds d h
        · simp at h; subst h; exact hv
      refine ev_cut (fun S' => ∃ (ds : List Int) (l : Int) (x4 x5 : Slot), ds.length = k + 1 ∧ (∀ d ∈ ds, Draw d) ∧ 0 ≤ l ∧ S' = [some (.fz, .int c), some (.fz, .int n), some (.lst .fz, .lst (ds.map D.int)), some (.fz, .int l), x4, x5]) ?_ ?_
      · refine ev_two ?_ ?_ ?_
        · simp
        · simp [hz]
          exact ⟨ds ++ [l % 4096], by simp; omega, push _ (draw_mod l), Int.ediv_nonneg hl (by decide), by simp⟩
        · refine ev_cut (fun S' => ∃ v : Int, 0 ≤ v ∧ v < 2147483648 ∧ S' = [some (.fz, .int c), some (.fz, .int n), some (.lst .fz, .lst (ds.map D.int)), some (.fz, .int l), some (.fz, .int k), some (.fz, .int v)]) ?_ ?_
          · simp
            omega
          · intro S' ⟨v, v0, v1, hS'⟩
            subst hS'
            have hm : -18446744073709551616 < v ∧ v < 18446744073709551616 := ⟨by omega, by omega⟩
            refine ev_cut (fun S' => ∃ v : Int, 0 ≤ v ∧ v < 2147483648 ∧ S' = [some (.fz, .int c), some (.fz, .int n), some (.lst .fz, .lst (ds.map D.int)), some (.fz, .int l), some (.fz, .int k), some (.fz, .int v)]) ?_ ?_
            · simp [hm]
              exact ⟨Int.emod_nonneg _ (by decide), Int.lt_trans (Int.emod_lt_of_pos _ (by decide)) (by decide)⟩
            · intro S' ⟨v, v0, v1, hS'⟩
              subst hS'
              have hm : -18446744073709551616 < v ∧ v < 18446744073709551616 := ⟨by omega, by omega⟩
              refine ev_cut (fun S' => ∃ v : Int, 0 ≤ v ∧ v < 2147483648 ∧ S' = [some (.fz, .int c), some (.fz, .int n), some (.lst .fz, .lst (ds.map D.int)), some (.fz, .int l), some (.fz, .int k), some (.fz, .int v)]) ?_ ?_
              · simp [hm]
                exact ⟨Int.emod_nonneg _ (by decide), Int.lt_trans (Int.emod_lt_of_pos _ (by decide)) (by decide)⟩
              · intro S' ⟨v, v0, v1, hS'⟩
                subst hS'
                simp [hz]
                exact ⟨ds ++ [v / 7 % 4096], by simp; omega, push _ (draw_mod _), hl, by simp⟩
      · intro S1 ⟨ds, l, x4, x5, hk, hds, hl, hS⟩
        subst hS
        simp
        exact ⟨ds, by omega, hds, hl, rfl⟩
    · intro S ⟨ds, l, x4, x5, hk, hds, hl, hS⟩
      subst hS
      simp at hk
      simp
      exact ⟨ds, hk, hds, rfl⟩
  obtain ⟨_, _, xs, e, ds, hl, hd, rfl, rfl, rfl⟩ := h.ok
  exact ⟨ds, hl, hd, e⟩
end
end K78

namespace K78
noncomputable section
open Dt PySem
open Classical in
theorem notIn_lst {n m : Nat} {x : D} {ys : List D} (hx : pl n x = true) (hy : pls m ys = true) (hn : n ≤ 64) (hm : m ≤ 63) : notInF x (.lst ys) = some (.fz, .bl (!decide (x ∈ ys))) := by
  unfold notInF
  rw [in_lst hx hy hn hm]
  rfl
open Classical in
theorem inF_lst {n m : Nat} {x : D} {ys : List D} (hx : pl n x = true) (hy : pls m ys = true) (hn : n ≤ 64) (hm : m ≤ 63) : inF x (.lst ys) = some (.fz, .bl (decide (x ∈ ys))) := by
  unfold inF
  rw [in_lst hx hy hn hm]
  rfl
open Classical in
theorem inF_tup {n m : Nat} {x : D} {ys : List D} (hx : pl n x = true) (hy : pls m ys = true) (hn : n ≤ 64) (hm : m ≤ 63) : inF x (.tup ys) = some (.fz, .bl (decide (x ∈ ys))) := by
  unfold inF
  rw [in_tup hx hy hn hm]
  rfl
open Classical in
theorem notIn_tup {n m : Nat} {x : D} {ys : List D} (hx : pl n x = true) (hy : pls m ys = true) (hn : n ≤ 64) (hm : m ≤ 63) : notInF x (.tup ys) = some (.fz, .bl (!decide (x ∈ ys))) := by
  unfold notInF
  rw [in_tup hx hy hn hm]
  rfl
theorem mem_addD {acc : List D} {d x : D} : x ∈ addD acc d ↔ x ∈ acc ∨ x = d := by
  unfold addD
  split
  · rename_i h
    constructor
    · exact .inl
    · rintro (h1 | rfl)
      · exact h1
      · exact h
  · simp
theorem nodup_addD {acc : List D} {d : D} (h : acc.Nodup) : (addD acc d).Nodup := by
  unfold addD
  split
  · exact h
  · rename_i hd
    rw [List.nodup_append]
    exact ⟨h, by simp, by intro a ha b hb e; simp at hb; subst hb; subst e; exact hd ha⟩
theorem len_addD {acc : List D} {d : D} : (addD acc d).length ≤ acc.length + 1 := by
  unfold addD
  split <;> simp
theorem foldD : ∀ {ds acc : List D}, (∀ x, x ∈ ds.foldl addD acc ↔ x ∈ acc ∨ x ∈ ds) ∧ (acc.Nodup → (ds.foldl addD acc).Nodup) ∧ (ds.foldl addD acc).length ≤ acc.length + ds.length
  | [], acc => by simp
  | d :: ds, acc => by
    obtain ⟨h1, h2, h3⟩ := foldD (ds := ds) (acc := addD acc d)
    have := len_addD (acc := acc) (d := d)
    refine ⟨fun x => ?_, fun h => h2 (nodup_addD h), by simp; omega⟩
    simp [h1, mem_addD, or_assoc]
theorem mem_ded {ds : List D} {x : D} : x ∈ dedD ds ↔ x ∈ ds := by
  have := (foldD (ds := ds) (acc := [])).1 x
  simpa [dedD] using this
theorem nodup_ded {ds : List D} : (dedD ds).Nodup := (foldD (ds := ds) (acc := [])).2.1 (by simp)
theorem len_ded {ds : List D} : (dedD ds).length ≤ ds.length := by
  have := (foldD (ds := ds) (acc := [])).2.2
  simpa [dedD] using this
theorem ded_take {ds : List D} {k : Nat} {d : D} (h : ds[k]? = some d) : dedD (ds.take (k + 1)) = addD (dedD (ds.take k)) d := by
  unfold dedD
  rw [List.take_succ, h]
  simp
theorem pls_of {n : Nat} {xs : List D} (h : ∀ x ∈ xs, pl n x = true) : pls n xs = true := pls_iff.mpr h
/-- a map that loses nothing -/
def Inj {α : Type} (f : α → D) : Prop := ∀ a b, f a = f b → a = b
theorem inj_int : Inj D.int := fun _ _ h => by cases h; rfl
theorem inj_str : Inj D.str := fun _ _ h => by cases h; rfl
theorem map_ofD {α : Type} {f : α → D} {xs : List D} (h : ∀ x ∈ xs, ∃ a, x = f a) : ∃ as : List α, xs = as.map f := by
  induction xs with
  | nil => exact ⟨[], rfl⟩
  | cons x xs ih =>
    obtain ⟨a, rfl⟩ := h x (by simp)
    obtain ⟨as, rfl⟩ := ih fun y hy => h y (by simp [hy])
    exact ⟨a :: as, rfl⟩
theorem mem_mapI {α : Type} {f : α → D} (hf : Inj f) {as : List α} {a : α} : f a ∈ as.map f ↔ a ∈ as := by
  constructor
  · intro h
    obtain ⟨b, hb, e⟩ := List.mem_map.mp h
    rwa [hf _ _ e] at hb
  · exact fun h => List.mem_map.mpr ⟨a, h, rfl⟩
theorem nodup_mapI {α : Type} {f : α → D} (hf : Inj f) {as : List α} : (as.map f).Nodup ↔ as.Nodup := by
  constructor
  · intro h
    exact List.Pairwise.imp (S := fun a b => a ≠ b) (fun hab e => hab (by rw [e])) (List.pairwise_map.mp h)
  · intro h
    exact List.pairwise_map.mpr (h.imp fun hab e => hab (hf _ _ e))
theorem ded_map {α : Type} {f : α → D} (hf : Inj f) (as : List α) : ∃ bs : List α, dedD (as.map f) = bs.map f ∧ bs.Nodup ∧ (∀ a, a ∈ bs ↔ a ∈ as) ∧ bs.length ≤ as.length := by
  obtain ⟨bs, e⟩ := map_ofD (f := f) (xs := dedD (as.map f)) fun x hx => by
    obtain ⟨a, _, rfl⟩ := List.mem_map.mp (mem_ded.mp hx)
    exact ⟨a, rfl⟩
  refine ⟨bs, e, (nodup_mapI hf).mp (e ▸ nodup_ded), fun a => ?_, ?_⟩
  · rw [← mem_mapI hf, ← e, mem_ded, mem_mapI hf]
  · have := len_ded (ds := as.map f)
    rw [e] at this
    simpa using this
theorem pl_int {n : Nat} {i : Int} : pl (n + 1) (.int i) = true := rfl
theorem pls_int {n : Nat} {l : List Int} : pls (n + 1) (l.map D.int) = true := pls_of fun x hx => by
  obtain ⟨i, _, rfl⟩ := List.mem_map.mp hx
  rfl
end
end K78

namespace K78
noncomputable section
open Dt PySem
theorem run_once {sh : Sh} {xs : List D} (hl : xs.length ≤ 1000) (hp : ∀ x ∈ xs, pl 4 x = true) (hs : sh.whole = true) : f__law_once [(sh, .lst xs)] = some (.ok (.lst .fz, .lst (dedD xs)), [none]) := of_ef (by
  refine Ef.fn rfl (by decide) ?_
  unfold b__law_once
  simp [hs]
  refine ev_forN (fun k S => ∃ (x : Slot), S = [some (.fz, .lst xs), some (.lst .fz, .lst (dedD (xs.take k))), x]) (k0 := 0) ?_ ?_ ?_
  · exact ⟨none, by simp [dedD]⟩
  · intro k d S hd ⟨x, hS⟩
    subst hS
    refine ⟨_, rfl, ?_⟩
    have hm := List.mem_of_getElem? hd
    have p2 : pls 4 (dedD (xs.take k)) = true := pls_of fun y hy => hp y (List.mem_of_mem_take (mem_ded.mp hy))
    have hlen : (dedD (xs.take k)).length < PySem.sizeLine := sizeLine_lt (by have := len_ded (ds := xs.take k); simp at this; omega)
    simp only [Nat.zero_add, ded_take hd]
    simp [notIn_lst (hp d hm) p2 (by decide) (by decide), hlen, addD]
    by_cases h : d ∈ dedD (xs.take k)
    · simp [h]
    · simp [h, hlen]
  · intro S ⟨x, hS⟩
    subst hS
    simp [dedD])
end
end K78

namespace K78
noncomputable section
open Dt PySem
abbrev Ed := Int × List Nat × Int
def edD (e : Ed) : D := .tup [.int e.1, .str e.2.1, .int e.2.2]
def acts5 : List (List Nat) := [S "a", S "b", S "tau", S "c", S "tick"]
def acts : List (List Nat) := acts5 ++ [S "pass", S "zz", S "d"]
def EdOk (n : Int) (e : Ed) : Prop := 0 ≤ e.1 ∧ e.1 < n ∧ e.2.1 ∈ acts ∧ 0 ≤ e.2.2 ∧ e.2.2 < n
theorem inj_ed : Inj edD := by
  rintro ⟨a, b, c⟩ ⟨a', b', c'⟩ h
  simp [edD] at h
  simp [h]
theorem acts_sub {a : List Nat} (h : a ∈ acts5) : a ∈ acts := List.mem_append_left _ h
theorem acts_ok : ∀ {a : List Nat}, a ∈ acts → okS a = true := by
  have : ∀ a ∈ acts, okS a = true := by decide +kernel
  exact fun {a} h => this a h
abbrev tau : List Nat := S "tau"
theorem tau_ok : okS tau = true := by decide +kernel
def Ed5 (es : List Ed) : Prop := ∀ e ∈ es, e.2.1 ∈ acts5
theorem getD_some {α : Type} {xs : List α} {k : Nat} (h : k < xs.length) : ∃ x ∈ xs, xs[k]? = some x := ⟨xs[k], List.getElem_mem _, List.getElem?_eq_getElem h⟩
theorem run_system (c : Int) (hc : 0 ≤ c) (m : Nat) (hm : 1 ≤ m) (hm2 : m ≤ 30) : ∃ (n : Int) (es : List Ed), 1 ≤ n ∧ n ≤ m ∧ (∀ e ∈ es, EdOk n e) ∧ es.length ≤ 3 * m ∧ Ed5 es ∧ f__law_system [(.fz, .int c), (.fz, .int m)] = some (.ok (.fz, .tup [.int n, .lst (es.map edD)]), [none, none]) := by
  have h : Ef f__law_system [(.fz, .int c), (.fz, .int m)] noX fun sh d xs => ∃ (n : Int) (es : List Ed), 1 ≤ n ∧ n ≤ m ∧ (∀ e ∈ es, EdOk n e) ∧ es.length ≤ 3 * m ∧ Ed5 es ∧ sh = .fz ∧ d = .tup [.int n, .lst (es.map edD)] ∧ xs = [none, none] := by
    refine Ef.fn rfl (by decide) ?_
    unfold b__law_system
    obtain ⟨ds, hl, hd, er⟩ := run_draws c hc (3 * m + 4) (by omega)
    have hdr : ∀ X Q, Ef f__law_draws [(.fz, .int c), (.fz, .int (3 * (m : Int) + 4))] X Q ↔ Q (.lst .fz) (.lst (ds.map D.int)) [none, none] := fun X Q => ef_ok (by simpa using er)
    obtain ⟨x0, h0, g0⟩ := getD_some (xs := ds) (k := 0) (by omega)
    obtain ⟨x1, h1, g1⟩ := getD_some (xs := ds) (k := 1) (by omega)
    obtain ⟨x2, h2, g2⟩ := getD_some (xs := ds) (k := 2) (by omega)
    have m0 : 0 ≤ x0 % (m : Int) := Int.emod_nonneg _ (by omega)
    have m1 : x0 % (m : Int) < m := Int.emod_lt_of_pos _ (by omega)
    have k0 : 0 ≤ x1 % (3 * (m : Int)) := Int.emod_nonneg _ (by omega)
    have k1 : x1 % (3 * (m : Int)) < 3 * m := Int.emod_lt_of_pos _ (by omega)
    simp [hdr, g0, g1, g2]
    generalize x0 % (m : Int) = y at m0 m1
    generalize x1 % (3 * (m : Int)) = z at k0 k1
    refine ⟨by omega, by omega, by omega, ?_⟩
    refine ev_forN (fun k S => ∃ (es : List Ed) (x5 x6 x7 : Dt.Slot), es.length = k ∧ (∀ e ∈ es, EdOk (1 + y) e) ∧ Ed5 es ∧ S = [some (.fz, .int c), some (.fz, .int m), some (.lst .fz, .lst (ds.map D.int)), some (.fz, .int (1 + y)), some (.lst .fz, .lst (es.map edD)), x5, x6, x7]) (k0 := 0) ?_ ?_ ?_
    · exact ⟨[], none, none, none, rfl, by simp, by simp [Ed5], rfl⟩
    · intro k d S hd' ⟨es, x5, x6, x7, hk, hes, he5, hS⟩
      simp at hd'
      obtain ⟨hkz, rfl⟩ := hd'
      subst hS
      refine ⟨_, rfl, ?_⟩
      obtain ⟨x, hx, gx⟩ := getD_some (xs := ds) (k := 2 + k) (by omega)
      have hn : L2.atI (ds.map D.int) (2 + (k : Int)) = some (.int x) := by
        rw [atI_nn (by omega), show (2 + (k : Int)).toNat = 2 + k by omega, List.getElem?_map, gx]
        rfl
      have j0 : 0 ≤ x % (9 + x2 % 2) := Int.emod_nonneg _ (by omega)
      have j1 : x % (9 + x2 % 2) < 9 + x2 % 2 := Int.emod_lt_of_pos _ (by omega)
      obtain ⟨a, ha, ea⟩ : ∃ a, a ∈ acts5 ∧ L2.atI [D.str (S "a"), D.str (S "b"), D.str (S "tau"), D.str (S "a"), D.str (S "c"), D.str (S "tau"), D.str (S "b"), D.str (S "tick"), D.str (S "a"), D.str (S "tau")] (x % (9 + x2 % 2)) = some (.str a) := by
        obtain ⟨x, hx, e⟩ := atI_some (xs := [D.str (S "a"), D.str (S "b"), D.str (S "tau"), D.str (S "a"), D.str (S "c"), D.str (S "tau"), D.str (S "b"), D.str (S "tick"), D.str (S "a"), D.str (S "tau")]) j0 (by simp; omega)
        simp only [List.mem_cons, List.not_mem_nil, or_false] at hx
        rcases hx with rfl | rfl | rfl | rfl | rfl | rfl | rfl | rfl | rfl | rfl
        all_goals exact ⟨_, by simp [acts5], e⟩
      have hz := small_len (ds := es.map edD) (by simp; omega)
      simp at hz
      have p0 : 0 < 1 + y := by omega
      have q0 : 0 < 9 + x2 % 2 := by omega
      refine ev_cut (fun S => S = [some (.fz, .int c), some (.fz, .int m), some (.lst .fz, .lst (ds.map D.int)), some (.fz, .int (1 + y)), some (.lst .fz, .lst (es.map edD)), some (.fz, .int k), some (.fz, .int x), x7]) ?_ ?_
      · simp [hn]
      rintro _ rfl
      refine ev_cut (fun S => S = [some (.fz, .int c), some (.fz, .int m), some (.lst .fz, .lst (ds.map D.int)), some (.fz, .int (1 + y)), some (.lst .fz, .lst (es.map edD)), some (.fz, .int k), some (.fz, .int x), some (.fz, .str a)]) ?_ ?_
      · rw [ev_set, e_op2, e_fun]
        simp [g2, q0, ea]
      rintro _ rfl
      simp [hz, p0, -Prod.forall]
      refine ⟨es ++ [(x / 10 % (1 + y), a, x / 100 % (1 + y))], by simp; omega, ?_, ?_, by simp [edD]⟩
      rotate_left
      · intro e he
        rcases List.mem_append.mp he with h | h
        · exact he5 e h
        · simp at h
          subst h
          exact ha
      intro e he
      rcases List.mem_append.mp he with h | h
      · exact hes e h
      · simp at h
        subst h
        exact ⟨Int.emod_nonneg _ (by omega), Int.emod_lt_of_pos _ p0, acts_sub ha, Int.emod_nonneg _ (by omega), Int.emod_lt_of_pos _ p0⟩
    · intro S ⟨es, x5, x6, x7, hk, hes, he5, hS⟩
      subst hS
      simp at hk
      simp
      exact ⟨1 + y, by omega, by omega, es, fun a b c h => hes _ h, by omega, he5, rfl, rfl⟩
  obtain ⟨_, _, xs, e, n, es, h1, h2, h3, h4, h5, rfl, rfl, rfl⟩ := h.ok
  exact ⟨n, es, h1, h2, h3, h4, h5, e⟩
end
end K78

namespace K78
noncomputable section
open Dt PySem
def prD (e : Ed) : D := .tup [.str e.2.1, .int e.2.2]
def rowD (es : List Ed) (s : Nat) : D := .lst ((es.filter fun e => decide (e.1 = (s : Int))).map prD)
def sysD (n : Nat) (es : List Ed) : D := .ins 3 [(0, .int n), (1, .tup (es.map edD)), (2, .lst ((List.range n).map (rowD es)))]
theorem act_ok (a : List Nat) (h : a ∈ acts) : f_is_action [(.fz, .str a)] = some (.ok (.fz, .bl true), [none]) := by
  simp only [acts, acts5, List.cons_append, List.nil_append, List.mem_cons, List.not_mem_nil, or_false] at h
  rcases h with rfl | rfl | rfl | rfl | rfl | rfl | rfl | rfl
  all_goals kernel_rfl
theorem pys_ed : ∀ es : List Ed, D.pys (es.map edD) = some (es.map fun e => PyData.tuple [.int e.1, .str ⟨e.2.1.toArray⟩, .int e.2.2])
  | [] => rfl
  | e :: es => by simp [D.pys, D.py, pys_ed es, edD]
theorem sortOk_ed (es : List Ed) (hl : es.length ≤ 1000) : sortOk (es.map edD) = true := by
  unfold sortOk
  rw [pys_ed]
  simp only [Bool.and_eq_true, List.all_eq_true, decide_eq_true_eq, List.mem_map, List.length_map]
  refine ⟨⟨⟨?_, ?_⟩, sizeLine_le (by omega)⟩, ?_⟩
  · rintro _ ⟨e, _, rfl⟩ _ ⟨e', _, rfl⟩
    simp [PySem.W.alike, PySem.W.alikeAll]
  · unfold sortable
    rw [Bool.or_eq_true]
    refine .inl (List.all_eq_true.mpr ?_)
    intro d hd
    obtain ⟨e, _, rfl⟩ := List.mem_map.mp hd
    rfl
  · rintro _ ⟨e, _, rfl⟩
    simp [PyData.depth, PyData.depthAll]
theorem setOk_ed {n : Int} {es : List Ed} (h : ∀ e ∈ es, EdOk n e) (hl : es.length ≤ 75) : setOk (es.map edD) = true := by
  refine setOk_of (tup := true) ?_ ?_ (by simpa using hl)
  · intro d hd
    obtain ⟨e, _, rfl⟩ := List.mem_map.mp hd
    rfl
  · intro d hd
    obtain ⟨e, he, rfl⟩ := List.mem_map.mp hd
    have := acts_ok (h e he).2.2.1
    simp [edD, kd, kds, this]
/-- the edges, each once, in order -/
theorem sort_ed (es : List Ed) : ∃ fs : List Ed, sortD (dedD (es.map edD)) = fs.map edD ∧ fs.Nodup ∧ (∀ e, e ∈ fs ↔ e ∈ es) ∧ fs.length ≤ es.length := by
  obtain ⟨bs, e1, n1, m1, l1⟩ := ded_map inj_ed es
  have hp : (sortD (bs.map edD)).Perm (bs.map edD) := List.mergeSort_perm _ _
  obtain ⟨fs, e2⟩ := map_ofD (f := edD) (xs := sortD (bs.map edD)) fun x hx => by
    obtain ⟨a, _, rfl⟩ := List.mem_map.mp (hp.mem_iff.mp hx)
    exact ⟨a, rfl⟩
  rw [e2] at hp
  refine ⟨fs, by rw [e1, e2], (nodup_mapI inj_ed).mp (hp.nodup_iff.mpr ((nodup_mapI inj_ed).mpr n1)), fun e => ?_, ?_⟩
  · rw [← m1, ← mem_mapI inj_ed, hp.mem_iff, mem_mapI inj_ed]
  · have := hp.length_eq
    simp at this
    omega
end
end K78

namespace K78
noncomputable section
open Dt PySem
theorem putFD_new {k : Nat} {sh : Sh} {d : D} {cs : List Sh} {fs : List (Nat × D)} (h : fs.findIdx? (fun x => x.1 == k) = none) : putFD k sh d cs fs = (cs ++ [sh], fs ++ [(k, d)]) := by
  unfold putFD
  rw [h]
theorem pathF_at {cs : List Sh} {fs : List (Nat × D)} {k j : Nat} {sh : Sh} {kd : Nat × D} {p : List Stp} (h0 : fs.findIdx? (fun x => x.1 == k) = some j) (h1 : cs[j]? = some sh) (h2 : fs[j]? = some kd) : pathF cs fs (fs.findIdx? (fun x => x.1 == k)) p = pathD (sh, kd.2) p := by
  rw [h0]
  exact pathF_s h1 h2
def sysR (n : Nat) (fs es : List Ed) : D := .ins 3 [(0, .int n), (1, .tup (fs.map edD)), (2, .lst ((List.range n).map (rowD es)))]
theorem pf1 {c0 c1 c2 : Sh} {a b c : D} {p : List Stp} : pathF [c0, c1, c2] [(0, a), (1, b), (2, c)] (some 1) p = pathD (c1, b) p := pathF_s (kd := (1, b)) rfl rfl
theorem pf2 {c0 c1 c2 : Sh} {a b c : D} {p : List Stp} : pathF [c0, c1, c2] [(0, a), (1, b), (2, c)] (some 2) p = pathD (c2, c) p := pathF_s (kd := (2, c)) rfl rfl
theorem fi1 (a b c : D) : List.findIdx? (fun x : Nat × D => x.1 == 1) [(0, a), (1, b), (2, c)] = some 1 := rfl
theorem fi2 (a b c : D) : List.findIdx? (fun x : Nat × D => x.1 == 2) [(0, a), (1, b), (2, c)] = some 2 := rfl
theorem updD_fld {cs : List Sh} {c k j : Nat} {fs : List (Nat × D)} {p : List Stp} {d3 : D} {sh : Sh} {kd : Nat × D} (h0 : fs.findIdx? (fun x => x.1 == k) = some j) (h1 : cs[j]? = some sh) (h2 : fs[j]? = some kd) : updD (.ins cs, .ins c fs) (.fld k :: p) d3 = .ins c (fs.set j (k, updD (sh, kd.2) p d3)) := by
  conv => lhs; unfold updD
  simp only [h0, h1, h2]
theorem updD_ix {c : Sh} {ds : List D} {i : Nat} {p : List Stp} {d d3 : D} (h : ds[i]? = some d) : updD (.lst c, .lst ds) (.ix i :: p) d3 = .lst (ds.set i (updD (c, d) p d3)) := by
  conv => lhs; unfold updD
  simp only [h]
theorem upd2 {c0 c1 c2 : Sh} {a b c d : D} {p : List Stp} : updD (.ins [c0, c1, c2], .ins 3 [(0, a), (1, b), (2, c)]) (.fld 2 :: p) d = .ins 3 [(0, a), (1, b), (2, updD (c2, c) p d)] := updD_fld (j := 2) (kd := (2, c)) (fi2 a b c) rfl rfl
theorem rows_add (n : Nat) (es : List Ed) (e : Ed) (s : Nat) (hs : e.1 = s) : ((List.range n).map (rowD es)).set s (.lst ((es.filter fun e => decide (e.1 = (s : Int))).map prD ++ [prD e])) = (List.range n).map (rowD (es ++ [e])) := by
  apply List.ext_getElem?
  intro i
  simp only [List.getElem?_set, List.length_map, List.length_range, List.getElem?_map, List.getElem?_range]
  by_cases hi : s = i
  · subst hi
    by_cases hn : s < n
    · simp [hn, rowD, hs]
    · simp [hn]
  · simp only [if_neg hi]
    by_cases hn : i < n
    · have : ¬ e.1 = (i : Int) := by omega
      simp [hn, rowD, this]
    · simp [hn]
theorem run_init (n : Nat) (hn : 1 ≤ n) (hn2 : n ≤ 1000) (es : List Ed) (h : ∀ e ∈ es, EdOk n e) (hl : es.length ≤ 75) (fs : List Ed) (e1 : sortD (dedD (es.map edD)) = fs.map edD) (hm : ∀ e, e ∈ fs ↔ e ∈ es) (hfl : fs.length ≤ es.length) (sh : Sh) (hsh : sh.flat = true) (hsw : sh.whole = true) : f_System___init__ [(.ins [], .ins 3 []), (.fz, .int n), (sh, .lst (es.map edD))] = some (.ok (.fz, .non), [some (.ins [.fz, .fz, .lst (.lst .fz)], sysD n fs), none, none]) := of_ef (by
  refine Ef.fn rfl (by decide) ?_
  unfold b_System___init__
  have B0 : B_System___init__ 1 = false := rfl
  have B1 : B_System___init__ 2 = false := rfl
  have B2 : B_System___init__ 3 = false := rfl
  have B3 : B_System___init__ 4 = false := rfl
  have B4 : B_System___init__ 5 = false := rfl
  have g1 : ¬ (n : Int) < 1 := by omega
  have g2 : ¬ 20000 < (n : Int) := by omega
  refine ev_cut (fun S => S = [some (.ins [], .ins 3 []), some (.fz, .int n), some (sh, .lst (es.map edD)), none, none, none]) ?_ ?_
  · simp [g1, g2]
  rintro _ rfl
  refine ev_cut (fun S => ∃ x3 x4 x5 : Dt.Slot, S = [some (.ins [], .ins 3 []), some (.fz, .int n), some (.fz, .lst (es.map edD)), x3, x4, x5]) ?_ ?_
  · rw [ev_for]
    simp [hsw]
    refine ev_forN (fun k S => ∃ x3 x4 x5 : Dt.Slot, S = [some (.ins [], .ins 3 []), some (.fz, .int n), some (.fz, .lst (es.map edD)), x3, x4, x5]) (k0 := 0) ?_ ?_ ?_
    · exact ⟨none, none, none, rfl⟩
    · intro k d S hd ⟨x3, x4, x5, hS⟩
      subst hS
      obtain ⟨e, he, rfl⟩ := List.mem_map.mp (List.mem_of_getElem? hd)
      obtain ⟨a0, a1, a2, a3, a4⟩ := h e he
      refine ⟨_, rfl, ?_⟩
      have ha : ∀ X Q, Ef f_is_action [(.fz, .str e.2.1)] X Q ↔ Q .fz (.bl true) [none] := fun X Q => ef_ok (act_ok _ a2)
      simp [a0, a1, a3, a4, ha]
    · intro S ⟨x3, x4, x5, hS⟩
      subst hS
      simp
  rintro _ ⟨x3, x4, x5, rfl⟩
  refine ev_cut (fun S => S = [some (.ins [.fz], .ins 3 [(0, .int n)]), some (.fz, .int n), some (.fz, .lst (es.map edD)), x3, x4, x5]) ?_ ?_
  · simp [putFD]
  rintro _ rfl
  refine ev_cut (fun S => S = [some (.ins [.fz, .fz], .ins 3 [(0, .int n), (1, .tup (fs.map edD))]), some (.fz, .int n), some (.fz, .lst (es.map edD)), x3, x4, x5]) ?_ ?_
  · have hmem : ∀ e ∈ fs, EdOk n e := fun e he => h e ((hm e).mp he)
    have l1 : (dedD (es.map edD)).length ≤ 75 := Nat.le_trans len_ded (by simpa using hl)
    have s1 : setOk (es.map edD) = true := setOk_ed h hl
    have s2 : kds 8 (dedD (es.map edD)) = true := kds_iff.mpr fun x hx => by
      obtain ⟨_, _, h2, _⟩ := setOk_at s1
      exact h2 x (mem_ded.mp hx)
    obtain ⟨bs, e2, _, _, l2⟩ := ded_map inj_ed es
    have s3 : sortOk (dedD (es.map edD)) = true := by
      rw [e2]
      exact sortOk_ed _ (by omega)
    have s4 := nodup_ded (ds := es.map edD)
    simp [s1, s2, s3, s4, e1, putFD]
  rintro _ rfl
  refine ev_cut (fun S => S = [some (.ins [.fz, .fz, .lst (.lst .fz)], .ins 3 [(0, .int n), (1, .tup (fs.map edD)), (2, .lst ((List.range n).map (rowD [])))]), some (.fz, .int n), some (.fz, .lst (es.map edD)), x3, x4, x5]) ?_ ?_
  · rw [e_fldset]
    refine ev_lc (fun _ => true) (fun _ => .lst []) ?_
    have hp := putFD_new (k := 2) (sh := .lst (.lst .fz)) (d := .lst (List.map (fun _ => D.lst []) (List.filter (fun _ => true) (rangeD 0 n)))) (cs := [.fz, .fz]) (fs := [(0, D.int n), (1, D.tup (fs.map edD))]) rfl
    have hr : List.map (fun _ => D.lst []) (List.filter (fun _ => true) (rangeD 0 n)) = (List.range n).map (rowD []) := by
      rw [List.filter_eq_self.mpr (by simp)]
      unfold rangeD
      rw [List.map_map]
      rfl
    simp [hp]
    refine ⟨by omega, sizeLine_le (by omega), by simpa using hr⟩
  rintro _ rfl
  rw [ev_seq, ev_for]
  simp [fi1, pf1]
  refine ev_forN (fun k S => ∃ x3 x4 x5 : Dt.Slot, S = [some (.ins [.fz, .fz, .lst (.lst .fz)], sysR n fs (fs.take k)), some (.fz, .int n), some (.fz, .lst (es.map edD)), x3, x4, x5]) (k0 := 0) ?_ ?_ ?_
  · exact ⟨x3, x4, x5, rfl⟩
  · intro k d S hd ⟨x3, x4, x5, hS⟩
    subst hS
    rw [List.getElem?_map] at hd
    obtain ⟨e, he, rfl⟩ := Option.map_eq_some_iff.mp hd
    obtain ⟨a0, a1, a2, a3, a4⟩ := h e ((hm e).mp (List.mem_of_getElem? he))
    refine ⟨_, rfl, ?_⟩
    obtain ⟨s, hs⟩ : ∃ s : Nat, e.1 = s := ⟨e.1.toNat, by omega⟩
    obtain ⟨_, a, t⟩ := e
    subst hs
    have hsn : s < n := by simp at a1; omega
    have hrow : ((List.range n).map (rowD (fs.take k)))[s]? = some (rowD (fs.take k) s) := by simp [hsn]
    simp only [sysR]
    have hset := rows_add n (fs.take k) (↑s, a, t) s rfl
    have htk : fs.take (k + 1) = fs.take k ++ [((↑s, a, t) : Ed)] := by rw [List.take_succ, he]; rfl
    simp only [Nat.zero_add, htk, ← hset]
    have hlr : ((List.range n).map (rowD (fs.take k))).length = n := by simp
    have hlen : (((fs.take k).filter fun e => decide (e.1 = (s : Int))).map prD).length < sizeLine := by
      refine sizeLine_lt ?_
      have := List.length_filter_le (fun e : Ed => decide (e.1 = (s : Int))) (fs.take k)
      simp at this ⊢
      omega
    unfold rowD at hrow
    have hr2 : ∀ p, pathI (.lst .fz) ((List.range n).map (rowD (fs.take k)))[s]? p = pathD (.lst .fz, .lst (((fs.take k).filter fun e => decide (e.1 = (s : Int))).map prD)) p := fun p => by
      show pathI _ (List.map (fun s => rowD (fs.take k) s) (List.range n))[s]? p = _
      rw [show (List.map (fun s => rowD (fs.take k) s) (List.range n))[s]? = some (rowD (fs.take k) s) by simp [hsn]]
      rfl
    have hu : ∀ d3, updD (.lst (.lst .fz), .lst ((List.range n).map (rowD (fs.take k)))) [.ix s] d3 = .lst (((List.range n).map (rowD (fs.take k))).set s d3) := fun d3 => by
      rw [updD_ix (d := rowD (fs.take k) s) (by simp [hsn]), updD_0]
    have hrw : ((List.range n).map (rowD (fs.take k)))[s]? = some (.lst (((fs.take k).filter fun e => decide (e.1 = (s : Int))).map prD)) := by
      rw [show (List.map (rowD (fs.take k)) (List.range n))[s]? = some (rowD (fs.take k) s) by simp [hsn]]
      rfl
    clear hset htk hrow hr2
    generalize (List.range n).map (rowD (fs.take k)) = rows at *
    generalize ((fs.take k).filter fun e => decide (e.1 = (s : Int))).map prD = row at *
    obtain ⟨hsr, hg⟩ := List.getElem?_eq_some_iff.mp hrw
    simp [fi2, pf2, upd2, hu, hlen, hsr, hg, prD]
  · intro S ⟨x3, x4, x5, hS⟩
    subst hS
    rw [show fs.take (0 + (fs.map edD).length) = fs by simp]
    refine ⟨rfl, ?_⟩
    rfl)
end
end K78

namespace K78
noncomputable section
open Dt PySem
/-! alike: a thing and itself -/
mutual
def lk : Nat → D → Bool
  | 0, _ => false
  | _ + 1, .non => true
  | _ + 1, .int _ => true
  | _ + 1, .bl _ => true
  | _ + 1, .str x => okS x
  | n + 1, .tup xs => lks n xs && decide (xs.length ≤ 1000000)
  | n + 1, .lst xs => lks n xs && decide (xs.length ≤ 1000000)
  | _ + 1, _ => false
def lks : Nat → List D → Bool
  | _, [] => true
  | n, x :: xs => lk n x && lks n xs
end
theorem lks_iff {n : Nat} : ∀ {xs : List D}, lks n xs = true ↔ ∀ x ∈ xs, lk n x = true
  | [] => by simp [lks]
  | x :: xs => by simp [lks, lks_iff (xs := xs)]
theorem bls_true : ∀ (xs : List D), bls (xs.map fun _ => D.bl true) = some (xs.map fun _ => true)
  | [] => rfl
  | x :: xs => by simp [bls, bls_true xs]
theorem all_true (xs : List D) : allF (.lst (xs.map fun _ => D.bl true)) = some (.fz, .bl true) := by
  unfold allF
  simp only [bls_true]
  simp
section
variable {k : Nat} {s0 s1 : Sh} {xs : List D}
theorem like_seq {d : D} (hd : d = .tup xs ∨ d = .lst xs) (hl : xs.length ≤ 1000000) (ih : ∀ x ∈ xs, r__law_like k [(.fz, x), (.fz, x)] = some (.ok (.fz, .bl true), [none, none])) (w0 : s0.flat = true) (w1 : s1.flat = true) : r__law_like (k + 1) [(s0, d), (s1, d)] = some (.ok (.fz, .bl true), [none, none]) := of_ef (by
  unfold r__law_like
  refine Ef.fn rfl (by decide) ?_
  unfold b__law_like
  have ih' : ∀ x ∈ xs, ∀ X Q, Ef (r__law_like k) [(.fz, x), (.fz, x)] X Q ↔ Q .fz (.bl true) [none, none] := fun x hx X Q => ef_ok (ih x hx)
  refine ev_cut (fun S => S = [some (s0, d), some (s1, d), none]) ?_ ?_
  · rcases hd with rfl | rfl
    · simp [w0, w1]
    · simp [w0, w1]
  rintro _ rfl
  refine ev_cut (fun S => S = [some (s0, d), some (s1, d), none]) ?_ ?_
  · have e1 : isiF d (.ty "bool") = some (.fz, .bl false) := by rcases hd with rfl | rfl <;> rfl
    simp [w0, w1, e1]
  rintro _ rfl
  refine ev_cut (fun S => S = [some (s0, d), some (s1, d), none]) ?_ ?_
  · have e1 : isiF d (.ty "str") = some (.fz, .bl false) := by rcases hd with rfl | rfl <;> rfl
    simp [w0, w1, e1]
  rintro _ rfl
  refine ev_cut (fun S => S = [some (s0, d), some (s1, d), none]) ?_ ?_
  · have e1 : isiF d (.ty "int") = some (.fz, .bl false) := by rcases hd with rfl | rfl <;> rfl
    simp [w0, w1, e1]
  rintro _ rfl
  refine ev_cut (fun S => S = [some (s0, d), some (s1, d), none]) ?_ ?_
  · obtain ⟨b, e1⟩ : ∃ b, isiF d (.ty "list") = some (.fz, .bl b) := by rcases hd with rfl | rfl <;> exact ⟨_, rfl⟩
    obtain ⟨b', e2⟩ : ∃ b, isiF d (.ty "tuple") = some (.fz, .bl b) := by rcases hd with rfl | rfl <;> exact ⟨_, rfl⟩
    simp [w0, w1, e1, e2]
  rintro _ rfl
  have el : lenF d = some (.fz, .int xs.length) := by rcases hd with rfl | rfl <;> rfl
  refine ev_cut (fun S => S = [some (s0, d), some (s1, d), none]) ?_ ?_
  · simp [w0, w1, el]
  rintro _ rfl
  rw [ev_seq, ev_ret, e_fun, e_args1]
  refine ev_lc (fun _ => true) (fun _ => .bl true) ?_
  have hx : ∀ j (h : j < xs.length), idxF d (.int j) = some (.fz, xs[j]) := fun j h => by
    have : L2.atI xs (j : Int) = some xs[j] := by rw [atI_cast]; exact List.getElem?_eq_getElem h
    rcases hd with rfl | rfl
    · rw [idx_tup, this]; rfl
    · rw [idx_lst, this]; rfl
  simp [w0, w1, el]
  refine ⟨by omega, sizeLine_le (by omega), fun x hx' => ?_, ?_⟩
  · obtain ⟨j, hj, rfl⟩ := mem_range.mp hx'
    simp [w0, w1, hx j hj, ih' _ (List.getElem_mem hj)]
  · rw [all_true]
    exact ⟨rfl, rfl⟩)
end
theorem like_refl : ∀ (k : Nat) (d : D), lk k d = true → ∀ s0 s1 : Sh, s0.flat = true → s1.flat = true → r__law_like k [(s0, d), (s1, d)] = some (.ok (.fz, .bl true), [none, none])
  | 0, d, h, _, _, _, _ => by simp [lk] at h
  | k + 1, .tup xs, h, s0, s1, w0, w1 => by
    simp only [lk, Bool.and_eq_true, decide_eq_true_eq] at h
    exact like_seq (.inl rfl) h.2 (fun x hx => like_refl k x (lks_iff.mp h.1 x hx) _ _ rfl rfl) w0 w1
  | k + 1, .lst xs, h, s0, s1, w0, w1 => by
    simp only [lk, Bool.and_eq_true, decide_eq_true_eq] at h
    exact like_seq (.inr rfl) h.2 (fun x hx => like_refl k x (lks_iff.mp h.1 x hx) _ _ rfl rfl) w0 w1
  | k + 1, .non, h, s0, s1, w0, w1 => of_ef (by
    unfold r__law_like
    refine Ef.fn rfl (by decide) ?_
    unfold b__law_like
    simp [w0, w1])
  | k + 1, .int i, h, s0, s1, w0, w1 => of_ef (by
    unfold r__law_like
    refine Ef.fn rfl (by decide) ?_
    unfold b__law_like
    have e1 : isiF (.int i) (.ty "bool") = some (.fz, .bl false) := rfl
    have e2 : isiF (.int i) (.ty "str") = some (.fz, .bl false) := rfl
    have e3 : isiF (.int i) (.ty "int") = some (.fz, .bl true) := rfl
    simp [w0, w1, e1, e2, e3])
  | k + 1, .bl i, h, s0, s1, w0, w1 => of_ef (by
    unfold r__law_like
    refine Ef.fn rfl (by decide) ?_
    unfold b__law_like
    have e1 : isiF (.bl i) (.ty "bool") = some (.fz, .bl true) := rfl
    simp [w0, w1, e1])
  | k + 1, .str x, h, s0, s1, w0, w1 => of_ef (by
    unfold r__law_like
    refine Ef.fn rfl (by decide) ?_
    unfold b__law_like
    simp only [lk] at h
    have e1 : isiF (.str x) (.ty "bool") = some (.fz, .bl false) := rfl
    have e2 : isiF (.str x) (.ty "str") = some (.fz, .bl true) := rfl
    simp [w0, w1, e1, e2, eqF_str h h])
  | k + 1, .dct _, h, _, _, _, _ => by simp [lk] at h
  | k + 1, .set _, h, _, _, _, _ => by simp [lk] at h
  | k + 1, .ins _ _, h, _, _, _, _ => by simp [lk] at h
  | k + 1, .ty _, h, _, _, _, _ => by simp [lk] at h
  | k + 1, .cls _, h, _, _, _, _ => by simp [lk] at h
theorem lk_ints {n : Nat} {l : List Int} (hl : l.length ≤ 1000000) : lk (n + 2) (.tup (l.map D.int)) = true := by
  simp only [lk, Bool.and_eq_true, decide_eq_true_eq, List.length_map]
  refine ⟨lks_iff.mpr fun x hx => ?_, hl⟩
  obtain ⟨i, _, rfl⟩ := List.mem_map.mp hx
  rfl
/-- alike: numbers in a tuple -/
theorem like_ints {l : List Int} (hl : l.length ≤ 1000000) (X : XP) (Q : Sh → D → List Dt.Slot → Prop) : Ef f__law_like [(.fz, .tup (l.map D.int)), (.fz, .tup (l.map D.int))] X Q ↔ Q .fz (.bl true) [none, none] := ef_ok (like_refl 8 _ (lk_ints hl) _ _ rfl rfl)
theorem like_bl {b : Bool} (X : XP) (Q : Sh → D → List Dt.Slot → Prop) : Ef f__law_like [(.fz, .bl b), (.fz, .bl b)] X Q ↔ Q .fz (.bl true) [none, none] := ef_ok (like_refl 8 _ rfl _ _ rfl rfl)
end
end K78

namespace K78
noncomputable section
open Dt PySem
/-- some of the words, in order -/
theorem run_few (d : Int) (words : List (List Nat)) (hl : words.length ≤ 6) (sh : Sh) (w1 : sh.flat = true) : ∃ ws : List (List Nat), (∀ w ∈ ws, w ∈ words) ∧ ws.length ≤ words.length ∧ f__law_few [(.fz, .int d), (sh, .lst (words.map D.str))] = some (.ok (.fz, .tup (ws.map D.str)), [none, none]) := by
  have h : Ef f__law_few [(.fz, .int d), (sh, .lst (words.map D.str))] noX fun sh' d' xs => ∃ ws : List (List Nat), (∀ w ∈ ws, w ∈ words) ∧ ws.length ≤ words.length ∧ sh' = .fz ∧ d' = .tup (ws.map D.str) ∧ xs = [none, none] := by
    refine Ef.fn rfl (by decide) ?_
    unfold b__law_few
    simp
    refine ev_lcE (fun x => ∃ w, w ∈ words ∧ x = .str w) ?_
    simp [w1]
    refine ⟨by omega, sizeLine_le (by omega), ?_, ?_⟩
    · intro x hx
      obtain ⟨k, hk, rfl⟩ := mem_range.mp hx
      rw [Int.zero_add]
      obtain ⟨c, hc, ec⟩ : ∃ c : Int, (0 < c ∧ c < 1073741824) ∧ [D.int 1, D.int 2, D.int 4, D.int 8, D.int 16, D.int 32][k]? = some (.int c) := by
        have : k < 6 := by omega
        rcases k with _ | _ | _ | _ | _ | _ | k
        all_goals first
          | exact ⟨_, by decide, rfl⟩
          | omega
      simp [ec, hc, w1, hk]
    · intro xs hxs hxl
      obtain ⟨ws, rfl, hw⟩ := all_str hxs
      have hs := sorted_str (xs := ws.map D.str) (fun x hx => by
        obtain ⟨w, _, rfl⟩ := List.mem_map.mp hx
        exact ⟨w, rfl⟩) (sizeLine_le (by simpa using Nat.le_trans hxl (by omega)))
      obtain ⟨vs, ev, hv⟩ := all_str (xs := sortD (ws.map D.str)) (P := fun w => w ∈ words) fun x hx => by
        obtain ⟨w, h1, rfl⟩ := List.mem_map.mp (mem_sort.mp hx)
        exact ⟨w, hw w h1, rfl⟩
      have hlen := len_sort (xs := ws.map D.str)
      rw [ev] at hlen hs
      simp at hlen hxl
      simp [hs]
      exact ⟨vs, hv, by omega, rfl⟩
  obtain ⟨_, _, xs, e, ws, h1, h2, rfl, rfl, rfl⟩ := h.ok
  exact ⟨ws, h1, h2, e⟩
end
end K78

namespace K78
noncomputable section
open Dt PySem
def tick : List Nat := S "tick"
theorem tick_ok : okS tick = true := by decide +kernel
/-- the events of edges, each once, in order -/
def evsA (es : List Ed) : List (List Nat) := (es.filter fun e => !decide (e.2.1 = tau ∨ e.2.1 = tick)).map fun e => e.2.1
def evsD (es : List Ed) : List D := sortD (dedD ((evsA es).map D.str))
theorem mem_evsA {es : List Ed} {a : List Nat} : a ∈ evsA es ↔ (∃ e ∈ es, e.2.1 = a) ∧ a ≠ tau ∧ a ≠ tick := by
  unfold evsA
  simp only [List.mem_map, List.mem_filter, Bool.not_eq_true', decide_eq_false_iff_not, not_or]
  constructor
  · rintro ⟨e, ⟨he, h1, h2⟩, rfl⟩
    exact ⟨⟨e, he, rfl⟩, h1, h2⟩
  · rintro ⟨⟨e, he, rfl⟩, h1, h2⟩
    exact ⟨e, ⟨he, h1, h2⟩, rfl⟩
theorem evs_strs {n : Int} {es : List Ed} (hf : ∀ e ∈ es, EdOk n e) : ∀ x ∈ (evsA es).map D.str, ∃ w, w ∈ acts ∧ x = .str w := fun x hx => by
  obtain ⟨a, ha, rfl⟩ := List.mem_map.mp hx
  obtain ⟨⟨e, he, rfl⟩, _⟩ := mem_evsA.mp ha
  exact ⟨_, (hf e he).2.2.1, rfl⟩
theorem evs_len {es : List Ed} : (evsA es).length ≤ es.length := by
  unfold evsA
  rw [List.length_map]
  exact List.length_filter_le _ _
theorem evs_is {n : Int} {es : List Ed} (hf : ∀ e ∈ es, EdOk n e) : ∃ ws : List (List Nat), (∀ w, w ∈ ws ↔ w ∈ evsA es) ∧ ws.length ≤ es.length ∧ evsD es = ws.map D.str := by
  obtain ⟨ws, e, hw⟩ := all_str (xs := evsD es) (P := fun w => w ∈ acts) fun x hx => evs_strs hf x (mem_ded.mp (mem_sort.mp hx))
  refine ⟨ws, fun w => ?_, ?_, e⟩
  · rw [← mem_mapI inj_str, ← e]
    unfold evsD
    rw [mem_sort, mem_ded, mem_mapI inj_str]
  · have h1 := len_ded (ds := (evsA es).map D.str)
    have h2 := evs_len (es := es)
    have h3 := len_sort (xs := dedD ((evsA es).map D.str))
    have h4 := congrArg List.length e
    unfold evsD at h4
    simp at h1 h4
    omega
def pEv : D → Bool
  | .tup [_, .str x, _] => !decide (x = tau ∨ x = tick)
  | _ => false
def gEv : D → D
  | .tup [_, x, _] => x
  | _ => .non
theorem evs_row (es : List Ed) : ((es.map edD).filter pEv).map gEv = (evsA es).map D.str := by
  unfold evsA
  induction es with
  | nil => rfl
  | cons e es ih =>
    by_cases h2 : e.2.1 = tau ∨ e.2.1 = tick
    · simp only [List.map_cons, List.filter_cons]
      rw [if_neg (by simp [edD, pEv, h2]), if_neg (by simp [h2])]
      exact ih
    · simp only [List.map_cons, List.filter_cons]
      rw [if_pos (by simp [edD, pEv, h2]), if_pos (by simp [h2])]
      simp only [List.map_cons, ih]
      rfl
theorem run_events (n : Nat) (fs : List Ed) (hf : ∀ e ∈ fs, EdOk n e) (hl : fs.length ≤ 70) : f_System_events [(.fz, sysD n fs)] = some (.ok (.fz, .tup (evsD fs)), [none]) := of_ef (by
  refine Ef.fn rfl (by decide) ?_
  unfold b_System_events
  have hld := len_ded (ds := (evsA fs).map D.str)
  have hol := evs_len (es := fs)
  simp at hld
  have hk : ∀ d ∈ dedD ((evsA fs).map D.str), kd 8 d = true := fun d hd => by
    obtain ⟨w, hw, rfl⟩ := evs_strs hf d (mem_ded.mp hd)
    simpa [kd] using acts_ok hw
  have s1 : setOk (dedD ((evsA fs).map D.str)) = true := setOk_of (tup := false) (fun d hd => by
    obtain ⟨w, hw, rfl⟩ := evs_strs hf d (mem_ded.mp hd)
    rfl) hk (by omega)
  have s3 : sortOk (dedD ((evsA fs).map D.str)) = true := sortOk_str (fun x hx => by
    obtain ⟨w, _, e⟩ := evs_strs hf x (mem_ded.mp hx)
    exact ⟨w, e⟩) (sizeLine_le (by omega))
  have s4 : kds 8 (dedD ((evsA fs).map D.str)) = true := kds_iff.mpr hk
  have ht := evs_row fs
  simp
  refine ev_sc pEv gEv ?_
  simp [sysD]
  refine ⟨_, rfl, ?_⟩
  simp
  simp only [ht]
  refine ⟨?_, s1, by omega, ?_⟩
  · rintro d x y z he rfl
    obtain ⟨a0, a1, a2, a3, a4⟩ := hf _ he
    have hp : pls 4 [D.str tau, D.str tick] = true := by decide +kernel
    have hn : notInF (D.str y) (D.tup [D.str (S "tau"), D.str (S "tick")]) = some (.fz, .bl (!decide (y = tau ∨ y = S "tick"))) := by
      rw [notIn_tup (n := 4) (m := 4) (x := D.str y) (ys := [D.str (S "tau"), D.str (S "tick")]) (by simpa [pl] using acts_ok a2) hp (by decide) (by decide)]
      simp
    refine ⟨_, rfl, ?_⟩
    simp [edD, pEv, gEv, hn, tick]
    by_cases h1 : y = tau <;> by_cases h2 : y = S "tick" <;> simp [h1, h2]
  · simp [s3, s4, nodup_ded, evsD])
end
end K78

namespace K78
noncomputable section
open Dt PySem
/-- a system made of drawn parts -/
theorem run_made (n : Nat) (hn : 1 ≤ n) (hn2 : n ≤ 1000) (es : List Ed) (h : ∀ e ∈ es, EdOk n e) (hl : es.length ≤ 75) : ∃ fs : List Ed, sortD (dedD (es.map edD)) = fs.map edD ∧ fs.Nodup ∧ (∀ e, e ∈ fs ↔ e ∈ es) ∧ fs.length ≤ es.length ∧ f__law_made [(.fz, .tup [.int n, .lst (es.map edD)])] = some (.ok (.ins [.fz, .fz, .lst (.lst .fz)], sysD n fs), [none]) := by
  obtain ⟨fs, e1, fnd, fm, ffl⟩ := sort_ed es
  refine ⟨fs, e1, fnd, fm, ffl, of_ef ?_⟩
  have hinit := run_init n hn hn2 es h hl fs e1 fm ffl (.lst .fz) rfl rfl
  have hI : ∀ X Q, Efm f_System___init__ [(.ins [], .ins 3 []), (.fz, .int n), (.lst .fz, .lst (es.map edD))] X Q ↔ Q (.ins [.fz, .fz, .lst (.lst .fz)]) (sysD n fs) [none, none] := fun X Q => efm_ok hinit
  refine Ef.fn rfl (by decide) ?_
  unfold b__law_made
  have hz : es.length ≤ sizeLine := sizeLine_le (by omega)
  simp [hI, hz]
end
end K78

namespace K78
noncomputable section
open Dt PySem
theorem pys_strs : ∀ ws : List (List Nat), D.pys (ws.map D.str) = some (ws.map fun w => PyData.str ⟨w.toArray⟩)
  | [] => rfl
  | w :: ws => by simp [D.pys, D.py, pys_strs ws]
theorem alike_strs : ∀ ws us : List (List Nat), PySem.W.alikeAll (ws.map fun w => PyData.str ⟨w.toArray⟩) (us.map fun w => PyData.str ⟨w.toArray⟩) = true
  | [], us => by simp [PySem.W.alikeAll]
  | w :: ws, [] => by simp [PySem.W.alikeAll]
  | w :: ws, u :: us => by simp [PySem.W.alikeAll, PySem.W.alike, alike_strs ws us]
theorem depth_strs : ∀ ws : List (List Nat), PyData.depthAll (ws.map fun w => PyData.str ⟨w.toArray⟩) = 0
  | [] => rfl
  | w :: ws => by simp [PyData.depthAll, PyData.depth, depth_strs ws]
/-- sorting does not ask for the order -/
theorem sortD_perm {xs ys : List D} {n : Nat} (p : xs.Perm ys) (hp : ∀ x ∈ xs, pl n x = true) (hk : sortOk xs = true) : sortD xs = sortD ys := by
  unfold sortD
  have tra : ∀ a b c : D, leD a b = true → leD b c = true → leD a c = true := fun x y z =>
    (PySem.W.sortLe_total (PyProof.Rows.listOrd PyProof.Rows.itemOrd) false (fun b : D => PySem.W.keyToks (pyD b))).trans x y z
  have tot : ∀ a b : D, (leD a b || leD b a) = true := fun x y => by
    have := (PySem.W.sortLe_total (PyProof.Rows.listOrd PyProof.Rows.itemOrd) false (fun b : D => PySem.W.keyToks (pyD b))).total x y
    simpa [leD, PySem.W.dataLe] using this
  refine List.Perm.eq_of_pairwise (le := fun x y => leD x y = true) (fun x y hx hy h1 h2 => ?_) (List.pairwise_mergeSort tra tot _) (List.pairwise_mergeSort tra tot _) ?_
  · have hx' : x ∈ xs := (List.mergeSort_perm _ _).mem_iff.mp hx
    have hy' : y ∈ xs := p.mem_iff.mpr ((List.mergeSort_perm _ _).mem_iff.mp hy)
    exact leD_anti (hp x hx') (hp y hy') (sortOk_alike hk _ hx' _ hy') h1 h2
  · exact (List.mergeSort_perm _ _).trans (p.trans (List.mergeSort_perm _ _).symm)
/-- the same things in two lists, each once, in order -/
theorem sort_same {es fs : List Ed} (he : ∀ e, e ∈ es ↔ e ∈ fs) (h : ∀ e ∈ es, e.2.1 ∈ acts) (hl : es.length ≤ 1000) : sortD (dedD (es.map edD)) = sortD (dedD (fs.map edD)) := by
  obtain ⟨bs, e1, n1, m1, l1⟩ := ded_map inj_ed es
  refine sortD_perm (n := 2) ?_ (fun x hx => ?_) ?_
  · rw [List.perm_ext_iff_of_nodup nodup_ded nodup_ded]
    intro x
    rw [mem_ded, mem_ded]
    constructor
    · intro hx
      obtain ⟨e, h1, rfl⟩ := List.mem_map.mp hx
      exact List.mem_map.mpr ⟨e, (he e).mp h1, rfl⟩
    · intro hx
      obtain ⟨e, h1, rfl⟩ := List.mem_map.mp hx
      exact List.mem_map.mpr ⟨e, (he e).mpr h1, rfl⟩
  · obtain ⟨e, h1, rfl⟩ := List.mem_map.mp (mem_ded.mp hx)
    simpa [edD, pl, pls] using acts_ok (h e h1)
  · rw [e1]
    exact sortOk_ed _ (by omega)
end
end K78

namespace K78
noncomputable section
open Dt PySem
def strsD (ws : List (List Nat)) : D := .tup (ws.map D.str)
open Classical in
theorem in_strs {w : List Nat} {ws : List (List Nat)} (h : okS w = true) (hs : ∀ w ∈ ws, okS w = true) : inF (.str w) (strsD ws) = some (.fz, .bl (decide (w ∈ ws))) := by
  have hp : pls 3 (ws.map D.str) = true := pls_of fun x hx => by
    obtain ⟨v, hv, rfl⟩ := List.mem_map.mp hx
    simpa [pl] using hs v hv
  unfold strsD
  rw [inF_tup (n := 2) (m := 3) (by simpa [pl] using h) hp (by decide) (by decide)]
  congr 3
  exact decide_eq_decide.mpr (mem_mapI inj_str)
open Classical in
theorem notIn_strs {w : List Nat} {ws : List (List Nat)} (h : okS w = true) (hs : ∀ w ∈ ws, okS w = true) : notInF (.str w) (strsD ws) = some (.fz, .bl (!decide (w ∈ ws))) := by
  have hp : pls 3 (ws.map D.str) = true := pls_of fun x hx => by
    obtain ⟨v, hv, rfl⟩ := List.mem_map.mp hx
    simpa [pl] using hs v hv
  unfold strsD
  rw [notIn_tup (n := 2) (m := 3) (by simpa [pl] using h) hp (by decide) (by decide)]
  congr 4
  exact decide_eq_decide.mpr (mem_mapI inj_str)
end
end K78

namespace K78
noncomputable section
open Dt PySem
abbrev pass : List Nat := S "pass"
theorem pass_ok : okS pass = true := by decide +kernel
def behD (kd : List Nat) (tr : List (List Nat)) (offs : List (List (List Nat))) : D := .tup ([.str kd, strsD tr] ++ offs.map strsD)
open Classical in
/-- the way to the check, and behind it -/
theorem test_head (n : Nat) (fs : List Ed) (hf : ∀ e ∈ fs, EdOk n e) (hl : fs.length ≤ 70) (kd : List Nat) (tr : List (List Nat)) (ht : ∀ a ∈ tr, okS a = true) (offs : List (List (List Nat))) (ho : ∀ o ∈ offs, ∀ a ∈ o, okS a = true) (hol : offs.length ≤ 100) {m : MS} {K : Kn}
    (h : if (pass ∈ evsA fs ∨ pass ∈ tr ∨ ∃ o ∈ offs, pass ∈ o) then K.ex ⟨1, none⟩ [some (.fz, sysD n fs), some (.fz, behD kd tr offs), some (.fz, strsD tr), some (.fz, .tup (evsD fs)), none, none, none, none, none]
      else Es m [some (.fz, sysD n fs), some (.fz, behD kd tr offs), some (.fz, strsD tr), some (.fz, .tup (evsD fs)), none, none, none, none, none] K) :
    Es (sSeq (sSet noB 2 (mOp2 idxF true (mRef 1) true (mCon (.int 1))))
(sSeq (sSet noB 3 (mCall f_System_events (mArgs [(true, (mInst 3 37 (mFrz 0)))])))
(sSeq (sIf (bOr (mBool (mOp2 inF true (mCon (.str (S "pass"))) true (mRef 3))) (bOr (mBool (mOp2 inF true (mCon (.str (S "pass"))) true (mRef 2))) (mBool (mGen [4] (.nm 4) true (iSeq (mOp2 sl1F true (mRef 1) true (mCon (.int 2)))) (mOp2 inF true (mCon (.str (S "pass"))) true (mRef 4))))))
(sSeq (sRaise ⟨1, none⟩)
sPass)
sPass) m))) [some (.fz, sysD n fs), some (.fz, behD kd tr offs), none, none, none, none, none, none, none] K := by
  have hE : ∀ X Q, Ef f_System_events [(.fz, sysD n fs)] X Q ↔ Q .fz (.tup (evsD fs)) [none] := fun X Q => ef_ok (run_events n fs hf hl)
  have hi : Ini 3 37 .fz (sysD n fs) := ⟨rfl, rfl, rfl⟩
  obtain ⟨ws, hw, hwl, ew⟩ := evs_is hf
  have hevs : ∀ a ∈ ws, okS a = true := fun a ha => by
    obtain ⟨⟨e, he, rfl⟩, _⟩ := mem_evsA.mp ((hw a).mp ha)
    exact acts_ok (hf e he).2.2.1
  have i1 : inF (.str (S "pass")) (.tup (evsD fs)) = some (.fz, .bl (decide (pass ∈ evsA fs))) := by
    rw [ew]
    have := in_strs pass_ok hevs
    unfold strsD at this
    rw [this]
    simp only [hw]
  have i2 := in_strs pass_ok ht
  refine ev_cut (fun S => S = [some (.fz, sysD n fs), some (.fz, behD kd tr offs), some (.fz, strsD tr), none, none, none, none, none, none]) ?_ ?_
  · simp [behD]
  rintro _ rfl
  refine ev_cut (fun S => S = [some (.fz, sysD n fs), some (.fz, behD kd tr offs), some (.fz, strsD tr), some (.fz, .tup (evsD fs)), none, none, none, none, none]) ?_ ?_
  · simp [hE, hi]
  rintro _ rfl
  have hs : sl1F (behD kd tr offs) (.int 2) = some (.fz, .tup (offs.map strsD)) := by
    unfold behD
    rw [sl1_int, sli_tup, show (2 : Int) = ((2 : Nat) : Int) from rfl, cut_from]
    rfl
  have hg : ∀ (X : XP) (Q : Rv → List Dt.Slot → Prop), Q (.tmp .fz (.bl (decide (∃ o ∈ offs, pass ∈ o)))) [some (.fz, sysD n fs), some (.fz, behD kd tr offs), some (.fz, strsD tr), some (.fz, .tup (evsD fs)), none, none, none, none, none] → Ev (mGen [4] (.nm 4) true (iSeq (mOp2 sl1F true (mRef 1) true (mCon (.int 2)))) (mOp2 inF true (mCon (.str (S "pass"))) true (mRef 4))) [some (.fz, sysD n fs), some (.fz, behD kd tr offs), some (.fz, strsD tr), some (.fz, .tup (evsD fs)), none, none, none, none, none] X Q := fun X Q q => by
    refine ev_gen (fun d => match inF (.str (S "pass")) d with | some (_, .bl b) => b | _ => false) ?_
    have hx : (offs.map strsD).any (fun d => match inF (.str (S "pass")) d with | some (_, .bl b) => b | _ => false) = decide (∃ o ∈ offs, pass ∈ o) := by
      rw [Bool.eq_iff_iff, List.any_eq_true, decide_eq_true_iff]
      constructor
      · rintro ⟨x, hx, hb⟩
        obtain ⟨o, h1, rfl⟩ := List.mem_map.mp hx
        rw [in_strs pass_ok (ho o h1)] at hb
        exact ⟨o, h1, by simpa using hb⟩
      · rintro ⟨o, h1, h2⟩
        exact ⟨_, List.mem_map.mpr ⟨o, h1, rfl⟩, by rw [in_strs pass_ok (ho o h1)]; simpa using h2⟩
    rw [← hx] at q
    generalize hbd : behD kd tr offs = bd at *
    generalize strsD tr = td at *
    simp [hs]
    refine ⟨fun o h1 => ?_, by simpa [List.any_map] using q⟩
    have hin := in_strs pass_ok (ho o h1)
    simp [hin]
  by_cases c1 : pass ∈ evsA fs
  · rw [if_pos (.inl c1)] at h
    simp [i1, c1, h]
  by_cases c2 : pass ∈ tr
  · rw [if_pos (.inr (.inl c2))] at h
    simp [i1, i2, c1, c2, h]
  by_cases c3 : ∃ o ∈ offs, pass ∈ o
  · rw [if_pos (.inr (.inr c3))] at h
    rw [ev_seq, ev_if]
    simp [i1, i2, c1, c2]
    refine hg _ _ ?_
    simp [c3, h]
  · rw [if_neg (by simp only [not_or]; exact ⟨c1, c2, c3⟩)] at h
    rw [ev_seq, ev_if]
    simp [i1, i2, c1, c2]
    refine hg _ _ ?_
    simp [c3, h]
end
end K78

namespace K78
noncomputable section
open Dt PySem
open Classical
def tstA (tr : List (List Nat)) (m : Nat) (k : Nat) : List Ed := (List.range k).flatMap fun (i : Nat) => [((i : Int), tr.getD i [], (i : Int) + 1), ((i : Int), tau, (m : Int) + 1)]
theorem tstA_succ (tr : List (List Nat)) (m k : Nat) : tstA tr m (k + 1) = tstA tr m k ++ [((k : Int), tr.getD k [], (k : Int) + 1), ((k : Int), tau, (m : Int) + 1)] := by
  unfold tstA
  rw [List.range_succ, List.flatMap_append]
  simp
def failE (m : Nat) (evs off : List (List Nat)) : List Ed := (evs.filter fun a => !decide (a ∈ off)).map fun a => ((m : Int), a, (m : Int) + 1)
/-- the edges of a test -/
def fullE (tr : List (List Nat)) (kd : List Nat) (evs off : List (List Nat)) : List Ed :=
  ((((tr.length : Int) + 1, pass, (tr.length : Int) + 1) :: tstA tr tr.length tr.length) ++ (if kd = S "divergence" then [((tr.length : Int), tau, (tr.length : Int) + 1)] else [])) ++ (if kd = S "failure" then failE tr.length evs off else [])
theorem tstA_len (tr : List (List Nat)) (m k : Nat) : (tstA tr m k).length = 2 * k := by
  induction k with
  | zero => rfl
  | succ k ih => rw [tstA_succ, List.length_append, ih]; simp; omega
theorem mem_tstA {tr : List (List Nat)} {m k : Nat} {e : Ed} (h : e ∈ tstA tr m k) : ∃ i : Nat, i < k ∧ (e = ((i : Int), tr.getD i [], (i : Int) + 1) ∨ e = ((i : Int), tau, (m : Int) + 1)) := by
  unfold tstA at h
  rw [List.mem_flatMap] at h
  obtain ⟨i, hi, h⟩ := h
  simp at h
  exact ⟨i, List.mem_range.mp hi, h⟩
theorem fullE_len (tr : List (List Nat)) (kd : List Nat) (evs off : List (List Nat)) : (fullE tr kd evs off).length ≤ 2 + 2 * tr.length + evs.length := by
  unfold fullE failE
  have := List.length_filter_le (fun a => !decide (a ∈ off)) evs
  rw [List.length_append, List.length_append, List.length_cons, tstA_len]
  split <;> split <;> simp <;> omega
theorem fullE_ok (tr : List (List Nat)) (htr : ∀ a ∈ tr, a ∈ acts) (kd : List Nat) (evs off : List (List Nat)) (he : ∀ a ∈ evs, a ∈ acts) : ∀ e ∈ fullE tr kd evs off, EdOk ((tr.length + 2 : Nat) : Int) e := by
  intro e h
  have hp : pass ∈ acts := by simp [acts]
  have ht : tau ∈ acts := by simp [acts, acts5]
  unfold fullE at h
  rcases List.mem_append.mp h with h | h
  · rcases List.mem_append.mp h with h | h
    · rcases List.mem_cons.mp h with rfl | h
      · exact ⟨by simp; omega, by simp, hp, by simp; omega, by simp⟩
      · obtain ⟨i, hi, rfl | rfl⟩ := mem_tstA h
        · refine ⟨by simp, by simp; omega, htr _ ?_, by simp; omega, by simp; omega⟩
          simp [List.getD, hi]
        · exact ⟨by simp, by simp; omega, ht, by simp; omega, by simp⟩
    · split at h
      · simp at h
        subst h
        exact ⟨by simp, by simp; omega, ht, by simp; omega, by simp⟩
      · cases h
  · split at h
    · unfold failE at h
      obtain ⟨a, ha, rfl⟩ := List.mem_map.mp h
      exact ⟨by simp, by simp; omega, he a (List.mem_filter.mp ha).1, by simp; omega, by simp⟩
    · cases h
theorem kinds_ok {kd : List Nat} (h : kd ∈ [S "trace", S "divergence", S "failure"]) : okS kd = true := by
  have : ∀ k ∈ [S "trace", S "divergence", S "failure"], okS k = true := by decide +kernel
  exact this kd h
theorem run_test_err (n : Nat) (fs : List Ed) (hf : ∀ e ∈ fs, EdOk n e) (hl : fs.length ≤ 70) (kd : List Nat) (tr : List (List Nat)) (ht : ∀ a ∈ tr, okS a = true) (offs : List (List (List Nat))) (ho : ∀ o ∈ offs, ∀ a ∈ o, okS a = true) (hol : offs.length ≤ 100)
    (h : pass ∈ evsA fs ∨ pass ∈ tr ∨ ∃ o ∈ offs, pass ∈ o) : f_test_of [(.fz, sysD n fs), (.fz, behD kd tr offs)] = some (.error ⟨1, none⟩, [none, none]) := of_efx (by
  refine Ef.fn rfl (by decide) ?_
  unfold b_test_of
  refine test_head n fs hf hl kd tr ht offs ho hol ?_
  rw [if_pos h]
  simp)
theorem run_refused (n : Nat) (fs : List Ed) (hf : ∀ e ∈ fs, EdOk n e) (hl : fs.length ≤ 70) (kd : List Nat) (tr : List (List Nat)) (ht : ∀ a ∈ tr, okS a = true) (offs : List (List (List Nat))) (ho : ∀ o ∈ offs, ∀ a ∈ o, okS a = true) (hol : offs.length ≤ 100)
    (h : pass ∈ evsA fs ∨ pass ∈ tr ∨ ∃ o ∈ offs, pass ∈ o) (s0 : Sh) (w0 : s0.whole = true) : f__law_refused [(s0, sysD n fs), (.fz, behD kd tr offs)] = some (.ok (.fz, .bl true), [none, none]) := of_ef (by
  have hT : ∀ X Q, Ef f_test_of [(.fz, sysD n fs), (.fz, behD kd tr offs)] X Q ↔ X ⟨1, none⟩ [none, none] := fun X Q => ef_err (run_test_err n fs hf hl kd tr ht offs ho hol h)
  refine Ef.fn rfl (by decide) ?_
  unfold b__law_refused
  simp [hT, w0, xmL, XML])
end
end K78

namespace K78
noncomputable section
open Dt PySem
open Classical
theorem run_test_ok (n : Nat) (fs : List Ed) (hf : ∀ e ∈ fs, EdOk n e) (hl : fs.length ≤ 20) (h5 : Ed5 fs) (kd : List Nat) (hkd : kd ∈ [S "trace", S "divergence", S "failure"]) (tr : List (List Nat)) (ht : ∀ a ∈ tr, a ∈ acts ∧ a ≠ pass) (htl : tr.length ≤ 6) (off : List (List Nat)) (ho : ∀ a ∈ off, okS a = true ∧ a ≠ pass) (offs : List (List (List Nat))) (hoffs : offs = if kd = S "failure" then [off] else []) :
    ∃ (ws : List (List Nat)) (gs : List Ed), (∀ w, w ∈ ws ↔ w ∈ evsA fs) ∧ ws.length ≤ fs.length ∧ sortD (dedD ((fullE tr kd (ws ++ [tick]) off).map edD)) = gs.map edD ∧ gs.length ≤ 60 ∧ (∀ e ∈ gs, EdOk ((tr.length + 2 : Nat) : Int) e) ∧
      f_test_of [(.fz, sysD n fs), (.fz, behD kd tr offs)] = some (.ok (.ins [.fz, .fz, .lst (.lst .fz)], sysD (tr.length + 2) gs), [none, none]) := by
  obtain ⟨ws, hw, hwl, ew⟩ := evs_is hf
  have htr : ∀ a ∈ tr, okS a = true := fun a ha => acts_ok (ht a ha).1
  have hoo : ∀ a ∈ off, okS a = true := fun a ha => (ho a ha).1
  have hwa : ∀ a ∈ ws ++ [tick], a ∈ acts := fun a ha => by
    rcases List.mem_append.mp ha with ha | ha
    · obtain ⟨⟨e, he, rfl⟩, _⟩ := mem_evsA.mp ((hw a).mp ha)
      exact (hf e he).2.2.1
    · simp at ha
      subst ha
      simp [acts, acts5, tick]
  have hwo : ∀ a ∈ ws ++ [tick], okS a = true := fun a ha => acts_ok (hwa a ha)
  have hE : ∀ e ∈ fullE tr kd (ws ++ [tick]) off, EdOk ((tr.length + 2 : Nat) : Int) e := fullE_ok tr (fun a ha => (ht a ha).1) kd _ off hwa
  have hEl := fullE_len tr kd (ws ++ [tick]) off
  simp at hEl
  obtain ⟨gs, e1, gnd, gm, ggl⟩ := sort_ed (fullE tr kd (ws ++ [tick]) off)
  refine ⟨ws, gs, hw, hwl, e1, by omega, fun e he => hE e ((gm e).mp he), of_ef ?_⟩
  have hinit := run_init (tr.length + 2) (by omega) (by omega) _ hE (by omega) gs e1 gm ggl .fz rfl rfl
  have hI : ∀ X Q, Efm f_System___init__ [(.ins [], .ins 3 []), (.fz, .int ((tr.length + 2 : Nat) : Int)), (.fz, .lst ((fullE tr kd (ws ++ [tick]) off).map edD))] X Q ↔ Q (.ins [.fz, .fz, .lst (.lst .fz)]) (sysD (tr.length + 2) gs) [none, none] := fun X Q => efm_ok hinit
  refine Ef.fn rfl (by decide) ?_
  unfold b_test_of
  have hno : ¬ (pass ∈ evsA fs ∨ pass ∈ tr ∨ ∃ o ∈ offs, pass ∈ o) := by
    rintro (h | h | ⟨o, h1, h2⟩)
    · obtain ⟨⟨e, he, e2⟩, _⟩ := mem_evsA.mp h
      have := h5 e he
      rw [e2] at this
      revert this
      decide +kernel
    · exact (ht _ h).2 rfl
    · subst hoffs
      split at h1
      · simp at h1
        subst h1
        exact (ho _ h2).2 rfl
      · cases h1
  have hob : ∀ o ∈ offs, ∀ a ∈ o, okS a = true := fun o h1 a h2 => by
    subst hoffs
    split at h1
    · simp at h1
      subst h1
      exact hoo a h2
    · cases h1
  refine test_head n fs hf (by omega) kd tr htr offs hob (by subst hoffs; split <;> simp) ?_
  rw [if_neg hno]
  refine ev_cut (fun S => S = [some (.fz, sysD n fs), some (.fz, behD kd tr offs), some (.fz, strsD tr), some (.fz, .tup (evsD fs)), none, some (.fz, .int tr.length), none, none, none]) ?_ ?_
  · simp [strsD]
  rintro _ rfl
  refine ev_cut (fun S => S = [some (.fz, sysD n fs), some (.fz, behD kd tr offs), some (.fz, strsD tr), some (.fz, .tup (evsD fs)), none, some (.fz, .int tr.length), some (.lst .fz, .lst ([(((tr.length : Int) + 1, pass, (tr.length : Int) + 1) : Ed)].map edD)), none, none]) ?_ ?_
  · simp [edD]
  rintro _ rfl
  refine ev_cut (fun S => ∃ x7 : Dt.Slot, S = [some (.fz, sysD n fs), some (.fz, behD kd tr offs), some (.fz, strsD tr), some (.fz, .tup (evsD fs)), none, some (.fz, .int tr.length), some (.lst .fz, .lst (((((tr.length : Int) + 1, pass, (tr.length : Int) + 1) : Ed) :: tstA tr tr.length tr.length).map edD)), x7, none]) ?_ ?_
  · rw [ev_for]
    simp
    refine ⟨by omega, ev_forN (fun k S => ∃ x7 : Dt.Slot, S = [some (.fz, sysD n fs), some (.fz, behD kd tr offs), some (.fz, strsD tr), some (.fz, .tup (evsD fs)), none, some (.fz, .int tr.length), some (.lst .fz, .lst (((((tr.length : Int) + 1, pass, (tr.length : Int) + 1) : Ed) :: tstA tr tr.length k).map edD)), x7, none]) (k0 := 0) ⟨_, rfl⟩ ?_ ?_⟩
    · rintro k d S hd ⟨x7, rfl⟩
      simp at hd
      obtain ⟨hk, rfl⟩ := hd
      refine ⟨_, rfl, ?_⟩
      have hz : ((((tr.length : Int) + 1, pass, (tr.length : Int) + 1) : Ed) :: tstA tr tr.length k).length + 2 < sizeLine := by
        rw [List.length_cons, tstA_len]
        exact sizeLine_lt (by omega)
      simp only [Nat.zero_add, tstA_succ]
      generalize hL : (((tr.length : Int) + 1, pass, (tr.length : Int) + 1) : Ed) :: tstA tr tr.length k = L at *
      have hz1 : L.length < sizeLine := by omega
      have hz2 : L.length + 1 < sizeLine := by omega
      have e3 : (((tr.length : Int) + 1, pass, (tr.length : Int) + 1) : Ed) :: (tstA tr tr.length k ++ [((k : Int), tr.getD k [], (k : Int) + 1), ((k : Int), tau, (tr.length : Int) + 1)]) = L ++ [((k : Int), tr.getD k [], (k : Int) + 1), ((k : Int), tau, (tr.length : Int) + 1)] := by
        rw [← hL]
        rfl
      rw [e3]
      simp [strsD, hk, hz1, hz2, edD]
    · rintro S ⟨x7, rfl⟩
      exact ⟨x7, by simp⟩
  rintro _ ⟨x7, rfl⟩
  have hb0 : idxF (behD kd tr offs) (.int 0) = some (.fz, .str kd) := by simp [behD]
  have ed := eqF_str (kinds_ok hkd) (kinds_ok (kd := S "divergence") (by simp))
  have ef := eqF_str (kinds_ok hkd) (kinds_ok (kd := S "failure") (by simp))
  generalize hL : (((tr.length : Int) + 1, pass, (tr.length : Int) + 1) : Ed) :: tstA tr tr.length tr.length = L at *
  have hLl : L.length = 1 + 2 * tr.length := by rw [← hL, List.length_cons, tstA_len]; omega
  refine ev_cut (fun S => S = [some (.fz, sysD n fs), some (.fz, behD kd tr offs), some (.fz, strsD tr), some (.fz, .tup (evsD fs)), none, some (.fz, .int tr.length), some (.lst .fz, .lst ((L ++ (if kd = Dt.S "divergence" then [((tr.length : Int), tau, (tr.length : Int) + 1)] else [])).map edD)), x7, none]) ?_ ?_
  · have hz1 : L.length < sizeLine := sizeLine_lt (by omega)
    generalize hbd : behD kd tr offs = bd at *
    by_cases c : kd = S "divergence"
    · have ed' : eqF (.str kd) (.str (S "divergence")) = some (.fz, .bl true) := by rw [ed]; simp [c]
      rw [if_pos c]
      simp [hb0, ed', hz1, edD]
    · have ed' : eqF (.str kd) (.str (S "divergence")) = some (.fz, .bl false) := by rw [ed]; simp [c]
      rw [if_neg c]
      simp [hb0, ed']
  rintro _ rfl
  generalize hM : L ++ (if kd = S "divergence" then [((tr.length : Int), tau, (tr.length : Int) + 1)] else []) = M
  have hMl : M.length ≤ 2 + 2 * tr.length := by
    rw [← hM, List.length_append, hLl]
    split <;> simp <;> omega
  have hfull : fullE tr kd (ws ++ [tick]) off = M ++ (if kd = S "failure" then failE tr.length (ws ++ [tick]) off else []) := by
    unfold fullE
    rw [← hM, ← hL]
  refine ev_cut (fun S => ∃ x8 : Dt.Slot, S = [some (.fz, sysD n fs), some (.fz, behD kd tr offs), some (.fz, strsD tr), some (.fz, .tup (evsD fs)), none, some (.fz, .int tr.length), some (.lst .fz, .lst ((fullE tr kd (ws ++ [tick]) off).map edD)), x7, x8]) ?_ ?_
  · rw [hfull]
    by_cases c : kd = S "failure"
    · rw [if_pos c]
      rw [if_pos c] at hoffs
      subst hoffs
      have hb2 : idxF (behD kd tr [off]) (.int 2) = some (.fz, strsD off) := by simp [behD]
      have hev : addF (.tup (evsD fs)) (.tup [.str (S "tick")]) = some (.fz, .tup ((ws ++ [tick]).map D.str)) := by
        rw [ew]
        have : (ws.map D.str).length + [D.str (S "tick")].length ≤ sizeLine := sizeLine_le (by simp; omega)
        show (if (ws.map D.str).length + [D.str (S "tick")].length ≤ sizeLine then some (Sh.fz, D.tup (ws.map D.str ++ [D.str (S "tick")])) else none) = _
        rw [if_pos this]
        simp [tick]
      rw [ev_if]
      have hni : ∀ a ∈ ws ++ [tick], notInF (.str a) (strsD off) = some (.fz, .bl (!decide (a ∈ off))) := fun a ha => notIn_strs (hwo a ha) hoo
      have hvl : (ws ++ [tick]).length ≤ 30 := by simp; omega
      generalize hbd : behD kd tr [off] = bd at *
      generalize ws ++ [tick] = vs at *
      have ef' : eqF (.str kd) (.str (S "failure")) = some (.fz, .bl true) := by rw [ef]; simp [c]
      simp [hb0, ef', hev]
      refine ev_forN (fun k S => ∃ x8 : Dt.Slot, S = [some (.fz, sysD n fs), some (.fz, bd), some (.fz, strsD tr), some (.fz, .tup (evsD fs)), none, some (.fz, .int tr.length), some (.lst .fz, .lst ((M ++ failE tr.length (vs.take k) off).map edD)), x7, x8]) (k0 := 0) ⟨none, by simp [failE]⟩ ?_ ?_
      · rintro k d S hd ⟨x8, rfl⟩
        rw [List.getElem?_map] at hd
        obtain ⟨a, ha, rfl⟩ := Option.map_eq_some_iff.mp hd
        refine ⟨_, rfl, ?_⟩
        have hin := hni a (List.mem_of_getElem? ha)
        have hfl : (failE tr.length (vs.take k) off).length ≤ 30 := by
          unfold failE
          have := List.length_filter_le (fun a => !decide (a ∈ off)) (vs.take k)
          simp at this ⊢
          omega
        have hz : M.length + (failE tr.length (vs.take k) off).length < sizeLine := sizeLine_lt (by omega)
        have hstep : failE tr.length (vs.take (k + 1)) off = failE tr.length (vs.take k) off ++ (if a ∈ off then [] else [((tr.length : Int), a, (tr.length : Int) + 1)]) := by
          unfold failE
          rw [List.take_succ, ha]
          by_cases h : a ∈ off <;> simp [h]
        simp only [Nat.zero_add, hstep]
        generalize failE tr.length (vs.take k) off = FF at *
        by_cases h : a ∈ off
        · simp [hb2, hin, h]
        · simp [hb2, hin, h, hz, edD]
      · rintro S ⟨x8, rfl⟩
        refine ⟨x8, ?_⟩
        rw [List.take_of_length_le (by simp)]
        simp
    · rw [if_neg c]
      have ef' : eqF (.str kd) (.str (S "failure")) = some (.fz, .bl false) := by rw [ef]; simp [c]
      generalize hbd : behD kd tr offs = bd at *
      simp [hb0, ef']
  rintro _ ⟨x8, rfl⟩
  have hsz : (fullE tr kd (ws ++ [tick]) off).length ≤ sizeLine := sizeLine_le (by omega)
  generalize fullE tr kd (ws ++ [tick]) off = F at *
  simp at hI
  simp [hI]
end
end K78

namespace K78
noncomputable section
open Dt PySem
open Classical
def lawE (es : List Ed) : List (List Nat) := (es.filter fun e => !decide (e.2.1 = tau)).map (fun e => e.2.1) ++ [tick]
def pN : D → Bool
  | .tup [_, .str x, _] => !decide (x = tau)
  | _ => false
theorem lawE_row (es : List Ed) : ((es.map edD).filter pN).map gEv ++ [D.str (S "tick")] = (lawE es).map D.str := by
  unfold lawE
  rw [List.map_append]
  congr 1
  induction es with
  | nil => rfl
  | cons e es ih =>
    by_cases h2 : e.2.1 = tau
    · simp only [List.map_cons, List.filter_cons]
      rw [if_neg (by simp [edD, pN, h2]), if_neg (by simp [h2])]
      exact ih
    · simp only [List.map_cons, List.filter_cons]
      rw [if_pos (by simp [edD, pN, h2]), if_pos (by simp [h2])]
      simp only [List.map_cons, ih]
      rfl
theorem failE_row (m : Nat) (vs off : List (List Nat)) : ((vs.map D.str).filter fun d => match d with | .str a => !decide (a ∈ off) | _ => false).map (fun d => D.tup [.int m, d, .int ((m : Int) + 1)]) = (failE m vs off).map edD := by
  unfold failE
  induction vs with
  | nil => rfl
  | cons a vs ih =>
    by_cases h : a ∈ off
    · simp [h] at ih ⊢
      exact ih
    · simp [h, edD] at ih ⊢
      exact ih
theorem run_ltest (n : Nat) (es : List Ed) (hf : ∀ e ∈ es, EdOk n e) (hl : es.length ≤ 20) (kd : List Nat) (hkd : kd ∈ [S "trace", S "divergence", S "failure"]) (tr : List (List Nat)) (ht : ∀ a ∈ tr, a ∈ acts ∧ a ≠ pass) (htl : tr.length ≤ 6) (off : List (List Nat)) (ho : ∀ a ∈ off, okS a = true ∧ a ≠ pass) (offs : List (List (List Nat))) (hoffs : offs = if kd = S "failure" then [off] else []) :
    f__law_test_of [(.fz, .tup [.int n, .lst (es.map edD)]), (.fz, behD kd tr offs)] = some (.ok (.fz, .tup [.int ((tr.length + 2 : Nat) : Int), .lst (dedD ((fullE tr kd (lawE es) off).map edD))]), [none, none]) := of_ef (by
  have htr : ∀ a ∈ tr, okS a = true := fun a ha => acts_ok (ht a ha).1
  have hoo : ∀ a ∈ off, okS a = true := fun a ha => (ho a ha).1
  have hwa : ∀ a ∈ lawE es, a ∈ acts := fun a ha => by
    unfold lawE at ha
    rcases List.mem_append.mp ha with ha | ha
    · obtain ⟨e, he, rfl⟩ := List.mem_map.mp ha
      exact (hf e (List.mem_filter.mp he).1).2.2.1
    · simp at ha
      subst ha
      simp [acts, acts5, tick]
  have hE : ∀ e ∈ fullE tr kd (lawE es) off, EdOk ((tr.length + 2 : Nat) : Int) e := fullE_ok tr (fun a ha => (ht a ha).1) kd _ off hwa
  have hEl := fullE_len tr kd (lawE es) off
  have hvl : (lawE es).length ≤ 21 := by
    unfold lawE
    have := List.length_filter_le (fun e : Ed => !decide (e.2.1 = tau)) es
    simp at this ⊢
    omega
  refine Ef.fn rfl (by decide) ?_
  unfold b__law_test_of
  have hb0 : idxF (behD kd tr offs) (.int 0) = some (.fz, .str kd) := by simp [behD]
  have hb1 : idxF (behD kd tr offs) (.int 1) = some (.fz, strsD tr) := by simp [behD]
  have ed := eqF_str (kinds_ok hkd) (kinds_ok (kd := S "divergence") (by simp))
  have ef := eqF_str (kinds_ok hkd) (kinds_ok (kd := S "failure") (by simp))
  have hlen : lenF (strsD tr) = some (.fz, .int tr.length) := by simp [strsD]
  refine ev_cut (fun S => S = [some (.fz, .tup [.int n, .lst (es.map edD)]), some (.fz, behD kd tr offs), some (.fz, .int tr.length), none, none, none, none, none]) ?_ ?_
  · generalize hbd : behD kd tr offs = bd at *
    simp [hb1, hlen]
  rintro _ rfl
  refine ev_cut (fun S => S = [some (.fz, .tup [.int n, .lst (es.map edD)]), some (.fz, behD kd tr offs), some (.fz, .int tr.length), some (.lst .fz, .lst ([(((tr.length : Int) + 1, pass, (tr.length : Int) + 1) : Ed)].map edD)), none, none, none, none]) ?_ ?_
  · simp [edD]
  rintro _ rfl
  refine ev_cut (fun S => ∃ x4 : Dt.Slot, S = [some (.fz, .tup [.int n, .lst (es.map edD)]), some (.fz, behD kd tr offs), some (.fz, .int tr.length), some (.lst .fz, .lst (((((tr.length : Int) + 1, pass, (tr.length : Int) + 1) : Ed) :: tstA tr tr.length tr.length).map edD)), x4, none, none, none]) ?_ ?_
  · rw [ev_for]
    simp
    refine ⟨by omega, ev_forN (fun k S => ∃ x4 : Dt.Slot, S = [some (.fz, .tup [.int n, .lst (es.map edD)]), some (.fz, behD kd tr offs), some (.fz, .int tr.length), some (.lst .fz, .lst (((((tr.length : Int) + 1, pass, (tr.length : Int) + 1) : Ed) :: tstA tr tr.length k).map edD)), x4, none, none, none]) (k0 := 0) ⟨_, rfl⟩ ?_ ?_⟩
    · rintro k d S hd ⟨x4, rfl⟩
      simp at hd
      obtain ⟨hk, rfl⟩ := hd
      refine ⟨_, rfl, ?_⟩
      have hz : ((((tr.length : Int) + 1, pass, (tr.length : Int) + 1) : Ed) :: tstA tr tr.length k).length + 2 ≤ sizeLine := by
        rw [List.length_cons, tstA_len]
        exact sizeLine_le (by omega)
      simp only [Nat.zero_add, tstA_succ]
      generalize hL : (((tr.length : Int) + 1, pass, (tr.length : Int) + 1) : Ed) :: tstA tr tr.length k = L at *
      have e3 : (((tr.length : Int) + 1, pass, (tr.length : Int) + 1) : Ed) :: (tstA tr tr.length k ++ [((k : Int), tr.getD k [], (k : Int) + 1), ((k : Int), tau, (tr.length : Int) + 1)]) = L ++ [((k : Int), tr.getD k [], (k : Int) + 1), ((k : Int), tau, (tr.length : Int) + 1)] := by
        rw [← hL]
        rfl
      rw [e3]
      have hix : idxF (strsD tr) (.int k) = some (.fz, .str (tr.getD k [])) := by simp [strsD, hk]
      generalize hbd : behD kd tr offs = bd at *
      simp [hb1, hix, hz, edD]
    · rintro S ⟨x4, rfl⟩
      exact ⟨x4, by simp⟩
  rintro _ ⟨x4, rfl⟩
  generalize hL : (((tr.length : Int) + 1, pass, (tr.length : Int) + 1) : Ed) :: tstA tr tr.length tr.length = L at *
  have hLl : L.length = 1 + 2 * tr.length := by rw [← hL, List.length_cons, tstA_len]; omega
  refine ev_cut (fun S => S = [some (.fz, .tup [.int n, .lst (es.map edD)]), some (.fz, behD kd tr offs), some (.fz, .int tr.length), some (.lst .fz, .lst ((L ++ (if kd = Dt.S "divergence" then [((tr.length : Int), tau, (tr.length : Int) + 1)] else [])).map edD)), x4, none, none, none]) ?_ ?_
  · have hz1 : L.length < sizeLine := sizeLine_lt (by omega)
    generalize hbd : behD kd tr offs = bd at *
    by_cases c : kd = S "divergence"
    · have ed' : eqF (.str kd) (.str (S "divergence")) = some (.fz, .bl true) := by rw [ed]; simp [c]
      rw [if_pos c]
      simp [hb0, ed', hz1, edD]
    · have ed' : eqF (.str kd) (.str (S "divergence")) = some (.fz, .bl false) := by rw [ed]; simp [c]
      rw [if_neg c]
      simp [hb0, ed']
  rintro _ rfl
  generalize hM : L ++ (if kd = S "divergence" then [((tr.length : Int), tau, (tr.length : Int) + 1)] else []) = M
  have hMl : M.length ≤ 2 + 2 * tr.length := by
    rw [← hM, List.length_append, hLl]
    split <;> simp <;> omega
  have hfull : fullE tr kd (lawE es) off = M ++ (if kd = S "failure" then failE tr.length (lawE es) off else []) := by
    unfold fullE
    rw [← hM, ← hL]
  refine ev_cut (fun S => ∃ x5 x6 x7 : Dt.Slot, S = [some (.fz, .tup [.int n, .lst (es.map edD)]), some (.fz, behD kd tr offs), some (.fz, .int tr.length), some (.lst .fz, .lst ((fullE tr kd (lawE es) off).map edD)), x4, x5, x6, x7]) ?_ ?_
  · rw [hfull]
    by_cases c : kd = S "failure"
    · rw [if_pos c]
      rw [if_pos c] at hoffs
      subst hoffs
      have hb2 : idxF (behD kd tr [off]) (.int 2) = some (.fz, strsD off) := by simp [behD]
      have ef' : eqF (.str kd) (.str (S "failure")) = some (.fz, .bl true) := by rw [ef]; simp [c]
      have hni : ∀ a ∈ lawE es, notInF (.str a) (strsD off) = some (.fz, .bl (!decide (a ∈ off))) := fun a ha => notIn_strs (acts_ok (hwa a ha)) hoo
      have hrow := lawE_row es
      have hfr := failE_row tr.length (lawE es) off
      rw [ev_if]
      generalize hbd : behD kd tr [off] = bd at *
      simp [hb0, ef']
      refine ev_lc pN gEv ?_
      simp
      refine ⟨sizeLine_le (by omega), ?_, ?_⟩
      · rintro d x y z he rfl
        have h2 := acts_ok (hf _ he).2.2.1
        simp [edD, pN, gEv, neF_str h2 tau_ok]
      · refine ⟨sizeLine_le (by
          have := List.length_filter_le pN (es.map edD)
          simp at this
          omega), ?_⟩
        rw [hrow]
        refine ev_lc (fun d => match d with | .str a => !decide (a ∈ off) | _ => false) (fun d => D.tup [.int (tr.length : Int), d, .int ((tr.length : Int) + 1)]) ?_
        have hz : M.length + (failE tr.length (lawE es) off).length ≤ sizeLine := by
          unfold failE
          have := List.length_filter_le (fun a => !decide (a ∈ off)) (lawE es)
          refine sizeLine_le ?_
          simp at this ⊢
          omega
        generalize hva : lawE es = vs at *
        simp
        refine ⟨sizeLine_le (by omega), ?_, ?_⟩
        · intro a ha
          have hin := hni a ha
          simp [hb2, hin]
        · simp only [hfr]
          generalize failE tr.length vs off = FF at *
          have hz' : M.length + FF.length ≤ sizeLine := hz
          have hadd : addF (.lst (M.map edD)) (.lst (FF.map edD)) = some (.lst .fz, .lst (M.map edD ++ FF.map edD)) := by
            show (if (M.map edD).length + (FF.map edD).length ≤ sizeLine then some (Sh.lst .fz, D.lst (M.map edD ++ FF.map edD)) else none) = _
            rw [if_pos (by simpa using hz')]
          simp [hadd]
          have hfl := congrArg List.length hfr
          rw [List.length_map, List.length_map] at hfl
          rw [hfl]
          exact hz'
    · rw [if_neg c]
      have ef' : eqF (.str kd) (.str (S "failure")) = some (.fz, .bl false) := by rw [ef]; simp [c]
      generalize hbd : behD kd tr offs = bd at *
      simp [hb0, ef']
  rintro _ ⟨x5, x6, x7, rfl⟩
  have hsz : (fullE tr kd (lawE es) off).length ≤ sizeLine := sizeLine_le (by omega)
  have hO : ∀ X Q, Ef f__law_once [(.fz, .lst ((fullE tr kd (lawE es) off).map edD))] X Q ↔ Q (.lst .fz) (.lst (dedD ((fullE tr kd (lawE es) off).map edD))) [none] := fun X Q => ef_ok (run_once (by simp; omega) (fun x hx => by
    obtain ⟨e, he, rfl⟩ := List.mem_map.mp hx
    simpa [edD, pl, pls] using acts_ok (hE e he).2.2.1) rfl)
  generalize fullE tr kd (lawE es) off = F at *
  simp [hO])
end
end K78

namespace K78
noncomputable section
open Dt PySem
open Classical
theorem same_full {es : List Ed} {fs : List Ed} (fm : ∀ e, e ∈ fs ↔ e ∈ es) {ws : List (List Nat)} (hw : ∀ w, w ∈ ws ↔ w ∈ evsA fs) (tr : List (List Nat)) (kd : List Nat) (off : List (List Nat)) : ∀ e, e ∈ fullE tr kd (ws ++ [tick]) off ↔ e ∈ fullE tr kd (lawE es) off := by
  have hv : ∀ a, a ∈ ws ++ [tick] ↔ a ∈ lawE es := fun a => by
    unfold lawE
    simp only [List.mem_append, List.mem_singleton, hw, mem_evsA, List.mem_map, List.mem_filter, Bool.not_eq_true', decide_eq_false_iff_not]
    constructor
    · rintro (⟨⟨e, he, rfl⟩, h1, h2⟩ | rfl)
      · exact .inl ⟨e, ⟨(fm e).mp he, h1⟩, rfl⟩
      · exact .inr rfl
    · rintro (⟨e, ⟨he, h1⟩, rfl⟩ | rfl)
      · by_cases h2 : e.2.1 = tick
        · exact .inr h2
        · exact .inl ⟨⟨e, (fm e).mpr he, rfl⟩, h1, h2⟩
      · exact .inr rfl
  intro e
  unfold fullE failE
  rw [List.mem_append, List.mem_append (s := _ ++ _)]
  refine or_congr Iff.rfl ?_
  split
  · simp only [List.mem_map, List.mem_filter, hv]
  · exact Iff.rfl
theorem lk_eds {n m : Nat} {l : List Ed} (hl : l.length ≤ 1000000) (h : ∀ e ∈ l, EdOk m e) : lk (n + 4) (.tup (l.map edD)) = true := by
  simp only [lk, Bool.and_eq_true, decide_eq_true_eq, List.length_map]
  refine ⟨lks_iff.mpr fun x hx => ?_, hl⟩
  obtain ⟨e, he, rfl⟩ := List.mem_map.mp hx
  have := acts_ok (h e he).2.2.1
  simp [edD, lk, lks, this]
theorem plain (ns : List Int) (hl : ns.length ≤ 63) : ∃ xs, f_law [(.fz, .lst (ns.map D.int))] = some (.ok (.fz, .bl true), xs) := by
  have h : Ef f_law [(.fz, .lst (ns.map D.int))] noX fun sh d xs => sh = .fz ∧ d = .bl true := by
    refine Ef.fn rfl (by decide) ?_
    unfold b_law
    rw [ev_seq, ev_for]
    simp
    refine ev_forN (fun k S => ∃ (x1 x2 x3 x4 x5 x6 x7 x8 x9 x10 x11 : Dt.Slot), S = [some (.fz, .lst (ns.map D.int)), x1, x2, x3, x4, x5, x6, x7, x8, x9, x10, x11]) (k0 := 0) ⟨_, _, _, _, _, _, _, _, _, _, _, rfl⟩ ?_ ?_
    · rintro k d S hd ⟨x1, x2, x3, x4, x5, x6, x7, x8, x9, x10, x11, rfl⟩
      simp at hd
      obtain ⟨hk, rfl⟩ := hd
      refine ⟨_, rfl, ?_⟩
      obtain ⟨nI, es, n1, n2, hes, hesl, h5, hsys⟩ := run_system (cellI ns k) (cell_nn ns k) 6 (by decide) (by decide)
      obtain ⟨n, rfl⟩ : ∃ n : Nat, nI = n := ⟨nI.toNat, by omega⟩
      have hS : ∀ X Q, Ef f__law_system [(.fz, .int (cellI ns k)), (.fz, .int 6)] X Q ↔ Q .fz (.tup [.int n, .lst (es.map edD)]) [none, none] := fun X Q => ef_ok hsys
      have hC : ∀ X Q, Ef f__law_cell [(.fz, .lst (ns.map D.int)), (.fz, .int k)] X Q ↔ Q .fz (.int (cellI ns k)) [none, none] := fun X Q => ef_ok (run_cell ns k)
      have hC4 : ∀ X Q, Ef f__law_cell [(.fz, .lst (ns.map D.int)), (.fz, .int (4 + (k : Int)))] X Q ↔ Q .fz (.int (cellI ns (4 + k))) [none, none] := fun X Q => ef_ok (by simpa using run_cell ns (4 + k))
      obtain ⟨ds, dl, dd, hdr⟩ := run_draws (cellI ns (4 + k)) (cell_nn ns (4 + k)) 8 (by decide)
      have hD : ∀ X Q, Ef f__law_draws [(.fz, .int (cellI ns (4 + k))), (.fz, .int 8)] X Q ↔ Q (.lst .fz) (.lst (ds.map D.int)) [none, none] := fun X Q => ef_ok hdr
      refine ev_cut (fun S => S = [some (.fz, .lst (ns.map D.int)), some (.fz, .int k), some (.fz, .tup [.int n, .lst (es.map edD)]), x3, x4, x5, x6, x7, x8, x9, x10, x11]) ?_ ?_
      · simp [hC, hS]
      rintro _ rfl
      refine ev_cut (fun S => S = [some (.fz, .lst (ns.map D.int)), some (.fz, .int k), some (.fz, .tup [.int n, .lst (es.map edD)]), some (.lst .fz, .lst (ds.map D.int)), x4, x5, x6, x7, x8, x9, x10, x11]) ?_ ?_
      · simp [hC4, hD]
      rintro _ rfl
      obtain ⟨d0, h0, g0⟩ := getD_some (xs := ds) (k := 0) (by omega)
      obtain ⟨d6, h6, g6⟩ := getD_some (xs := ds) (k := 6) (by omega)
      have b0 : 0 ≤ d0 % 5 := Int.emod_nonneg _ (by decide)
      have b1 : d0 % 5 < 5 := Int.emod_lt_of_pos _ (by decide)
      refine ev_cut (fun S => ∃ tr : List (List Nat), (∀ a ∈ tr, a ∈ acts ∧ a ≠ pass) ∧ tr.length ≤ 5 ∧ S = [some (.fz, .lst (ns.map D.int)), some (.fz, .int k), some (.fz, .tup [.int n, .lst (es.map edD)]), some (.lst .fz, .lst (ds.map D.int)), some (.fz, strsD tr), x5, x6, x7, x8, x9, x10, x11]) ?_ ?_
      · rw [ev_set]
        simp
        refine ev_lcE (fun x => ∃ w, (w ∈ acts ∧ w ≠ pass) ∧ x = .str w) ?_
        simp [g0]
        generalize d0 % 5 = z at b0 b1
        refine ⟨by omega, by have := sizeLine_le (n := 5) (by omega); omega, ?_, ?_⟩
        · intro x hx
          obtain ⟨j, hj, rfl⟩ := mem_range.mp hx
          rw [Int.zero_add]
          obtain ⟨v, hv, gv⟩ := getD_some (xs := ds) (k := 1 + j) (by omega)
          have hn : L2.atI (ds.map D.int) (1 + (j : Int)) = some (.int v) := by
            rw [atI_nn (by omega), show (1 + (j : Int)).toNat = 1 + j by omega, List.getElem?_map, gv]
            rfl
          have j0 : 0 ≤ v % 4 := Int.emod_nonneg _ (by omega)
          have j1 : v % 4 < 4 := Int.emod_lt_of_pos _ (by omega)
          obtain ⟨a, ha, ea⟩ : ∃ a, (a ∈ acts ∧ a ≠ pass) ∧ L2.atI [D.str (S "a"), D.str (S "b"), D.str (S "tick"), D.str (S "zz")] (v % 4) = some (.str a) := by
            obtain ⟨x, hx, e⟩ := atI_some (xs := [D.str (S "a"), D.str (S "b"), D.str (S "tick"), D.str (S "zz")]) j0 (by simp; omega)
            simp only [List.mem_cons, List.not_mem_nil, or_false] at hx
            rcases hx with rfl | rfl | rfl | rfl
            all_goals exact ⟨_, by decide +kernel, e⟩
          simp [hn, ea, ha]
        · intro xs hx hxl
          obtain ⟨tr, rfl, htr⟩ := all_str hx
          simp at hxl
          simp [strsD]
          exact ⟨tr, htr, by omega, rfl⟩
      rintro _ ⟨tr, htr, htl, rfl⟩
      obtain ⟨off, ho, hol, hfew⟩ := run_few (d6 % 16) [S "a", S "b", S "c", S "tick"] (by decide) (.lst .fz) rfl
      have hoff : ∀ a ∈ off, okS a = true ∧ a ≠ pass := fun a ha => by
        have : ∀ w ∈ [S "a", S "b", S "c", S "tick"], okS w = true ∧ w ≠ pass := by decide +kernel
        exact this a (ho a ha)
      have hF : ∀ X Q, Ef f__law_few [(.fz, .int (d6 % 16)), (.lst .fz, .lst [D.str (S "a"), D.str (S "b"), D.str (S "c"), D.str (S "tick")])] X Q ↔ Q .fz (strsD off) [none, none] := fun X Q => ef_ok hfew
      refine ev_cut (fun S => S = [some (.fz, .lst (ns.map D.int)), some (.fz, .int k), some (.fz, .tup [.int n, .lst (es.map edD)]), some (.lst .fz, .lst (ds.map D.int)), some (.fz, strsD tr), x5, some (.fz, strsD off), x7, x8, x9, x10, x11]) ?_ ?_
      · simp [g6, hF]
      rintro _ rfl
      obtain ⟨fs, e1, fnd, fm, ffl, hmade⟩ := run_made n (by omega) (by omega) es hes (by omega)
      have hM : ∀ X Q, Ef f__law_made [(.fz, .tup [.int n, .lst (es.map edD)])] X Q ↔ Q (.ins [.fz, .fz, .lst (.lst .fz)]) (sysD n fs) [none] := fun X Q => ef_ok hmade
      refine ev_cut (fun S => ∃ s7 : Sh, s7.whole = true ∧ S = [some (.fz, .lst (ns.map D.int)), some (.fz, .int k), some (.fz, .tup [.int n, .lst (es.map edD)]), some (.lst .fz, .lst (ds.map D.int)), some (.fz, strsD tr), x5, some (.fz, strsD off), some (s7, sysD n fs), x8, x9, x10, x11]) ?_ ?_
      · simp [hM]
      rintro _ ⟨s7, w7, rfl⟩
      have hfs : ∀ e ∈ fs, EdOk n e := fun e he => hes e ((fm e).mp he)
      have hf5 : Ed5 fs := fun e he => h5 e ((fm e).mp he)
      have htok : ∀ a ∈ tr, okS a = true := fun a ha => acts_ok (htr a ha).1
      have hook : ∀ a ∈ off, okS a = true := fun a ha => (hoff a ha).1
      refine ev_cut (fun S => ∃ (s7 : Sh) (x8 x9 x10 x11 : Dt.Slot), s7.whole = true ∧ S = [some (.fz, .lst (ns.map D.int)), some (.fz, .int k), some (.fz, .tup [.int n, .lst (es.map edD)]), some (.lst .fz, .lst (ds.map D.int)), some (.fz, strsD tr), x5, some (.fz, strsD off), some (s7, sysD n fs), x8, x9, x10, x11]) ?_ ?_
      · rw [ev_for]
        simp
        refine ev_forN (fun _ S => ∃ (s7 : Sh) (x8 x9 x10 x11 : Dt.Slot), s7.whole = true ∧ S = [some (.fz, .lst (ns.map D.int)), some (.fz, .int k), some (.fz, .tup [.int n, .lst (es.map edD)]), some (.lst .fz, .lst (ds.map D.int)), some (.fz, strsD tr), x5, some (.fz, strsD off), some (s7, sysD n fs), x8, x9, x10, x11]) (k0 := 0) ⟨s7, _, _, _, _, w7, rfl⟩ ?_ ?_
        · rintro j d S hd ⟨s7, x8, x9, x10, x11, w7, rfl⟩
          obtain ⟨kd, offs, hkd, hoffs, hd2⟩ : ∃ (kd : List Nat) (offs : List (List (List Nat))), kd ∈ [Dt.S "trace", Dt.S "divergence", Dt.S "failure"] ∧ offs = (if kd = Dt.S "failure" then [off] else []) ∧ d = behD kd tr offs := by
            have hm := List.mem_of_getElem? hd
            simp only [List.mem_cons, List.not_mem_nil, or_false] at hm
            rcases hm with rfl | rfl | rfl
            · exact ⟨Dt.S "trace", [], by simp, by rw [if_neg (by decide +kernel)], rfl⟩
            · exact ⟨Dt.S "divergence", [], by simp, by rw [if_neg (by decide +kernel)], rfl⟩
            · exact ⟨Dt.S "failure", [off], by simp, by rw [if_pos rfl], rfl⟩
          subst hd2
          refine ⟨_, rfl, ?_⟩
          have hlt := run_ltest n es hes (by omega) kd hkd tr htr (by omega) off hoff offs hoffs
          have hLT : ∀ X Q, Ef f__law_test_of [(.fz, .tup [.int n, .lst (es.map edD)]), (.fz, behD kd tr offs)] X Q ↔ Q .fz (.tup [.int ((tr.length + 2 : Nat) : Int), .lst (dedD ((fullE tr kd (lawE es) off).map edD))]) [none, none] := fun X Q => ef_ok hlt
          obtain ⟨ws, gs, hw, hwsl, eg, hgl, hgs, ht⟩ := run_test_ok n fs hfs (by omega) hf5 kd hkd tr htr (by omega) off hoff offs hoffs
          have hT : ∀ X Q, Ef f_test_of [(.fz, sysD n fs), (.fz, behD kd tr offs)] X Q ↔ Q (.ins [.fz, .fz, .lst (.lst .fz)]) (sysD (tr.length + 2) gs) [none, none] := fun X Q => ef_ok ht
          have hsame := same_full fm hw tr kd off
          have hwl : (fullE tr kd (ws ++ [tick]) off).length ≤ 1000 ∧ ∀ e ∈ fullE tr kd (ws ++ [tick]) off, e.2.1 ∈ acts := by
            obtain ⟨bs, eb, bn, bm, bl⟩ := ded_map inj_ed (fullE tr kd (ws ++ [tick]) off)
            have hlE := fullE_len tr kd (lawE es) off
            refine ⟨?_, fun e he => ?_⟩
            · have hlw := fullE_len tr kd (ws ++ [tick]) off
              simp at hlw
              omega
            · have hm2 : edD e ∈ gs.map edD := by
                rw [← eg, mem_sort, mem_ded]
                exact List.mem_map.mpr ⟨e, he, rfl⟩
              exact (hgs e ((mem_mapI inj_ed).mp hm2)).2.2.1
          have hsrt : sortD (dedD ((fullE tr kd (lawE es) off).map edD)) = gs.map edD := by
            rw [← eg]
            exact (sort_same hsame hwl.2 hwl.1).symm
          have hso : sortedF (.lst (dedD ((fullE tr kd (lawE es) off).map edD))) = some (.lst .fz, .lst (gs.map edD)) := by
            rw [← hsrt]
            refine if_pos ?_
            obtain ⟨bs, eb, bn, bm, bl⟩ := ded_map inj_ed (fullE tr kd (lawE es) off)
            rw [eb]
            refine sortOk_ed _ ?_
            have := congrArg List.length hsrt
            rw [len_sort, eb] at this
            simp at this
            omega
          have hk1 : ∀ X Q, Ef f__law_like [(.fz, .int ((tr.length + 2 : Nat) : Int)), (.fz, .int ((tr.length + 2 : Nat) : Int))] X Q ↔ Q .fz (.bl true) [none, none] := fun X Q => ef_ok (like_refl 8 _ rfl _ _ rfl rfl)
          have hk2 : ∀ X Q, Ef f__law_like [(.fz, .tup (gs.map edD)), (.fz, .tup (gs.map edD))] X Q ↔ Q .fz (.bl true) [none, none] := fun X Q => ef_ok (like_refl 8 _ (lk_eds (by omega) hgs) _ _ rfl rfl)
          generalize hm : tr.length + 2 = mN at *
          refine ev_cut (fun S => S = [some (.fz, .lst (ns.map D.int)), some (.fz, .int k), some (.fz, .tup [.int n, .lst (es.map edD)]), some (.lst .fz, .lst (ds.map D.int)), some (.fz, strsD tr), x5, some (.fz, strsD off), some (s7, sysD n fs), some (.fz, behD kd tr offs), some (.fz, .int mN), some (.fz, .lst (dedD ((fullE tr kd (lawE es) off).map edD))), x11]) ?_ ?_
          · generalize behD kd tr offs = bd at *
            simp [hLT]
          rintro _ rfl
          refine ev_cut (fun S => S = [some (.fz, .lst (ns.map D.int)), some (.fz, .int k), some (.fz, .tup [.int n, .lst (es.map edD)]), some (.lst .fz, .lst (ds.map D.int)), some (.fz, strsD tr), x5, some (.fz, strsD off), some (.fz, sysD n fs), some (.fz, behD kd tr offs), some (.fz, .int mN), some (.fz, .lst (dedD ((fullE tr kd (lawE es) off).map edD))), some (.ins [.fz, .fz, .lst (.lst .fz)], sysD mN gs)]) ?_ ?_
          · generalize behD kd tr offs = bd at *
            simp [hT, w7]
          rintro _ rfl
          refine ev_cut (fun S => S = [some (.fz, .lst (ns.map D.int)), some (.fz, .int k), some (.fz, .tup [.int n, .lst (es.map edD)]), some (.lst .fz, .lst (ds.map D.int)), some (.fz, strsD tr), x5, some (.fz, strsD off), some (.fz, sysD n fs), some (.fz, behD kd tr offs), some (.fz, .int mN), some (.fz, .lst (dedD ((fullE tr kd (lawE es) off).map edD))), some (.ins [.fz, .fz, .lst (.lst .fz)], sysD mN gs)]) ?_ ?_
          · generalize behD kd tr offs = bd at *
            generalize dedD ((fullE tr kd (lawE es) off).map edD) = dd at *
            have hz : gs.length ≤ sizeLine := sizeLine_le (by omega)
            rw [ev_if]
            generalize hsd : sysD n fs = sd at *
            simp [sysD]
            refine ⟨_, rfl, ?_⟩
            simp [hk1]
            refine ⟨_, rfl, ?_⟩
            simp [hso, hk2, hz]
          rintro _ rfl
          have hrest : offs.length ≤ 100 ∧ ∀ o ∈ offs, ∀ a ∈ o, okS a = true := by
            rw [hoffs]
            split
            · exact ⟨by simp, fun o ho a ha => by simp at ho; subst ho; exact hook a ha⟩
            · exact ⟨by simp, by simp⟩
          have htp : ∀ a ∈ tr ++ [pass], okS a = true := fun a ha => by
            rcases List.mem_append.mp ha with ha | ha
            · exact htok a ha
            · simp at ha
              subst ha
              exact pass_ok
          have hR1 : ∀ X Q, Ef f__law_refused [(.fz, sysD n fs), (.fz, behD kd (tr ++ [pass]) offs)] X Q ↔ Q .fz (.bl true) [none, none] := fun X Q => ef_ok (run_refused n fs hfs (by omega) kd (tr ++ [pass]) htp offs hrest.2 hrest.1 (.inr (.inl (by simp))) .fz rfl)
          have hb0 : idxF (behD kd tr offs) (.int 0) = some (.fz, .str kd) := by simp [behD]
          have hb2 : sl1F (behD kd tr offs) (.int 2) = some (.fz, .tup (offs.map strsD)) := by
            unfold behD
            rw [sl1_int, sli_tup, show (2 : Int) = ((2 : Nat) : Int) from rfl, cut_from]
            rfl
          have hta : addF (strsD tr) (.tup [.str (Dt.S "pass")]) = some (.fz, strsD (tr ++ [pass])) := by
            have : (tr.map D.str).length + [D.str (Dt.S "pass")].length ≤ sizeLine := sizeLine_le (by simp; omega)
            show (if (tr.map D.str).length + [D.str (Dt.S "pass")].length ≤ sizeLine then some (Sh.fz, D.tup (tr.map D.str ++ [D.str (Dt.S "pass")])) else none) = _
            rw [if_pos this]
            simp [strsD]
          have hba : addF (.tup [.str kd, strsD (tr ++ [pass])]) (.tup (offs.map strsD)) = some (.fz, behD kd (tr ++ [pass]) offs) := by
            have : [D.str kd, strsD (tr ++ [pass])].length + (offs.map strsD).length ≤ sizeLine := sizeLine_le (by simp; omega)
            show (if [D.str kd, strsD (tr ++ [pass])].length + (offs.map strsD).length ≤ sizeLine then some (Sh.fz, D.tup ([D.str kd, strsD (tr ++ [pass])] ++ offs.map strsD)) else none) = _
            rw [if_pos this]
            rfl
          refine ev_cut (fun S => ∃ x11 : Dt.Slot, S = [some (.fz, .lst (ns.map D.int)), some (.fz, .int k), some (.fz, .tup [.int n, .lst (es.map edD)]), some (.lst .fz, .lst (ds.map D.int)), some (.fz, strsD tr), x5, some (.fz, strsD off), some (.fz, sysD n fs), some (.fz, behD kd tr offs), some (.fz, .int mN), some (.fz, .lst (dedD ((fullE tr kd (lawE es) off).map edD))), x11]) ?_ ?_
          · have hbe : behD kd (tr ++ [pass]) offs = .tup (.str kd :: strsD (tr ++ [pass]) :: offs.map strsD) := rfl
            rw [hbe] at hR1
            have hz2 : 2 + offs.length ≤ sizeLine := sizeLine_le (by omega)
            generalize behD kd tr offs = bd at *
            simp [hb0, hb2, hta, hz2, hR1]
          rintro _ ⟨x11, rfl⟩
          have hpe : ∀ e ∈ [((0, pass, 0) : Ed)], EdOk ((1 : Nat) : Int) e := by
            intro e he
            simp at he
            subst he
            exact ⟨by decide, by decide, by simp [acts], by decide, by decide⟩
          obtain ⟨ps, ep, pnd, pm, pfl⟩ := sort_ed [((0, pass, 0) : Ed)]
          have hpi := run_init 1 (by decide) (by decide) [((0, pass, 0) : Ed)] hpe (by decide) ps ep pm pfl (.lst .fz) rfl rfl
          have hPI : ∀ X Q, Efm f_System___init__ [(.ins [], .ins 3 []), (.fz, .int 1), (.lst .fz, .lst [.tup [.int 0, .str (Dt.S "pass"), .int 0]])] X Q ↔ Q (.ins [.fz, .fz, .lst (.lst .fz)]) (sysD 1 ps) [none, none] := fun X Q => efm_ok hpi
          have hpp : pass ∈ evsA ps := mem_evsA.mpr ⟨⟨(0, pass, 0), (pm _).mpr (by simp), rfl⟩, by decide +kernel, by decide +kernel⟩
          have hR2 : ∀ (s : Sh), s.whole = true → ∀ X Q, Ef f__law_refused [(s, sysD 1 ps), (.fz, behD kd tr offs)] X Q ↔ Q .fz (.bl true) [none, none] := fun s hs X Q => ef_ok (run_refused 1 ps (fun e he => hpe e ((pm e).mp he)) (by simp at pfl; omega) kd tr htok offs hrest.2 hrest.1 (.inl hpp) s hs)
          generalize behD kd tr offs = bd at *
          simp [hPI, hR2 (.ins [.fz, .fz, .lst (.lst .fz)]) rfl]
        · rintro S ⟨s7, x8, x9, x10, x11, w7, rfl⟩
          exact ⟨s7, w7, x8, x9, x10, x11, rfl⟩
      rintro _ ⟨s7, x8, x9, x10, x11, w7, rfl⟩
      have hR : ∀ X Q, Ef f__law_refused [(.fz, sysD n fs), (.fz, .tup [.str (S "failure"), strsD tr, .tup [.str (S "a"), .str (S "pass")]])] X Q ↔ Q .fz (.bl true) [none, none] := fun X Q => ef_ok (run_refused n fs hfs (by omega) (S "failure") tr htok [[S "a", S "pass"]] (by decide +kernel) (by decide) (.inr (.inr ⟨[S "a", S "pass"], by simp, by simp⟩)) .fz rfl)
      simp [w7, hR]
    · rintro S ⟨x1, x2, x3, x4, x5, x6, x7, x8, x9, x10, x11, rfl⟩
      simp
  obtain ⟨_, _, xs, e, rfl, rfl⟩ := h.ok
  exact ⟨xs, e⟩
end
end K78

open PySem PySem.W PyProof.Rows
local macro_rules
  | `(tactic| o_head ($f $k $a $e)) => `(tactic| o_head (kmHook $k $a $e [61, 139]))
set_option maxHeartbeats 0 in
theorem PySem.Challenge.cw_parley_k78_tests_of_behaviours_holds : PySem.Challenge.rw_parley_k78_tests_of_behaviours.Holds := by
  w_on; o_law; k_head; (case hw => w_witness2)
  k_fill
  refine Dt.law_walkT (l := PySem.Challenge.rw_parley_k78_tests_of_behaviours) (n := 63) (k := 10) (x := "script") K78.f_law rfl (by decide) rfl ⟨rfl, by decide, by decide⟩ (fun w h Y => PySem.W.km_in_of Y) ?F K78.len_law K78.plain
  case F =>
    intro w mg fa h Y KX Gh hmg
    refine' K78.all_mk KX Gh hmg ?aC3 ?a0 ?l0 ?c0 ?k0 ?a1 ?l1 ?c1 ?k1 ?a2 ?i2 ?l2 ?c2 ?k2 ?a3 ?i3 ?l3 ?c3 ?k3 ?a4 ?l4 ?c4 ?k4 ?a5 ?l5 ?c5 ?k5 ?a6 ?l6 ?c6 ?k6 ?a7 ?l7 ?c7 ?k7 ?a8 ?l8 ?c8 ?k8 ?a9 ?l9 ?c9 ?k9 ?a10 ?l10 ?c10 ?k10 ?a11 ?l11 ?c11 ?k11 ?a12 ?l12 ?c12 ?k12 ?a13 ?l13 ?c13 ?k13 ?a14 ?l14 ?c14 ?k14 ?z_abs ?z_all ?z_any ?z_bool ?z_int ?z_isinstance ?z_len ?z_list ?z_range ?z_set ?z_sorted ?z_str ?z_tuple ?ga0 ?ga1 ?ga2 ?ga3 ?ga4 ?ga5 ?gl5 ?ga6 ?ga7 ?pg3 ?hd3 ?po3 ?sa3 ?mk3 ?kc3 ?nf3_0 ?nf3_1 ?nf3_2 ?xg_1 ?xg_2 ?xx_1 ?xk_1 ?xb_1 ?xt_1 ?xx_2 ?xk_2 ?xb_2 ?xt_2 ?xm_1_1 ?xm_2_1 ?hc0 ?hc4 ?ht0 ?ht4 ?hn0 ?hn4 ?hnd
    (case aC3 => k_is)
    (case a0 => k_is)
    (case l0 => k_is)
    (case c0 => k_is)
    (case k0 => k_is)
    (case a1 => k_is)
    (case l1 => k_is)
    (case c1 => k_is)
    (case k1 => k_is)
    (case a2 => k_is)
    (case i2 => k_is)
    (case l2 => k_is)
    (case c2 => k_is)
    (case k2 => k_is)
    (case a3 => k_is)
    (case i3 => k_is)
    (case l3 => k_is)
    (case c3 => k_is)
    (case k3 => k_is)
    (case a4 => k_is)
    (case l4 => k_is)
    (case c4 => k_is)
    (case k4 => k_is)
    (case a5 => k_is)
    (case l5 => k_is)
    (case c5 => k_is)
    (case k5 => k_is)
    (case a6 => k_is)
    (case l6 => k_is)
    (case c6 => k_is)
    (case k6 => k_is)
    (case a7 => k_is)
    (case l7 => k_is)
    (case c7 => k_is)
    (case k7 => k_is)
    (case a8 => k_is)
    (case l8 => k_is)
    (case c8 => k_is)
    (case k8 => k_is)
    (case a9 => k_is)
    (case l9 => k_is)
    (case c9 => k_is)
    (case k9 => k_is)
    (case a10 => k_is)
    (case l10 => k_is)
    (case c10 => k_is)
    (case k10 => k_is)
    (case a11 => k_is)
    (case l11 => k_is)
    (case c11 => k_is)
    (case k11 => k_is)
    (case a12 => k_is)
    (case l12 => k_is)
    (case c12 => k_is)
    (case k12 => k_is)
    (case a13 => k_is)
    (case l13 => k_is)
    (case c13 => k_is)
    (case k13 => k_is)
    (case a14 => k_is)
    (case l14 => k_is)
    (case c14 => k_is)
    (case k14 => k_is)
    (case z_abs => k_is)
    (case z_all => k_is)
    (case z_any => k_is)
    (case z_bool => k_is)
    (case z_int => k_is)
    (case z_isinstance => k_is)
    (case z_len => k_is)
    (case z_list => k_is)
    (case z_range => k_is)
    (case z_set => k_is)
    (case z_sorted => k_is)
    (case z_str => k_is)
    (case z_tuple => k_is)
    (case ga0 => k_is)
    (case ga1 => k_is)
    (case ga2 => k_is)
    (case ga3 => k_is)
    (case ga4 => k_is)
    (case ga5 => k_is)
    (case gl5 => k_is)
    (case ga6 => k_is)
    (case ga7 => k_is)
    (case pg3 => k_is)
    (case hd3 => k_is)
    (case po3 => k_is)
    (case sa3 => k_is)
    (case mk3 => k_is)
    (case kc3 => k_is)
    (case nf3_0 => k_is)
    (case nf3_1 => k_is)
    (case nf3_2 => k_is)
    (case xg_1 => k_is)
    (case xg_2 => k_is)
    (case xx_1 => k_exc)
    (case xk_1 => k_is)
    (case xb_1 => k_is)
    (case xt_1 => k_is)
    (case xx_2 => k_exc)
    (case xk_2 => k_is)
    (case xb_2 => k_is)
    (case xt_2 => k_is)
    (case xm_1_1 => first | k_is | kernel_rfl)
    (case xm_2_1 => first | k_is | kernel_rfl)
    (case hc0 => exact PySem.W.codeHd_of_K (P := 61) KX (by kernel_rfl))
    (case hc4 => exact PySem.W.codeHd_of_K (P := 139) KX (by kernel_rfl))
    (case ht0 => exact PySem.W.km_tabs_of Y _ (by k_mem))
    (case ht4 => exact PySem.W.km_tabs_of Y _ (by k_mem))
    (case hn0 => kernel_rfl)
    (case hn4 => kernel_rfl)
    (case hnd => decide)
