import PyProof.Rows.All
import HandS.TupSets
import HandS.Set
import KE.KeyNested
import HandS.SetKeys
import PyProof.SetRoads
import HandS.Rev
import HandS.Iter
import HandS.List
import KE.GoesMore
import KE.GoesEnum
import PyProof.Draws
import PyProof.ListNew
import KE.KRevIter
import PyProof.ReprReads
import KE.IntText
import PyProof.StrBlockL
import Wide.All
import OpenK.AllK
import Wide.FinOn
import HandS.ForMost
import HandS.Flow
import HandS.Style
import HandS.Deep
import HandS.TupAny
import HandS.IsInst
import HandS.Wide
import HandS.Conv
import HandS.TupMul
import HandS.RaiseMore
import PyProof.ReprRoads
import PyProof.CallFns
import HandS.FStr
import HandS.Text
import HandS.More
import HandS.Replace
import HandS.Defaults
import HandS.Ends
import HandS.HeadEnd
import HandS.Exc
import HandS.ExcOwn
import HandS.ExcInit
import HandS.ExcField
import KE.KExcIs
import HandS.Dict
import HandS.Strs
import HandS.Zip
import KE.KStateDown
import HandS.Head0
import HandS.Head1
import HandS.Head2
import HandS.HeadHook1
import HandS.HeadHook2
import HandS.HeadHook3
import PyProof.ReprLen
import PySem.Challenge.RW_pyhold_k19_own_methods_are_called
set_option Elab.async false
set_option linter.all false
set_option maxRecDepth 100000
set_option maxHeartbeats 0
namespace Li
open PySem PySem.Spec PyProof.Rows L2
abbrev NK := NestedKey
section
variable {P : Program} {w : World} {A : Around} {E : Value → Shared → Prop} {s : Shared}
/-- the tuple at b is the key k -/
def IsN (h : Heap) (k : NK) (b : Addr) : Prop := NestedIs h k (.ref b) ∧ k.depth ≤ 8
theorem IsN.move {h g : Heap} {k : NK} {b : Addr} (x : IsN h k b) (q : ∀ c o vs n, h.get? c = some o → o.data = .seq vs n → g.get? c = some o) : IsN g k b := ⟨NestedIs.at q k _ x.1, x.2⟩
/-- no part is of a class of the text -/
def NoCls (P : Program) (w : World) (n : Nat) (s : Shared) (v : Value) : Prop := ∀ (A : Around) (E : Value → Shared → Prop) (Q : Bool → Shared → Prop), Q false s → wpAny (model P w) A (ofAClassStatement n v) Q E s
/-- it is told whether the hash goes by value -/
def HashT (P : Program) (w : World) (n : Nat) (s : Shared) (v : Value) : Prop := ∀ (A : Around) (E : Value → Shared → Prop) (Q : Bool → Shared → Prop), (∀ b, Q b s) → wpAny (model P w) A (hashByValue n v) Q E s
theorem NoCls.atom {n : Nat} {v : Value} (h : ∀ b, v ≠ .ref b) : NoCls P w n s v := fun A E Q q => by
  have e : ofAClassStatement n v = pure false := by
    cases n <;> cases v <;> first | rfl | exact absurd rfl (h _)
  rw [e]
  exact wpAny_pure q
theorem NoCls.tuple {n m : Nat} {b : Addr} {o : Obj} {vs : Array Value} (ho : s.heap.get? b = some o) (hc : o.cls = .type "tuple") (hd : o.data = .seq vs m) (hq : ∀ v ∈ vs.toList, NoCls P w n s v) : NoCls P w (n + 1) s (.ref b) := fun A E Q q => by
  unfold ofAClassStatement
  refine wpAny_bind (wpAny_typeOf ⟨o, ho, hc⟩ ?_)
  have e : (("tuple" : String) == "tuple") = true := by decide
  simp only [e, if_true, Bool.not_true, Bool.false_eq_true, if_false]
  try refine wpAny_bind (wpAny_pure ?_)
  try simp only [Bool.not_true, Bool.false_eq_true, if_false]
  show wpAny _ _ (seqItems? (.ref b) >>= _) _ _ s
  refine wpAny_bind (wpAny_seqItems ho hd ?_)
  dsimp only
  refine wpAny_bind ?_
  show wpAny _ _ (forIn vs _ _) _ _ s
  rw [← Array.forIn_toList]
  refine wpAny_forIn_list _ (fun left r z => (r.1 = none ∧ z = s) ∧ ∀ v ∈ left, NoCls P w n s v) _ ?_ ?_ _ _ ⟨⟨rfl, rfl⟩, hq⟩
  · rintro v left r z ⟨⟨hr, rfl⟩, all⟩
    refine wpAny_bind (all v List.mem_cons_self _ _ _ ?_)
    simp only [Bool.false_eq_true, if_false]
    exact wpAny_pure ⟨⟨rfl, rfl⟩, fun u hu => all u (List.mem_cons_of_mem _ hu)⟩
  · rintro ⟨r1, r2⟩ z ⟨⟨hr, rfl⟩, _⟩
    simp only at hr
    subst hr
    exact wpAny_pure q
mutual
theorem noCls_key : ∀ (k : NK) (v : Value) (n : Nat), NestedIs s.heap k v → k.depth ≤ n → NoCls P w n s v
  | .none, _, n, x, _ => by cases x; exact .atom fun _ e => nomatch e
  | .num i, _, n, x, _ => by cases x <;> exact .atom fun _ e => nomatch e
  | .text y, _, n, x, _ => by cases x; exact .atom fun _ e => nomatch e
  | .tup ks, _, n, x, hn => by
    cases x with
    | tup hg hc hd hk =>
      simp only [NestedKey.depth] at hn
      cases n with
      | zero => omega
      | succ n => exact .tuple hg hc hd (noCls_keys ks _ n hk (by omega))
theorem noCls_keys : ∀ (ks : List NK) (vs : List Value) (n : Nat), NestedAll s.heap ks vs → NestedKey.depthAll ks ≤ n → ∀ v ∈ vs, NoCls P w n s v
  | [], _, n, x, _, v, hv => by cases x; cases hv
  | k :: ks, _, n, x, hn, v, hv => by
    cases x with
    | cons x1 x2 =>
      simp only [NestedKey.depthAll] at hn
      rcases List.mem_cons.mp hv with rfl | hv
      · exact noCls_key k _ n x1 (by omega)
      · exact noCls_keys ks _ n x2 (by omega) v hv
end
theorem HashT.atom {n : Nat} {v : Value} {b : Bool} (h : hashByValue n v = pure b) : HashT P w n s v := fun A E Q q => by
  rw [h]
  exact wpAny_pure (q b)
theorem HashT.tuple {n m : Nat} {b : Addr} {o : Obj} {vs : Array Value} (ho : s.heap.get? b = some o) (hc : o.cls = .type "tuple") (hd : o.data = .seq vs m) (hq : ∀ v ∈ vs.toList, HashT P w n s v) : HashT P w (n + 1) s (.ref b) := fun A E Q q => by
  unfold hashByValue
  refine wpAny_bind (wpAny_specialOf (T := "tuple") ⟨o, ho, hc⟩ F.slot_tuple_hash.lookup ?_)
  show wpAny _ _ (seqItems? (.ref b) >>= _) _ _ s
  refine wpAny_bind (wpAny_seqItems ho hd ?_)
  refine wpAny_bind ?_
  show wpAny _ _ (forIn vs _ _) _ _ s
  rw [← Array.forIn_toList]
  refine wpAny_forIn_list _ (fun left r z => (r.1 = none ∧ z = s) ∧ ∀ v ∈ left, HashT P w n s v) _ ?_ ?_ _ _ ⟨⟨rfl, rfl⟩, hq⟩
  · rintro v left r z ⟨⟨hr, rfl⟩, all⟩
    refine wpAny_bind (all v List.mem_cons_self _ _ _ fun b => ?_)
    cases b with
    | true =>
      simp only [Bool.not_true, Bool.false_eq_true, if_false]
      exact wpAny_pure ⟨⟨rfl, rfl⟩, fun u hu => all u (List.mem_cons_of_mem _ hu)⟩
    | false =>
      simp only [Bool.not_false, if_true]
      exact wpAny_pure (wpAny_pure (q false))
  · rintro ⟨r1, r2⟩ z ⟨⟨hr, rfl⟩, _⟩
    simp only at hr
    subst hr
    exact wpAny_pure (q true)
mutual
theorem hashT_key : ∀ (k : NK) (v : Value) (n : Nat), NestedIs s.heap k v → k.depth ≤ n → HashT P w n s v
  | .none, _, n, x, _ => by cases x; cases n <;> exact .atom rfl
  | .num i, _, n, x, _ => by cases x <;> cases n <;> exact .atom rfl
  | .text y, _, n, x, _ => by cases x; cases n <;> exact .atom rfl
  | .tup ks, _, n, x, hn => by
    cases x with
    | tup hg hc hd hk =>
      simp only [NestedKey.depth] at hn
      cases n with
      | zero => omega
      | succ n => exact .tuple hg hc hd (hashT_keys ks _ n hk (by omega))
theorem hashT_keys : ∀ (ks : List NK) (vs : List Value) (n : Nat), NestedAll s.heap ks vs → NestedKey.depthAll ks ≤ n → ∀ v ∈ vs, HashT P w n s v
  | [], _, n, x, _, v, hv => by cases x; cases hv
  | k :: ks, _, n, x, hn, v, hv => by
    cases x with
    | cons x1 x2 =>
      simp only [NestedKey.depthAll] at hn
      rcases List.mem_cons.mp hv with rfl | hv
      · exact hashT_key k _ n x1 (by omega)
      · exact hashT_keys ks _ n x2 (by omega) v hv
end
/-- a search among such keys is not seen -/
theorem unseen {k : NK} {b : Addr} {Q : Bool → Shared → Prop} (hk : IsN s.heap k b) {ys : List Value} (hy : ∀ y ∈ ys, ∃ j c, y = Value.ref c ∧ IsN s.heap j c) (q : Q false s) : wpAny (model P w) A (searchCouldBeSeen (.ref b) ys) Q E s := by
  unfold searchCouldBeSeen
  refine wpAny_bind ?_
  refine wpAny_forIn_list _ (fun left r z => (r.1 = none ∧ z = s) ∧ ∀ y ∈ left, ∃ j c, y = Value.ref c ∧ IsN s.heap j c) _ ?_ ?_ _ _ ⟨⟨rfl, rfl⟩, hy⟩
  · rintro v left r z ⟨⟨hr, rfl⟩, all⟩
    obtain ⟨j, c, rfl, hc⟩ := all v List.mem_cons_self
    have more : ∀ y ∈ left, ∃ j c, y = Value.ref c ∧ IsN z.heap j c := fun u hu => all u (List.mem_cons_of_mem _ hu)
    dsimp only
    by_cases very : (b == c || (carriedByValue (.ref b) && carriedByValue (.ref c))) = true
    · refine wp_if_pos very ?_
      exact wpAny_pure ⟨⟨rfl, rfl⟩, more⟩
    · refine wp_if_neg very ?_
      refine wpAny_bind (quiet_key k _ 8 z hk.1 hk.2 _ _ _ ?_)
      simp only [Bool.not_true, Bool.false_eq_true, if_false]
      refine wpAny_bind (quiet_key j _ 8 z hc.1 hc.2 _ _ _ ?_)
      simp only [Bool.not_true, Bool.false_eq_true, if_false]
      refine wpAny_bind (noCls_key k _ 8 hk.1 hk.2 _ _ _ ?_)
      simp only [Bool.false_eq_true, if_false]
      refine wpAny_bind (noCls_key j _ 8 hc.1 hc.2 _ _ _ ?_)
      simp only [Bool.false_eq_true, if_false]
      exact wpAny_pure ⟨⟨rfl, rfl⟩, more⟩
  · rintro ⟨r1, r2⟩ z ⟨⟨hr, rfl⟩, _⟩
    simp only at hr
    subst hr
    exact wpAny_pure q
def nrows (w : World) (L : List (Addr × NK)) : List (Int × Value) := L.map fun p => (p.2.hash w, Value.ref p.1)
abbrev nhs (w : World) (L : List (Addr × NK)) : List Int := L.map fun p => p.2.hash w
structure NSet (w : World) (h : Heap) (a : Addr) (L : List (Addr × NK)) (es : Array (Int × Value)) (ep : Nat) (t : SetTable) : Prop where
  ob : ∃ o, h.get? a = some o ∧ o.ExactSet ∧ o.data = .set es ep t
  rows : es.toList = nrows w L
  tab : TabOk t (nhs w L)
  nd : (L.map (·.2)).Nodup
  tup : ∀ p ∈ L, IsN h p.2 p.1
  room : L.length * 5 < t.mask * 3
  few : L.length < 64
variable {a : Addr} {L : List (Addr × NK)} {es : Array (Int × Value)} {ep : Nat} {t : SetTable}
theorem NSet.size {h : Heap} (R : NSet w h a L es ep t) : es.size = L.length := by
  have e := congrArg List.length R.rows
  simpa [nrows] using e
theorem NSet.fits {h : Heap} (R : NSet w h a L es ep t) : t.fits es.size = true := by
  have h1 := R.tab.sz
  have h2 := R.size
  have h3 := R.room
  rw [List.length_map] at h1
  unfold SetTable.fits SetTable.fill
  rw [R.tab.dm, Bool.and_eq_true, beq_iff_eq, decide_eq_true_eq]
  refine ⟨by omega, ?_⟩
  show t.place.size + 0 ≤ t.mask
  omega
theorem NSet.entry {h : Heap} (R : NSet w h a L es ep t) {i : Nat} {p : Addr × NK} (e : L[i]? = some p) : es[i]? = some (p.2.hash w, Value.ref p.1) := by
  rw [← Array.getElem?_toList, R.rows]
  simp [nrows, e]
/-- the way's state behind c steps -/
abbrev stepN (m : Nat) (h : Int) (c : Nat) : SetTable.Probe := nth m (runAt m (SetTable.bits h % (m + 1)) (SetTable.bits h)) c
theorem step_dummy (m : Nat) (h : Int) (c : Nat) : (stepN m h c).dummy = none := by
  have key : ∀ (n : Nat) (p : SetTable.Probe), p.dummy = none → (nth m p n).dummy = none := by
    intro n
    induction n with
    | zero => exact fun p z => z
    | succ n ih => exact fun p z => ih (adv m p) (by unfold adv; split <;> exact z)
  exact key c _ rfl
theorem step_add (m : Nat) (h : Int) (c q : Nat) : nth m (stepN m h c) q = stepN m h (c + q) := (nth_add m c _ q).symm
/-- the search: from the c-th step on; the wish for what is there and for what is not -/
theorem seek (ad : Bool) (R : NSet w s.heap a L es ep t) {x : Addr} {k : NK} (hx : IsN s.heap k x) (hu : A.units + 8 < cLine) {N : Nat} (hN : N < 10 * SetTable.turns t.mask)
    (he : way t.mask (k.hash w) N ∉ t.place.toList) (hb : ∀ c, c < N → way t.mask (k.hash w) c ∈ t.place.toList) {Q : SetFound → Shared → Prop}
    (yes : ∀ r : Option Nat, k ∈ L.map (·.2) → (ad = false → r.isSome = true) → Q (.there r) s) (no : k ∉ L.map (·.2) → Q (.free (way t.mask (k.hash w) N) false) s) :
    ∀ (f c : Nat) (stand : Option SetTable.Probe), stand.getD (t.probeStart (k.hash w)) = stepN t.mask (k.hash w) c → c ≤ N → N - c < f →
      (∀ (i : Nat) p, L[i]? = some p → p.2 = k → ∃ c', c ≤ c' ∧ c' < N ∧ t.place.toList[i]? = some (way t.mask (k.hash w) c')) →
      wpAny (model P w) A (setSearchFrom a (.ref x) (k.hash w) ad f stand) Q E s
  | 0, c, stand, _, _, hf, _ => absurd hf (Nat.not_lt_zero _)
  | f + 1, c, stand, hst, hc, hf, hre => by
    obtain ⟨o, ho, hex, hd⟩ := R.ob
    rw [setSearchFrom_succ]
    refine wpAny_bind (wpAny_setState_of ho hd R.fits ?_)
    dsimp only
    refine wp_if_neg (by unfold SetTable.gaveWay; rw [mask_odd R.tab.mok]; decide) ?_
    try refine wpAny_bind (wpAny_pure ?_)
    have ej : ∀ q, (nth t.mask (stepN t.mask (k.hash w) c) q).j = way t.mask (k.hash w) (c + q) := fun q => congrArg SetTable.Probe.j (step_add t.mask _ c q)
    have hashAt : ∀ (i : Nat) p, L[i]? = some p → (fun i => (es[i]?.map (·.1)).getD 0) i = p.2.hash w := fun i p hp => by
      show (es[i]?.map (·.1)).getD 0 = _
      rw [R.entry hp]
      rfl
    rcases go_spec t R.tab.ris R.tab.dm (fun i => (es[i]?.map (·.1)).getD 0) (k.hash w) (10 * SetTable.turns t.mask) (N - c) _ (step_dummy t.mask (k.hash w) c) (by omega)
      (fun q hq => by rw [ej]; exact hb (c + q) (by omega)) (by rw [ej, show c + (N - c) = N by omega]; exact he) with ⟨q, i, hq, hi, hh, hno, hpr⟩ | ⟨hno, hpr⟩
    · rw [ej] at hi
      have pr : t.probe (fun i => (es[i]?.map (·.1)).getD 0) (k.hash w) (stand.getD (t.probeStart (k.hash w))) = some (.candidate (way t.mask (k.hash w) (c + q)) i (stepN t.mask (k.hash w) (c + (q + 1)))) := by
        rw [hst, ← ej, ← step_add]
        exact hpr
      rw [pr]
      dsimp only
      have hil : i < L.length := by
        have h1 := (List.getElem?_eq_some_iff.mp hi).1
        have h2 := R.tab.sz
        rw [List.length_map] at h2
        rw [Array.length_toList] at h1
        omega
      obtain ⟨p, hp⟩ : ∃ p, L[i]? = some p := ⟨_, List.getElem?_eq_getElem hil⟩
      have hm : p ∈ L := List.mem_of_getElem? hp
      have hpt := R.tup p hm
      have rest : wpAny (model P w) A (searchRest a (.ref x) (k.hash w) ad f es t (way t.mask (k.hash w) (c + q)) i (stepN t.mask (k.hash w) (c + (q + 1)))) Q E s := by
        unfold searchRest
        rw [R.entry hp]
        dsimp only
        refine wpAny_bind (wpAny_holding ((nestedKind P w).eqBool hu hpt hx ?_))
        refine wpAny_bind (wpAny_setState_of ho hd R.fits ?_)
        dsimp only
        have hsl : t.slot (way t.mask (k.hash w) (c + q)) = .live i := slot_live R.tab.ris hi
        by_cases hkk : p.2 = k
        · have hin : k ∈ L.map (·.2) := List.mem_map.mpr ⟨p, hm, hkk⟩
          cases ad with
          | true =>
            refine wp_if_pos (by simp [hkk]) ?_
            exact wpAny_pure (yes none hin fun z => by cases z)
          | false =>
            refine wp_if_neg (by simp) ?_
            try refine wpAny_bind (wpAny_pure ?_)
            rw [sameMem]
            dsimp only
            simp only [if_true, hsl, R.entry hp]
            refine wpAny_bind (wpAny_isSame_ref_self (wpAny_bind (wpAny_pure ?_)))
            simp only [if_true]
            refine wp_if_pos (by simp [hkk]) ?_
            exact wpAny_pure (yes (some i) hin fun _ => rfl)
        · refine wp_if_neg (by simp [hkk]) ?_
          try refine wpAny_bind (wpAny_pure ?_)
          rw [sameMem]
          dsimp only
          simp only [if_true, hsl, R.entry hp]
          refine wpAny_bind (wpAny_isSame_ref_self (wpAny_bind (wpAny_pure ?_)))
          simp only [if_true]
          refine wp_if_neg (by simp [hkk]) ?_
          refine seek ad R hx hu hN he hb yes no f (c + (q + 1)) _ rfl (by omega) (by omega) fun i0 p0 h0 hk0 => ?_
          obtain ⟨c', a1, a2, a3⟩ := hre i0 p0 h0 hk0
          refine ⟨c', ?_, a2, a3⟩
          rcases Nat.lt_trichotomy c' (c + q) with z | z | z
          · refine absurd ((hashAt i0 p0 h0).trans (congrArg (NestedKey.hash w) hk0)) (hno (c' - c) i0 (by omega) ?_)
            rw [ej, show c + (c' - c) = c' by omega]
            exact a3
          · exfalso
            subst z
            have s0 := slot_live R.tab.ris a3
            rw [hsl] at s0
            injection s0 with s0
            rw [← s0, hp] at h0
            cases h0
            exact hkk hk0
          · omega
      by_cases hl : t.led = true
      · refine wp_if_neg (by simp [hl]) ?_
        try refine wpAny_bind (wpAny_pure ?_)
        exact rest
      · refine wp_if_pos (by simp [hl]) ?_
        refine wpAny_bind (unseen hx (fun y hy => ?_) ?_)
        · obtain ⟨e, he1, ee⟩ := List.mem_map.mp hy
          have he2 : e ∈ es.toList := by
            have : e ∈ es ∧ e.1 = k.hash w := by simpa using he1
            simpa using this.1
          rw [R.rows] at he2
          obtain ⟨p2, hp2, e2⟩ := List.mem_map.mp he2
          exact ⟨p2.2, p2.1, by rw [← ee, ← e2], R.tup p2 hp2⟩
        · refine wp_if_neg (by decide) ?_
          try refine wpAny_bind (wpAny_pure ?_)
          exact rest
    · have pr : t.probe (fun i => (es[i]?.map (·.1)).getD 0) (k.hash w) (stand.getD (t.probeStart (k.hash w))) = some (.empty (way t.mask (k.hash w) N) none) := by
        have e2 := ej (N - c)
        rw [show c + (N - c) = N by omega] at e2
        rw [hst, ← e2]
        exact hpr
      rw [pr]
      dsimp only
      refine wpAny_pure (no fun hm => ?_)
      obtain ⟨p0, h0, hk0⟩ := List.mem_map.mp hm
      obtain ⟨i0, e0⟩ := List.getElem?_of_mem h0
      obtain ⟨c', a1, a2, a3⟩ := hre i0 p0 e0 hk0
      refine hno (c' - c) i0 (by omega) (by rw [ej, show c + (c' - c) = c' by omega]; exact a3) ?_
      exact (hashAt i0 p0 e0).trans (congrArg (NestedKey.hash w) hk0)
/-- .. from its beginning -/
theorem seek_at (ad : Bool) (R : NSet w s.heap a L es ep t) {x : Addr} {k : NK} (hx : IsN s.heap k x) (hu : A.units + 8 < cLine) {Q : SetFound → Shared → Prop}
    (yes : ∀ r : Option Nat, k ∈ L.map (·.2) → (ad = false → r.isSome = true) → Q (.there r) s)
    (no : ∀ N, k ∉ L.map (·.2) → way t.mask (k.hash w) N ∉ t.place.toList → (∀ c, c < N → way t.mask (k.hash w) c ∈ t.place.toList) → Q (.free (way t.mask (k.hash w) N) false) s) :
    wpAny (model P w) A (setSearch a (.ref x) (k.hash w) ad) Q E s := by
  have hroom := R.room
  obtain ⟨N, hN, he, hb⟩ := R.tab.first (by rw [List.length_map]; omega) (k.hash w)
  have big : N < 100000 := by
    have : 10 * SetTable.turns t.mask ≤ 1420 := by
      unfold SetTable.turns
      rcases R.tab.mok with e | e | e <;> omega
    omega
  unfold setSearch
  refine seek ad R hx hu hN he hb yes (fun hn => no N hn he hb) 100000 0 none rfl (Nat.zero_le _) (by omega) fun i p hp hk => ?_
  have hi : (nhs w L)[i]? = some (k.hash w) := by
    rw [List.getElem?_map, hp, ← hk]
    rfl
  have hil : i < t.place.toList.length := by
    have h1 := (List.getElem?_eq_some_iff.mp hp).1
    have h2 := R.tab.sz
    rw [List.length_map] at h2
    rw [Array.length_toList]
    omega
  have hj := List.getElem?_eq_getElem hil
  obtain ⟨c, hc, e⟩ := R.tab.before he hi hj
  exact ⟨c, Nat.zero_le _, hc, by rw [hj, e]⟩
end
end Li
namespace Li
open PySem PySem.Spec PyProof.Rows L2
section
variable {P : Program} {w : World} {A : Around} {E : Value → Shared → Prop} {s : Shared}
theorem isN_same {h g : Heap} {k : NK} {a b : Addr} {o : Obj} {es : Array (Int × Value)} {ep : Nat} {t : SetTable} (x : IsN h k b) (ho : h.get? a = some o) (hd : o.data = .set es ep t) (sb : Heap.SameBut a h g) : IsN g k b :=
  x.move fun c o' vs n hc hq => (sb.2 c fun e => by
    subst e
    rw [ho] at hc
    cases hc
    rw [hd] at hq
    cases hq).trans hc
theorem filterMap_get {α : Type} (l : List α) : (List.range l.length).filterMap (fun i => l[i]?) = l := by
  induction l with
  | nil => rfl
  | cons x l ih =>
    rw [List.length_cons, List.range_succ_eq_map, List.filterMap_cons]
    simp only [List.getElem?_cons_zero, List.filterMap_map]
    congr 1
theorem nrows_get {L : List (Addr × NK)} {es : Array (Int × Value)} (hr : es.toList = nrows w L) (i : Nat) : es[i]? = (L[i]?).map fun p => (p.2.hash w, Value.ref p.1) := by
  rw [← Array.getElem?_toList, hr]
  unfold nrows
  rw [List.getElem?_map]
theorem nrows_order (L : List (Addr × NK)) (es : Array (Int × Value)) (order : Array Nat) (hr : es.toList = nrows w L) (hp : order.toList.Perm (List.range L.length)) :
    ∃ M, (order.filterMap (es[·]?)).toList = nrows w M ∧ M.Perm L ∧ nhs w M = order.toList.map fun i => (es.map (·.1)).getD i 0 := by
  refine ⟨order.toList.filterMap fun i => L[i]?, ?_, ?_, ?_⟩
  · rw [Array.toList_filterMap]
    unfold nrows
    rw [List.map_filterMap]
    congr 1
    funext i
    exact nrows_get hr i
  · have h1 := hp.filterMap fun i => L[i]?
    rw [filterMap_get] at h1
    exact h1
  · have all : ∀ i ∈ order.toList, i < L.length := fun i hi => List.mem_range.mp (hp.mem_iff.mp hi)
    unfold nhs
    rw [List.map_filterMap]
    generalize order.toList = l at all
    induction l with
    | nil => rfl
    | cons i l ih =>
      have hi := all i List.mem_cons_self
      obtain ⟨p, e⟩ : ∃ p, L[i]? = some p := ⟨_, List.getElem?_eq_getElem hi⟩
      rw [List.filterMap_cons, List.map_cons, ← ih fun j hj => all j (List.mem_cons_of_mem _ hj)]
      have e2 : (es.map (·.1))[i]? = some (p.2.hash w) := by
        rw [Array.getElem?_map, nrows_get hr, e]
        rfl
      rw [e]
      simp [Array.getD_eq_getD_getElem?, e2]
variable {a : Addr} {L : List (Addr × NK)} {es : Array (Int × Value)} {ep : Nat} {t : SetTable}
/-- laid anew, with more room -/
theorem relayN {o : Obj} (ho : s.heap.get? a = some o) (hex : o.ExactSet) (hd : o.data = .set es ep t) (hr : es.toList = nrows w L) (hsz : t.place.size = es.size) (hdm : t.dummies = #[]) (hfl : es.size ≤ t.mask)
    (nd : (L.map (·.2)).Nodup) (tup : ∀ p ∈ L, IsN s.heap p.2 p.1) (few : L.length < 64) {want M : Nat} (hw : SetTable.sizeAbove want - 1 = M) (hM : MaskOk M) (hw2 : SetTable.sizeAbove want ≤ 128) (hn : L.length * 5 < M * 3) {Q : Unit → Shared → Prop}
    (hQ : ∀ g L' es' ep' t', Heap.SameBut a s.heap g → NSet w g a L' es' ep' t' → L'.Perm L → Q () { s with heap := g }) : wpAny (model P w) A (setRelay a want) Q E s := by
  have hsl : es.size = L.length := by
    have e := congrArg List.length hr
    simpa [nrows] using e
  have hfits : t.fits es.size = true := by
    unfold SetTable.fits SetTable.fill
    rw [hdm, Bool.and_eq_true, beq_iff_eq, decide_eq_true_eq]
    refine ⟨hsz, ?_⟩
    show t.place.size + 0 ≤ t.mask
    omega
  obtain ⟨t', order, e, hp, T, em, el, ep', ed⟩ := relaid_ok t (hs := es.map (·.1)) (wanted := want) hw hM (by rw [Array.size_map, hsl]; omega)
  rw [Array.size_map, hsl] at hp
  obtain ⟨L2, r1, r2, r3⟩ := nrows_order L es order hr hp
  rw [← r3] at T
  have hs2 : (order.filterMap (es[·]?)).size = es.size := by
    rw [← Array.length_toList, r1, hsl, ← r2.length_eq]
    simp [nrows]
  rw [setRelay_eq]
  refine wpAny_bind (wpAny_setState_of ho hd hfits ?_)
  dsimp only
  refine wp_if_neg (by rw [sizeLine_eq]; omega) ?_
  try refine wpAny_bind (wpAny_pure ?_)
  rw [e]
  dsimp only
  refine wpAny_bind ?_
  refine wp_if_neg (by rw [hs2]; simp) ?_
  try refine wpAny_bind (wpAny_pure ?_)
  refine wpAny_pure ?_
  dsimp only
  refine wpAny_storeSet_of ho hd ?_ (by rw [hs2, hsl, sizeLine_eq]; omega)
  have sb : Heap.SameBut a s.heap (s.heap.update a (Obj.putSet (order.filterMap (es[·]?)) t')) := Heap.SameBut.update ..
  refine hQ _ L2 (order.filterMap (es[·]?)) (ep + 1) t' sb ⟨⟨_, store_at ho hd, ⟨hex.1, hex.2.1, hex.2.2⟩, rfl⟩, r1, T, (r2.map (·.2)).nodup_iff.mpr nd, fun p hpm => isN_same (tup p (r2.mem_iff.mp hpm)) ho hd sb, ?_, by rw [r2.length_eq]; exact few⟩ r2
  rw [r2.length_eq, em]
  exact hn
theorem nrows_put (L : List (Addr × NK)) (p : Nat) (x : Addr) (k : NK) : nrows w (L.take p ++ (x, k) :: L.drop p) = (nrows w L).take p ++ (k.hash w, Value.ref x) :: (nrows w L).drop p := by
  simp [nrows, List.map_take, List.map_drop]
/-- one is put in -/
theorem putN (R : NSet w s.heap a L es ep t) {x : Addr} {k : NK} (hx : IsN s.heap k x) (hu : A.units + 8 < cLine) (hfew : L.length + 1 < 64) {Q : Bool → Shared → Prop}
    (hQ : ∀ b g L' es' ep' t', Heap.SameBut a s.heap g → NSet w g a L' es' ep' t' → (k ∈ L.map (·.2) → L' = L) → (k ∉ L.map (·.2) → L'.Perm ((x, k) :: L)) → Q b { s with heap := g }) :
    wpAny (model P w) A (setAddHashed a (.ref x) (k.hash w)) Q E s := by
  obtain ⟨o, ho, hex, hd⟩ := R.ob
  have hsl := R.size
  have hroom := R.room
  unfold setAddHashed
  refine wpAny_holding ?_
  rw [show (100000 : Nat) = 99999 + 1 from rfl, setAddHashedIn_succ]
  refine wpAny_bind (wpAny_setState_of ho hd R.fits ?_)
  dsimp only
  refine wp_if_neg (by simp [byScan, Value.scannable]) ?_
  try refine wpAny_bind (wpAny_pure ?_)
  refine wpAny_bind (seek_at true R hx hu (fun r hm _ => ?_) fun N hm hK hb => ?_)
  · dsimp only
    exact wpAny_pure (hQ false s.heap L es ep t (Heap.SameBut.refl a s.heap) R (fun _ => rfl) fun z => absurd hm z)
  · dsimp only
    refine wpAny_bind (wpAny_setState_of ho hd R.fits ?_)
    dsimp only
    obtain ⟨q1, q2, q3, q4, q5, q6, q7, q8, q9⟩ := R.tab.put hK hb
    generalize hpt : t.put (way t.mask (k.hash w) N) = pt at q1 q3 q4 q5 q6 q7 q8 q9 ⊢
    obtain ⟨t1, p⟩ := pt
    dsimp only at q1 q3 q4 q5 q6 q7 q8 q9 ⊢
    subst q1
    have hin : (SetTable.insertAt es (SetTable.below t.place (way t.mask (k.hash w) N)) (k.hash w, Value.ref x)).toList = nrows w (L.take (SetTable.below t.place (way t.mask (k.hash w) N)) ++ (x, k) :: L.drop (SetTable.below t.place (way t.mask (k.hash w) N))) := by
      rw [SetTable.toList_insertAt, nrows_put, R.rows]
    generalize hpp : SetTable.below t.place (way t.mask (k.hash w) N) = p at q2 q3 hin ⊢
    have pm := put_perm L p (x, k)
    have hlen : (L.take p ++ (x, k) :: L.drop p).length = L.length + 1 := pm.length_eq
    have hhs : nhs w (L.take p ++ (x, k) :: L.drop p) = (nhs w L).take p ++ k.hash w :: (nhs w L).drop p := by
      simp [nhs, List.map_take, List.map_drop]
    rw [← hhs] at q3
    have nd1 : ((L.take p ++ (x, k) :: L.drop p).map (·.2)).Nodup := by
      refine (pm.map (·.2)).nodup_iff.mpr ?_
      rw [List.map_cons]
      exact List.nodup_cons.mpr ⟨hm, R.nd⟩
    have hes : (SetTable.insertAt es p (k.hash w, Value.ref x)).size = L.length + 1 := by
      have e := congrArg List.length hin
      rw [← hlen]
      simpa [nrows] using e
    generalize SetTable.insertAt es p (k.hash w, Value.ref x) = es1 at hin hes ⊢
    generalize L.take p ++ (x, k) :: L.drop p = L1 at pm hlen q3 nd1 hin
    have main : ∀ t2 : SetTable, TabOk t2 (nhs w L1) → t2.mask = t.mask → t2.fill = (nhs w L).length + 1 → wpAny (model P w) A (do
        storeSet a es1 t2
        if !false && t2.tooFull then setRelay a (SetTable.grown (es.size + 1))
        return true) Q E s := by
      intro t2 T2 em2 ef2
      refine wpAny_bind (wpAny_storeSet_of ho hd ?_ (by rw [hes, sizeLine_eq]; omega))
      have sb : Heap.SameBut a s.heap (s.heap.update a (Obj.putSet es1 t2)) := Heap.SameBut.update ..
      have ho1 := store_at (es' := es1) (t' := t2) ho hd
      generalize s.heap.update a (Obj.putSet es1 t2) = h1 at sb ho1 ⊢
      have tup1 : ∀ p ∈ L1, IsN h1 p.2 p.1 := fun p hp => by
        rcases List.mem_cons.mp (pm.mem_iff.mp hp) with e | hp
        · rw [e]; exact isN_same hx ho hd sb
        · exact isN_same (R.tup p hp) ho hd sb
      by_cases hf : t2.tooFull = true
      · first
          | (refine wpAny_bind ?_; refine wp_if_pos (by simp [hf]) ?_)
          | (refine wp_if_pos (by simp [hf]) ?_; refine wpAny_bind ?_)
        have hfull : (L.length + 1) * 5 ≥ t2.mask * 3 := by
          have e := hf
          unfold SetTable.tooFull at e
          rw [decide_eq_true_eq, ef2, List.length_map] at e
          exact e
        rw [hsl]
        have hsz1 : t2.place.size = es1.size := by
          have e := T2.sz
          rw [List.length_map, hlen] at e
          rw [e, hes]
        have cases2 : (t.mask = 7 ∧ L.length = 4) ∨ (t.mask = 31 ∧ L.length = 18) := by
          rcases R.tab.mok with e | e | e
          · left; rw [em2, e] at hfull; rw [e] at hroom; exact ⟨e, by omega⟩
          · right; rw [em2, e] at hfull; rw [e] at hroom; exact ⟨e, by omega⟩
          · exfalso; rw [em2, e] at hfull; omega
        have go : ∀ M, SetTable.sizeAbove (SetTable.grown (L.length + 1)) - 1 = M → MaskOk M → SetTable.sizeAbove (SetTable.grown (L.length + 1)) ≤ 128 → (L.length + 1) * 5 < M * 3 →
            wpAny (model P w) A (setRelay a (SetTable.grown (L.length + 1))) (fun _ s' => wpAny (model P w) A (pure true) Q E s') E { s with heap := h1 } := fun M h1' h2' h3' h4' => by
          refine relayN (s := { s with heap := h1 }) ho1 ⟨hex.1, hex.2.1, hex.2.2⟩ rfl hin hsz1 T2.dm (by rw [hes, em2]; rcases cases2 with ⟨e, e2⟩ | ⟨e, e2⟩ <;> omega) nd1 tup1 (by rw [hlen]; exact hfew) h1' h2' h3' (by rw [hlen]; exact h4') ?_
          intro h2 L2 es2 ep2 t3 sb2 R2 pm2
          exact wpAny_pure (hQ true h2 L2 es2 ep2 t3 (sb.trans sb2) R2 (fun z => absurd z hm) fun _ => pm2.trans pm)
        rcases cases2 with ⟨_, e2⟩ | ⟨_, e2⟩
        · exact go 31 (by rw [e2, size_20]) (.inr (.inl rfl)) (by rw [e2, size_20]; decide) (by omega)
        · exact go 127 (by rw [e2, size_76]) (.inr (.inr rfl)) (by rw [e2, size_76]; decide) (by omega)
      · first
          | refine wp_if_neg (by simp [hf]) ?_
          | (refine wpAny_bind ?_; refine wp_if_neg (by simp [hf]) ?_; refine wpAny_pure ?_)
        refine wpAny_pure (hQ true h1 L1 es1 (ep + 1) t2 sb ⟨⟨_, ho1, ⟨hex.1, hex.2.1, hex.2.2⟩, rfl⟩, hin, T2, nd1, tup1, ?_, by rw [hlen]; exact hfew⟩ (fun z => absurd z hm) fun _ => pm)
        have e := hf
        unfold SetTable.tooFull at e
        rw [decide_eq_true_eq, ef2, List.length_map] at e
        rw [hlen]
        omega
    by_cases hpl : t1.plain = true
    · refine wp_if_pos hpl (wpAny_bind (hashT_key k _ 8 hx.1 hx.2 _ _ _ fun b => ?_))
      cases b with
      | true =>
        simp only [if_true]
        exact main t1 q3 q4 q9
      | false =>
        simp only [Bool.false_eq_true, if_false]
        exact main { t1 with plain := false } ⟨q3.ris, q3.dm, q3.sz, q3.mok, q3.bd, q3.reach⟩ q4 q9
    · refine wp_if_neg hpl (wpAny_bind (wpAny_pure ?_))
      simp only [if_true]
      exact main t1 q3 q4 q9
end
end Li
namespace Li
open PySem PySem.Spec PyProof.Rows L2
/-- the set at a, the tuples themselves apart -/
def NSet0 (w : World) (h : Heap) (a : Addr) (L : List (Addr × NK)) : Prop := ∃ (es : Array (Int × Value)) (ep : Nat) (t : SetTable), (∃ o, h.get? a = some o ∧ o.ExactSet ∧ o.data = .set es ep t) ∧ es.toList = nrows w L ∧ TabOk t (nhs w L) ∧ (L.map (·.2)).Nodup ∧ L.length * 5 < t.mask * 3 ∧ L.length < 64
def NsO (w : World) (a : Addr) (L : List (Addr × NK)) : HO := .ext fun h => NSet0 w h a L
theorem NSet.out {w : World} {h : Heap} {a : Addr} {L : List (Addr × NK)} {es : Array (Int × Value)} {ep : Nat} {t : SetTable} (R : NSet w h a L es ep t) : NSet0 w h a L := ⟨es, ep, t, R.ob, R.rows, R.tab, R.nd, R.room, R.few⟩
theorem NSet0.full {w : World} {h : Heap} {a : Addr} {L : List (Addr × NK)} (R : NSet0 w h a L) (ht : ∀ p ∈ L, IsN h p.2 p.1) : ∃ es ep t, NSet w h a L es ep t := by
  obtain ⟨es, ep, t, h1, h2, h3, h4, h5, h6⟩ := R
  exact ⟨es, ep, t, h1, h2, h3, h4, ht, h5, h6⟩
theorem nsO_ok {P : Program} {w : World} {H : Hp} {h : Heap} {a : Addr} {L : List (Addr × NK)} (R : NSet0 w h a L) : ObjOk P w H h a (NsO w a L) := by
  obtain ⟨es, ep, t, ⟨o, ho, r⟩, q⟩ := id R
  refine ⟨R, ⟨o, ho⟩, fun h1 h2 p k => ?_⟩
  obtain ⟨es', ep', t', ⟨o', ho', r'⟩, q'⟩ : NSet0 w h1 a L := p
  exact ⟨es', ep', t', ⟨o', k o' ho', r'⟩, q'⟩
mutual
/-- the value is the key -/
inductive NV (K : PySem.W.Frag) (H : Hp) : NK → V → Prop
  | non : NV K H .none .non
  | bl (b : Bool) : NV K H (.num (if b = true then 1 else 0)) (.bl b)
  | int (i : Int) : NV K H (.num i) (.int i)
  | str (x : Str) : NV K H (.text x) (.str x)
  | tup {a : Addr} {vs : List V} {ks : List NK} : SqT K H a vs → NVs K H ks vs → NV K H (.tup ks) (.ref a)
inductive NVs (K : PySem.W.Frag) (H : Hp) : List NK → List V → Prop
  | nil : NVs K H [] []
  | cons {k : NK} {v : V} {ks : List NK} {vs : List V} : NV K H k v → NVs K H ks vs → NVs K H (k :: ks) (v :: vs)
end
section
variable {K : PySem.W.Frag} {H H' : Hp}
mutual
theorem NV.mono (q : ∀ a xs, SqT K H a xs → SqT K H' a xs) : ∀ {k : NK} {v : V}, NV K H k v → NV K H' k v
  | _, _, .non => .non
  | _, _, .bl b => .bl b
  | _, _, .int i => .int i
  | _, _, .str x => .str x
  | _, _, .tup h1 h2 => .tup (q _ _ h1) (NVs.mono q h2)
theorem NVs.mono (q : ∀ a xs, SqT K H a xs → SqT K H' a xs) : ∀ {ks : List NK} {vs : List V}, NVs K H ks vs → NVs K H' ks vs
  | _, _, .nil => .nil
  | _, _, .cons h1 h2 => .cons (NV.mono q h1) (NVs.mono q h2)
end
end
section
variable {X : Cx} {pins : List (Addr × Obj)} {σ : L2.St} {H : Hp} {s : Shared}
mutual
theorem nv_is (I : Inv X pins σ H s) : ∀ {k : NK} {v : V} {u : Value}, NV X.K H k v → RelV v u → NestedIs s.heap k u
  | _, _, _, .non, r => by cases r; exact .none
  | _, _, _, .bl b, r => by cases r; exact .bool rfl
  | _, _, _, .int i, r => by obtain ⟨t, rfl⟩ := r; exact .int i t
  | _, _, _, .str x, r => by obtain ⟨t, rfl⟩ := r; exact .text x t
  | _, _, _, .tup h1 h2, r => by
    obtain rfl := r
    obtain ⟨its, rv, ⟨o, ho, hc, n, hd⟩, _⟩ := I.tuple h1
    exact .tup ho hc hd (nvs_is I h2 rv)
theorem nvs_is (I : Inv X pins σ H s) : ∀ {ks : List NK} {vs : List V} {us : List Value}, NVs X.K H ks vs → Vals vs us → NestedAll s.heap ks us
  | _, _, _, .nil, r => by cases r; exact .nil
  | _, _, _, .cons h1 h2, r => by
    cases r with
    | cons r1 r2 => exact .cons (nv_is I h1 r1) (nvs_is I h2 r2)
end
theorem nv_all (I : Inv X pins σ H s) {L : List (Addr × NK)} (h : ∀ p ∈ L, NV X.K H p.2 (.ref p.1) ∧ p.2.depth ≤ 8) : ∀ p ∈ L, IsN s.heap p.2 p.1 := fun p hp => ⟨nv_is I (h p hp).1 rfl, (h p hp).2⟩
/-- set() -/
def rNset (w : World) : List V → Hp → VK → Prop := fun xs H Q => xs = [] ∧ ∀ p, H p = none → Q (.ref p) (upd H p (NsO w p []))
theorem cr_nset : CallR X (.type "set") (rNset X.w) := by
  intro pins s σ H xs us Q I r h
  obtain ⟨rfl, q⟩ := h
  cases r
  refine setR_new fun _ => ?_
  have new : NSet0 X.w (s.heap.push { cls := .type "set", dict := none, data := .set #[] 0 (.fresh 0 0 (!X.w.params.followText "set-order")) }) s.heap.objs.size [] :=
    ⟨#[], 0, _, ⟨_, Heap.get?_push_size _ rfl, ⟨rfl, rfl, rfl⟩, rfl⟩, rfl, ⟨List.Pairwise.nil, rfl, rfl, .inl rfl, fun x hx => (by cases hx), fun i h j hi => (by simp at hi)⟩, List.nodup_nil, (by show 0 * 5 < 7 * 3; decide), (by show 0 < 64; decide)⟩
  exact ⟨.ref _, upd H s.heap.objs.size (NsO X.w s.heap.objs.size []), I.laid (t' := s.toks) (fun b u e => Heap.get?_push_of_some _ e) (Nat.le_refl _) (nsO_ok new), rfl, q _ (I.hok.fresh (Nat.le_refl _))⟩
/-- what is asked of a set -/
def NsAt (K : PySem.W.Frag) (w : World) (H : Hp) (a : Addr) (L : List (Addr × NK)) : Prop := H a = some (NsO w a L) ∧ ∀ p ∈ L, NV K H p.2 (.ref p.1) ∧ p.2.depth ≤ 8
theorem NsAt.full (I : Inv X pins σ H s) {a : Addr} {L : List (Addr × NK)} (h : NsAt X.K X.w H a L) : ∃ es ep t, NSet X.w s.heap a L es ep t := NSet0.full (show NSet0 X.w s.heap a L from (I.hok a _ h.1).1) (nv_all I h.2)
/-- s.add(y) -/
def rNadd (K : PySem.W.Frag) (w : World) : V → V → Hp → VK → Prop := fun x y H Q => ∃ a b k L, x = .ref a ∧ y = .ref b ∧ NsAt K w H a L ∧ NV K H k (.ref b) ∧ k.depth ≤ 8 ∧ L.length + 1 < 64 ∧
  ∀ M, (k ∈ L.map (·.2) → M = L) → (k ∉ L.map (·.2) → M.Perm ((b, k) :: L)) → Q .non (upd H a (NsO w a M))
theorem mt_nadd (hu : X.A.units + 9 < cLine) {x y : V} {v u : Value} {Q : VK} (I : Inv X pins σ H s) (rx : RelV x v) (ry : RelV y u) (h : rNadd X.K X.w x y H Q) :
    wpAny (model X.prog X.w) X.A (call (.builtin "set.add") [v, u]) (EP X pins σ Q) X.xe s := by
  obtain ⟨a, b, k, L, rfl, rfl, hs, hk, hd, few, q⟩ := h
  obtain rfl := rx
  obtain rfl := ry
  obtain ⟨es, ep, t, R⟩ := hs.full I
  obtain ⟨o, ho, hex, hdt⟩ := R.ob
  have hx : IsN s.heap k b := ⟨nv_is I hk rfl, hd⟩
  have hT : s.TypeIs (.ref a) "set" := ⟨o, ho, hex.1⟩
  refine wpAny_call_entry F.slot_set_add hT F.entry_set_add ?_ (F.args_set_add_2 _ _)
  unfold Builtin.«set.add» Builtin.Frozenset.oneOther
  simp only [List.isEmpty_nil, bind_assoc]
  unfold Builtin.Frozenset.addrOf setAdd
  refine wpAny_bind (wpAny_pure ?_)
  try dsimp only
  refine wpAny_bind (wpAny_pure ?_)
  try dsimp only
  refine wpAny_bind ?_
  refine wpAny_holding ?_
  have hd8 := hd
  have hu2 : X.A.in1.units + 8 < cLine := by
    simp only [Around.in1_units]
    omega
  refine wpAny_bind (pyHash_key k _ _ _ _ hx.1 (by omega) ?_)
  have R2 : NSet X.w (Shared.heap { s with toks := s.toks + k.draws }) a L es ep t := R
  refine putN (s := { s with toks := s.toks + k.draws }) R2 hx hu2 few fun c g M es' ep' t' sb R' h1 h2 => ?_
  show wpAny _ _ (ret Value.none) _ _ _
  refine wpAny_pure ⟨_, rfl, .non, upd H a (NsO X.w a M), I.write (e := a) (t' := s.toks + k.draws) (by rw [hs.1]; trivial) (.inl rfl) (fun c u hc hu => (sb.2 c hc).trans hu) (by obtain ⟨o', ho', _⟩ := R'.ob; exact ⟨o', ho'⟩) (nsO_ok R'.out), rfl, q M h1 h2⟩
/-- y in s, y not in s -/
def rNin (K : PySem.W.Frag) (w : World) (neg : Bool) : V → V → Hp → VK → Prop := fun y x H Q => ∃ a b k L, x = .ref a ∧ y = .ref b ∧ NsAt K w H a L ∧ NV K H k (.ref b) ∧ k.depth ≤ 8 ∧ Q (.bl (decide (k ∈ L.map (·.2)) != neg)) H
theorem setFindIn_succ (a : Addr) (x : Value) (h : Int) (fuel : Nat) : setFindIn a x h (fuel + 1) = (do
    let (es, _, _) ← setState a
    if byScan x es then
      rule "set.find.by-scan"
      match ← setScan a x h false es with
      | .found i => return some i
      | .absent => return none
      | .anew => return ← setFindIn a x h fuel
    match ← setSearch a x h with
    | .there i => return i
    | .free .. => return none) := by rfl
theorem findN {P : Program} {w : World} {A : Around} {E : Value → Shared → Prop} {a : Addr} {L : List (Addr × NK)} {es : Array (Int × Value)} {ep : Nat} {t : SetTable} (R : NSet w s.heap a L es ep t) {x : Addr} {k : NK} (hx : IsN s.heap k x) (hu : A.units + 8 < cLine) {Q : Option Nat → Shared → Prop}
    (h : ∀ r : Option Nat, r.isSome = decide (k ∈ L.map (·.2)) → Q r s) : wpAny (model P w) A (setFind a (.ref x) (k.hash w)) Q E s := by
  obtain ⟨o, ho, hex, hd⟩ := R.ob
  unfold setFind
  rw [show (100000 : Nat) = 99999 + 1 from rfl, setFindIn_succ]
  refine wpAny_bind (wpAny_setState_of ho hd R.fits ?_)
  dsimp only
  refine wp_if_neg (by simp [byScan, Value.scannable]) ?_
  try refine wpAny_bind (wpAny_pure ?_)
  refine wpAny_bind (seek_at false R hx hu (fun r hm hr => ?_) fun N hm _ _ => ?_)
  · dsimp only
    exact wpAny_pure (h r (by rw [hr rfl, decide_eq_true hm]))
  · dsimp only
    exact wpAny_pure (h none (by rw [decide_eq_false hm]; rfl))
theorem contains_nset (hu : X.A.units + 9 < cLine) {a b : Addr} {k : NK} {L : List (Addr × NK)} {Q : Bool → Shared → Prop} (I : Inv X pins σ H s) (hs : NsAt X.K X.w H a L) (hk : NV X.K H k (.ref b)) (hd : k.depth ≤ 8)
    (h : Q (decide (k ∈ L.map (·.2))) { s with toks := s.toks + k.draws }) : wpAny (model X.prog X.w) X.A (contains (.ref a) (.ref b)) Q X.xe s := by
  obtain ⟨es, ep, t, R⟩ := hs.full I
  obtain ⟨o, ho, hex, hdt⟩ := R.ob
  have hx : IsN s.heap k b := ⟨nv_is I hk rfl, hd⟩
  have hT : s.TypeIs (.ref a) "set" := ⟨o, ho, hex.1⟩
  unfold contains
  try with_reducible refine wpAny_holding ?_
  refine wpAny_bind (wpAny_specialOf hT F.slot_set_contains.lookup ?_)
  show wpAny _ _ (if (some (Value.builtin "set.__contains__") == some Value.none) = true then _ else _) _ _ s
  rw [if_neg (by rw [beq_builtin_none]; exact Bool.false_ne_true)]
  refine wpAny_bind (wpAny_callSpecialUnlessNone?_slot (name := Str.ofString "__contains__") hT F.slot_set_contains
    (wpAny_call_entry F.slot_set_contains hT entry_set_contains ?_ (F.args_set_contains_2 _ _)))
  unfold Builtin.«frozenset.__contains__» Builtin.Frozenset.oneOther
  simp only [List.isEmpty_nil, bind_assoc]
  unfold Builtin.Frozenset.addrOf Builtin.Frozenset.withSetAsKey setContains
  refine wpAny_bind (wpAny_pure ?_)
  try dsimp only
  refine wpAny_bind (wpAny_pure ?_)
  try dsimp only
  refine wpAny_bind (wpAny_tryCatch ?_)
  refine wpAny_holding ?_
  have hu2 : X.A.in1.units + 8 < cLine := by
    simp only [Around.in1_units]
    omega
  refine wpAny_bind (pyHash_key k _ _ _ _ hx.1 (by omega) ?_)
  refine wpAny_bind (findN (s := { s with toks := s.toks + k.draws }) (L := L) R hx hu2 fun r hr => ?_)
  refine wpAny_pure ?_
  show wpAny _ _ (ret (Value.bool r.isSome)) _ _ _
  rw [hr]
  exact wpAny_pure ⟨_, rfl, wpAny_truthy_bool h⟩
theorem or_nin (hu : X.A.units + 9 < cLine) (neg : Bool) : OpR X (compareOp (if neg then .NotIn else .In)) (rNin X.K X.w neg) := by
  intro pins s σ H x y v u Q I rx ry ⟨a, b, k, L, e1, e2, hs, hk, hd, q⟩
  subst e1
  subst e2
  obtain rfl : u = Value.ref a := ry
  obtain rfl : v = Value.ref b := rx
  cases neg
  · show wpAny _ _ (do return Value.bool (← contains (.ref a) (.ref b))) _ _ s
    refine wpAny_bind (contains_nset hu I hs hk hd ?_)
    refine wpAny_pure ⟨.bl (decide (k ∈ L.map fun p : Addr × NK => p.2)), H, I.tok _, rfl, ?_⟩
    simpa using q
  · show wpAny _ _ (do return Value.bool (!(← contains (.ref a) (.ref b)))) _ _ s
    refine wpAny_bind (contains_nset hu I hs hk hd ?_)
    refine wpAny_pure ⟨.bl (!decide (k ∈ L.map fun p : Addr × NK => p.2)), H, I.tok _, rfl, ?_⟩
    simpa using q
end
end Li
namespace Li
open PySem PySem.Spec PyProof.Rows L2 RT
theorem rt_nolen : typeLookup (.type "reversed") "__len__" = pure none := by rw [typeLookup_type, builtinLookup_eq_fast]; kernel_rfl
theorem rt_hint : Slot "reversed" "__length_hint__" "reversed.__length_hint__" :=
  .of (owner := "reversed") (n := "__length_hint__") (by rw [typeLookup_type, builtinLookup_eq_fast]; kernel_rfl) (by decide +kernel) (by decide +kernel) (by decide +kernel)
    (by first | exact .inl (by decide +kernel) | exact .inr (by decide +kernel)) (by rw [isSubtype_type]; kernel_rfl)
theorem rt_hint_entry : entryFor table "reversed.__length_hint__" = some Builtin.«reversed.__length_hint__» := entryFor_of_tree (by kernel_rfl)
theorem rt_hint_args (a : Value) : argsOk "reversed.__length_hint__" ⟨[a], []⟩ := by
  unfold argsOk
  rw [signature?_of (id := "reversed.__length_hint__") (n := ['_', '_', 't', 'n', 'i', 'h', '_', 'h', 't', 'g', 'n', 'e', 'l', '_', '_']) (o := ['d', 'e', 's', 'r', 'e', 'v', 'e', 'r']) (by kernel_rfl) owner_rt]
  kernel_rfl
theorem rt_sub : isSubtype (.type "reversed") (.type "reversed") = pure true := by rw [isSubtype_type]; kernel_rfl
section
variable {P : Program} {w : World} {A : Around} {E : Value → Shared → Prop} {s : Shared}
/-- what is drawn from reversed(tuple) -/
theorem rt_draw {r t : Addr} {i : Nat} {its : Array Value} {x : Value} {Q : Value → Shared → Prop} (hit : IsRt s.heap r t (i : Int)) (ht : IsTup s.heap t its) (hx : its[i]? = some x) (hz : its.size ≤ sizeLine)
    (q : ∀ g, IsRt g r t ((i : Int) - 1) → Heap.SameBut r s.heap g → Q x { s with heap := g, toks := s.toks + 1 }) : wpAny (model P w) A (Builtin.SmallTypes.nextOf (.ref r)) Q E s := by
  obtain ⟨o, ho, hc, hd⟩ := id hit
  have hi := (Array.getElem?_eq_some_iff.mp hx).1
  rw [sizeLine_eq] at hz
  unfold Builtin.SmallTypes.nextOf
  refine wpAny_bind (wpAny_callSpecial?_slot (name := Str.ofString "__next__") hit.typeIs slot_rt_next (wpAny_call_entry slot_rt_next hit.typeIs entry_rt_next ?_ (args_rt_next _)))
  unfold Builtin.«reversed.__next__»
  refine wpAny_bind (wpAny_of_eq (a := (Value.ref r, [])) rfl ?_)
  try dsimp only
  refine wpAny_bind (wpAny_field ho hd (x := .ref t) rfl ?_)
  try dsimp only
  refine wpAny_bind (wpAny_field ho hd (x := rawInt (i : Int)) rfl ?_)
  show wpAny _ _ (if (i : Int) < 0 then _ else _) _ _ s
  rw [if_neg (by omega)]
  try dsimp only
  refine wpAny_bind (wpAny_specialOf (IsTup.typeOf' ht) get_tuple ?_)
  try dsimp only
  try rw [if_neg (by decide)]
  try dsimp only
  refine wpAny_bind (wpAny_mkInt ?_)
  refine wpAny_bind (wpAny_attempt ?_)
  have fin : seqIndex? (i : Int) its.size = some i := seqIndex_of (by omega) (by omega)
  refine PyProof.Rows.getItem_tuple (s := { s with toks := s.toks + 1 }) ht (by omega) (by omega) fin hx ?_
  try dsimp only
  refine wpAny_bind (wpAny_field (s := { s with toks := s.toks + 1 }) ho hd (x := rawInt (i : Int)) rfl ?_)
  try dsimp only
  refine wpAny_bind (wpAny_setField (s := { s with toks := s.toks + 1 }) ho hd (by simp) ?_)
  have nw : IsRt (s.heap.update r (Obj.mapFields (·.setIfInBounds 1 (rawInt ((i : Int) - 1))))) r t ((i : Int) - 1) := ⟨_, Heap.get?_update_self _ ho (Obj.isFreed_of_fields (Obj.data_mapFields hd _)), (Obj.cls_mapFields ..).trans hc, by
    rw [Obj.data_mapFields hd]
    simp⟩
  first
  | exact wpAny_pure ⟨x, rfl, wpAny_pure (q _ nw (Heap.SameBut.update ..))⟩
  | exact wpAny_bind (wpAny_pure (wpAny_pure ⟨x, rfl, wpAny_pure (q _ nw (Heap.SameBut.update ..))⟩))
theorem rt_dry {r t : Addr} {Q : Value → Shared → Prop} (hh : A.handled = none) (hit : IsRt s.heap r t (-1))
    (q : ∀ g e, Heap.ExtBut r s.heap g → (∃ o, g.get? e = some o ∧ o.cls = .type "StopIteration") → E (.ref e) { s with heap := g }) : wpAny (model P w) A (Builtin.SmallTypes.nextOf (.ref r)) Q E s := by
  obtain ⟨o, ho, hc, hd⟩ := id hit
  unfold Builtin.SmallTypes.nextOf
  refine wpAny_bind (wpAny_callSpecial?_slot (name := Str.ofString "__next__") hit.typeIs slot_rt_next (wpAny_call_entry slot_rt_next hit.typeIs entry_rt_next ?_ (args_rt_next _)))
  unfold Builtin.«reversed.__next__»
  refine wpAny_bind (wpAny_of_eq (a := (Value.ref r, [])) rfl ?_)
  try dsimp only
  refine wpAny_bind (wpAny_field ho hd (x := .ref t) rfl ?_)
  try dsimp only
  refine wpAny_bind (wpAny_field ho hd (x := rawInt (-1)) rfl ?_)
  show wpAny _ _ (if (-1 : Int) < 0 then _ else _) _ _ s
  rw [if_pos (by decide)]
  try dsimp only
  refine wpAny_bind (wpAny_rule ?_)
  refine wpAny_bind ?_
  wp_delta
  refine wpAny_bind (wpAny_setField ho hd (by simp) ?_)
  have ho2 := Heap.get?_update_self (Obj.mapFields (·.setIfInBounds 1 (rawInt (-1)))) ho (Obj.isFreed_of_fields (Obj.data_mapFields hd _))
  refine wpAny_setField (s := { s with heap := s.heap.update r (Obj.mapFields (·.setIfInBounds 1 (rawInt (-1)))) }) ho2 (Obj.data_mapFields hd _) (by simp) ?_
  try dsimp only
  first
  | show wpAny _ _ (newExc (.type "StopIteration") [] >>= _) _ _ _
  | (refine wpAny_bind ?_; show wpAny _ _ (newExc (.type "StopIteration") [] >>= _) _ _ _)
  | (refine wpAny_bind ?_; wp_delta; show wpAny _ _ (newExc (.type "StopIteration") [] >>= _) _ _ _)
  refine wpAny_bind ?_
  simp only [newExc, newTuple]
  refine wpAny_bind (wpAny_newObj_type ?_ (by size_fits))
  refine wpAny_bind (m := firstArgMember _ _) (wpAny_of_eq (a := Value.none) (by first | rfl | (simp only [firstArgMember]; rfl)) ?_)
  refine wpAny_newObj_type ?_ (by size_fits)
  simp only [raiseNew]
  refine wpAny_bind (wpAny_handled ?_)
  first | rw [show A.in1.handled = none from hh] | rw [hh]
  refine wpAny_bind (wpAny_pure (wpAny_throw ?_))
  refine q _ _ ?_ ⟨_, Heap.get?_push_size _ rfl, rfl⟩
  exact (((Heap.SameBut.update ..).trans (Heap.SameBut.update ..)).extBut.push _).push _
end
end Li
namespace Li
open PySem PySem.Spec PyProof.Rows L2 RT
section
variable {P : Program} {w : World} {A : Around} {E : Value → Shared → Prop} {s : Shared}
/-- an iterator over the tuple at a, whose i-th item stands at the place f i -/
structure TSrc (P : Program) (w : World) (it a : Addr) (n : Nat) (f : Nat → Nat) (Tn : Nat → Heap → Prop) : Prop where
  draws : ∀ (A : Around) (its : Array Value), A.handled = none → its.size = n → its.size ≤ sizeLine → a ≠ it → Draws P w A it [it, a] n (fun i v => its[f i]? = some v) (fun i h => Tn i h ∧ h.IsTuple a its)
  cell : ∀ i h, Tn i h → ∃ o vs, h.get? it = some o ∧ o.data = .fields vs
  keep : ∀ i h g, Tn i h → (∀ o, h.get? it = some o → g.get? it = some o) → Tn i g
theorem src_tuple (it a : Addr) (n : Nat) : TSrc P w it a n (fun i => i) (fun i h => h.IsTupleIter it a i) where
  draws := fun A its hh hn _ ne => hn ▸ Draws.tuple hh it a ne its
  cell := fun i h ⟨o, ho, hc, hd⟩ => ⟨o, _, ho, hd⟩
  keep := fun i h g x k => x.at k
theorem src_rt (it a : Addr) (n : Nat) : TSrc P w it a n (fun i => n - 1 - i) (fun i h => i ≤ n ∧ IsRt h it a ((n : Int) - 1 - (i : Nat))) where
  draws := fun A its hh hn hz ne => {
    live := fun i h x => let ⟨⟨_, o, ho, _⟩, _⟩ := x; ⟨o, ho⟩
    frame := fun i h g x k => ⟨⟨x.1.1, x.1.2.at fun o e => k it (by simp) o e⟩, x.2.at fun o e => k a (by simp) o e⟩
    item := fun i s Q E hi x q => by
      obtain ⟨⟨h1, h2⟩, h3⟩ := x
      have e1 : (n : Int) - 1 - ((i : Nat) : Int) = ((n - 1 - i : Nat) : Int) := by omega
      rw [e1] at h2
      refine rt_draw h2 h3 (x := its[n - 1 - i]'(by omega)) (by simp) hz fun g x' sb => ?_
      have e2 : ((n - 1 - i : Nat) : Int) - 1 = (n : Int) - 1 - ((i + 1 : Nat) : Int) := by omega
      rw [e2] at x'
      exact q _ g _ (by simp) ⟨⟨hi, x'⟩, h3.at fun o e => (sb.2 a ne).trans e⟩ sb
    done := fun s Q E x q => by
      obtain ⟨⟨h1, h2⟩, h3⟩ := x
      have e1 : (n : Int) - 1 - ((n : Nat) : Int) = -1 := by omega
      rw [e1] at h2
      exact rt_dry hh h2 q }
  cell := fun i h ⟨_, o, ho, hc, hd⟩ => ⟨o, _, ho, hd⟩
  keep := fun i h g x k => ⟨x.1, x.2.at k⟩
/-- the tuple's items with their number, each in a new pair -/
def ItEn (K : PySem.W.Frag) (a : Addr) (n : Nat) (f : Nat → Nat) : It :=
  ⟨fun i H => i < n ∧ ∃ (xs : List V) (x : V), SqT K H a xs ∧ xs.length = n ∧ xs[f i]? = some x,
   fun i H v G => ∃ T x, v = .ref T ∧ H T = none ∧ G = upd H T (.tup [.int (i : Nat), x]) ∧ ∀ xs, SqT K H a xs → xs[f i]? = some x,
   fun i H => i = n ∧ ∃ xs : List V, SqT K H a xs ∧ xs.length = n⟩
theorem enum_ne {h : Heap} {e it a : Addr} {i : Int} {old : Value} {its : Array Value} (x : IsEnum h e it i old) (y : h.IsTuple a its) : e ≠ a := by
  rintro rfl
  obtain ⟨o, ho, hc, n, hd⟩ := y
  have x : h.get? e = some _ := x
  rw [ho] at x
  cases x
  cases hd
theorem src_ne {h : Heap} {it a : Addr} {n i : Nat} {f : Nat → Nat} {Tn : Nat → Heap → Prop} {its : Array Value} (S : TSrc P w it a n f Tn) (x : Tn i h) (y : h.IsTuple a its) : a ≠ it := by
  rintro rfl
  obtain ⟨o, vs, ho, hd⟩ := S.cell _ _ x
  obtain ⟨o', ho', _, m, hd'⟩ := y
  rw [ho] at ho'
  cases ho'
  rw [hd] at hd'
  cases hd'
theorem turn_en {K : PySem.W.Frag} {elts : List Expr} {kk : Nat} {tpos : Pos} {a e it : Addr} {n : Nat} {f : Nat → Nat} {Tn : Nat → Heap → Prop} (S : TSrc P w it a n f Tn) :
    Turn P w K (.Tuple elts kk tpos) (ItEn K a n f) [e, it] e (fun i h => ((∃ old, IsEnum h e it ((i : Nat) : Int) old) ∧ Tn i h) ∧ e ≠ it) where
  mem := by simp
  obj := fun i h st b hb => by
    obtain ⟨⟨⟨old, he⟩, ht⟩, _⟩ := st
    rcases List.mem_cons.mp hb with rfl | hb
    · exact ⟨_, he, fun v q => nomatch q⟩
    · obtain rfl := List.mem_singleton.mp hb
      obtain ⟨o, vs, ho, hd⟩ := S.cell _ _ ht
      exact ⟨o, ho, fun v q => by rw [hd] at q; cases q⟩
  keep := fun i h g st k => ⟨⟨let ⟨old, he⟩ := st.1.1; ⟨old, k e (by simp) _ he⟩, S.keep _ _ _ st.1.2 fun o q => k it (by simp) o q⟩, st.2⟩
  item := by
    intro X hP hw hK hc i pins s σ H E I hf st hg
    subst hP hw hK
    obtain ⟨⟨⟨old, he⟩, ht⟩, ne⟩ := st
    obtain ⟨hi, xs, x, hq, hn, hx⟩ := hg
    obtain ⟨its, rv, p, hz⟩ := I.tuple hq
    have hl := rv.length
    obtain ⟨u, hu, ru⟩ := rv.get hx
    have el : e < s.heap.objs.size := Heap.lt_size he
    have il : it < s.heap.objs.size := by obtain ⟨o, vs, ho, _⟩ := S.cell _ _ ht; exact Heap.lt_size ho
    have p : s.heap.IsTuple a its.toArray := p
    have na := src_ne S ht p
    have nea := enum_ne he p
    have hf0 := hf
    have D := S.draws X.A.in1 its.toArray (I.ok.hd hc) (by simp; omega) (by simpa [← hl] using hz) na
    refine wpAny_pyNext_enum_itemD D he ⟨ht, p⟩ hi ne (by simp [ne, nea]) fun y g tk hy eo st' hT hs k => ?_
    obtain rfl : y = u := by
      have hy : its.toArray[f i]? = some y := hy
      rw [List.getElem?_toArray, hu] at hy
      exact (Option.some.inj hy).symm
    refine ⟨_, rfl, wpAny_letOwnedTupleGo_enum (s := { s with heap := g, toks := tk + 1 }) eo fun g2 he2 sb => ?_⟩
    have hT2 : g2.get? s.heap.objs.size = some { cls := .type "tuple", data := .seq #[.int i tk, y] } := (sb.2 _ (Nat.ne_of_gt el)).trans hT
    have new : ObjOk X.prog X.w (upd H s.heap.objs.size (.tup [.int (i : Nat), x])) g2 s.heap.objs.size (.tup [.int (i : Nat), x]) :=
      ⟨by show 2 ≤ sizeLine; decide, [.int i tk, y], .cons ⟨_, rfl⟩ (.cons ru .nil), ⟨_, hT2, rfl, _, rfl⟩⟩
    have I2 : Inv X pins σ (upd H s.heap.objs.size (.tup [.int (i : Nat), x])) { s with heap := g2, toks := tk + 1 } :=
      I.turnedNew (ch := [e, it]) (fun b o hb q => (sb.2 b fun z => hb (by simp [z])).trans (k b o (fun z => hb (by simp [z])) (fun z => hb (by simp [z])) q)) hf0 (Nat.le_refl _) new
    refine ⟨.ref s.heap.objs.size, _, I2, rfl, ⟨_, x, rfl, I.hok.fresh (Nat.le_refl _), rfl, fun ys hy => by rw [I.tuple_inj hy hq]; exact hx⟩, ⟨⟨⟨y, ?_⟩, S.keep _ _ _ st'.1 fun o q => (sb.2 it (Ne.symm ne)).trans q⟩, ne⟩, fun b hb => ?_⟩
    · rw [show ((i + 1 : Nat) : Int) = (i : Int) + 1 by omega]
      exact he2
    · have hlt : b < s.heap.objs.size := by
        rcases List.mem_cons.mp hb with z | hb
        · rw [z]; exact el
        · rw [List.mem_singleton.mp hb]; exact il
      rw [upd_ne (Nat.ne_of_lt hlt)]
      exact (hf0 b hb).1
  done := by
    intro X hP hw hK hc i pins s σ H E I hf st hg
    subst hP hw hK
    obtain ⟨⟨⟨old, he⟩, ht⟩, ne⟩ := st
    obtain ⟨rfl, xs, hq, hn⟩ := hg
    obtain ⟨its, rv, p, hz⟩ := I.tuple hq
    have hl := rv.length
    have p : s.heap.IsTuple a its.toArray := p
    obtain ⟨f0, f1, f2, f3, f4, f5⟩ := hf it (by simp)
    have D := S.draws X.A.in1 its.toArray (I.ok.hd hc) (by simp; omega) (by simpa [← hl] using hz) (src_ne S ht p)
    exact wpAny_pyNext_enum_endD D he ⟨ht, p⟩ fun g eb => ⟨rfl, I.turned (t' := s.toks) (fun b o hb q => eb b o hb q) f0 f1 f3 f4 f5⟩
  self := fun A i s Q E st h => let ⟨⟨⟨_, he⟩, _⟩, _⟩ := st; wpAny_pyIter_enum he h
/-- enumerate(v), v's iterator at it -/
theorem meets_en (v : Value) (it : Heap → Addr) (nh : Heap → Heap) :
    Meets (Builtin.«enumerate.__new__» ⟨[.type "enumerate", v], []⟩) (fun _ R s => (∀ (P : Program) (w : World) (A : Around) (E Q : Value → Shared → Prop), Q (.ref (it s.heap)) { s with heap := nh s.heap } → wpAny (model P w) A (pyIter v) Q E s) ∧
      R (.ok (.ret (.ref (nh s.heap).objs.size))) { s with heap := (nh s.heap).push { cls := .type "enumerate", data := .fields #[.none, .bool false, .ref (it s.heap), rawInt 0, .none, .none] } }) :=
  .of_wp fun P w A R s h => by
    obtain ⟨hp, g, d, tk, os⟩ := s
    obtain ⟨h1, h⟩ := h
    have hsub := sub_enumerate
    have q1 : ∀ {A' : Around} {E : Value → Shared → Prop} {Q : Value → Shared → Prop}, Q (.ref (it hp)) ⟨nh hp, g, d, tk, os⟩ → wpAny (model P w) A' (pyIter v) Q E ⟨hp, g, d, tk, os⟩ := fun q => h1 P w _ _ _ q
    wp_walk using q1
    refine wpAny_stack_any fun st => wpAny_pure ?_
    split
    · rename_i c _ _ _ _ _
      cases (c == Value.type "enumerate")
      · wp_walk using q1
        exact ⟨_, rfl, h⟩
      · wp_walk using q1
        exact ⟨_, rfl, h⟩
    · wp_walk using q1
      exact ⟨_, rfl, h⟩
theorem call_en {v : Value} {Q : Value → Shared → Prop} (it : Heap → Addr) (nh : Heap → Heap)
    (hi : ∀ (P : Program) (w : World) (A : Around) (E Q : Value → Shared → Prop), Q (.ref (it s.heap)) { s with heap := nh s.heap } → wpAny (model P w) A (pyIter v) Q E s)
    (h : ∀ g, IsEnum g (nh s.heap).objs.size (it s.heap) 0 .none → g.objs.size = (nh s.heap).objs.size + 1 → (∀ b o, (nh s.heap).get? b = some o → g.get? b = some o) → Q (.ref (nh s.heap).objs.size) { s with heap := g }) :
    wpAny (model P w) A (call (.type "enumerate") [v]) Q E s := by
  refine callType_new F.called_enumerate (by decide) (F.typeCall_enumerate_1 _) (F.newCall_enumerate_1 _) (fun obj => F.args_object_init_2 obj _) F.entry_enumerate_new (meets_en v it nh) ⟨hi, ?_⟩
  show _ ∧ _
  have he : IsEnum ((nh s.heap).push { cls := .type "enumerate", data := .fields #[.none, .bool false, .ref (it s.heap), rawInt 0, .none, .none] }) (nh s.heap).objs.size (it s.heap) 0 .none := Heap.get?_push_size _ rfl
  exact ⟨⟨_, he, rfl⟩, h _ he (Heap.size_push ..) fun b o x => Heap.get?_push_of_some _ x⟩
end
section
variable {X : Cx} {tg : Expr} {p p2 pos pos2 tpos : Pos} {elts : List Expr} {kk : Nat} {e : Expr}
/-- enumerate(x), x a list or a tuple -/
def iEnA (K : PySem.W.Frag) (ta : TA) : TI := fun σ H R => ta σ H fun vs H1 => ∃ a xs, vs = [.ref a] ∧ ((SqL K H1 a xs ∧ R (Ite K a) H1) ∨ (SqT K H1 a xs ∧ R (ItEn K a xs.length fun i => i) H1))
theorem pi_enA {ta : TA} (hg : Gl X "enumerate") (hm : X.mg "enumerate" = none) (ha : PA X [e] ta) (hs : starEach [e] X.env = [(false, eval e X.env)] := by rfl) :
    PI X (.Tuple elts kk tpos) (.Call (.Name "enumerate" p) [e] [] pos) (iEnA X.K ta) := by
  refine ⟨fun pins s σ H R I h => ?_⟩
  refine Call_ (ld_blt I hg hm boot_enumerate (PyProof.Rows.callWith_type1 (thn (ha.run pos pins s σ H _ I h) fun us s1 ⟨vs, H1, I1, r1, a, xs, ex, q1⟩ => ?_) hs rfl))
  subst ex
  rw [Vals.ref1 r1]
  rcases q1 with ⟨hq, q⟩ | ⟨hq, q⟩
  · obtain ⟨its, rv, p', hz⟩ := I1.list hq
    refine call_enumerate_list p'.isList fun g he hit hsz hk => wpAny_pyIter_enum he ?_
    have I2 : Inv X pins σ H1 { s1 with heap := g } := I1.kept (t' := s1.toks) hk
    refine ⟨s1.heap.objs.size + 1, [s1.heap.objs.size + 1, s1.heap.objs.size], _, _, H1, rfl, I2, turn_enum a (s1.heap.objs.size + 1) s1.heap.objs.size, ⟨⟨.none, he⟩, hit, Nat.succ_ne_self _⟩, fun b hb => ?_, q⟩
    have hle : s1.heap.objs.size ≤ b := by
      rcases List.mem_cons.mp hb with z | hb
      · rw [z]; exact Nat.le_succ _
      · rw [List.mem_singleton.mp hb]; exact Nat.le_refl _
    exact I1.fpOk hle (I1.hok.fresh hle)
  · obtain ⟨its, rv, p', hz⟩ := I1.tuple hq
    have p' : s1.heap.IsTuple a its.toArray := p'
    refine call_en (fun h => h.objs.size) (fun h => h.push { cls := .type "tuple_iterator", data := .fields #[.ref a, .int 0 0] }) (fun P w A E Q q => wpAny_pyIter_tuple p' q) fun g he hsz hk => wpAny_pyIter_enum he ?_
    have k0 : ∀ b o, s1.heap.get? b = some o → g.get? b = some o := fun b o z => hk b o (Heap.get?_push_of_some _ z)
    have I2 : Inv X pins σ H1 { s1 with heap := g } := I1.kept (t' := s1.toks) k0
    have hz1 : (s1.heap.push { cls := .type "tuple_iterator", data := .fields #[.ref a, .int 0 0] }).objs.size = s1.heap.objs.size + 1 := Heap.size_push ..
    rw [hz1] at he ⊢
    have hit : g.IsTupleIter s1.heap.objs.size a 0 := ⟨_, hk _ _ (Heap.get?_push_size _ rfl), rfl, rfl⟩
    refine ⟨s1.heap.objs.size + 1, [s1.heap.objs.size + 1, s1.heap.objs.size], _, _, H1, rfl, I2, turn_en (src_tuple s1.heap.objs.size a xs.length), ⟨⟨⟨.none, he⟩, hit⟩, Nat.succ_ne_self _⟩, fun b hb => ?_, q⟩
    have hle : s1.heap.objs.size ≤ b := by
      rcases List.mem_cons.mp hb with z | hb
      · rw [z]; exact Nat.le_succ _
      · rw [List.mem_singleton.mp hb]; exact Nat.le_refl _
    exact I1.fpOk hle (I1.hok.fresh hle)
/-- enumerate(reversed(x)), x a tuple -/
def iEnR (K : PySem.W.Frag) (te : TE) : TI := fun σ H R => te σ H fun v H1 => ∃ a xs, v = .ref a ∧ SqT K H1 a xs ∧ R (ItEn K a xs.length fun i => xs.length - 1 - i) H1
theorem pi_enR {te : TE} (hg : Gl X "enumerate") (hm : X.mg "enumerate" = none) (hg2 : Gl X "reversed") (hm2 : X.mg "reversed" = none) (he : PE X e te) (hs : starEach [e] X.env = (false, eval e X.env) :: starEach [] X.env := by rfl) :
    PI X (.Tuple elts kk tpos) (.Call (.Name "enumerate" p) [.Call (.Name "reversed" p2) [e] [] pos2] [] pos) (iEnR X.K te) := by
  refine ⟨fun pins s σ H R I h => ?_⟩
  refine Call_ (ld_blt I hg hm boot_enumerate (PyProof.Rows.callWith_type1 (args_cons (Call_ (ld_blt I hg2 hm2 PyProof.Rows.boot_reversed (PyProof.Rows.callWith_type1 (args_cons (thn (he.run pins s σ H _ I h) fun u s1 ⟨v, H1, I1, r1, a, xs, ev, hq, q⟩ => args_nil ?_) hs) hs rfl))) rfl) rfl rfl))
  subst ev
  obtain rfl : u = Value.ref a := r1
  obtain ⟨its, rv, p', hz⟩ := I1.tuple hq
  have hl := rv.length
  have hn := line63
  have e1 : ((its.toArray.size : Nat) : Int) - 1 = (xs.length : Int) - 1 - ((0 : Nat) : Int) := by simp only [List.size_toArray]; omega
  refine call_reversed_tup p' (fun A E Q k => len_tuple p' (by simp only [List.size_toArray] <;> omega) k) (args_nil ?_)
  have hr : IsRt (s1.heap.push (rtObj a ((its.toArray.size : Int) - 1))) s1.heap.objs.size a ((its.toArray.size : Int) - 1) := ⟨_, Heap.get?_push_size _ rfl, rfl, rfl⟩
  have hz1 : (s1.heap.push (rtObj a ((its.toArray.size : Int) - 1))).objs.size = s1.heap.objs.size + 1 := Heap.size_push ..
  refine call_en (s := { s1 with heap := s1.heap.push (rtObj a ((its.toArray.size : Int) - 1)), toks := s1.toks + 1 + 1 }) (fun _ => s1.heap.objs.size) (fun h => h) (fun P w A E Q q => iter_rt (s := { s1 with heap := s1.heap.push (rtObj a ((its.toArray.size : Int) - 1)), toks := s1.toks + 1 + 1 }) hr q) fun g he hsz hk => wpAny_pyIter_enum he ?_
  have k0 : ∀ b o, s1.heap.get? b = some o → g.get? b = some o := fun b o z => hk b o (Heap.get?_push_of_some _ z)
  have I2 : Inv X pins σ H1 { s1 with heap := g, toks := s1.toks + 1 + 1 } := I1.kept (t' := s1.toks + 1 + 1) k0
  dsimp only at he ⊢
  rw [hz1] at he ⊢
  have hit : IsRt g s1.heap.objs.size a ((xs.length : Int) - 1 - ((0 : Nat) : Int)) := by
    rw [← e1]
    exact hr.at fun o z => hk _ _ z
  refine ⟨s1.heap.objs.size + 1, [s1.heap.objs.size + 1, s1.heap.objs.size], _, _, H1, rfl, I2, turn_en (src_rt s1.heap.objs.size a xs.length), ⟨⟨⟨.none, he⟩, Nat.zero_le _, hit⟩, Nat.succ_ne_self _⟩, fun b hb => ?_, q⟩
  have hle : s1.heap.objs.size ≤ b := by
    rcases List.mem_cons.mp hb with z | hb
    · rw [z]; exact Nat.le_succ _
    · rw [List.mem_singleton.mp hb]; exact Nat.le_refl _
  exact I1.fpOk hle (I1.hok.fresh hle)
end
end Li
namespace Li
open PySem PySem.Spec PyProof.Rows L2 RT
section
variable {P : Program} {w : World} {A : Around} {E : Value → Shared → Prop} {s : Shared}
theorem walks_rt (hh : A.handled = none) (r t : Addr) (ne : t ≠ r) (its : Array Value) (hz : its.size ≤ sizeLine) :
    Walks P w A r [r, t] [r] its.size (fun i v => its[its.size - 1 - i]? = some v) (fun i h => (i ≤ its.size ∧ IsRt h r t ((its.size : Int) - 1 - (i : Nat))) ∧ h.IsTuple t its) where
  sub := fun b hb => by simp at hb; simp [hb]
  frame := fun i h g x k => ⟨⟨x.1.1, x.1.2.at fun o e => k r (by simp) o e⟩, x.2.at fun o e => k t (by simp) o e⟩
  item := fun i s Q E hi x q => by
    obtain ⟨⟨h1, h2⟩, h3⟩ := x
    have e1 : (its.size : Int) - 1 - ((i : Nat) : Int) = ((its.size - 1 - i : Nat) : Int) := by omega
    rw [e1] at h2
    have hx : its[its.size - 1 - i]? = some (its[its.size - 1 - i]'(by omega)) := Array.getElem?_eq_getElem (by omega)
    refine next_rt_item h2 h3 hx hz fun g x' sb => ?_
    have e2 : ((its.size - 1 - i : Nat) : Int) - 1 = (its.size : Int) - 1 - ((i + 1 : Nat) : Int) := by omega
    rw [e2] at x'
    exact q _ g _ hx ⟨⟨hi, x'⟩, h3.at fun o e => (sb.2 t ne).trans e⟩ fun b o hb eo => sb.extBut b o (fun z => hb (by simp [z])) eo
  done := fun s Q E x q => by
    obtain ⟨⟨h1, h2⟩, h3⟩ := x
    have e1 : (its.size : Int) - 1 - ((its.size : Nat) : Int) = -1 := by omega
    rw [e1] at h2
    exact next_rt_end hh h2 fun g eb => q g s.toks fun b o hb eo => eb b o (fun z => hb (by simp [z])) eo
  self := fun i s Q E x q => iter_rt x.1.2 q
/-- how long reversed(tuple) is -/
theorem rt_len {r t : Addr} {its : Array Value} {Q : Value → Shared → Prop} (hit : IsRt s.heap r t ((its.size : Int) - 1)) (hlen : ∀ (A : Around) (E Q : Value → Shared → Prop), Q (.int its.size (s.toks + 1)) { s with toks := s.toks + 1 + 1 } → wpAny (model P w) A (call (.builtin "len") [.ref t]) Q E s)
    (q : Q (.int its.size (s.toks + 1 + 1)) { s with toks := s.toks + 1 + 1 + 1 }) : wpAny (model P w) A (call (.builtin "reversed.__length_hint__") [.ref r]) Q E s := by
  obtain ⟨o, ho, hc, hd⟩ := id hit
  refine wpAny_call_entry rt_hint hit.typeIs rt_hint_entry ?_ (rt_hint_args _)
  unfold Builtin.«reversed.__length_hint__»
  refine wpAny_bind (wpAny_of_eq (a := Value.ref r) rfl ?_)
  try dsimp only
  refine wpAny_bind (wpAny_field ho hd (x := .ref t) rfl ?_)
  try dsimp only
  rw [if_neg (show ¬ ((Value.ref t == Value.none) = true) from Bool.false_ne_true)]
  refine wpAny_bind (hlen _ _ _ ?_)
  refine wpAny_bind (wpAny_of_eq (a := some ((its.size : Nat) : Int)) rfl ?_)
  try dsimp only
  refine wpAny_bind (wpAny_field (s := { s with toks := s.toks + 1 + 1 }) ho hd (x := rawInt ((its.size : Int) - 1)) rfl ?_)
  show wpAny _ _ (if ((its.size : Nat) : Int) < ((its.size : Int) - 1) + 1 then _ else _) _ _ _
  rw [if_neg (by omega)]
  have e : ((its.size : Int) - 1) + 1 = ((its.size : Nat) : Int) := by omega
  rw [e]
  exact wpAny_bind (wpAny_mkInt (wpAny_pure ⟨_, rfl, q⟩))
theorem rt_room {r t : Addr} {its : Array Value} {Q : Bool → Shared → Prop} (hit : IsRt s.heap r t ((its.size : Int) - 1)) (hz : its.size ≤ sizeLine) (hlen : ∀ (A : Around) (E Q : Value → Shared → Prop), Q (.int its.size (s.toks + 1)) { s with toks := s.toks + 1 + 1 } → wpAny (model P w) A (call (.builtin "len") [.ref t]) Q E s)
    (q : ∀ b tk, s.toks ≤ tk → Q b { s with toks := tk }) : wpAny (model P w) A (Builtin.List.listLengthHint (.ref r)) Q E s := by
  unfold Builtin.List.listLengthHint
  refine wpAny_bind (wpAny_specialOf hit.typeIs rt_nolen ?_)
  show wpAny _ _ (specialOf (Value.ref r) (Str.ofString "__length_hint__") >>= _) _ _ _
  refine wpAny_bind (wpAny_specialOf hit.typeIs rt_hint.lookup ?_)
  generalize hid : ("reversed.__length_hint__" : String) = id0
  wp_delta
  rw [show splitId id0 = some ("reversed", "__length_hint__") from by subst hid; decide +kernel]
  subst hid
  refine wpAny_bind (wpAny_isInstance (b := true) hit.typeIs rt_sub ?_)
  rw [sizeLine_eq] at hz
  rw [if_neg (by decide)]
  dsimp only
  refine wp_if_neg (by decide +kernel) ?_
  refine wpAny_bind (wpAny_rule ?_)
  refine wpAny_bind (wpAny_of_eq (rt_hint.bind _) ?_)
  dsimp only
  refine wpAny_bind (wpAny_attempt (rt_len hit hlen ?_))
  dsimp only
  have as : ∀ (k : Int) (tk : Nat), asInt? (Value.int k tk) = pure (some k) := fun _ _ => rfl
  rw [as, pure_bind]
  dsimp only
  have fit : Builtin.List.listFitsIndex ((its.size : Nat) : Int) = true := by
    unfold Builtin.List.listFitsIndex
    rw [Bool.and_eq_true, decide_eq_true_eq, decide_eq_true_eq]
    omega
  generalize Builtin.List.listFitsIndex ((its.size : Nat) : Int) = c1 at fit ⊢
  subst fit
  rw [if_neg (by decide)]
  rw [if_neg (by omega)]
  have long : Builtin.List.listTooLong ((its.size : Nat) : Int).toNat = false := by
    unfold Builtin.List.listTooLong
    rw [sizeLine_eq, decide_eq_false_iff_not]
    omega
  generalize Builtin.List.listTooLong ((its.size : Nat) : Int).toNat = c2 at long ⊢
  subst long
  rw [if_neg (by decide)]
  exact wpAny_pure (q _ _ (by show s.toks ≤ s.toks + 1 + 1 + 1; omega))
section
variable {R : Result → Shared → Prop} {I : Addr} {fp wr : List Addr} {G : Array GenState → Array GenState → Prop} {n : Nat} {Pv : Nat → Value → Prop} {St : Nat → Shared → Prop} {T : String}
/-- a list takes what an iterator gives -/
theorem ext_it (W : WalksS P w A.in1 I fp wr G n Pv St) (hT : ∀ i s, St i s → s.TypeIs (.ref I) T) (t1 : (Value.type T == Value.type "list") = false) (t2 : (Value.type T == Value.type "tuple") = false)
    (room : ∀ (s : Shared) (Q : Bool → Shared → Prop) (E : Value → Shared → Prop), St 0 s → (∀ b tk, s.toks ≤ tk → Q b { s with toks := tk }) → wpAny (model P w) A.in1 (Builtin.List.listLengthHint (.ref I)) Q E s)
    (S : Addr) (res : Value) (c0 : Nat) (hst : St 0 s) (hSf : S ∉ fp) (hI : I ∈ fp) (hS : s.heap.get? S = some { cls := .type "list", data := .seq #[] c0 })
    (hR : ∀ z acc c, Moved (S :: wr) G s z → z.heap.get? S = some { cls := .type "list", dict := none, data := .seq acc c, slots := #[] } → ItemsOf Pv acc n → R (.ok (.ret res)) z) (hn : n ≤ sizeLine) :
    wpAny (model P w) A.in1 (Builtin.List.listExtendWith (.ref S) (.ref I) res)
      (fun fin z => match fin with | .done f => R (.ok f) z | .again c => c.quiet = true ∧ codeAny (model P w) A c R z) (fun e z => R (.error e) z) s := by
  have hSI : S ≠ I := fun e => hSf (e ▸ hI)
  unfold Builtin.List.listExtendWith
  refine wpAny_bind (wpAny_typeOf (hT 0 _ hst) ?_)
  have h1 : Builtin.List.listSameRef (.ref S) (.ref I) = false := by simp [Builtin.List.listSameRef, hSI]
  simp only [h1, t1, t2, Bool.or_false, Bool.false_eq_true, if_false]
  refine wpAny_bind (W.self 0 _ _ _ hst ?_)
  refine wpAny_bind (wpAny_holding (room s _ _ hst fun b tk htk => ?_))
  have st1 : St 0 { s with toks := tk } := W.frame 0 s s.heap tk hst htk fun b _ o e => e
  have m1 : Moved (S :: wr) G s { s with toks := tk } := (Moved.refl W.grefl).then_heap htk fun b o _ e => e
  have last : wpAny (model P w) A.in1 (again (.builtin "list.extend.loop" ⟨[.ref S, .ref I, res], []⟩)) (fun fin z => match fin with | .done f => R (.ok f) z | .again c => c.quiet = true ∧ codeAny (model P w) A c R z) (fun e z => R (.error e) z) { s with toks := tk } :=
    wpAny_pure ⟨plainId_quiet F.plain_extend_loop _, codeAny_extend_loopS W hn _ hSf _ n 0 _ _ _ rfl (Nat.zero_le _) st1 hS (ItemsOf.nil Pv) fun z acc c hm hz ha => hR z acc c (Moved.trans W.gtrans m1 hm) hz ha⟩
  refine wpAny_ite ?_
  split
  · refine wpAny_bind (wpAny_rule ?_)
    refine wpAny_bind ?_
    show wpAny _ A.in1 (updateSeq S (·.push .none) >>= fun _ => updateSeq S (·.pop)) _ _ _
    refine wpAny_bind (wpAny_updateSeq hS rfl ?_)
    have hS2 := Heap.get?_update_self (Obj.mapSeq (·.push Value.none)) hS rfl
    refine wpAny_updateSeq (hz := by seq_fits) hS2 rfl ?_
    have hS3 := Heap.get?_update_self (Obj.mapSeq (·.pop)) hS2 rfl
    have oth : ∀ b o, b ≠ S → s.heap.get? b = some o → ((s.heap.update S (Obj.mapSeq (·.push Value.none))).update S (Obj.mapSeq (·.pop))).get? b = some o := fun b o hb e => (Heap.get?_update_other _ _ (Ne.symm hb)).trans ((Heap.get?_update_other _ _ (Ne.symm hb)).trans e)
    refine wpAny_pure ⟨plainId_quiet F.plain_extend_loop _, codeAny_extend_loopS W hn _ hSf _ n 0 _ _ _ rfl (Nat.zero_le _) (W.frame 0 s _ tk hst htk fun b hb o e => oth b o (fun h => hSf (h ▸ hb)) e) hS3 (ItemsOf.nil Pv) fun z acc c hm hz ha => ?_⟩
    exact hR z acc c (Moved.trans W.gtrans ((Moved.refl W.grefl).then_heap htk fun b o hb e => oth b o (fun h => hb (h ▸ List.mem_cons_self)) e) hm) hz ha
  · exact last
theorem init_it (W : WalksS P w A.in1 I fp wr G n Pv St) (hT : ∀ i s, St i s → s.TypeIs (.ref I) T) (t1 : (Value.type T == Value.type "list") = false) (t2 : (Value.type T == Value.type "tuple") = false)
    (room : ∀ (s : Shared) (Q : Bool → Shared → Prop) (E : Value → Shared → Prop), St 0 s → (∀ b tk, s.toks ≤ tk → Q b { s with toks := tk }) → wpAny (model P w) A.in1 (Builtin.List.listLengthHint (.ref I)) Q E s)
    (S : Addr) (hst : St 0 s) (hSf : S ∉ fp) (hI : I ∈ fp) (hS : s.heap.get? S = some { cls := .type "list", data := .seq #[] })
    (hR : ∀ z acc c, Moved (S :: wr) G s z → z.heap.get? S = some { cls := .type "list", dict := none, data := .seq acc c, slots := #[] } → ItemsOf Pv acc n → R (.ok (.ret .none)) z) (hn : n ≤ sizeLine) :
    wpAny (model P w) A.in1 (Builtin.«list.__init__» ⟨[.ref S, .ref I], []⟩)
      (fun fin z => match fin with | .done f => R (.ok f) z | .again c => c.quiet = true ∧ codeAny (model P w) A c R z) (fun e z => R (.error e) z) s := by
  show wpAny _ A.in1 (do let old ← Builtin.List.listItems (.ref S); Builtin.List.listUpdate (.ref S) (fun _ => #[]); letGo old.toList.reverse; Builtin.List.listExtendWith (.ref S) (.ref I) .none) _ _ s
  refine wpAny_bind ?_
  unfold Builtin.List.listItems
  refine wpAny_bind (wpAny_seqItems hS rfl (wpAny_pure ?_))
  show wpAny _ A.in1 (updateSeq S (fun _ => #[]) >>= fun _ => letGo (#[] : Array Value).toList.reverse >>= fun _ => Builtin.List.listExtendWith (.ref S) (.ref I) .none) _ _ s
  refine wpAny_bind (wpAny_updateSeq hS rfl ?_)
  have hS2 := Heap.get?_update_self (Obj.mapSeq (fun _ => (#[] : Array Value))) hS rfl
  have oth : ∀ b o, b ≠ S → s.heap.get? b = some o → (s.heap.update S (Obj.mapSeq (fun _ => (#[] : Array Value)))).get? b = some o := fun b o hb e => (Heap.get?_update_other _ _ (Ne.symm hb)).trans e
  refine wpAny_bind (wpAny_letGo ?_)
  refine ext_it W hT t1 t2 room S .none _ (W.frame 0 s _ s.toks hst (Nat.le_refl _) fun b hb o e => oth b o (fun h => hSf (h ▸ hb)) e) hSf hI hS2 (fun z acc c hm hz ha => ?_) hn
  exact hR z acc c (Moved.trans W.gtrans ((Moved.refl W.grefl).then_heap (Nat.le_refl _) fun b o hb e => oth b o (fun h => hb (h ▸ List.mem_cons_self)) e) hm) hz ha
theorem call_list_it {Q : Value → Shared → Prop} (W : WalksS P w A.in1.in1 I fp wr G n Pv St) (hT : ∀ i s, St i s → s.TypeIs (.ref I) T) (t1 : (Value.type T == Value.type "list") = false) (t2 : (Value.type T == Value.type "tuple") = false)
    (room : ∀ (s : Shared) (Q : Bool → Shared → Prop) (E : Value → Shared → Prop), St 0 s → (∀ b tk, s.toks ≤ tk → Q b { s with toks := tk }) → wpAny (model P w) A.in1.in1 (Builtin.List.listLengthHint (.ref I)) Q E s)
    (hst : St 0 s) (hfp : ∀ b ∈ fp, b < s.heap.objs.size) (hI : I ∈ fp)
    (hQ : ∀ z acc c, Moved (s.heap.objs.size :: wr) G { s with heap := s.heap.push { cls := .type "list", data := .seq #[] } } z → z.heap.get? s.heap.objs.size = some { cls := .type "list", dict := none, data := .seq acc c, slots := #[] } → ItemsOf Pv acc n → Q (.ref s.heap.objs.size) z) (hn : n ≤ sizeLine) :
    wpAny (model P w) A (call (.type "list") [.ref I]) Q E s := by
  have hSf : s.heap.objs.size ∉ fp := fun hm => Nat.lt_irrefl _ (hfp _ hm)
  refine callType_codes (Q₁ := fun obj z => obj = .ref s.heap.objs.size ∧ z = { s with heap := s.heap.push { cls := .type "list", data := .seq #[] } }) F.called_list (F.typeCall_list_1 _) F.entry_list_init (code_list_new _ ⟨rfl, rfl⟩) fun obj z h1 => ?_
  obtain ⟨rfl, rfl⟩ := h1
  have hS : (s.heap.push { cls := .type "list", data := .seq #[] }).get? s.heap.objs.size = some { cls := .type "list", data := .seq #[] } := Heap.get?_push_size _ rfl
  refine ⟨⟨_, hS, rfl⟩, F.args_list_init_2 _ _, init_it W hT t1 t2 room _ (W.frame 0 s _ s.toks hst (Nat.le_refl _) fun b _ o e => Heap.get?_push_of_some _ e) hSf hI hS (fun z acc c hm hz ha => ?_) hn⟩
  exact ⟨rfl, hQ z acc c hm hz ha⟩
end
end
end Li
namespace Li
open PySem PySem.Spec PyProof.Rows L2 RT
section
variable {P : Program} {w : World} {A : Around} {E : Value → Shared → Prop} {s : Shared}
theorem lri_room {r l : Addr} {i : Int} {Q : Bool → Shared → Prop} (hit : s.heap.IsRevIter r l i) (q : ∀ b tk, s.toks ≤ tk → Q b { s with toks := tk }) : wpAny (model P w) A (Builtin.List.listLengthHint (.ref r)) Q E s := by
  unfold Builtin.List.listLengthHint
  refine wpAny_bind (wpAny_specialOf hit.typeIs nolen_lri ?_)
  show wpAny _ _ (specialOf (Value.ref r) (Str.ofString "__length_hint__") >>= _) _ _ _
  refine wpAny_bind (wpAny_specialOf hit.typeIs hint_lri ?_)
  generalize hid : ("list_reverseiterator.__length_hint__" : String) = id0
  wp_delta
  rw [show splitId id0 = some ("list_reverseiterator", "__length_hint__") from by subst hid; decide +kernel]
  subst hid
  refine wpAny_bind (wpAny_isInstance (b := true) hit.typeIs (by rw [isSubtype_type]; kernel_rfl) ?_)
  exact wpAny_pure (q _ s.toks (Nat.le_refl _))
end
def tLRev (K : PySem.W.Frag) (te : TE) : TE := fun σ H Q => te σ H fun v H1 => ∃ a xs, v = .ref a ∧ (SqL K H1 a xs ∨ SqT K H1 a xs) ∧ ∀ q, H1 q = none → Q (.ref q) (upd H1 q (.lst xs.reverse))
section
variable {X : Cx} {e : Expr} {te : TE} {p p2 pos pos2 : Pos}
theorem lrev_end {pins : List (Addr × Obj)} {σ : L2.St} {H : Hp} {s1 z : Shared} {S : Addr} {xs : List V} {its acc : Array Value} {c : Nat} {Q : VK} (I1 : Inv X pins σ H s1) (rv : Vals xs its.toList) (hz : xs.length ≤ sizeLine)
    (ha : ItemsOf (fun i v => its[its.size - 1 - i]? = some v) acc its.size) (hS : z.heap.get? S = some { cls := .type "list", dict := none, data := .seq acc c, slots := #[] }) (k : ∀ b o, s1.heap.get? b = some o → z.heap.get? b = some o) (hp : s1.heap.objs.size ≤ S)
    (he : z = { s1 with heap := z.heap, toks := z.toks }) (q : ∀ q, H q = none → Q (.ref q) (upd H q (.lst xs.reverse))) : ∃ v H', Inv X pins σ H' z ∧ RelV v (.ref S) ∧ Q v H' := by
  have new : ObjOk X.prog X.w (upd H S (.lst xs.reverse)) z.heap S (.lst xs.reverse) := ⟨by rw [List.length_reverse]; exact hz, acc.toList, c, vals_rev (by simpa using rv) (by simpa using ha), by simpa using hS⟩
  have I2 := I1.laid (t' := z.toks) k hp new
  rw [← he] at I2
  exact ⟨.ref S, _, I2, rfl, q _ (I1.hok.fresh hp)⟩
theorem pe_lrev (hc : X.calm = true) (hg : Gl X "list") (hm : X.mg "list" = none) (hg2 : Gl X "reversed") (hm2 : X.mg "reversed" = none) (he : PE X e te) (hs : starEach [e] X.env = (false, eval e X.env) :: starEach [] X.env) :
    PE X (.Call (.Name "list" p) [.Call (.Name "reversed" p2) [e] [] pos2] [] pos) (tLRev X.K te) := by
  refine ⟨fun pins s σ H Q I h => ?_⟩
  refine Call_ (ld_blt I hg hm boot_list (PyProof.Rows.callWith_type1 (args_cons (Call_ (ld_blt I hg2 hm2 PyProof.Rows.boot_reversed (PyProof.Rows.callWith_type1 (args_cons (thn (he.run pins s σ H _ I h) fun u s1 ⟨v, H1, I1, r1, a, xs, ev, hq, q⟩ => args_nil ?_) hs) hs rfl))) rfl) rfl rfl))
  subst ev
  obtain rfl : u = Value.ref a := r1
  rcases hq with hq | hq
  · obtain ⟨its, rv, p', hz⟩ := I1.list hq
    have hl := p'.isList
    obtain ⟨ol, hol, _⟩ := id hl
    have hne : a ≠ s1.heap.objs.size := Nat.ne_of_lt (Heap.lt_size hol)
    refine call_reversed_list hl (args_nil ?_)
    have W := (Walks.listRev (prog := X.prog) (w := X.w) (A := X.A.in1.in1) (I1.ok.hd hc) s1.heap.objs.size a hne its.toArray).toS
    have hz1 : (s1.heap.push (revObj a ((its.toArray.size : Int) - 1))).objs.size = s1.heap.objs.size + 1 := Heap.size_push ..
    have e0 : ((its.toArray.size : Nat) : Int) - 1 - ((0 : Nat) : Int) = (its.toArray.size : Int) - 1 := by omega
    refine call_list_it (s := { s1 with heap := s1.heap.push (revObj a ((its.toArray.size : Int) - 1)) }) (T := "list_reverseiterator") W (fun i s x => x.2.1.typeIs) (by decide) (by decide) (fun s Q E x q => lri_room x.2.1 q) ⟨Nat.zero_le _, by rw [e0]; exact ⟨_, Heap.get?_push_size _ rfl, rfl, rfl⟩, hl.push _⟩ (fun b hb => ?_) (by simp) (fun z acc c hm hS ha => ?_) (by rw [List.size_toArray, ← rv.length]; exact hz)
    · show b < (s1.heap.push (revObj a ((its.toArray.size : Int) - 1))).objs.size
      rw [hz1]
      rcases List.mem_cons.mp hb with y | hb
      · rw [y]; exact Nat.lt_succ_self _
      · rw [List.mem_singleton.mp hb]; exact Nat.lt_succ_of_lt (Heap.lt_size hol)
    · dsimp only at hm hS ⊢
      rw [hz1] at hm hS ⊢
      have hk : ∀ b o, s1.heap.get? b = some o → z.heap.get? b = some o := fun b o y => hm.heap b o (fun hb => by
        have hlt := Heap.lt_size y
        rcases List.mem_cons.mp hb with y | hb
        · rw [y] at hlt; exact Nat.lt_irrefl _ (Nat.lt_of_succ_lt hlt)
        · rw [List.mem_singleton.mp hb] at hlt; exact Nat.lt_irrefl _ hlt) (Heap.get?_push_of_some _ (Heap.get?_push_of_some _ y))
      exact lrev_end I1 (its := its.toArray) (by simpa using rv) hz ha hS hk (Nat.le_succ _) (by have y := Moved.eq_with hm; exact y) q
  · obtain ⟨its, rv, p', hz⟩ := I1.tuple hq
    have hn := line63
    have hlen : ∀ {s : Shared} (_ : s.heap.IsTuple a its.toArray) (A : Around) (E Q : Value → Shared → Prop), Q (.int its.toArray.size (s.toks + 1)) { s with toks := s.toks + 1 + 1 } → wpAny (model X.prog X.w) A (call (.builtin "len") [.ref a]) Q E s := fun p A E Q k => len_tuple p (by have := rv.length; simp only [List.size_toArray] <;> omega) k
    have p2 : s1.heap.IsTuple a its.toArray := p'
    obtain ⟨ol, hol, _⟩ := id p2
    have hne : a ≠ s1.heap.objs.size := Nat.ne_of_lt (Heap.lt_size hol)
    have hz2 : its.toArray.size ≤ sizeLine := by rw [List.size_toArray, ← rv.length]; exact hz
    refine call_reversed_tup p' (fun A E Q k => hlen p2 A E Q k) (args_nil ?_)
    have W := (walks_rt (P := X.prog) (w := X.w) (A := X.A.in1.in1) (I1.ok.hd hc) s1.heap.objs.size a hne its.toArray hz2).toS
    have hz1 : (s1.heap.push (rtObj a ((its.toArray.size : Int) - 1))).objs.size = s1.heap.objs.size + 1 := Heap.size_push ..
    have e0 : ((its.toArray.size : Nat) : Int) - 1 - ((0 : Nat) : Int) = (its.toArray.size : Int) - 1 := by omega
    refine call_list_it (s := { s1 with heap := s1.heap.push (rtObj a ((its.toArray.size : Int) - 1)), toks := s1.toks + 1 + 1 }) (T := "reversed") W (fun i s x => x.1.2.typeIs) (by decide) (by decide) (fun s Q E x q => ?_) ⟨⟨Nat.zero_le _, by rw [e0]; exact ⟨_, Heap.get?_push_size _ rfl, rfl, rfl⟩⟩, p2.push _⟩ (fun b hb => ?_) (by simp) (fun z acc c hm hS ha => ?_) hz2
    · obtain ⟨⟨_, x1⟩, x2⟩ := x
      rw [e0] at x1
      exact rt_room x1 hz2 (fun A E Q k => hlen x2 A E Q k) q
    · show b < (s1.heap.push (rtObj a ((its.toArray.size : Int) - 1))).objs.size
      rw [hz1]
      rcases List.mem_cons.mp hb with y | hb
      · rw [y]; exact Nat.lt_succ_self _
      · rw [List.mem_singleton.mp hb]; exact Nat.lt_succ_of_lt (Heap.lt_size hol)
    · dsimp only at hm hS ⊢
      rw [hz1] at hm hS ⊢
      have hk : ∀ b o, s1.heap.get? b = some o → z.heap.get? b = some o := fun b o y => hm.heap b o (fun hb => by
        have hlt := Heap.lt_size y
        rcases List.mem_cons.mp hb with y | hb
        · rw [y] at hlt; exact Nat.lt_irrefl _ (Nat.lt_of_succ_lt hlt)
        · rw [List.mem_singleton.mp hb] at hlt; exact Nat.lt_irrefl _ hlt) (Heap.get?_push_of_some _ (Heap.get?_push_of_some _ y))
      exact lrev_end I1 (its := its.toArray) (by simpa using rv) hz ha hS hk (Nat.le_succ _) (by have y := Moved.eq_with hm; exact y) q
end
end Li
namespace Li
abbrev S := List Nat
def LINE : Nat := 16777216
/-- built-in classes as values -/
inductive Ty where
  | int | str | bool | list | tuple | dict
  deriving DecidableEq, Repr
inductive D where
  | non | bl (b : Bool) | int (i : Int) | str (s : S) | tup (xs : List D)
  | ob (n : Nat) | ro (xs : List D) | fn (n : Nat) | ty (t : Ty)
  | xn (c : Nat) (fs : List S) (ds : List D)
  deriving Repr, Inhabited
/-- what stands for a dict's key -/
inductive K where
  | int (i : Int) | str (s : S)
  deriving DecidableEq, Repr, Inhabited
instance : Repr PySem.NestedKey := ⟨fun _ _ => "key"⟩
/-- nst: a set of nested tuples (by value) -/
inductive O where
  | lst (xs : List D) | ins (c : Nat) (fs : List (S × D)) | dic (kvs : List (K × D)) | nst (ks : List PySem.NestedKey)
  deriving Repr, Inhabited
abbrev Store := List O
/-- an exception: its class, its fields, what they hold -/
structure Xn where
  c : Nat
  fs : List S
  ds : List D
inductive R (α : Type) where
  | ok (a : α) (st : Store)
  | ex (x : Xn) (st : Store)
  | bad
abbrev M (α : Type) : Type := Store → R α
def ret {α : Type} (a : α) : M α := fun st => .ok a st
def bad {α : Type} : M α := fun _ => .bad
def bnd {α β : Type} (m : M α) (f : α → M β) : M β := fun st => match m st with
  | .ok a st' => f a st'
  | .ex x st' => .ex x st'
  | .bad => .bad
def getO (n : Nat) : M O := fun st => match st[n]? with
  | some o => .ok o st
  | none => .bad
def setO (n : Nat) (o : O) : M Unit := fun st => if n < st.length then .ok () (st.set n o) else .bad
def newO (o : O) : M D := fun st => .ok (.ob st.length) (st ++ [o])
/-- where an exception must not come out -/
def calm {α : Type} (m : M α) : M α := fun st => match m st with
  | .ok a st' => .ok a st'
  | .ex _ _ => .bad
  | .bad => .bad
theorem bnd_ok {α β : Type} {m : M α} {f : α → M β} {st st' : Store} {a : α} (h : m st = .ok a st') : bnd m f st = f a st' := by
  unfold bnd
  rw [h]
theorem bnd_ex {α β : Type} {m : M α} {f : α → M β} {st st' : Store} {x : Xn} (h : m st = .ex x st') : bnd m f st = .ex x st' := by
  unfold bnd
  rw [h]
theorem bnd_bad {α β : Type} {m : M α} {f : α → M β} {st : Store} (h : m st = .bad) : bnd m f st = .bad := by
  unfold bnd
  rw [h]
theorem bnd_congr {α β : Type} {m m' : M α} {f : α → M β} {st : Store} (h : m st = m' st) : bnd m f st = bnd m' f st := by
  unfold bnd
  rw [h]
theorem bnd_bnd {α β γ : Type} (m : M α) (f : α → M β) (g : β → M γ) : bnd (bnd m f) g = bnd m fun a => bnd (f a) g := by
  funext st
  unfold bnd
  cases m st <;> rfl
theorem bnd_ret {α β : Type} (a : α) (f : α → M β) : bnd (ret a) f = f a := rfl
theorem bnd_bad' {α β : Type} (f : α → M β) : bnd (bad : M α) f = bad := rfl
/-- a list by its number -/
def getL (n : Nat) : M (List D) := fun st => match st[n]? with
  | some (.lst xs) => .ok xs st
  | _ => .bad
/-- an instance by its number: class, fields -/
def getF (n : Nat) : M (Nat × List (S × D)) := fun st => match st[n]? with
  | some (.ins c fs) => .ok (c, fs) st
  | _ => .bad
/-- a dict by its number -/
def getM (n : Nat) : M (List (K × D)) := fun st => match st[n]? with
  | some (.dic kvs) => .ok kvs st
  | _ => .bad
/-- a set of nested tuples by its number -/
def getN (n : Nat) : M (List PySem.NestedKey) := fun st => match st[n]? with
  | some (.nst ks) => .ok ks st
  | _ => .bad
mutual
/-- what stands for a nested tuple as a key -/
def kN : D → Option PySem.NestedKey
  | .non => some .none
  | .bl b => some (.num (if b = true then 1 else 0))
  | .int i => some (.num i)
  | .str s => some (.text ⟨s.toArray⟩)
  | .tup xs => (kNs xs).map .tup
  | .ob _ => none
  | .ro _ => none
  | .fn _ => none
  | .ty _ => none
  | .xn _ _ _ => none
def kNs : List D → Option (List PySem.NestedKey)
  | [] => some []
  | x :: xs => (kN x).bind fun k => (kNs xs).map (k :: ·)
end
def keyN : D → Option PySem.NestedKey
  | .tup xs => (kN (.tup xs)).bind fun k => if k.depth ≤ 8 then some k else none
  | _ => none
def keyD : D → Option K
  | .int i => some (.int i)
  | .str s => some (.str s)
  | _ => none
def lookM (kvs : List (K × D)) (k : K) : Option D := (kvs.find? fun p => decide (p.1 = k)).map (·.2)
def putM (kvs : List (K × D)) (k : K) (v : D) : List (K × D) := if (kvs.any fun p => decide (p.1 = k)) then kvs.map fun p => if p.1 = k then (p.1, v) else p else kvs ++ [(k, v)]
def pairsOf : List D → Option (List (K × D))
  | [] => some []
  | x :: y :: r => (keyD x).bind fun k => (pairsOf r).map ((k, y) :: ·)
  | _ => none
def mergeM (kvs more : List (K × D)) : List (K × D) := more.foldl (fun a p => putM a p.1 p.2) kvs
def putF (f : S) (v : D) : List (S × D) → List (S × D)
  | [] => [(f, v)]
  | (g, x) :: r => if g = f then (g, v) :: r else (g, x) :: putF f v r
def ofO {α : Type} : Option α → M α
  | some a => ret a
  | none => bad
def chk {α : Type} (c : Prop) [Decidable c] (m : M α) : M α := fun st => if c then m st else .bad
inductive Bop where
  | add | sub | mul | fdiv | mod | pow
  deriving DecidableEq, Repr
inductive Cop where
  | eq | ne | lt | le | gt | ge | is | isn | isin | nin
  deriving DecidableEq, Repr
/-- built-in functions -/
inductive Bi where
  | len | int | abs | list | tuple | isi | repr | str | min | max
  deriving DecidableEq, Repr
/-- methods of built-in kinds -/
inductive Mt where
  | append | pop | extend | reverse | insert | clear | split | join | startswith | endswith | find | isdigit | upper | lower | strip | index
  deriving DecidableEq, Repr
/-- the methods of texts (the others are those of lists) -/
def mtStr : Mt → Bool
  | .split | .join | .startswith | .endswith | .find | .isdigit | .upper | .lower | .strip | .index => true
  | _ => false
inductive Ex where
  | v (i : Nat) | c (d : D)
  | bin (o : Bop) (a b : Ex)
  | neg (a : Ex) | nt (a : Ex)
  | cmp (o : Cop) (a b : Ex)
  | chain (o p : Cop) (a b c : Ex)
  | and (a b : Ex) | or (a b : Ex)
  | ite (t a b : Ex)
  | call (f : Nat) (as : List Ex)
  | bi (b : Bi) (as : List Ex)
  | mt (m : Mt) (o : Ex) (as : List Ex)
  | ix (a b : Ex)
  | sl (a : Ex) (lo hi : Option Ex)
  | tup (as : List Ex) | lst (as : List Ex)
  | txt (a : Ex) | js (as : List Ex)
  | lc (e : Ex) (i : Nat) (it : Ex) (c : Option Ex) | lcr (e : Ex) (i : Nat) (as : List Ex) (c : Option Ex)
  | fld (o : Ex) (f : S) | me (c : Nat) (f : Nat) (m : S) (o : Ex) (as : List Ex) | mk (c : Nat) (f : Nat) (as : List Ex)
  | xf (n i : Nat) (f : S) | xi (n i : Nat) (ks : List Nat)
  | dix (kvs : List (S × D)) (e : Ex) | din (kvs : List (S × D)) (neg : Bool) (e : Ex)
  | dis (as : List Ex) | dg (o k : Ex) | dq (neg : Bool) (k o : Ex) | dm1 (o k : Ex) | dm2 (o k e : Ex)
  | tix (ys : List S) (e : Ex)
  | nset | nadd (o e : Ex) | nin (neg : Bool) (e o : Ex) | lrev (e : Ex)
  | cv (f : Ex) (as : List Ex)
  | bad
  deriving Repr, Inhabited
abbrev Env := List (Option D)
def res (st : Store) : Nat → D → Option D
  | _, .non => some .non
  | _, .bl b => some (.bl b)
  | _, .int i => some (.int i)
  | _, .str s => some (.str s)
  | n + 1, .tup xs => (xs.mapM (res st n)).map .tup
  | n + 1, .ro xs => (xs.mapM (res st n)).map .ro
  | n + 1, .ob k => match st[k]? with
    | some (.lst xs) => (xs.mapM (res st n)).map .ro
    | _ => none
  | _, _ => none
def DEEP : Nat := 60
mutual
/-- == of data -/
def eqv : D → D → Bool
  | .non, .non => true
  | .bl a, .bl b => a == b
  | .bl a, .int j => (if a then 1 else 0) == j
  | .int i, .bl b => i == (if b then 1 else 0)
  | .int i, .int j => i == j
  | .str s, .str t => s == t
  | .tup xs, .tup ys => eqvs xs ys
  | .ro xs, .ro ys => eqvs xs ys
  | _, _ => false
def eqvs : List D → List D → Bool
  | [], [] => true
  | x :: xs, y :: ys => eqv x y && eqvs xs ys
  | _, _ => false
end
mutual
def pd : D → PySem.PyData
  | .non => .none
  | .bl b => .bool b
  | .int i => .int i
  | .str s => .str ⟨s.toArray⟩
  | .tup xs => .tuple (pds xs)
  | .ro xs => .list (pds xs)
  | .ob _ => .none
  | .fn _ => .none
  | .ty _ => .none
  | .xn _ _ _ => .none
def pds : List D → List PySem.PyData
  | [] => []
  | x :: xs => pd x :: pds xs
end
/-- what repr gives -/
def shS (x : D) : S := (PySem.PyData.shown (pd x)).cps.toList
def okS (x : D) : Bool := PySem.PyData.showable (pd x) && (decide ((shS x).length ≤ LINE) && (shS x).all fun c => decide (c < 0x110000))
def ixs (n d : Nat) : Option Int → Nat
  | none => d
  | some v => if v < 0 then (v + (n : Int)).toNat else min v.toNat n
def cut {α : Type} (xs : List α) (lo hi : Option Int) : List α := (xs.drop (ixs xs.length 0 lo)).take (ixs xs.length xs.length hi - ixs xs.length 0 lo)
def ixN (n : Nat) (i : Int) : Option Nat := if 0 ≤ i then (if i < n then some i.toNat else none) else if -(n : Int) ≤ i then some (i + n).toNat else none
def atI {α : Type} (xs : List α) (i : Int) : Option α := (ixN xs.length i).bind fun j => xs[j]?
def isSub (s t : S) : Bool := s.isPrefixOf t || match t with
  | [] => false
  | _ :: r => isSub s r
termination_by t.length
def SMALL : Int := 2 ^ 64
def SMALL2 : Int := 2 ^ 30
def binop : Bop → D → D → M D
  | .add, .int i, .int j => ret (.int (i + j))
  | .add, .str s, .str t => chk (s.length + t.length ≤ LINE) (ret (.str (s ++ t)))
  | .add, .tup xs, .tup ys => chk (xs.length + ys.length ≤ LINE) (ret (.tup (xs ++ ys)))
  | .add, .ob a, .ob b => bnd (getL a) fun xs => bnd (getL b) fun ys => chk (xs.length + ys.length ≤ LINE) (newO (.lst (xs ++ ys)))
  | .sub, .int i, .int j => ret (.int (i - j))
  | .mul, .int i, .int j => chk ((-SMALL < i ∧ i < SMALL) ∨ (-SMALL < j ∧ j < SMALL) ∨ i.natAbs.log2 + j.natAbs.log2 < 1000000) (ret (.int (i * j)))
  | .mul, .str s, .int n => chk (-SMALL2 < n ∧ n < SMALL2 ∧ s.length * n.toNat ≤ LINE) (ret (.str (List.replicate n.toNat s).flatten))
  | .mul, .tup xs, .int n => chk (-SMALL2 < n ∧ n ≤ 1000 ∧ xs.length ≤ 1000) (ret (.tup (List.replicate n.toNat xs).flatten))
  | .fdiv, .int i, .int j => chk (j ≠ 0 ∧ j.natAbs.log2 < 9000) (ret (.int (i.fdiv j)))
  | .mod, .int i, .int j => chk (j ≠ 0) (ret (.int (i.fmod j)))
  | .pow, .int i, .int j => chk (0 ≤ j ∧ j ≤ 1000000 ∧ (i.natAbs < 2 ^ 64 ∨ (j ≤ 10 ∧ i.natAbs.log2 < 1000))) (ret (.int (i ^ j.toNat)))
  | _, _, _ => bad
def truth : D → M Bool
  | .non => ret false
  | .bl b => ret b
  | .int i => ret (i != 0)
  | .str s => ret (!s.isEmpty)
  | .tup xs => ret (!xs.isEmpty)
  | .ro xs => ret (!xs.isEmpty)
  | .ob n => bnd (getL n) fun xs => ret (!xs.isEmpty)
  | _ => bad
/-- two things as data -/
def data2 (a b : D) : M (D × D) := fun st => match res st DEEP a, res st DEEP b with
  | some x, some y => .ok (x, y) st
  | _, _ => .bad
/-- the items of a row -/
def rowOf : D → M (List D)
  | .tup xs => ret xs
  | .ro xs => ret xs
  | .ob n => getL n
  | _ => bad
def among (p : D × D) : M Bool := match p.2 with
  | .tup ys => ret (ys.any fun y => eqv y p.1)
  | .ro ys => ret (ys.any fun y => eqv y p.1)
  | _ => bad
def isInD (a b : D) : M Bool := bnd (data2 a b) among
def isIn : D → D → M Bool
  | .str s, .str t => ret (isSub s t)
  | a, b => isInD a b
def isNon : D → Bool
  | .non => true
  | _ => false
def cmpop : Cop → D → D → M Bool
  | .eq, a, b => bnd (data2 a b) fun p => ret (eqv p.1 p.2)
  | .ne, a, b => bnd (data2 a b) fun p => ret (!eqv p.1 p.2)
  | .lt, .int i, .int j => ret (decide (i < j))
  | .le, .int i, .int j => ret (decide (i ≤ j))
  | .gt, .int i, .int j => ret (decide (j < i))
  | .ge, .int i, .int j => ret (decide (j ≤ i))
  | .is, a, .non => ret (isNon a)
  | .isn, a, .non => ret (!isNon a)
  | .is, .bl a, .bl b => ret (a == b)
  | .isn, .bl a, .bl b => ret (!(a == b))
  | .isin, a, b => isIn a b
  | .nin, a, b => bnd (isIn a b) fun k => ret (!k)
  | _, _, _ => bad
def isTy (st : Store) : D → Ty → Bool
  | .bl _, .bool => true
  | .bl _, .int => true
  | .int _, .int => true
  | .str _, .str => true
  | .tup _, .tuple => true
  | .ro _, .list => true
  | .ob n, .list => match st[n]? with
    | some (.lst _) => true
    | _ => false
  | _, _ => false
/-- kinds that isinstance may be asked of -/
def kinded (st : Store) : D → Bool
  | .non | .bl _ | .int _ | .str _ | .tup _ | .ro _ => true
  | .ob n => match st[n]? with
    | some (.lst _) => true
    | _ => false
  | _ => false
def boolS (b : Bool) : S := if b then [84, 114, 117, 101] else [70, 97, 108, 115, 101]
def built : Bi → List D → M D
  | .len, [.str s] => ret (.int s.length)
  | .len, [d] => bnd (rowOf d) fun xs => ret (.int xs.length)
  | .int, [.int i] => ret (.int i)
  | .int, [.bl b] => ret (.int (if b then 1 else 0))
  | .int, [.str s] => chk (s.length ≤ 640) (bnd (ofO (PySem.intText? ⟨s.toArray⟩)) fun i => ret (.int i))
  | .abs, [.int i] => ret (.int (if i < 0 then -i else i))
  | .list, [d] => bnd (rowOf d) fun xs => newO (.lst xs)
  | .tuple, [d] => bnd (rowOf d) fun xs => ret (.tup xs)
  | .repr, [d] => fun st => match res st DEEP d with
    | some x => if okS x = true then .ok (.str (shS x)) st else .bad
    | none => .bad
  | .str, [.int i] => fun st => if okS (.int i) = true then .ok (.str (shS (.int i))) st else .bad
  | .str, [.str s] => ret (.str s)
  | .str, [.bl b] => ret (.str (boolS b))
  | .min, [.int i, .int j] => ret (.int (if j < i then j else i))
  | .max, [.int i, .int j] => ret (.int (if j > i then j else i))
  | .isi, [d, .ty t] => fun st => if kinded st d = true then .ok (.bl (isTy st d t)) st else .bad
  | _, _ => bad
def BIG : Int := 2 ^ 62
def inBig (i : Int) : Prop := -BIG ≤ i ∧ i < BIG
instance (i : Int) : Decidable (inBig i) := inferInstanceAs (Decidable (_ ∧ _))
def mkS (s : S) : PySem.Str := ⟨s.toArray⟩
def okC (t : S) : Bool := decide (t.length ≤ LINE) && t.all fun c => decide (c < 0x110000)
def wordsS (s : S) : List S := (PySem.Txt.words (mkS s)).map fun z => z.cps.toList
def splitS (s t : S) : List S := (PySem.Txt.split (mkS s) (mkS t)).map fun z => z.cps.toList
def joinS (s : S) : List S → S
  | [] => []
  | [p] => p
  | p :: q :: r => p ++ (s ++ joinS s (q :: r))
def strsOf : List D → Option (List S)
  | [] => some []
  | .str s :: ds => (strsOf ds).map (s :: ·)
  | _ :: _ => none
/-- the first place of a text in a text; of a text among texts -/
def idxS (s t : S) : Option Nat := (PySem.Builtin.Str.occurrences (mkS s) (mkS t) 0 (mkS s).length 1).head?
def idxL (ys : List S) (z : S) : Option Nat := ys.findIdx? fun y => decide (y = z)
def chg (f : PySem.Str → PySem.Str) (s : S) : M D := chk (s.length ≤ 5000000 ∧ okC (f (mkS s)).cps.toList = true) (ret (.str (f (mkS s)).cps.toList))
def meth : Mt → D → List D → M D
  | .append, .ob n, [d] => bnd (getL n) fun xs => chk (xs.length < LINE) (bnd (setO n (.lst (xs ++ [d]))) fun _ => ret .non)
  | .pop, .ob n, [] => bnd (getL n) fun xs => bnd (ofO (xs[xs.length - 1]?)) fun d => bnd (setO n (.lst xs.dropLast)) fun _ => ret d
  | .pop, .ob n, [.int i] => chk (inBig i) (bnd (getL n) fun xs => bnd (ofO (ixN xs.length i)) fun j => bnd (ofO (xs[j]?)) fun d => bnd (setO n (.lst (xs.eraseIdx j))) fun _ => ret d)
  | .extend, .ob n, [.ob m] => bnd (getL n) fun xs => bnd (getL m) fun ys => chk (xs.length + ys.length ≤ LINE) (bnd (setO n (.lst (xs ++ ys))) fun _ => ret .non)
  | .reverse, .ob n, [] => bnd (getL n) fun xs => bnd (setO n (.lst xs.reverse)) fun _ => ret .non
  | .clear, .ob n, [] => bnd (getL n) fun _ => bnd (setO n (.lst [])) fun _ => ret .non
  | .insert, .ob n, [.int i, d] => chk (0 ≤ i ∧ inBig i) (bnd (getL n) fun xs => chk (xs.length < LINE) (bnd (setO n (.lst (xs.take i.toNat ++ [d] ++ xs.drop i.toNat))) fun _ => ret .non))
  | .split, .str s, [] => chk (s.length + 2 ≤ LINE ∧ (wordsS s).all okC = true) (newO (.lst ((wordsS s).map .str)))
  | .split, .str s, [.str t] => chk (t ≠ [] ∧ s.length + 2 ≤ LINE ∧ (splitS s t).all okC = true) (newO (.lst ((splitS s t).map .str)))
  | .join, .str s, [d] => bnd (rowOf d) fun xs => bnd (ofO (strsOf xs)) fun ys => chk ((ys.map (·.length)).sum + ys.length * s.length ≤ LINE) (ret (.str (joinS s ys)))
  | .startswith, .str s, [.str t] => ret (.bl (PySem.Txt.startswith (mkS s) (mkS t)))
  | .endswith, .str s, [.str t] => ret (.bl (PySem.Txt.endswith (mkS s) (mkS t)))
  | .find, .str s, [.str t] => ret (.int (PySem.Txt.find (mkS s) (mkS t)))
  | .isdigit, .str s, [] => ret (.bl (PySem.Txt.isdigit (mkS s)))
  | .upper, .str s, [] => chg PySem.Txt.upper s
  | .lower, .str s, [] => chg PySem.Txt.lower s
  | .strip, .str s, [] => chg PySem.Txt.strip s
  | .index, .str s, [.str t] => bnd (ofO (idxS s t)) fun i => ret (.int (i : Nat))
  | _, _, _ => bad
/-- a part of an f-string -/
def txtOf : D → M D
  | .str s => ret (.str s)
  | .int i => fun st => if okS (.int i) = true then .ok (.str (shS (.int i))) st else .bad
  | _ => bad
def glue (acc : S) (k : S → M D) : D → M D
  | .str s => chk (acc.length + s.length ≤ LINE) (k (acc ++ s))
  | _ => bad
/-- what a method's receiver must be -/
def kindM (m : Mt) : D → M Unit
  | .ob n => if mtStr m then bad else bnd (getL n) fun _ => ret ()
  | .str _ => if mtStr m then ret () else bad
  | _ => bad
def item : D → D → M D
  | .str s, .int i => bnd (ofO (atI s i)) fun c => ret (.str [c])
  | a, .int i => bnd (rowOf a) fun xs => ofO (atI xs i)
  | _, _ => bad
def slice : D → Option Int → Option Int → M D
  | .str s, lo, hi => ret (.str (cut s lo hi))
  | .tup xs, lo, hi => ret (.tup (cut xs lo hi))
  | .ro xs, lo, hi => newO (.lst (cut xs lo hi))
  | .ob n, lo, hi => bnd (getL n) fun xs => newO (.lst (cut xs lo hi))
  | _, _, _ => bad
/-- a field; a field that is set; the class that is asked for -/
def fldOf (f : S) : D → M D
  | .ob n => bnd (getF n) fun p => ofO (p.2.lookup f)
  | _ => bad
def clsOf : D → M Nat
  | .ob n => bnd (getF n) fun p => ret p.1
  | _ => bad
def putFld (f : S) (d : D) : D → M Unit
  | .ob n => bnd (getF n) fun p => chk (p.2.length < 1000) (setO n (.ins p.1 (putF f d p.2)))
  | _ => bad
def isC (c : Nat) (m : S) : D → M Unit
  | .ob n => bnd (getF n) fun p => chk (p.1 = c ∧ p.2.lookup m = none) (ret ())
  | _ => bad
def nonOnly : D → M Unit
  | .non => ret ()
  | _ => bad
/-- a op= b -/
def augop : Bop → D → D → M D
  | .add, .int i, .int j => ret (.int (i + j))
  | .add, .str s, .str t => chk (s.length + t.length ≤ LINE) (ret (.str (s ++ t)))
  | .sub, .int i, .int j => ret (.int (i - j))
  | .mul, .int i, .int j => chk ((-SMALL < i ∧ i < SMALL) ∨ (-SMALL < j ∧ j < SMALL)) (ret (.int (i * j)))
  | _, _, _ => bad
def bound : D → M (Option Int)
  | .int i => ret (some i)
  | _ => bad
def putItem : D → D → D → M Unit
  | .ob n, .int i, d => bnd (getL n) fun xs => bnd (ofO (ixN xs.length i)) fun j => setO n (.lst (xs.set j d))
  | _, _, _ => bad
/-- lo, lo + 1, .. -/
def rangeD (lo : Int) (n : Nat) : List D := (List.range n).map fun i => .int (lo + (i : Nat))
def rangeOf : List D → M (List D)
  | [.int j] => chk (inBig j) (ret (rangeD 0 j.toNat))
  | [.int i, .int j] => chk (inBig i ∧ inBig j) (ret (rangeD i (j - i).toNat))
  | [.int i, .int j, .int c] => chk (c = -1 ∧ inBig i ∧ inBig j) (ret ((List.range (i - j).toNat).map fun k => .int (i + (k : Nat) * (-1))))
  | _ => bad
/-- what a comprehension makes of its items -/
def lcI (t : D → M Bool) (f : D → M D) : List D → List D → M (List D)
  | acc, [] => ret acc
  | acc, x :: xs => bnd (t x) fun k => if k then bnd (f x) fun y => chk (acc.length < LINE) (lcI t f (acc ++ [y]) xs) else lcI t f acc xs
/-- a walk over a list of the store: it is looked at again at each turn -/
def FUEL : Nat := 2 ^ 40
def lcO (t : D → M Bool) (f : D → M D) (n : Nat) : Nat → Nat → List D → M (List D)
  | 0, _, _ => bad
  | k + 1, i, acc => bnd (getL n) fun xs => match xs[i]? with
    | none => ret acc
    | some x => bnd (t x) fun c => if c then bnd (f x) fun y => chk (acc.length < LINE) (lcO t f n k (i + 1) (acc ++ [y])) else lcO t f n k (i + 1) acc
def charsOf (s : S) : List D := s.map fun c => .str [c]
def lcRun (t : D → M Bool) (f : D → M D) : D → M (List D)
  | .tup xs => lcI t f [] xs
  | .ro xs => lcI t f [] xs
  | .str s => lcI t f [] (charsOf s)
  | .ob n => lcO t f n FUEL 0 []
  | _ => bad
/-- a module's dict with text keys: an item; whether a key is in it -/
def dixOf (kvs : List (S × D)) : D → M D
  | .str s => ofO (kvs.lookup s)
  | _ => bad
def dinOf (kvs : List (S × D)) (neg : Bool) : D → M D
  | .str s => ret (.bl ((kvs.lookup s).isSome != neg))
  | _ => bad
/-- t.index(x) of a constant tuple of texts -/
def tixOf (ys : List S) : D → M D
  | .str z => bnd (ofO (idxL ys z)) fun j => ret (.int (j : Nat))
  | _ => bad
/-- dicts of one's own -/
def dgetOf : D → D → M D
  | .ob n, y => bnd (ofO (keyD y)) fun k => bnd (getM n) fun kvs => ofO (lookM kvs k)
  | _, _ => bad
def dhasOf (neg : Bool) : D → D → M D
  | y, .ob n => bnd (ofO (keyD y)) fun k => bnd (getM n) fun kvs => ret (.bl ((lookM kvs k).isSome != neg))
  | _, _ => bad
def isM : D → M Unit
  | .ob n => bnd (getM n) fun _ => ret ()
  | _ => bad
def dgetD : D → D → D → M D
  | .ob n, y, z => bnd (ofO (keyD y)) fun k => bnd (getM n) fun kvs => ret ((lookM kvs k).getD z)
  | _, _, _ => bad
def dputOf : D → D → D → M Unit
  | .ob n, y, d => bnd (ofO (keyD y)) fun k => bnd (getM n) fun kvs => chk (kvs.length < LINE) (setO n (.dic (putM kvs k d)))
  | _, _, _ => bad
/-- sets of nested tuples: is it one; add; whether a key is in it -/
def isNs : D → M Unit
  | .ob n => bnd (getN n) fun _ => ret ()
  | _ => bad
def naddOf : D → D → M D
  | .ob n, y => bnd (ofO (keyN y)) fun k => bnd (getN n) fun ks => chk (ks.length + 1 < 64) (bnd (setO n (.nst (if k ∈ ks then ks else k :: ks))) fun _ => ret .non)
  | _, _ => bad
def nhasOf (neg : Bool) : D → D → M D
  | y, .ob n => bnd (ofO (keyN y)) fun k => bnd (getN n) fun ks => ret (.bl (decide (k ∈ ks) != neg))
  | _, _ => bad
/-- list(reversed(x)) -/
def revOf (d : D) : M D := bnd (rowOf d) fun xs => newO (.lst xs.reverse)
/-- the exception that a suite has in hand: behind the names; its own name is not known otherwise -/
def curX (n i : Nat) (env : Env) (k : Xn → M D) : M D := match env[n]?, env[i]? with
  | some (some (.xn c fs ds)), some none => k ⟨c, fs, ds⟩
  | _, _ => bad
/-- a function as a value -/
def fnOf : D → M Nat
  | .fn i => ret i
  | _ => bad
section
variable (cf : Nat → List D → M D)
mutual
def evE : Ex → Env → M D
  | .v i, env => match env[i]? with
    | some (some d) => ret d
    | _ => bad
  | .c d, _ => ret d
  | .bin o a b, env => bnd (evE a env) fun x => bnd (evE b env) fun y => binop o x y
  | .neg a, env => bnd (evE a env) fun x => match x with
    | .int i => ret (.int (-i))
    | _ => bad
  | .nt a, env => bnd (evE a env) fun x => bnd (truth x) fun k => ret (.bl (!k))
  | .cmp o a b, env => bnd (evE a env) fun x => bnd (evE b env) fun y => bnd (cmpop o x y) fun k => ret (.bl k)
  | .chain o p a b c, env => bnd (evE a env) fun x => bnd (evE b env) fun y => bnd (cmpop o x y) fun k =>
      if k then bnd (evE c env) fun z => bnd (cmpop p y z) fun k => ret (.bl k) else ret (.bl false)
  | .and a b, env => bnd (evE a env) fun x => bnd (truth x) fun k => if k then evE b env else ret x
  | .or a b, env => bnd (evE a env) fun x => bnd (truth x) fun k => if k then ret x else evE b env
  | .ite t a b, env => bnd (evE t env) fun x => bnd (truth x) fun k => if k then evE a env else evE b env
  | .call f as, env => bnd (evEs as env) fun ds => cf f ds
  | .bi b as, env => bnd (evEs as env) fun ds => built b ds
  | .mt m o as, env => bnd (evE o env) fun x => bnd (kindM m x) fun _ => bnd (evEs as env) fun ds => meth m x ds
  | .ix a b, env => bnd (evE a env) fun x => bnd (evE b env) fun y => item x y
  | .sl a lo hi, env => bnd (evE a env) fun x => bnd (evO lo env) fun l => bnd (evO hi env) fun h => slice x l h
  | .tup as, env => bnd (evEs as env) fun ds => chk (ds.length ≤ LINE) (ret (.tup ds))
  | .lst as, env => bnd (evEs as env) fun ds => chk (ds.length ≤ LINE) (newO (.lst ds))
  | .txt a, env => bnd (evE a env) txtOf
  | .js as, env => evJ as [] env
  | .lc e i it c, env => bnd (evE it env) fun x => bnd (lcRun (fun y => calm (evC c (env.set i (some y)))) (fun y => calm (evE e (env.set i (some y)))) x) fun ys => newO (.lst ys)
  | .lcr e i as c, env => bnd (evEs as env) fun ds => bnd (rangeOf ds) fun xs => bnd (lcI (fun y => calm (evC c (env.set i (some y)))) (fun y => calm (evE e (env.set i (some y)))) [] xs) fun ys => newO (.lst ys)
  | .fld o f, env => bnd (evE o env) (fldOf f)
  | .me c f m o as, env => bnd (evE o env) fun x => bnd (isC c m x) fun _ => bnd (evEs as env) fun ds => cf f (x :: ds)
  | .mk c f as, env => bnd (evEs as env) fun ds => bnd (newO (.ins c [])) fun x => bnd (cf f (x :: ds)) fun y => bnd (nonOnly y) fun _ => ret x
  | .dix kvs e, env => bnd (evE e env) (dixOf kvs)
  | .din kvs neg e, env => bnd (evE e env) (dinOf kvs neg)
  | .dis as, env => bnd (evEs as env) fun ds => bnd (ofO (pairsOf ds)) fun kvs => chk (kvs.length ≤ 15) (newO (.dic (mergeM [] kvs)))
  | .dg o k, env => bnd (evE o env) fun x => bnd (evE k env) fun y => dgetOf x y
  | .dq neg k o, env => bnd (evE k env) fun y => bnd (evE o env) fun x => dhasOf neg y x
  | .dm1 o k, env => bnd (evE o env) fun x => bnd (isM x) fun _ => bnd (evE k env) fun y => dgetD x y .non
  | .dm2 o k e, env => bnd (evE o env) fun x => bnd (isM x) fun _ => bnd (evE k env) fun y => bnd (evE e env) fun z => dgetD x y z
  | .tix ys e, env => bnd (evE e env) (tixOf ys)
  | .nset, _ => newO (.nst [])
  | .nadd o e, env => bnd (evE o env) fun x => bnd (isNs x) fun _ => bnd (evE e env) fun y => naddOf x y
  | .nin neg e o, env => bnd (evE e env) fun y => bnd (evE o env) fun x => nhasOf neg y x
  | .lrev e, env => bnd (evE e env) revOf
  | .cv f as, env => bnd (evE f env) fun x => bnd (fnOf x) fun i => bnd (evEs as env) fun ds => cf i ds
  | .xf n i f, env => curX n i env fun x => ofO ((x.fs.zip x.ds).lookup f)
  | .xi n i ks, env => curX n i env fun x => ret (.bl (ks.contains x.c))
  | .bad, _ => bad
def evC : Option Ex → Env → M Bool
  | none, _ => ret true
  | some e, env => bnd (evE e env) truth
def evEs : List Ex → Env → M (List D)
  | [], _ => ret []
  | e :: es, env => bnd (evE e env) fun x => bnd (evEs es env) fun xs => ret (x :: xs)
def evJ : List Ex → S → Env → M D
  | [], acc, _ => ret (.str acc)
  | e :: es, acc, env => bnd (evE e env) (glue acc fun s => evJ es s env)
def evO : Option Ex → Env → M (Option Int)
  | none, _ => ret none
  | some e, env => bnd (evE e env) bound
end
end
inductive Tg where
  | nm (i : Nat) | sub (o i : Ex) | dsub (o i : Ex) | fld (o : Ex) (f : S) | nms (is : List Nat)
  deriving Repr, Inhabited
/-- what a for walks -/
inductive Wk where
  | seq (e : Ex) | rng (as : List Ex) | enu (e : Ex) | enr (e : Ex) | zip (as : List Ex)
  deriving Repr, Inhabited
inductive Stm where
  | ex (e : Ex) | asg (t : Tg) (e : Ex) | ret (e : Ex) | retN
  | ite (t : Ex) (a b : List Stm) | whl (t : Ex) (b : List Stm) | for_ (t : Tg) (w : Wk) (b : List Stm)
  | brk | cnt | pass
  | augN (i : Nat) (o : Bop) (e : Ex) | augF (a : Ex) (f : S) (o : Bop) (e : Ex)
  | rais (c : Nat) (fs : List S) (as : List Ex) | try_ (b : List Stm) (n i : Nat) (ks : List Nat) (h : List Stm)
  deriving Repr, Inhabited
def setAll : List Nat → List D → Env → Env
  | i :: is, d :: ds, env => setAll is ds (env.set i (some d))
  | _, _, env => env
def unpack (is : List Nat) (d : D) (env : Env) : M Env := match d with
  | .tup xs => chk (xs.length = is.length) (ret (setAll is xs env))
  | _ => bad
inductive Fl where
  | next (env : Env) | brk (env : Env) | cnt (env : Env) | ret (d : D)
def forI (f : D → Env → M Fl) : List D → Env → M Fl
  | [], env => ret (.next env)
  | x :: xs, env => bnd (f x env) fun r => match r with
    | .next e => forI f xs e
    | .cnt e => forI f xs e
    | .brk e => ret (.next e)
    | .ret d => ret (.ret d)
def forO (f : D → Env → M Fl) (n : Nat) : Nat → Nat → Env → M Fl
  | 0, _, _ => bad
  | k + 1, i, env => bnd (getL n) fun xs => match xs[i]? with
    | none => ret (.next env)
    | some x => bnd (f x env) fun r => match r with
      | .next e => forO f n k (i + 1) e
      | .cnt e => forO f n k (i + 1) e
      | .brk e => ret (.next e)
      | .ret d => ret (.ret d)
/-- enumerate -/
def enuL : Nat → List D → List D
  | _, [] => []
  | i, x :: xs => .tup [.int (i : Nat), x] :: enuL (i + 1) xs
theorem enuL_get : ∀ (xs : List D) (j i : Nat), (enuL j xs)[i]? = (xs[i]?).map fun x => .tup [.int ((j + i : Nat) : Int), x]
  | [], j, i => by simp [enuL]
  | x :: xs, j, 0 => by simp [enuL]
  | x :: xs, j, i + 1 => by
    unfold enuL
    rw [List.getElem?_cons_succ, enuL_get xs (j + 1) i, List.getElem?_cons_succ]
    have : j + 1 + i = j + (i + 1) := by omega
    rw [this]
theorem enuL_len : ∀ (xs : List D) (j : Nat), (enuL j xs).length = xs.length
  | [], j => rfl
  | x :: xs, j => by
    unfold enuL
    rw [List.length_cons, List.length_cons, enuL_len xs]
def forE (f : D → Env → M Fl) (n : Nat) : Nat → Nat → Env → M Fl
  | 0, _, _ => bad
  | k + 1, i, env => bnd (getL n) fun xs => match xs[i]? with
    | none => ret (.next env)
    | some x => bnd (f (.tup [.int (i : Nat), x]) env) fun r => match r with
      | .next e => forE f n k (i + 1) e
      | .cnt e => forE f n k (i + 1) e
      | .brk e => ret (.next e)
      | .ret d => ret (.ret d)
def enuRun (f : D → Env → M Fl) (d : D) (env : Env) : M Fl := match d with
  | .ro xs => forI f (enuL 0 xs) env
  | .tup xs => forI f (enuL 0 xs) env
  | .ob n => forE f n FUEL 0 env
  | _ => bad
/-- enumerate(reversed(..)) -/
def enrRun (f : D → Env → M Fl) (d : D) (env : Env) : M Fl := match d with
  | .tup xs => forI f (enuL 0 xs.reverse) env
  | _ => bad
/-- zip: both are looked at again at each turn -/
def srcL : D → M (List D)
  | .tup xs => ret xs
  | .ro xs => ret xs
  | .str s => ret (charsOf s)
  | .ob n => getL n
  | _ => bad
def forZ (f : D → Env → M Fl) (d1 d2 : D) : Nat → Nat → Env → M Fl
  | 0, _, _ => bad
  | k + 1, i, env => bnd (srcL d1) fun xs => bnd (srcL d2) fun ys => chk (i ≤ xs.length ∧ i ≤ ys.length) (match xs[i]?, ys[i]? with
    | some x, some y => bnd (f (.tup [x, y]) env) fun r => match r with
      | .next e => forZ f d1 d2 k (i + 1) e
      | .cnt e => forZ f d1 d2 k (i + 1) e
      | .brk e => ret (.next e)
      | .ret d => ret (.ret d)
    | _, _ => ret (.next env))
def zipRun (f : D → Env → M Fl) (ds : List D) (env : Env) : M Fl := match ds with
  | [d1, d2] => forZ f d1 d2 FUEL 0 env
  | _ => bad
def whlN (t : Env → M Bool) (b : Env → M Fl) : Nat → Env → M Fl
  | 0, _ => bad
  | k + 1, env => bnd (t env) fun c => if c then bnd (b env) fun r => match r with
      | .next e => whlN t b k e
      | .cnt e => whlN t b k e
      | .brk e => ret (.next e)
      | .ret d => ret (.ret d)
    else ret (.next env)
def forRun (f : D → Env → M Fl) (d : D) (env : Env) : M Fl := match d with
  | .tup xs => forI f xs env
  | .ro xs => forI f xs env
  | .str s => forI f (charsOf s) env
  | .ob n => forO f n FUEL 0 env
  | _ => bad
section
variable (cf : Nat → List D → M D)
def evT (e : Ex) (env : Env) : M Bool := bnd (evE cf e env) truth
def put : Tg → D → Env → M Env
  | .nm i, d, env => ret (env.set i (some d))
  | .dsub o i, d, env => bnd (evE cf o env) fun x => bnd (evE cf i env) fun y => bnd (dputOf x y d) fun _ => ret env
  | .sub o i, d, env => bnd (evE cf o env) fun x => bnd (evE cf i env) fun y => bnd (putItem x y d) fun _ => ret env
  | .fld o f, d, env => bnd (evE cf o env) fun x => bnd (putFld f d x) fun _ => ret env
  | .nms is, d, env => unpack is d env
/-- what an exception may hold -/
def atom : D → Bool
  | .non | .bl _ | .int _ | .str _ => true
  | _ => false
def throw (c : Nat) (fs : List S) (ds : List D) : M Fl := fun st => if ds.length = fs.length ∧ ds.all atom = true then .ex ⟨c, fs, ds⟩ st else .bad
/-- where an except suite begins: only the exception is known -/
def hEnv (n : Nat) (x : Xn) : Env := List.replicate n none ++ [some (.xn x.c x.fs x.ds)]
/-- .. and where it ends -/
def hOut (i : Nat) (e : Env) : Env := e.dropLast.set i none
def hFl (i : Nat) : Fl → Fl
  | .next e => .next (hOut i e)
  | .brk e => .brk (hOut i e)
  | .cnt e => .cnt (hOut i e)
  | .ret d => .ret d
/-- try b except .. as i: h -/
def tryM (m : M Fl) (ks : List Nat) (h : Xn → M Fl) : M Fl := fun st => match m st with
  | .ok f st' => .ok f st'
  | .ex x st' => if ks.contains x.c = true then calm (h x) st' else .ex x st'
  | .bad => .bad
mutual
def run : Stm → Env → M Fl
  | .ex e, env => bnd (evE cf e env) fun _ => ret (.next env)
  | .asg t e, env => bnd (evE cf e env) fun d => bnd (put cf t d env) fun env' => ret (.next env')
  | .ret e, env => bnd (evE cf e env) fun d => ret (.ret d)
  | .retN, _ => ret (.ret .non)
  | .ite t a b, env => bnd (evT cf t env) fun k => if k then runs a env else runs b env
  | .whl t b, env => whlN (evT cf t) (runs b) FUEL env
  | .for_ t (.seq e) b, env => bnd (evE cf e env) fun d => forRun (fun x env => bnd (put cf t x env) fun env => runs b env) d env
  | .for_ t (.enu e) b, env => bnd (evE cf e env) fun d => enuRun (fun x env => bnd (put cf t x env) fun env => runs b env) d env
  | .for_ t (.enr e) b, env => bnd (evE cf e env) fun d => enrRun (fun x env => bnd (put cf t x env) fun env => runs b env) d env
  | .for_ t (.zip as) b, env => bnd (evEs cf as env) fun ds => zipRun (fun x env => bnd (put cf t x env) fun env => runs b env) ds env
  | .for_ t (.rng as) b, env => bnd (evEs cf as env) fun ds => bnd (rangeOf ds) fun xs => forI (fun x env => bnd (put cf t x env) fun env => runs b env) xs env
  | .brk, env => ret (.brk env)
  | .cnt, env => ret (.cnt env)
  | .pass, env => ret (.next env)
  | .augN i o e, env => bnd (evE cf (.v i) env) fun x => bnd (evE cf e env) fun y => bnd (augop o x y) fun z => ret (.next (env.set i (some z)))
  | .augF a f o e, env => bnd (evE cf a env) fun x => bnd (clsOf x) fun cn => bnd (fldOf f x) fun u => bnd (evE cf e env) fun y => bnd (augop o u y) fun z => bnd (clsOf x) fun cm => chk (cm = cn) (bnd (putFld f z x) fun _ => ret (.next env))
  | .rais c fs as, env => bnd (evEs cf as env) fun ds => throw c fs ds
  | .try_ b n i ks h, env => tryM (runs b env) ks fun x => bnd (runs h (hEnv n x)) fun f => ret (hFl i f)
def runs : List Stm → Env → M Fl
  | [], env => ret (.next env)
  | s :: ss, env => bnd (run s env) fun r => match r with
    | .next e => runs ss e
    | r => ret r
end
end
structure Fn where
  np : Nat
  nv : Nat
  body : List Stm
  deriving Inhabited
def start (nv : Nat) (ds : List D) : Env := ds.map some ++ List.replicate (nv - ds.length) none
/-- the call of the i-th def, calls at most k deep -/
def call (P : List Fn) : Nat → Nat → List D → M D
  | 0, _, _ => bad
  | k + 1, i, ds => match P[i]? with
    | none => bad
    | some f => chk (ds.length = f.np) (bnd (runs (call P k) f.body (start f.nv ds)) fun r => match r with
      | .next _ => ret .non
      | .ret d => ret d
      | _ => bad)
end Li
namespace Li
open PySem L2
theorem line_eq : LINE = sizeLine := by rw [sizeLine_eq]; rfl
def tyName : Ty → String
  | .int => "int" | .str => "str" | .bool => "bool" | .list => "list" | .tuple => "tuple" | .dict => "dict"
/-- a list that is read and never written -/
def SqF (K : PySem.W.Frag) (H : Hp) (a : Addr) (xs : List V) : Prop :=
  (∃ o, H a = some (.frz o (.lst xs))) ∨
    ∃ (o : Obj) (its : Array Value) (n : Nat), K.lookup a = some o ∧ o.cls = .type "list" ∧ o.dict = none ∧ o.data = .seq its n ∧ its.size ≤ sizeLine ∧ Vals xs its.toList
theorem SqF.l {K : PySem.W.Frag} {H : Hp} {a : Addr} {xs : List V} (h : SqF K H a xs) : SqL K H a xs := by
  rcases h with h | h
  · exact .inl (.inr h)
  · exact .inr h
/-- where one stands: the written part, the defs' places -/
structure Wb where
  K : PySem.W.Frag
  F : Nat → Option Addr
  C : Nat → Option Addr
  E : Nat → Option Addr := fun _ => none
  w : World
/-- .. and what is owed where an exception comes out -/
structure Wd where
  b : Wb
  xk : XK
  /-- in an except suite: the name's slot, the exception, its class, its dict -/
  cur : Option (Nat × Addr × Value × Option Addr) := none
mutual
inductive RD (W : Wb) (H : Hp) (r : List Addr) : D → V → Prop
  | non : RD W H r .non .non
  | bl (b : Bool) : RD W H r (.bl b) (.bl b)
  | int (i : Int) : RD W H r (.int i) (.int i)
  | str (s : S) : s.length ≤ LINE → (∀ c ∈ s, c < 0x110000) → RD W H r (.str s) (.str ⟨s.toArray⟩)
  | tup {a : Addr} {vs : List V} {ds : List D} : SqT W.K H a vs → RDs W H r ds vs → RD W H r (.tup ds) (.ref a)
  | ro {a : Addr} {vs : List V} {ds : List D} : SqF W.K H a vs → RDs W H r ds vs → RD W H r (.ro ds) (.ref a)
  | ob {n : Nat} {a : Addr} : r[n]? = some a → RD W H r (.ob n) (.ref a)
  | fn {n : Nat} {a : Addr} : W.F n = some a → RD W H r (.fn n) (.ref a)
  | ty (t : Ty) : RD W H r (.ty t) (.ty (tyName t))
inductive RDs (W : Wb) (H : Hp) (r : List Addr) : List D → List V → Prop
  | nil : RDs W H r [] []
  | cons {d : D} {v : V} {ds : List D} {vs : List V} : RD W H r d v → RDs W H r ds vs → RDs W H r (d :: ds) (v :: vs)
end
/-- what stays: tuples, known things -/
structure Lt0 (H : Hp) (r : List Addr) (H' : Hp) (r' : List Addr) : Prop where
  tup : ∀ a xs, H a = some (.tup xs) → H' a = some (.tup xs)
  frz : ∀ a o u, H a = some (.frz o u) → H' a = some (.frz o u)
  xd : ∀ a fs, H a = some (.xd fs) → H' a = some (.xd fs)
  pre : ∃ t, r' = r ++ t
/-- .. and all that the store does not know -/
structure Lt (H : Hp) (r : List Addr) (H' : Hp) (r' : List Addr) : Prop extends Lt0 H r H' r' where
  keep : ∀ a u, H a = some u → a ∉ r → H' a = some u ∧ a ∉ r'
theorem Lt.refl (H : Hp) (r : List Addr) : Lt H r H r := ⟨⟨fun _ _ h => h, fun _ _ _ h => h, fun _ _ h => h, [], by simp⟩, fun _ _ h n => ⟨h, n⟩⟩
theorem Lt.trans {H1 H2 H3 : Hp} {r1 r2 r3 : List Addr} (a : Lt H1 r1 H2 r2) (b : Lt H2 r2 H3 r3) : Lt H1 r1 H3 r3 := by
  obtain ⟨t, e⟩ := a.pre
  obtain ⟨u, f⟩ := b.pre
  exact ⟨⟨fun x xs h => b.tup x xs (a.tup x xs h), fun x o u h => b.frz x o u (a.frz x o u h), fun x u h => b.xd x u (a.xd x u h), t ++ u, by rw [f, e, List.append_assoc]⟩, fun x u h n => let ⟨h1, n1⟩ := a.keep x u h n; b.keep x u h1 n1⟩
section
variable {W : Wb} {H H' : Hp} {r r' : List Addr}
theorem Lt0.sqT (l : Lt0 H r H' r') {a : Addr} {xs : List V} (h : SqT W.K H a xs) : SqT W.K H' a xs := by
  rcases h with (h | ⟨o, h⟩) | h
  · exact .inl (.inl (l.tup _ _ h))
  · exact .inl (.inr ⟨o, l.frz _ _ _ h⟩)
  · exact .inr h
theorem Lt0.sqF (l : Lt0 H r H' r') {a : Addr} {xs : List V} (h : SqF W.K H a xs) : SqF W.K H' a xs := by
  rcases h with ⟨o, h⟩ | h
  · exact .inl ⟨o, l.frz _ _ _ h⟩
  · exact .inr h
theorem Lt0.get (l : Lt0 H r H' r') {n : Nat} {a : Addr} (h : r[n]? = some a) : r'[n]? = some a := by
  obtain ⟨t, e⟩ := l.pre
  rw [e, List.getElem?_append_left (List.getElem?_eq_some_iff.mp h).1]
  exact h
mutual
theorem RD.mono0 (l : Lt0 H r H' r') : ∀ {d : D} {v : V}, RD W H r d v → RD W H' r' d v
  | _, _, .non => .non
  | _, _, .bl b => .bl b
  | _, _, .int i => .int i
  | _, _, .str s h1 h2 => .str s h1 h2
  | _, _, .tup h1 h2 => .tup (l.sqT h1) (RDs.mono0 l h2)
  | _, _, .ro h1 h2 => .ro (l.sqF h1) (RDs.mono0 l h2)
  | _, _, .ob h => .ob (l.get h)
  | _, _, .fn h => .fn h
  | _, _, .ty t => .ty t
theorem RDs.mono0 (l : Lt0 H r H' r') : ∀ {ds : List D} {vs : List V}, RDs W H r ds vs → RDs W H' r' ds vs
  | _, _, .nil => .nil
  | _, _, .cons h1 h2 => .cons (RD.mono0 l h1) (RDs.mono0 l h2)
end
theorem RD.mono (l : Lt H r H' r') {d : D} {v : V} (h : RD W H r d v) : RD W H' r' d v := h.mono0 l.toLt0
theorem RDs.mono (l : Lt H r H' r') {ds : List D} {vs : List V} (h : RDs W H r ds vs) : RDs W H' r' ds vs := h.mono0 l.toLt0
theorem RDs.length : ∀ {ds : List D} {vs : List V}, RDs W H r ds vs → ds.length = vs.length
  | _, _, .nil => rfl
  | _, _, .cons _ h => by simp [RDs.length h]
theorem RDs.get : ∀ {ds : List D} {vs : List V} {i : Nat} {d : D}, RDs W H r ds vs → ds[i]? = some d → ∃ v, vs[i]? = some v ∧ RD W H r d v
  | _, _, _, _, .nil, h => by simp at h
  | _, _, 0, _, .cons h1 _, h => by
    simp at h
    subst h
    exact ⟨_, rfl, h1⟩
  | _, _, i + 1, d, .cons _ h2, h => by
    obtain ⟨v, e, q⟩ := RDs.get (i := i) (d := d) h2 (by simpa using h)
    exact ⟨v, by simpa using e, q⟩
theorem RDs.getV : ∀ {ds : List D} {vs : List V} {i : Nat} {v : V}, RDs W H r ds vs → vs[i]? = some v → ∃ d, ds[i]? = some d ∧ RD W H r d v
  | _, _, _, _, .nil, h => by simp at h
  | _, _, 0, _, .cons h1 _, h => by
    simp at h
    subst h
    exact ⟨_, rfl, h1⟩
  | _, _, i + 1, v, .cons _ h2, h => by
    obtain ⟨d, e, q⟩ := RDs.getV (i := i) (v := v) h2 (by simpa using h)
    exact ⟨d, by simpa using e, q⟩
theorem RDs.app : ∀ {ds es : List D} {vs us : List V}, RDs W H r ds vs → RDs W H r es us → RDs W H r (ds ++ es) (vs ++ us)
  | _, _, _, _, .nil, q => q
  | _, _, _, _, .cons h1 h2, q => .cons h1 (RDs.app h2 q)
theorem RDs.take : ∀ {ds : List D} {vs : List V} (n : Nat), RDs W H r ds vs → RDs W H r (ds.take n) (vs.take n)
  | _, _, 0, _ => .nil
  | _, _, _ + 1, .nil => .nil
  | _, _, n + 1, .cons h1 h2 => .cons h1 (RDs.take n h2)
theorem RDs.drop : ∀ {ds : List D} {vs : List V} (n : Nat), RDs W H r ds vs → RDs W H r (ds.drop n) (vs.drop n)
  | _, _, 0, q => q
  | _, _, _ + 1, .nil => .nil
  | _, _, n + 1, .cons _ h2 => RDs.drop n h2
theorem RDs.set {d : D} {v : V} (q : RD W H r d v) : ∀ {ds : List D} {vs : List V} (n : Nat), RDs W H r ds vs → RDs W H r (ds.set n d) (vs.set n v)
  | _, _, _, .nil => .nil
  | _, _, 0, .cons _ h2 => .cons q h2
  | _, _, n + 1, .cons h1 h2 => .cons h1 (RDs.set q n h2)
theorem RDs.dropLast {ds : List D} {vs : List V} (h : RDs W H r ds vs) : RDs W H r ds.dropLast vs.dropLast := by
  rw [List.dropLast_eq_take, List.dropLast_eq_take, h.length]
  exact h.take _
theorem RDs.nil_iff {ds : List D} {vs : List V} (h : RDs W H r ds vs) : ds.isEmpty = vs.isEmpty := by
  cases h <;> rfl
/-- fields -/
inductive RFs (W : Wb) (H : Hp) (r : List Addr) : List (S × D) → List (Str × V) → Prop
  | nil : RFs W H r [] []
  | cons {x : S} {d : D} {v : V} {fs : List (S × D)} {gs : List (Str × V)} : RD W H r d v → RFs W H r fs gs → RFs W H r ((x, d) :: fs) ((⟨x.toArray⟩, v) :: gs)
theorem RFs.mono0 (l : Lt0 H r H' r') : ∀ {fs : List (S × D)} {gs : List (Str × V)}, RFs W H r fs gs → RFs W H' r' fs gs
  | _, _, .nil => .nil
  | _, _, .cons h1 h2 => .cons (h1.mono0 l) (RFs.mono0 l h2)
theorem RFs.length : ∀ {fs : List (S × D)} {gs : List (Str × V)}, RFs W H r fs gs → fs.length = gs.length
  | _, _, .nil => rfl
  | _, _, .cons _ h => by simp [RFs.length h]
theorem str_ne {x y : S} (h : x ≠ y) : (⟨x.toArray⟩ : Str) ≠ ⟨y.toArray⟩ := fun e => h (by
  have := congrArg (fun z : Str => z.cps.toList) e
  simpa using this)
theorem RFs.look {f : S} : ∀ {fs : List (S × D)} {gs : List (Str × V)} {d : D}, RFs W H r fs gs → fs.lookup f = some d → ∃ v, gs.lookup ⟨f.toArray⟩ = some v ∧ RD W H r d v
  | _, _, d, .nil, h => by cases h
  | _, _, d, .cons (x := x) h1 h2, h => by
    by_cases e : f = x
    · subst e
      rw [List.lookup_cons_self] at h
      cases h
      exact ⟨_, List.lookup_cons_self, h1⟩
    · have e1 : (f == x) = false := beq_eq_false_iff_ne.mpr e
      have e2 : ((⟨f.toArray⟩ : Str) == ⟨x.toArray⟩) = false := beq_eq_false_iff_ne.mpr (str_ne e)
      rw [List.lookup_cons, e1] at h
      rw [List.lookup_cons, e2]
      exact RFs.look h2 h
theorem RFs.look0 {f : S} : ∀ {fs : List (S × D)} {gs : List (Str × V)}, RFs W H r fs gs → fs.lookup f = none → gs.lookup ⟨f.toArray⟩ = none
  | _, _, .nil, h => rfl
  | _, _, .cons (x := x) h1 h2, h => by
    by_cases e : f = x
    · subst e
      rw [List.lookup_cons_self] at h
      cases h
    · have e1 : (f == x) = false := beq_eq_false_iff_ne.mpr e
      have e2 : ((⟨f.toArray⟩ : Str) == ⟨x.toArray⟩) = false := beq_eq_false_iff_ne.mpr (str_ne e)
      rw [List.lookup_cons, e1] at h
      rw [List.lookup_cons, e2]
      exact RFs.look0 h2 h
theorem RFs.put {f : S} {d : D} {v : V} (q : RD W H r d v) : ∀ {fs : List (S × D)} {gs : List (Str × V)}, RFs W H r fs gs → RFs W H r (putF f d fs) (L2.putF ⟨f.toArray⟩ v gs)
  | _, _, .nil => .cons q .nil
  | _, _, .cons (x := x) h1 h2 => by
    unfold putF L2.putF
    by_cases e : x = f
    · subst e
      rw [if_pos rfl, if_pos rfl]
      exact .cons q h2
    · rw [if_neg e, if_neg (str_ne e)]
      exact .cons h1 (RFs.put q h2)
/-- a dict's key, its pairs -/
def kk : K → Key
  | .int i => .inl i
  | .str s => .inr ⟨s.toArray⟩
theorem kk_inj {a b : K} (h : kk a = kk b) : a = b := by
  cases a <;> cases b <;> simp [kk] at h
  · rw [h]
  · rw [h]
inductive RKs (W : Wb) (H : Hp) (r : List Addr) : List (K × D) → List (Key × V) → Prop
  | nil : RKs W H r [] []
  | cons {k : K} {d : D} {v : V} {ks : List (K × D)} {us : List (Key × V)} : RD W H r d v → RKs W H r ks us → RKs W H r ((k, d) :: ks) ((kk k, v) :: us)
theorem RKs.mono0 (l : Lt0 H r H' r') : ∀ {ks : List (K × D)} {us : List (Key × V)}, RKs W H r ks us → RKs W H' r' ks us
  | _, _, .nil => .nil
  | _, _, .cons h1 h2 => .cons (h1.mono0 l) (RKs.mono0 l h2)
theorem RKs.length : ∀ {ks : List (K × D)} {us : List (Key × V)}, RKs W H r ks us → ks.length = us.length
  | _, _, .nil => rfl
  | _, _, .cons _ h => by simp [RKs.length h]
/-- an object of the store -/
inductive RO (W : Wb) (H : Hp) (r : List Addr) (a : Addr) : O → HO → Prop
  | nst {ks : List NK} {L : List (Addr × NK)} : (∀ p ∈ L, NV W.K H p.2 (.ref p.1) ∧ p.2.depth ≤ 8) → (∀ k, k ∈ ks ↔ k ∈ L.map (·.2)) → L.length ≤ ks.length → RO W H r a (.nst ks) (NsO W.w a L)
  | lst {ds : List D} {vs : List V} : RDs W H r ds vs → RO W H r a (.lst ds) (.lst vs)
  | ins {c : Nat} {C dx : Addr} {fs : List (S × D)} {gs : List (Str × V)} : W.C c = some C → RFs W H r fs gs → RO W H r a (.ins c fs) (.ins C dx gs)
  | dic {ks : List (K × D)} {us : List (Key × V)} : RKs W H r ks us → RO W H r a (.dic ks) (.dK us)
theorem RO.mono0 (l : Lt0 H r H' r') {a : Addr} {o : O} {u : HO} : RO W H r a o u → RO W H' r' a o u
  | .nst h1 h2 h3 => .nst (fun p hp => ⟨(h1 p hp).1.mono fun _ _ q => l.sqT q, (h1 p hp).2⟩) h2 h3
  | .lst h => .lst (h.mono0 l)
  | .ins h1 h2 => .ins h1 (h2.mono0 l)
  | .dic h => .dic (h.mono0 l)
theorem RO.mono (l : Lt H r H' r') {a : Addr} {o : O} {u : HO} (h : RO W H r a o u) : RO W H' r' a o u := h.mono0 l.toLt0
/-- the store -/
structure SR (W : Wb) (H : Hp) (r : List Addr) (st : Store) : Prop where
  len : r.length = st.length
  nd : r.Nodup
  at_ : ∀ (n : Nat) (a : Addr) (o : O), r[n]? = some a → st[n]? = some o → ∃ u, H a = some u ∧ RO W H r a o u
theorem SR.get {st : Store} (s : SR W H r st) {n : Nat} {o : O} (h : st[n]? = some o) : ∃ a u, r[n]? = some a ∧ H a = some u ∧ RO W H r a o u := by
  have hn : n < r.length := by rw [s.len]; exact (List.getElem?_eq_some_iff.mp h).1
  obtain ⟨u, e, q⟩ := s.at_ n r[n] o (List.getElem?_eq_getElem hn) h
  exact ⟨r[n], u, List.getElem?_eq_getElem hn, e, q⟩
theorem SR.lst {st : Store} (s : SR W H r st) {n : Nat} {ds : List D} (h : st[n]? = some (.lst ds)) : ∃ a vs, r[n]? = some a ∧ H a = some (.lst vs) ∧ RDs W H r ds vs := by
  obtain ⟨a, u, e1, e2, q⟩ := s.get h
  cases q with
  | lst q => exact ⟨a, _, e1, e2, q⟩
theorem SR.nst {st : Store} (s : SR W H r st) {n : Nat} {ks : List NK} (h : st[n]? = some (.nst ks)) : ∃ a L, r[n]? = some a ∧ NsAt W.K W.w H a L ∧ (∀ k, k ∈ ks ↔ k ∈ L.map (·.2)) ∧ L.length ≤ ks.length := by
  obtain ⟨a, u, e1, e2, q⟩ := s.get h
  cases q with
  | nst q1 q2 q3 => exact ⟨a, _, e1, ⟨e2, q1⟩, q2, q3⟩
theorem SR.dic {st : Store} (s : SR W H r st) {n : Nat} {ks : List (K × D)} (h : st[n]? = some (.dic ks)) : ∃ a us, r[n]? = some a ∧ H a = some (.dK us) ∧ RKs W H r ks us := by
  obtain ⟨a, u, e1, e2, q⟩ := s.get h
  cases q with
  | dic q => exact ⟨a, _, e1, e2, q⟩
theorem SR.ins {st : Store} (s : SR W H r st) {n c : Nat} {fs : List (S × D)} (h : st[n]? = some (.ins c fs)) : ∃ a C dx gs, r[n]? = some a ∧ H a = some (.ins C dx gs) ∧ W.C c = some C ∧ RFs W H r fs gs := by
  obtain ⟨a, u, e1, e2, q⟩ := s.get h
  cases q with
  | ins q1 q2 => exact ⟨a, _, _, _, e1, e2, q1, q2⟩
/-- only untracked things have come, or an object of the store was changed -/
theorem Lt.new {p : Addr} {o : HO} (h : H p = none) : Lt H r (upd H p o) r :=
  ⟨⟨fun a xs e => by rw [upd_ne (ne_of_none e h)]; exact e, fun a o u e => by rw [upd_ne (ne_of_none e h)]; exact e, fun a u e => by rw [upd_ne (ne_of_none e h)]; exact e, [], by simp⟩, fun a u e n => ⟨by rw [upd_ne (ne_of_none e h)]; exact e, n⟩⟩
theorem Lt.newO {p : Addr} {o : HO} (h : H p = none) : Lt H r (upd H p o) (r ++ [p]) :=
  ⟨⟨fun a xs e => by rw [upd_ne (ne_of_none e h)]; exact e, fun a o u e => by rw [upd_ne (ne_of_none e h)]; exact e, fun a u e => by rw [upd_ne (ne_of_none e h)]; exact e, [p], rfl⟩,
   fun a u e n => ⟨by rw [upd_ne (ne_of_none e h)]; exact e, fun z => (List.mem_append.mp z).elim n fun z => ne_of_none e h (by simpa using z)⟩⟩
theorem Lt0.mut {p : Addr} {u o : HO} (h : H p = some u) (mu : Mut (some u)) : Lt0 H r (upd H p o) r := by
  have ne : ∀ a w, H a = some w → ¬ Mut (some w) → a ≠ p := fun a w e nm z => by
    subst z
    rw [h] at e
    cases e
    exact nm mu
  exact ⟨fun a xs e => by rw [upd_ne (ne a _ e fun z => z)]; exact e, fun a o u e => by rw [upd_ne (ne a _ e fun z => z)]; exact e, fun a u e => by rw [upd_ne (ne a _ e fun z => z)]; exact e, [], by simp⟩
theorem Lt.mut {p : Addr} {u o : HO} {n : Nat} (hn : r[n]? = some p) (h : H p = some u) (mu : Mut (some u)) : Lt H r (upd H p o) r :=
  ⟨Lt0.mut h mu, fun a u e na => ⟨by
    rw [upd_ne (fun z => ?_)]
    · exact e
    · subst z
      exact na (List.mem_of_getElem? hn), na⟩⟩
/-- a thing of one's own, which was not there, has changed -/
theorem Lt.own {p : Addr} {H0 : Hp} {r0 : List Addr} {o : HO} (l : Lt H0 r0 H r) (h : H0 p = none) : Lt H0 r0 (upd H p o) r :=
  ⟨⟨fun a xs e => by rw [upd_ne (ne_of_none e h)]; exact l.tup a xs e, fun a o u e => by rw [upd_ne (ne_of_none e h)]; exact l.frz a o u e, fun a u e => by rw [upd_ne (ne_of_none e h)]; exact l.xd a u e, l.pre⟩, fun a u e na => by
    rw [upd_ne (ne_of_none e h)]
    exact l.keep a u e na⟩
/-- it goes into the store -/
theorem Lt.take {p : Addr} {H0 : Hp} {r0 : List Addr} (l : Lt H0 r0 H r) (h : H0 p = none) : Lt H0 r0 H (r ++ [p]) :=
  ⟨⟨l.tup, l.frz, l.xd, let ⟨t, e⟩ := l.pre; ⟨t ++ [p], by rw [e, List.append_assoc]⟩⟩, fun a u e na => by
    obtain ⟨h1, h2⟩ := l.keep a u e na
    refine ⟨h1, fun z => (List.mem_append.mp z).elim h2 fun z => ?_⟩
    exact ne_of_none e h (by simpa using z)⟩
/-- a new thing that the store does not know -/
theorem SR.new {st : Store} {p : Addr} {o : HO} (s : SR W H r st) (h : H p = none) : SR W (upd H p o) r st :=
  ⟨s.len, s.nd, fun n a o' e1 e2 => by
    obtain ⟨u, e, q⟩ := s.at_ n a o' e1 e2
    exact ⟨u, by rw [upd_ne (ne_of_none e h)]; exact e, q.mono (Lt.new h)⟩⟩
/-- a new object -/
theorem SR.newO {st : Store} {p : Addr} {o : HO} {u : O} (s : SR W H r st) (h : H p = none) (q : RO W (upd H p o) (r ++ [p]) p u o) : SR W (upd H p o) (r ++ [p]) (st ++ [u]) := by
  refine ⟨by simp [s.len], ?_, fun n a o' e1 e2 => ?_⟩
  · refine List.nodup_append.mpr ⟨s.nd, by simp, fun a ha b hb => ?_⟩
    simp at hb
    subst hb
    obtain ⟨n, hn⟩ := List.getElem?_of_mem ha
    have hl : n < st.length := by rw [← s.len]; exact (List.getElem?_eq_some_iff.mp hn).1
    obtain ⟨u', e, _⟩ := s.at_ n a _ hn (List.getElem?_eq_getElem hl)
    exact ne_of_none e h
  · by_cases hn : n < r.length
    · rw [List.getElem?_append_left hn] at e1
      rw [List.getElem?_append_left (by rw [← s.len]; exact hn)] at e2
      obtain ⟨u', e, q'⟩ := s.at_ n a o' e1 e2
      exact ⟨u', by rw [upd_ne (ne_of_none e h)]; exact e, q'.mono (Lt.newO h)⟩
    · have e : n = r.length := by
        have := (List.getElem?_eq_some_iff.mp e1).1
        simp at this
        omega
      subst e
      rw [List.getElem?_append_right (Nat.le_refl _)] at e1
      rw [s.len, List.getElem?_append_right (Nat.le_refl _)] at e2
      simp at e1 e2
      subst e1
      subst e2
      exact ⟨o, upd_same, q⟩
/-- an object of the store is changed -/
theorem SR.set {st : Store} {n : Nat} {p : Addr} {o : HO} {w : HO} {u : O} (s : SR W H r st) (hn : r[n]? = some p) (h : H p = some w) (mu : Mut (some w)) (q : RO W (upd H p o) r p u o) : SR W (upd H p o) r (st.set n u) := by
  refine ⟨by simp [s.len], s.nd, fun m a o' e1 e2 => ?_⟩
  by_cases hm : m = n
  · subst hm
    rw [hn] at e1
    cases e1
    have hl : m < st.length := by rw [← s.len]; exact (List.getElem?_eq_some_iff.mp hn).1
    rw [List.getElem?_set_self hl] at e2
    cases e2
    exact ⟨o, upd_same, q⟩
  · rw [List.getElem?_set_ne (Ne.symm hm)] at e2
    obtain ⟨u', e, q'⟩ := s.at_ m a o' e1 e2
    refine ⟨u', ?_, q'.mono (Lt.mut hn h mu)⟩
    rw [upd_ne]
    · exact e
    · intro z
      subst z
      exact hm (nodup_ix2 s.nd e1 hn)
where
  nodup_ix2 {l : List Addr} (hN : l.Nodup) {i j : Nat} {x : Addr} (a : l[i]? = some x) (b : l[j]? = some x) : i = j := by
    obtain ⟨h1, e1⟩ := List.getElem?_eq_some_iff.mp a
    obtain ⟨h2, e2⟩ := List.getElem?_eq_some_iff.mp b
    exact (List.getElem_inj hN).mp (e1.trans e2.symm)
/-- a list outside of the store is changed -/
theorem SR.out {st : Store} {p : Addr} {o w : HO} (s : SR W H r st) (np : p ∉ r) (h : H p = some w) (mu : Mut (some w)) : SR W (upd H p o) r st :=
  ⟨s.len, s.nd, fun n a o' e1 e2 => by
    obtain ⟨u, e, q⟩ := s.at_ n a o' e1 e2
    refine ⟨u, ?_, q.mono0 (Lt0.mut h mu)⟩
    rw [upd_ne]
    · exact e
    · intro z
      subst z
      exact np (List.mem_of_getElem? e1)⟩
/-- a list goes into the store -/
theorem SR.take {st : Store} {p : Addr} {w : HO} {o : O} (s : SR W H r st) (np : p ∉ r) (h : H p = some w) (q : RO W H (r ++ [p]) p o w) : SR W H (r ++ [p]) (st ++ [o]) := by
  have l : Lt0 H r H (r ++ [p]) := ⟨fun _ _ h => h, fun _ _ _ h => h, fun _ _ h => h, [p], rfl⟩
  refine ⟨by simp [s.len], ?_, fun n a o' e1 e2 => ?_⟩
  · refine List.nodup_append.mpr ⟨s.nd, by simp, fun a ha b hb z => ?_⟩
    simp at hb
    subst hb
    subst z
    exact np ha
  · by_cases hn : n < r.length
    · rw [List.getElem?_append_left hn] at e1
      rw [List.getElem?_append_left (by rw [← s.len]; exact hn)] at e2
      obtain ⟨u', e, q'⟩ := s.at_ n a o' e1 e2
      exact ⟨u', e, q'.mono0 l⟩
    · have e : n = r.length := by
        have := (List.getElem?_eq_some_iff.mp e1).1
        simp at this
        omega
      subst e
      rw [List.getElem?_append_right (Nat.le_refl _)] at e1
      rw [s.len, List.getElem?_append_right (Nat.le_refl _)] at e2
      simp at e1 e2
      subst e1
      subst e2
      exact ⟨w, h, q⟩
end
/-- plain things -/
inductive RA : D → V → Prop
  | non : RA .non .non
  | bl (b : Bool) : RA (.bl b) (.bl b)
  | int (i : Int) : RA (.int i) (.int i)
  | str (s : S) : s.length ≤ LINE → (∀ c ∈ s, c < 0x110000) → RA (.str s) (.str ⟨s.toArray⟩)
theorem RA.rd {W : Wb} {H : Hp} {r : List Addr} {d : D} {v : V} : RA d v → RD W H r d v
  | .non => .non
  | .bl b => .bl b
  | .int i => .int i
  | .str s h1 h2 => .str s h1 h2
theorem RD.ra {W : Wb} {H : Hp} {r : List Addr} {d : D} {v : V} (h : RD W H r d v) (a : atom d = true) : RA d v := by
  cases h with
  | non => exact .non
  | bl b => exact .bl b
  | int i => exact .int i
  | str s h1 h2 => exact .str s h1 h2
  | _ => cases a
/-- the dict of an exception -/
def XD (H : Hp) (fs : List S) (ds : List D) (d : Option Addr) : Prop := (fs = [] ∧ d = none) ∨ ∃ dd gs, d = some dd ∧ H dd = some (.xd gs) ∧ ∀ f u, (fs.zip ds).lookup f = some u → ∃ v, gs.lookup ⟨f.toArray⟩ = some v ∧ RA u v
theorem XD.mono0 {H H' : Hp} {r r' : List Addr} (l : Lt0 H r H' r') {fs : List S} {ds : List D} {d : Option Addr} : XD H fs ds d → XD H' fs ds d
  | .inl h => .inl h
  | .inr ⟨dd, gs, h1, h2, h3⟩ => .inr ⟨dd, gs, h1, l.xd _ _ h2, h3⟩
/-- how many more slots the small interpreter has -/
def xtra (W : Wd) : Nat := match W.cur with
  | none => 0
  | some _ => 1
/-- the frame's names; behind them, in an except suite, the exception -/
structure ER (W : Wd) (H : Hp) (r : List Addr) (env : Env) (s : L2.St) : Prop where
  len : env.length = s.length + xtra W
  at_ : ∀ (i : Nat) (d : D), i < s.length → env[i]? = some (some d) → ∃ v, s[i]? = some (some v) ∧ RD W.b H r d v
  hid : ∀ (c : Nat) (fs : List S) (ds : List D), env[s.length]? = some (some (.xn c fs ds)) → ∃ i a cls d C, W.cur = some (i, a, cls, d) ∧ W.b.E c = some C ∧ cls = .ref C ∧ XD H fs ds d ∧ (env[i]? = some none → s[i]? = some (some (.ref a)))
section
variable {W : Wd} {H H' : Hp} {r r' : List Addr}
theorem ER.mono0 (l : Lt0 H r H' r') {env : Env} {s : L2.St} (e : ER W H r env s) : ER W H' r' env s :=
  ⟨e.len, fun i d hi h => let ⟨v, h1, h2⟩ := e.at_ i d hi h; ⟨v, h1, h2.mono0 l⟩, fun c fs ds h => let ⟨i, a, cls, d, C, h1, h2, h3, h4, h5⟩ := e.hid c fs ds h; ⟨i, a, cls, d, C, h1, h2, h3, h4.mono0 l, h5⟩⟩
theorem ER.mono (l : Lt H r H' r') {env : Env} {s : L2.St} (e : ER W H r env s) : ER W H' r' env s := e.mono0 l.toLt0
theorem ER.set {env : Env} {s : L2.St} (e : ER W H r env s) (i : Nat) {d : D} {v : V} (q : RD W.b H r d v) : ER W H r (env.set i (some d)) (s.set i (some v)) := by
  have elen := e.len
  refine ⟨by simpa using e.len, fun j d' hl h => ?_, fun c fs ds h => ?_⟩
  · rw [List.length_set] at hl
    by_cases hj : j = i
    · subst hj
      rw [List.getElem?_set_self (show j < env.length by omega)] at h
      cases h
      exact ⟨v, List.getElem?_set_self hl, q⟩
    · rw [List.getElem?_set_ne (Ne.symm hj)] at h
      obtain ⟨v', h1, h2⟩ := e.at_ j d' hl h
      exact ⟨v', by rw [List.getElem?_set_ne (Ne.symm hj)]; exact h1, h2⟩
  · rw [List.length_set] at h
    by_cases hj : s.length = i
    · subst hj
      rw [List.getElem?_set] at h
      split at h
      · split at h
        · cases h
          cases q
        · cases h
      · rename_i z
        exact absurd rfl z
    · rw [List.getElem?_set_ne (Ne.symm hj)] at h
      obtain ⟨i', a, cls, d', C, h1, h2, h3, h4, h5⟩ := e.hid c fs ds h
      refine ⟨i', a, cls, d', C, h1, h2, h3, h4, fun z => ?_⟩
      by_cases hi : i' = i
      · subst hi
        rw [List.getElem?_set] at z
        split at z
        · split at z <;> cases z
        · rename_i z2
          exact absurd rfl z2
      · rw [List.getElem?_set_ne (Ne.symm hi)] at z ⊢
        exact h5 z
end
section
variable {W : Wd} {A B U V' : Type}
/-- an exception: its class, its dict -/
def RX (W : Wb) (H : Hp) (x : Xn) (cls : Value) (d : Option Addr) : Prop := ∃ C, W.E x.c = some C ∧ cls = .ref C ∧ XD H x.fs x.ds d
/-- a wish about a computation's end: u stands for the outcome a -/
def Post (W : Wd) (Rl : Hp → List Addr → A → U → Prop) (H : Hp) (r : List Addr) (x : R A) (Q : U → Hp → Prop) : Prop := match x with
  | .ok a st => ∀ H' r' u, Lt H r H' r' → SR W.b H' r' st → Rl H' r' a u → Q u H'
  | .ex x st => ∀ H' r' cls d, Lt H r H' r' → SR W.b H' r' st → RX W.b H' x cls d → W.xk cls d H'
  | .bad => False
/-- what stands ready stays -/
def Stays (P : Hp → List Addr → B → Prop) : Prop := ∀ H r H' r' b, Lt H r H' r' → P H r b → P H' r' b
/-- a computation on the frame, where b stands ready -/
def gG (W : Wd) (Rl : Hp → List Addr → A → U → Prop) (P : Hp → List Addr → B → Prop) (k : Env → B → M A) : L2.St → Hp → (U → Hp → Prop) → Prop :=
  fun s H Q => ∃ r env st b, ER W H r env s ∧ SR W.b H r st ∧ P H r b ∧ Post W Rl H r (k env b st) Q
def P0 : Hp → List Addr → Unit → Prop := fun _ _ _ => True
def RB : Hp → List Addr → Bool → Bool → Prop := fun _ _ a u => a = u
def RI : Hp → List Addr → Option Int → Option Int → Prop := fun _ _ a u => a = u
theorem P0.stays : Stays P0 := fun _ _ _ _ _ _ h => h
theorem Post.lt {Rl : Hp → List Addr → A → U → Prop} {H H1 : Hp} {r r1 : List Addr} {x : R A} {Q : U → Hp → Prop} (l : Lt H r H1 r1) (h : Post W Rl H r x Q) : Post W Rl H1 r1 x Q := by
  cases x with
  | ok d st => exact fun H' r' v l' s q => h H' r' v (l.trans l') s q
  | ex x st => exact fun H' r' cls d l' s q => h H' r' cls d (l.trans l') s q
  | bad => exact h
theorem Post.mono {Rl : Hp → List Addr → A → U → Prop} {H : Hp} {r : List Addr} {x : R A} {Q Q' : U → Hp → Prop} (h : Post W Rl H r x Q) (q : ∀ u H', Q u H' → Q' u H') : Post W Rl H r x Q' := by
  cases x with
  | ok d st => exact fun H' r' v l' s rl => q _ _ (h H' r' v l' s rl)
  | ex x st => exact h
  | bad => exact h
theorem Post.ret {Rl : Hp → List Addr → A → U → Prop} {H : Hp} {r : List Addr} {a : A} {st : Store} {u : U} {Q : U → Hp → Prop} (h : Post W Rl H r (Li.ret a st) Q) (s : SR W.b H r st) (q : Rl H r a u) : Q u H := h H r u (Lt.refl H r) s q
/-- a part comes first -/
theorem gbind {R1 : Hp → List Addr → A → U → Prop} {C : Type} {R2 : Hp → List Addr → C → V' → Prop} {P : Hp → List Addr → B → Prop} {m : Env → M A} {k : Env → B → A → M C} {s : L2.St} {H : Hp} {Q : V' → Hp → Prop}
    (hP : Stays P) (h : gG W R2 P (fun env b => bnd (m env) fun a => k env b a) s H Q) :
    gG W R1 P0 (fun env _ => m env) s H fun u H1 => gG W R2 (fun H r (p : B × A) => P H r p.1 ∧ R1 H r p.2 u) (fun env p => k env p.1 p.2) s H1 Q := by
  obtain ⟨r, env, st, b, e, sr, pb, p⟩ := h
  refine ⟨r, env, st, (), e, sr, True.intro, ?_⟩
  have p : Post W R2 H r (bnd (m env) (fun a => k env b a) st) Q := p
  show Post W R1 H r (m env st) _
  cases q : m env st with
  | ok d st1 =>
    rw [bnd_ok q] at p
    exact fun H' r' v l s' rd => ⟨r', env, st1, (b, d), e.mono l, s', ⟨hP _ _ _ _ _ l pb, rd⟩, p.lt l⟩
  | ex x st1 =>
    rw [bnd_ex q] at p
    exact p
  | bad =>
    rw [bnd_bad q] at p
    exact p
/-- nothing else is asked of what stands ready than its place -/
theorem gmap {Rl : Hp → List Addr → A → U → Prop} {C : Type} {P : Hp → List Addr → B → Prop} {P' : Hp → List Addr → C → Prop} {k : Env → B → M A} {k' : Env → C → M A} {s : L2.St} {H : Hp} {Q : U → Hp → Prop} (g : B → C)
    (h : gG W Rl P k s H Q) (hP : ∀ H r b, P H r b → P' H r (g b)) (hk : ∀ env b, k env b = k' env (g b)) : gG W Rl P' k' s H Q := by
  obtain ⟨r, env, st, b, e, sr, pb, p⟩ := h
  exact ⟨r, env, st, g b, e, sr, hP _ _ _ pb, by rw [← hk]; exact p⟩
theorem gmono {Rl : Hp → List Addr → A → U → Prop} {P : Hp → List Addr → B → Prop} {k : Env → B → M A} {s : L2.St} {H : Hp} {Q Q' : U → Hp → Prop} (h : gG W Rl P k s H Q) (q : ∀ u H', Q u H' → Q' u H') : gG W Rl P k s H Q' := by
  obtain ⟨r, env, st, b, e, sr, pb, p⟩ := h
  exact ⟨r, env, st, b, e, sr, pb, p.mono q⟩
/-- a value; a test; arguments; a slice's bound -/
def tV (W : Wd) (m : Env → M D) : TE := gG W (RD W.b) P0 fun env _ => m env
def tT (W : Wd) (m : Env → M Bool) : TT := gG W RB P0 fun env _ => m env
def tA (W : Wd) (m : Env → M (List D)) : TA := gG W (RDs W.b) P0 fun env _ => m env
def tO (W : Wd) (m : Env → M (Option Int)) : TO := gG W RI P0 fun env _ => m env
/-- an operation on two values that is sound -/
def Op2 (W : Wd) (r : R2) (f : D → D → M D) : Prop := ∀ H ρ st a b x y Q, SR W.b H ρ st → RD W.b H ρ a x → RD W.b H ρ b y → Post W (RD W.b) H ρ (f a b st) Q → r x y H Q
def Op1 (W : Wd) (r : V → Hp → VK → Prop) (f : D → M D) : Prop := ∀ H ρ st a x Q, SR W.b H ρ st → RD W.b H ρ a x → Post W (RD W.b) H ρ (f a st) Q → r x H Q
def OpN (W : Wd) (r : List V → Hp → VK → Prop) (f : List D → M D) : Prop := ∀ H ρ st as xs Q, SR W.b H ρ st → RDs W.b H ρ as xs → Post W (RD W.b) H ρ (f as st) Q → r xs H Q
def OpM (W : Wd) (r : V → List V → Hp → VK → Prop) (f : D → List D → M D) : Prop := ∀ H ρ st a as x xs Q, SR W.b H ρ st → RD W.b H ρ a x → RDs W.b H ρ as xs → Post W (RD W.b) H ρ (f a as st) Q → r x xs H Q
end
section
variable {W : Wd} {X : Cx} {a b c : Expr} {ma mb mc : Env → M D} {pos : Pos}
theorem _root_.L2.PE.weak {e : Expr} {t t' : TE} (h : PE X e t) (w : ∀ s H Q, t' s H Q → t s H Q) : PE X e t' := ⟨fun pins s σ H Q I q => h.run pins s σ H Q I (w _ _ _ q)⟩
theorem _root_.L2.PT.weak {e : Expr} {t t' : TT} (h : PT X e t) (w : ∀ s H Q, t' s H Q → t s H Q) : PT X e t' := ⟨fun pins s σ H Q I q => h.run pins s σ H Q I (w _ _ _ q)⟩
theorem _root_.L2.PA.weak {e : List Expr} {t t' : TA} (h : PA X e t) (w : ∀ s H Q, t' s H Q → t s H Q) : PA X e t' := ⟨fun pos pins s σ H Q I q => h.run pos pins s σ H Q I (w _ _ _ q)⟩
theorem _root_.L2.PO.weak {e : Option Expr} {t t' : TO} (h : PO X e t) (w : ∀ s H Q, t' s H Q → t s H Q) : PO X e t' := ⟨fun pins s σ H Q I q => h.run pins s σ H Q I (w _ _ _ q)⟩
theorem w_var {i : Nat} {s : L2.St} {H : Hp} {Q : VK} (hi : i < s.length) (h : tV W (fun env => match env[i]? with | some (some d) => ret d | _ => bad) s H Q) : tVar i s H Q := by
  obtain ⟨r, env, st, _, e, sr, _, p⟩ := h
  dsimp only at p
  cases q : env[i]? with
  | none => rw [q] at p; exact p.elim
  | some o =>
    cases o with
    | none => rw [q] at p; exact p.elim
    | some d =>
      rw [q] at p
      obtain ⟨v, h1, h2⟩ := e.at_ i d hi q
      exact ⟨v, h1, p.ret sr h2⟩
theorem w_c {d : D} {v : V} (hv : ∀ H r, RD W.b H r d v) {s : L2.St} {H : Hp} {Q : VK} (h : tV W (fun _ => ret d) s H Q) : tC v s H Q := by
  obtain ⟨r, env, st, _, e, sr, _, p⟩ := h
  exact p.ret sr (hv H r)
theorem w_bin {r : R2} {f : D → D → M D} (o : Op2 W r f) {s : L2.St} {H : Hp} {Q : VK} (h : tV W (fun env => bnd (ma env) fun x => bnd (mb env) fun y => f x y) s H Q) : tOp r (tV W ma) (tV W mb) s H Q := by
  refine gmono (gbind (R1 := RD W.b) P0.stays h) fun x H1 h1 => ?_
  refine gmono (gbind (R1 := RD W.b) (fun _ _ _ _ _ l q => ⟨q.1, q.2.mono l⟩) h1) fun y H2 h2 => ?_
  obtain ⟨r, env, st, b, e, sr, pb, p⟩ := h2
  exact o _ _ _ _ _ _ _ _ sr pb.1.2 pb.2 p
theorem w_un {r : V → Hp → VK → Prop} {f : D → M D} (o : Op1 W r f) {s : L2.St} {H : Hp} {Q : VK} (h : tV W (fun env => bnd (ma env) f) s H Q) : tUn r (tV W ma) s H Q := by
  refine gmono (gbind (R1 := RD W.b) P0.stays h) fun x H1 h1 => ?_
  obtain ⟨r, env, st, b, e, sr, pb, p⟩ := h1
  exact o _ _ _ _ _ _ sr pb.2 p
end
end Li
namespace Li
open PySem PySem.Spec PyProof.Rows L2
theorem tup_mul_same (l : Addr) (items : Array Value) (n : Nat) (sl : Array (Option Value)) (dd : Option Addr) (x : Int) (u : Tok) (c0 : (decide (x < -(2 ^ 63)) || decide (x ≥ 2 ^ 63)) = false) (c1 : (items.isEmpty || x == 1) = true) :
    Meets (Builtin.«tuple.__mul__» ⟨[.ref l, .int x u], []⟩) (fun _ R s => s.heap.get? l = some { cls := .type "tuple", dict := dd, data := .seq items n, slots := sl } ∧
      R (.ok (.ret (Value.ref l))) s) :=
  .of_wp fun prog w A R s h => by
    obtain ⟨hp, g, d, tk, os⟩ := s
    obtain ⟨hl, h⟩ := h
    have f1 := AutoSeq1.idx_int
    wp_walk using wpAny_loadPart' hl
    repeat (first
      | (refine wpAny_ite_false (decide_eq_false (by rw [c0]; exact Bool.false_ne_true)) ?_; wp_walk using wpAny_loadPart' hl)
      | (refine wpAny_ite_true (decide_eq_true (by rw [c1])) ?_; wp_walk using wpAny_loadPart' hl))
    exact ⟨_, rfl, h⟩
theorem tup_mul_none (l : Addr) (items : Array Value) (n : Nat) (sl : Array (Option Value)) (dd : Option Addr) (x : Int) (u : Tok) (c0 : (decide (x < -(2 ^ 63)) || decide (x ≥ 2 ^ 63)) = false) (c1 : (items.isEmpty || x == 1) = false) (c2 : (decide (x ≤ 0) || items.isEmpty) = true) :
    Meets (Builtin.«tuple.__mul__» ⟨[.ref l, .int x u], []⟩) (fun _ R s => s.heap.get? l = some { cls := .type "tuple", dict := dd, data := .seq items n, slots := sl } ∧
      R (.ok (.ret (Value.ref s.heap.objs.size))) { s with heap := s.heap.push { cls := Value.type "tuple", data := Data.seq #[] }, toks := s.toks }) :=
  .of_wp fun prog w A R s h => by
    obtain ⟨hp, g, d, tk, os⟩ := s
    obtain ⟨hl, h⟩ := h
    have f1 := AutoSeq1.idx_int
    wp_walk using wpAny_loadPart' hl
    repeat (first
      | (refine wpAny_ite_false (decide_eq_false (by rw [c0]; exact Bool.false_ne_true)) ?_; wp_walk using wpAny_loadPart' hl)
      | (refine wpAny_ite_false (decide_eq_false (by rw [c1]; exact Bool.false_ne_true)) ?_; wp_walk using wpAny_loadPart' hl)
      | (refine wpAny_ite_true (decide_eq_true (by rw [c2])) ?_; wp_walk using wpAny_loadPart' hl))
    exact ⟨_, rfl, h⟩
def rRepT1 (K : PySem.W.Frag) : R2 := fun x y H Q => ∃ l k xs, x = .ref l ∧ y = .int k ∧ SqT K H l xs ∧ -(2 ^ 63) ≤ k ∧ k < 2 ^ 63 ∧ ((xs = [] ∨ k = 1) ∧ Q (.ref l) H ∨ xs ≠ [] ∧ k ≤ 0 ∧ ∀ p, H p = none → Q (.ref p) (upd H p (.tup [])))
theorem op_repT1 {X : Cx} : OpR X (binaryOp .Mult) (rRepT1 X.K) := by
  intro pins s σ H x y v u Q I rx ry h
  obtain ⟨l, k, xs, rfl, rfl, hT, h1, h2, h⟩ := h
  cases rx
  obtain ⟨t, rfl⟩ := ry
  obtain ⟨its, r, ⟨⟨cls, dd, data, sl⟩, ho, hc, n, hd⟩, hs⟩ := I.tuple hT
  simp only at hc hd
  subst hc hd
  have hle : its.length = xs.length := r.length.symm
  have c0 : (decide (k < -(2 ^ 63)) || decide (k ≥ 2 ^ 63)) = false := by
    rw [decide_eq_false (by omega), decide_eq_false (by omega)] <;> rfl
  rcases h with ⟨he, q⟩ | ⟨hne, hk, q⟩
  · have c1 : (its.toArray.isEmpty || k == 1) = true := by
      rcases he with he | he
      · subst he
        have : its = [] := List.eq_nil_of_length_eq_zero hle
        subst this
        rfl
      · subst he
        simp
    refine wpAny_binaryOp_repeat_ref (T := "tuple") (U := "int") (by decide) ⟨_, ho, rfl⟩ (fun s' => typeIs_int s' k t) noFill_tuple_mul F.fills_int_mul F.slot_int_rmul repeat_tuple F.slot_int_index.lookup
      (call_meets F.slot_int_rmul (typeIs_int s k t) F.entry_int_rmul (F.args_int_rmul_2 _ _) (int_rmul_tuple k t l its.toArray n dd sl)
        ⟨ho, rfl, ⟨_, ho, rfl⟩, call_meets F.slot_tuple_mul ⟨_, ho, rfl⟩ F.entry_tuple_mul (F.args_tuple_mul_2 _ _) (tup_mul_same l its.toArray n sl dd k t c0 c1) ⟨ho, ?_⟩⟩)
    exact ⟨.ref l, H, I, rfl, q⟩
  · have hi : its.toArray.isEmpty = false := by
      cases its with
      | nil =>
        have : xs = [] := List.eq_nil_of_length_eq_zero hle.symm
        exact absurd this hne
      | cons a b => rfl
    have c1 : (its.toArray.isEmpty || k == 1) = false := by
      rw [hi, Bool.false_or]
      exact beq_eq_false_iff_ne.mpr (by omega)
    have c2 : (decide (k ≤ 0) || its.toArray.isEmpty) = true := by
      rw [decide_eq_true hk]
      rfl
    refine wpAny_binaryOp_repeat_ref (T := "tuple") (U := "int") (by decide) ⟨_, ho, rfl⟩ (fun s' => typeIs_int s' k t) noFill_tuple_mul F.fills_int_mul F.slot_int_rmul repeat_tuple F.slot_int_index.lookup
      (call_meets F.slot_int_rmul (typeIs_int s k t) F.entry_int_rmul (F.args_int_rmul_2 _ _) (int_rmul_tuple k t l its.toArray n dd sl)
        ⟨ho, rfl, ⟨_, ho, rfl⟩, call_meets F.slot_tuple_mul ⟨_, ho, rfl⟩ F.entry_tuple_mul (F.args_tuple_mul_2 _ _) (tup_mul_none l its.toArray n sl dd k t c0 c1 c2) ⟨ho, ?_⟩⟩)
    refine ⟨.ref s.heap.objs.size, _, I.laid (t' := s.toks) (o := .tup []) (fun b ob q => Heap.get?_push_of_some _ q) (Nat.le_refl _) ?_, rfl, q _ (I.hok.fresh (Nat.le_refl _))⟩
    exact ⟨by rw [sizeLine_eq]; decide, _, .nil, IsTup.new _ _⟩
end Li
namespace Li
open PySem L2
theorem str_len (s : S) : (⟨s.toArray⟩ : Str).length = s.length := by simp [Str.length]
theorem str_app (s t : S) : (⟨s.toArray⟩ ++ ⟨t.toArray⟩ : Str) = ⟨(s ++ t).toArray⟩ := TL.ext_tl (by rw [TL.tl_append])
theorem chk_true {A : Type} {c : Prop} [Decidable c] (h : c) (m : M A) : chk c m = m := by
  funext st
  exact if_pos h
theorem chk_false {A : Type} {c : Prop} [Decidable c] (h : ¬ c) (m : M A) (st : Store) : chk c m st = .bad := if_neg h
theorem ixs_eq (n d : Nat) (o : Option Int) : ixs n d o = HT.sIx n d o := by cases o <;> rfl
theorem cut_eq (xs : List V) (lo hi : Option Int) : cut xs lo hi = cutV xs lo hi := by
  unfold cut cutV
  rw [ixs_eq, ixs_eq]
theorem ixN_eq (n : Nat) (i : Int) : ixN n i = L2.ixN n i := rfl
theorem op_powB {X : L2.Cx} : L2.OpR X (PySem.binaryOp .Pow) (L2.rI (fun i j => 0 ≤ j ∧ j ≤ 1000000 ∧ (i.natAbs < 2 ^ 64 ∨ (j ≤ 10 ∧ i.natAbs.log2 < 1000))) fun i j => .int (i ^ j.toNat)) := L2.opI fun i j _ _ _ _ _ hc q => by
  obtain ⟨h1, h2, h3 | ⟨h3, h4⟩⟩ := hc
  · exact PyProof.Rows.pow_int_small h1 h2 h3 q
  · refine PyProof.Rows.pow_int h1 ?_ q
    have hb : PySem.Builtin.Int.intBits i ≤ 1001 := by
      unfold PySem.Builtin.Int.intBits
      split <;> omega
    have h5 : (PySem.Builtin.Int.intBits i : Int) * j ≤ 1001 * j := Int.mul_le_mul_of_nonneg_right (by omega) h1
    omega
theorem atI_eq {A : Type} (xs : List A) (i : Int) : atI xs i = L2.atI xs i := rfl
theorem ixs_le (n d : Nat) (hd : d ≤ n) (o : Option Int) : ixs n d o ≤ n := by
  rw [ixs_eq]
  exact HT.sIx_le n d hd o
section
variable {W : Wd} {H : Hp} {r : List Addr} {A U : Type} {Rl : Hp → List Addr → A → U → Prop} {st : Store} {Q : U → Hp → Prop}
theorem Post.chk {c : Prop} [Decidable c] {m : M A} (h : Post W Rl H r (Li.chk c m st) Q) : c ∧ Post W Rl H r (m st) Q := by
  by_cases hc : c
  · rw [chk_true hc] at h
    exact ⟨hc, h⟩
  · rw [chk_false hc] at h
    exact h.elim
theorem Post.bad (h : Post W Rl H r (Li.bad st) Q) : False := h
theorem Post.getL {n : Nat} {f : List D → M A} (h : Post W Rl H r (bnd (Li.getL n) f st) Q) : ∃ xs, st[n]? = some (.lst xs) ∧ Post W Rl H r (f xs st) Q := by
  cases q : st[n]? with
  | none =>
    rw [bnd_bad (by unfold Li.getL; rw [q])] at h
    exact h.elim
  | some o =>
    cases o with
    | lst xs =>
      rw [bnd_ok (a := xs) (by unfold Li.getL; rw [q])] at h
      exact ⟨xs, rfl, h⟩
    | ins _ _ | dic _ | nst _ =>
      rw [bnd_bad (by unfold Li.getL; rw [q])] at h
      exact h.elim
theorem Post.getM {n : Nat} {f : List (K × D) → M A} (h : Post W Rl H r (bnd (Li.getM n) f st) Q) : ∃ ks, st[n]? = some (.dic ks) ∧ Post W Rl H r (f ks st) Q := by
  cases q : st[n]? with
  | none =>
    rw [bnd_bad (by unfold Li.getM; rw [q])] at h
    exact h.elim
  | some o =>
    cases o with
    | dic ks =>
      rw [bnd_ok (a := ks) (by unfold Li.getM; rw [q])] at h
      exact ⟨ks, rfl, h⟩
    | lst _ | ins _ _ | nst _ =>
      rw [bnd_bad (by unfold Li.getM; rw [q])] at h
      exact h.elim
theorem Post.getN {n : Nat} {f : List PySem.NestedKey → M A} (h : Post W Rl H r (bnd (Li.getN n) f st) Q) : ∃ ks, st[n]? = some (.nst ks) ∧ Post W Rl H r (f ks st) Q := by
  cases q : st[n]? with
  | none =>
    rw [bnd_bad (by unfold Li.getN; rw [q])] at h
    exact h.elim
  | some o =>
    cases o with
    | nst ks =>
      rw [bnd_ok (a := ks) (by unfold Li.getN; rw [q])] at h
      exact ⟨ks, rfl, h⟩
    | lst _ | ins _ _ | dic _ =>
      rw [bnd_bad (by unfold Li.getN; rw [q])] at h
      exact h.elim
theorem Post.getF {n : Nat} {f : Nat × List (S × D) → M A} (h : Post W Rl H r (bnd (Li.getF n) f st) Q) : ∃ c fs, st[n]? = some (.ins c fs) ∧ Post W Rl H r (f (c, fs) st) Q := by
  cases q : st[n]? with
  | none =>
    rw [bnd_bad (by unfold Li.getF; rw [q])] at h
    exact h.elim
  | some o =>
    cases o with
    | ins c fs =>
      rw [bnd_ok (a := (c, fs)) (by unfold Li.getF; rw [q])] at h
      exact ⟨c, fs, rfl, h⟩
    | lst _ | dic _ | nst _ =>
      rw [bnd_bad (by unfold Li.getF; rw [q])] at h
      exact h.elim
theorem Post.ofO {C : Type} {o : Option C} {f : C → M A} (h : Post W Rl H r (bnd (Li.ofO o) f st) Q) : ∃ c, o = some c ∧ Post W Rl H r (f c st) Q := by
  cases o with
  | none => exact h.elim
  | some c => exact ⟨c, rfl, h⟩
theorem Post.setO {n : Nat} {o : O} {f : Unit → M A} (h : Post W Rl H r (bnd (Li.setO n o) f st) Q) : n < st.length ∧ Post W Rl H r (f () (st.set n o)) Q := by
  by_cases hn : n < st.length
  · rw [bnd_ok (a := ()) (st' := st.set n o) (by unfold Li.setO; rw [if_pos hn])] at h
    exact ⟨hn, h⟩
  · rw [bnd_bad (by unfold Li.setO; rw [if_neg hn])] at h
    exact h.elim
theorem Post.newL {Q : VK} {xs : List D} {vs : List V} {p : Addr} (h : Post W (RD W.b) H r (Li.newO (.lst xs) st) Q) (s : SR W.b H r st) (hp : H p = none) (q : RDs W.b H r xs vs) : Q (.ref p) (upd H p (.lst vs)) := by
  refine h (upd H p (.lst vs)) (r ++ [p]) (.ref p) (Lt.newO hp) (s.newO hp (.lst (q.mono (Lt.newO hp)))) (.ob ?_)
  rw [← s.len, List.getElem?_append_right (Nat.le_refl _)]
  simp
theorem Post.setL {n : Nat} {p : Addr} {ys : List D} {vs us : List V} {a : A} {u : U} (h : Post W Rl H r (Li.ret a (st.set n (.lst ys))) Q) (s : SR W.b H r st) (hn : r[n]? = some p) (hp : H p = some (.lst vs)) (q : RDs W.b H r ys us)
    (ra : ∀ H' r', Lt H r H' r' → Rl H' r' a u) : Q u (upd H p (.lst us)) := by
  have l : Lt H r (upd H p (.lst us)) r := Lt.mut hn hp True.intro
  exact h _ r u l (s.set hn hp True.intro (.lst (q.mono l))) (ra _ _ l)
/-- a row: its list or tuple -/
theorem row_of {d : D} {x : V} {f : List D → M A} (s : SR W.b H r st) (hd : RD W.b H r d x) (h : Post W Rl H r (bnd (rowOf d) f st) Q) :
    ∃ a vs ds, x = .ref a ∧ RDs W.b H r ds vs ∧ ((SqT W.b.K H a vs ∧ d = .tup ds) ∨ (SqL W.b.K H a vs ∧ ∀ es, d ≠ .tup es)) ∧ Post W Rl H r (f ds st) Q := by
  cases hd with
  | tup h1 h2 => exact ⟨_, _, _, rfl, h2, .inl ⟨h1, rfl⟩, h⟩
  | ro h1 h2 => exact ⟨_, _, _, rfl, h2, .inr ⟨h1.l, fun _ z => by cases z⟩, h⟩
  | ob h1 =>
    obtain ⟨xs, e, h⟩ := h.getL
    obtain ⟨a, vs, e1, e2, q⟩ := s.lst e
    rw [h1] at e1
    cases e1
    exact ⟨_, vs, xs, rfl, q, .inr ⟨SqL.of e2, fun _ z => by cases z⟩, h⟩
  | non => exact h.elim
  | bl _ => exact h.elim
  | int _ => exact h.elim
  | str _ _ _ => exact h.elim
  | fn _ => exact h.elim
  | ty _ => exact h.elim
end
section
variable {W : Wd} {X : Cx}
def opOf : Bop → Operator
  | .add => .Add | .sub => .Sub | .mul => .Mult | .fdiv => .FloorDiv | .mod => .Mod | .pow => .Pow
def copOf : Cop → CmpOp
  | .eq => .Eq | .ne => .NotEq | .lt => .Lt | .le => .LtE | .gt => .Gt | .ge => .GtE | .is => .Is | .isn => .IsNot | .isin => .In | .nin => .NotIn
theorem two_ints {f : D → D → M D} {C : Int → Int → Prop} {g : Int → Int → Int} (hi : ∀ i j H r st Q, Post W (RD W.b) H r (f (.int i) (.int j) st) Q → C i j ∧ Post W (RD W.b) H r (ret (.int (g i j)) st) Q)
    (hn : ∀ a b H r st Q, (∀ i j, ¬ (a = .int i ∧ b = .int j)) → Post W (RD W.b) H r (f a b st) Q → False) : Op2 W (L2.rI C fun i j => .int (g i j)) f := by
  intro H r st a b x y Q s ha hb h
  cases ha with
  | int i =>
    cases hb with
    | int j =>
      obtain ⟨hc, h⟩ := hi i j H r st Q h
      exact ⟨i, j, rfl, rfl, hc, h.ret s (.int _)⟩
    | _ => exact (hn _ _ H r st Q (fun i j z => by cases z.2) h).elim
  | _ => exact (hn _ _ H r st Q (fun i j z => by cases z.1) h).elim
theorem ok_add (hK : X.K = W.b.K) : ∃ q, OpR X (binaryOp .Add) q ∧ Op2 W q (binop .add) := by
  refine ⟨_, OpR.or op_add (OpR.or op_add_str (OpR.or op_catA op_cat)), ?_⟩
  rw [hK]
  intro H r st a b x y Q s ha hb h
  cases ha with
  | int i =>
    cases hb with
    | int j => exact .inl ⟨i, j, rfl, rfl, h.ret s (.int _)⟩
    | _ => exact h.elim
  | str u h1 h2 =>
    cases hb with
    | str t h3 h4 =>
      obtain ⟨hc, h⟩ := Post.chk h
      refine .inr (.inl ⟨_, _, rfl, rfl, by rw [str_len, str_len, ← line_eq]; exact hc, ?_⟩)
      rw [str_app]
      exact h.ret s (.str _ (by rw [List.length_append]; exact hc) fun c hm => (List.mem_append.mp hm).elim (h2 c) (h4 c))
    | _ => exact h.elim
  | tup h1 h2 =>
    cases hb with
    | tup h3 h4 =>
      obtain ⟨hc, h⟩ := Post.chk h
      refine .inr (.inr (.inl ⟨_, _, _, _, rfl, rfl, h1, h3, by rw [← h2.length, ← h4.length, ← line_eq]; exact hc, fun e => ?_, fun _ e => ?_, fun _ _ p hp => ?_⟩))
      · subst e
        cases h2
        exact h.ret s (.tup h3 h4)
      · subst e
        cases h4
        exact h.ret s (.tup h1 (by rw [List.append_nil]; exact h2))
      · exact h _ _ _ (Lt.new hp) (s.new hp) (.tup (SqT.of upd_same) ((h2.app h4).mono (Lt.new hp)))
    | _ => exact h.elim
  | ob h1 =>
    cases hb with
    | ob h3 =>
      obtain ⟨xs, e1, h⟩ := Post.getL h
      obtain ⟨ys, e2, h⟩ := Post.getL h
      obtain ⟨hc, h⟩ := Post.chk h
      obtain ⟨p, vs, f1, f2, q1⟩ := s.lst e1
      obtain ⟨q, us, f3, f4, q2⟩ := s.lst e2
      rw [h1] at f1
      cases f1
      rw [h3] at f3
      cases f3
      exact .inr (.inr (.inr ⟨_, _, _, _, rfl, rfl, f2, f4, by rw [← q1.length, ← q2.length, ← line_eq]; exact hc, fun p hp => h.newL s hp (q1.app q2)⟩))
    | _ => exact h.elim
  | _ => exact h.elim
theorem fold_rep {A : Type} (xs : List A) : ∀ (m : Nat) (acc : List A), (List.replicate m xs.toArray).foldl (· ++ ·) acc.toArray = (acc ++ (List.replicate m xs).flatten).toArray
  | 0, acc => by simp
  | m + 1, acc => by
    have e : acc.toArray ++ xs.toArray = (acc ++ xs).toArray := by simp
    rw [List.replicate_succ, List.foldl_cons, e, fold_rep xs m (acc ++ xs), List.replicate_succ, List.flatten_cons, List.append_assoc]
theorem op_repS : OpR X (binaryOp .Mult) (fun x y H Q => ∃ (s : S) (n : Int), x = .str ⟨s.toArray⟩ ∧ y = .int n ∧ -SMALL2 < n ∧ n < SMALL2 ∧ s.length * n.toNat ≤ sizeLine ∧ Q (.str ⟨(List.replicate n.toNat s).flatten.toArray⟩) H) := by
  intro pins z σ H x y v u Q J rx ry h
  obtain ⟨s, n, rfl, rfl, h1, h2, h3, q⟩ := h
  obtain ⟨t, rfl⟩ := rx
  obtain ⟨t', rfl⟩ := ry
  unfold SMALL2 at h1 h2
  have hz : sizeLine ≤ 2 ^ 30 := by rw [← line_eq]; decide
  have hlen : (⟨s.toArray⟩ : Str).length = s.length := str_len _
  have hone : 1 ≤ n → s.length * 1 ≤ s.length * n.toNat := fun g => Nat.mul_le_mul_left _ (by omega)
  refine PySem.P.mul_str ?_ (fun g1 g2 => ?_) (fun g1 g2 => ?_) ?_
  · rw [decide_eq_false (by omega), decide_eq_false (by omega)]
    rfl
  · rw [hlen]
    have g3 := hone (by omega)
    have g4 : (2 ^ 63 - 1 : Int) / n ≥ 2 ^ 30 := by
      refine Int.le_ediv_of_mul_le (by omega) ?_
      have g5 : (2 ^ 30 : Int) * n ≤ 2 ^ 30 * 2 ^ 30 := Int.mul_le_mul_of_nonneg_left (by omega) (by decide)
      omega
    omega
  · rw [hlen]
    unfold Builtin.Str.tooLong
    exact decide_eq_false (by omega)
  · by_cases g1 : n < 1
    · rw [if_pos g1]
      have e : n.toNat = 0 := by omega
      rw [e] at q
      exact ⟨by decide, .str _, H, J.tok _, ⟨_, rfl⟩, q⟩
    · rw [if_neg g1]
      by_cases g2 : (n == 1 || (⟨s.toArray⟩ : Str).length == 0) = true
      · rw [if_pos g2]
        have e : (List.replicate n.toNat s).flatten = s := by
          rw [hlen] at g2
          rcases Bool.or_eq_true_iff.mp g2 with g3 | g3
          · have : n = 1 := by simpa using g3
            subst this
            simp
          · have : s = [] := by simpa using g3
            subst this
            simp
        rw [e] at q
        exact ⟨.str _, H, J, ⟨_, rfl⟩, q⟩
      · rw [if_neg g2]
        have e := fold_rep s n.toNat []
        rw [List.nil_append] at e
        rw [← e] at q
        refine ⟨?_, .str _, H, J.tok _, ⟨_, rfl⟩, q⟩
        have e2 : (List.replicate n.toNat s.toArray).foldl (· ++ ·) #[] = (List.replicate n.toNat s).flatten.toArray := e
        show Array.size _ ≤ sizeLine
        rw [e2, List.size_toArray, List.length_flatten]
        simp
        rw [Nat.mul_comm]
        exact h3
theorem rep {H : Hp} {r : List Addr} {ds : List D} {vs : List V} (h : RDs W.b H r ds vs) : ∀ n : Nat, RDs W.b H r (List.replicate n ds).flatten (List.replicate n vs).flatten
  | 0 => by simpa using .nil
  | n + 1 => by
    rw [List.replicate_succ, List.replicate_succ, List.flatten_cons, List.flatten_cons]
    exact h.app (rep h n)
theorem ok_bin (hK : X.K = W.b.K) : ∀ o : Bop, ∃ q, OpR X (binaryOp (opOf o)) q ∧ Op2 W q (binop o)
  | .add => ok_add hK
  | .sub => ⟨_, op_sub, fun H r st a b x y Q s ha hb h => by
      obtain ⟨i, j, e1, e2, _, q⟩ := two_ints (W := W) (f := binop .sub) (C := fun _ _ => True) (g := fun i j => i - j) (fun i j H r st Q h => ⟨True.intro, h⟩)
        (fun a b H r st Q hn h => by cases a <;> first | exact h.elim | (cases b <;> first | exact h.elim | exact hn _ _ ⟨rfl, rfl⟩)) H r st a b x y Q s ha hb h
      exact ⟨i, j, e1, e2, q⟩⟩
  | .mul => by
    refine ⟨_, OpR.or op_repS (OpR.or op_mul (OpR.or op_mulW (OpR.or op_repT op_repT1))), ?_⟩
    rw [hK]
    intro H r st a b x y Q s ha hb h
    cases ha with
    | tup g1 g2 =>
      cases hb with
      | int n =>
        rename_i u xs
        obtain ⟨⟨c1, c2, c3⟩, h⟩ := Post.chk h
        unfold SMALL2 at c1
        refine .inr (.inr (.inr ?_))
        by_cases he : xs = []
        · subst he
          cases g2
          refine .inr ⟨_, n, [], rfl, rfl, g1, by omega, by omega, .inl ⟨.inl rfl, ?_⟩⟩
          have e : (List.replicate n.toNat ([] : List D)).flatten = [] := by simp
          rw [e] at h
          exact h.ret s (.tup g1 .nil)
        have hu : u ≠ [] := fun z => by
          subst z
          cases g2
          exact he rfl
        by_cases h1 : n = 1
        · subst h1
          refine .inr ⟨_, 1, u, rfl, rfl, g1, by omega, by omega, .inl ⟨.inr rfl, ?_⟩⟩
          have e : (List.replicate (1 : Int).toNat xs).flatten = xs := by simp
          rw [e] at h
          exact h.ret s (.tup g1 g2)
        by_cases h0 : n ≤ 0
        · refine .inr ⟨_, n, u, rfl, rfl, g1, by omega, by omega, .inr ⟨hu, h0, fun p hp => ?_⟩⟩
          have e0 : n.toNat = 0 := by omega
          have e : (List.replicate n.toNat xs).flatten = [] := by rw [e0]; simp
          rw [e] at h
          exact h _ _ _ (Lt.new hp) (s.new hp) (.tup (SqT.of upd_same) .nil)
        · refine .inl ⟨_, n, u, rfl, rfl, g1, hu, by omega, c2, by rw [← g2.length]; exact c3, fun p hp => ?_⟩
          exact h _ _ _ (Lt.new hp) (s.new hp) (.tup (SqT.of upd_same) ((rep g2 n.toNat).mono (Lt.new hp)))
      | _ => exact h.elim
    | str _ h1 h2 =>
      cases hb with
      | int n =>
        rename_i u
        obtain ⟨⟨c1, c2, c3⟩, h⟩ := Post.chk h
        refine .inl ⟨u, n, rfl, rfl, c1, c2, by rw [← line_eq]; exact c3, h.ret s (.str _ ?_ fun c hc => ?_)⟩
        · rw [List.length_flatten]
          simp
          rw [Nat.mul_comm]
          exact c3
        · obtain ⟨l, hl, hc⟩ := List.mem_flatten.mp hc
          rw [List.eq_of_mem_replicate hl] at hc
          exact h2 c hc
      | _ => exact h.elim
    | int i =>
      cases hb with
      | int j =>
        obtain ⟨hc, h⟩ := Post.chk h
        have q := h.ret s (.int (i * j))
        rcases hc with hc | hc | hc
        · exact .inr (.inl ⟨i, j, rfl, rfl, .inl hc, q⟩)
        · exact .inr (.inl ⟨i, j, rfl, rfl, .inr hc, q⟩)
        · exact .inr (.inr (.inl ⟨i, j, rfl, rfl, hc, q⟩))
      | _ => exact h.elim
    | _ => cases hb <;> exact h.elim
  | .fdiv => ⟨_, opI (C := fun i j => j ≠ 0 ∧ j.natAbs.log2 < 9000) (g := fun i j => i.fdiv j) (fun i j _ _ _ _ _ hc q => PyProof.Rows.floordiv_int hc.1 q (.inl (PyProof.noPylong_of_log2 hc.2))), two_ints (C := fun i j => j ≠ 0 ∧ j.natAbs.log2 < 9000) (g := fun i j => i.fdiv j) (fun i j H r st Q h => Post.chk h)
      (fun a b H r st Q hn h => by cases a <;> first | exact h.elim | (cases b <;> first | exact h.elim | exact hn _ _ ⟨rfl, rfl⟩))⟩
  | .mod => ⟨_, op_modN, two_ints (C := fun i j => j ≠ 0) (g := fun i j => i.fmod j) (fun i j H r st Q h => Post.chk h)
      (fun a b H r st Q hn h => by cases a <;> first | exact h.elim | (cases b <;> first | exact h.elim | exact hn _ _ ⟨rfl, rfl⟩))⟩
  | .pow => ⟨_, op_powB, two_ints (C := fun i j => 0 ≤ j ∧ j ≤ 1000000 ∧ (i.natAbs < 2 ^ 64 ∨ (j ≤ 10 ∧ i.natAbs.log2 < 1000))) (fun i j H r st Q h => Post.chk h)
      (fun a b H r st Q hn h => by cases a <;> first | exact h.elim | (cases b <;> first | exact h.elim | exact hn _ _ ⟨rfl, rfl⟩))⟩
theorem pds_map : ∀ xs : List D, pds xs = xs.map pd
  | [] => rfl
  | x :: xs => by rw [pds, pds_map xs]; rfl
/-- data: the depth, and no object in it -/
inductive Dat : Nat → D → Prop
  | non (n : Nat) : Dat n .non
  | bl (n : Nat) (b : Bool) : Dat n (.bl b)
  | int (n : Nat) (i : Int) : Dat n (.int i)
  | str (n : Nat) (s : S) : Dat n (.str s)
  | tup {n : Nat} {xs : List D} : (∀ x ∈ xs, Dat n x) → Dat (n + 1) (.tup xs)
  | ro {n : Nat} {xs : List D} : (∀ x ∈ xs, Dat n x) → Dat (n + 1) (.ro xs)
theorem mapM_some {A B : Type} {f : A → Option B} : ∀ {xs : List A} {ys : List B}, xs.mapM f = some ys → xs.length = ys.length ∧ ∀ (i : Nat) (x : A), xs[i]? = some x → ∃ y, ys[i]? = some y ∧ f x = some y
  | [], ys, h => by
    simp at h
    subst h
    exact ⟨rfl, fun i x e => by simp at e⟩
  | x :: xs, ys, h => by
    rw [List.mapM_cons] at h
    cases hx : f x with
    | none => rw [hx] at h; simp at h
    | some y =>
      rw [hx] at h
      cases hr : xs.mapM f with
      | none => rw [hr] at h; simp at h
      | some zs =>
        rw [hr] at h
        simp at h
        subst h
        obtain ⟨h1, h2⟩ := mapM_some hr
        refine ⟨by simp [h1], fun i z e => ?_⟩
        match i, e with
        | 0, e =>
          simp at e
          subst e
          exact ⟨y, rfl, hx⟩
        | i + 1, e =>
          obtain ⟨w, e1, e2⟩ := h2 i z (by simpa using e)
          exact ⟨w, by simpa using e1, e2⟩
theorem dpAll_of {K : PySem.W.Frag} {H : Hp} : ∀ {vs : List V} {ps : List PyData}, vs.length = ps.length → (∀ (i : Nat) (v : V) (p : PyData), vs[i]? = some v → ps[i]? = some p → Dp K H v p) → DpAll K H vs ps
  | [], [], _, _ => .nil
  | [], _ :: _, h, _ => by simp at h
  | _ :: _, [], h, _ => by simp at h
  | v :: vs, p :: ps, h, q => .cons (q 0 v p rfl rfl) (dpAll_of (by simpa using h) fun i v' p' e1 e2 => q (i + 1) v' p' (by simpa using e1) (by simpa using e2))
theorem lay_all : ∀ {ps : List PyData}, (∀ p ∈ ps, p.canLay0 = true) → PyData.canLayAll0 ps = true
  | [], _ => rfl
  | p :: ps, h => by
    rw [PyData.canLayAll0, h p (by simp), lay_all fun q hq => h q (by simp [hq])]
    rfl
theorem depth_all {n : Nat} : ∀ {ps : List PyData}, (∀ p ∈ ps, p.depth ≤ n) → PyData.depthAll ps ≤ n
  | [], _ => Nat.zero_le _
  | p :: ps, h => by
    rw [PyData.depthAll]
    exact Nat.max_le.mpr ⟨h p (by simp), depth_all fun q hq => h q (by simp [hq])⟩
section
variable {H : Hp} {r : List Addr} {st : Store}
/-- what a thing is as data, in the heap -/
theorem res_dp (s : SR W.b H r st) : ∀ (n : Nat) (d x : D) (v : V), RD W.b H r d v → res st n d = some x → Dp W.b.K H v (pd x) ∧ (pd x).canLay0 = true ∧ (pd x).depth ≤ n := by
  intro n
  induction n with
  | zero =>
    intro d x v hd h
    cases hd with
    | non => cases h; exact ⟨.non, rfl, Nat.zero_le _⟩
    | bl b => cases h; exact ⟨.bl b, rfl, Nat.zero_le _⟩
    | int i => cases h; exact ⟨.int i, rfl, Nat.zero_le _⟩
    | str u h1 h2 =>
      cases h
      refine ⟨.str _, ?_, Nat.zero_le _⟩
      show PyData.strOk ⟨u.toArray⟩ = true
      unfold PyData.strOk
      simpa using h2
    | _ => simp [res] at h
  | succ n ih =>
    have many : ∀ {ds ys : List D} {vs : List V}, RDs W.b H r ds vs → ds.mapM (res st n) = some ys → DpAll W.b.K H vs (pds ys) ∧ PyData.canLayAll0 (pds ys) = true ∧ PyData.depthAll (pds ys) ≤ n := by
      intro ds ys vs hd h
      obtain ⟨h1, h2⟩ := mapM_some h
      rw [pds_map]
      have each : ∀ (i : Nat) (y : D), ys[i]? = some y → ∃ d v, ds[i]? = some d ∧ vs[i]? = some v ∧ RD W.b H r d v ∧ res st n d = some y := fun i y e => by
        have hi : i < ds.length := by rw [h1]; exact (List.getElem?_eq_some_iff.mp e).1
        obtain ⟨y', e1, e2⟩ := h2 i ds[i] (List.getElem?_eq_getElem hi)
        obtain ⟨v, e3, q⟩ := hd.get (List.getElem?_eq_getElem hi)
        rw [e] at e1
        cases e1
        exact ⟨ds[i], v, List.getElem?_eq_getElem hi, e3, q, e2⟩
      refine ⟨dpAll_of (by rw [List.length_map, ← h1, hd.length]) fun i v p e1 e2 => ?_, lay_all fun p hp => ?_, depth_all fun p hp => ?_⟩
      · rw [List.getElem?_map] at e2
        cases q : ys[i]? with
        | none => rw [q] at e2; cases e2
        | some y =>
          rw [q] at e2
          cases e2
          obtain ⟨d, v', f1, f2, f3, f4⟩ := each i y q
          rw [e1] at f2
          cases f2
          exact (ih d y v f3 f4).1
      · obtain ⟨y, hy, rfl⟩ := List.mem_map.mp hp
        obtain ⟨i, hi⟩ := List.getElem?_of_mem hy
        obtain ⟨d, v', f1, f2, f3, f4⟩ := each i y hi
        exact (ih d y v' f3 f4).2.1
      · obtain ⟨y, hy, rfl⟩ := List.mem_map.mp hp
        obtain ⟨i, hi⟩ := List.getElem?_of_mem hy
        obtain ⟨d, v', f1, f2, f3, f4⟩ := each i y hi
        exact (ih d y v' f3 f4).2.2
    intro d x v hd h
    cases hd with
    | non => cases h; exact ⟨.non, rfl, Nat.zero_le _⟩
    | bl b => cases h; exact ⟨.bl b, rfl, Nat.zero_le _⟩
    | int i => cases h; exact ⟨.int i, rfl, Nat.zero_le _⟩
    | str u h1 h2 =>
      cases h
      refine ⟨.str _, ?_, Nat.zero_le _⟩
      show PyData.strOk ⟨u.toArray⟩ = true
      unfold PyData.strOk
      simpa using h2
    | tup h1 h2 =>
      unfold res at h
      obtain ⟨ys, e, rfl⟩ := Option.map_eq_some_iff.mp h
      obtain ⟨q1, q2, q3⟩ := many h2 e
      refine ⟨by rw [pd]; exact .tup h1 q1, by rw [pd]; exact q2, by rw [pd, PyData.depth]; omega⟩
    | ro h1 h2 =>
      unfold res at h
      obtain ⟨ys, e, rfl⟩ := Option.map_eq_some_iff.mp h
      obtain ⟨q1, q2, q3⟩ := many h2 e
      refine ⟨by rw [pd]; exact .lst h1.l q1, by rw [pd]; exact q2, by rw [pd, PyData.depth]; omega⟩
    | @ob m a h1 =>
      unfold res at h
      cases q : st[m]? with
      | none => rw [q] at h; cases h
      | some o =>
        cases o with
        | lst xs =>
          rw [q] at h
          obtain ⟨ys, e, rfl⟩ := Option.map_eq_some_iff.mp h
          obtain ⟨a', vs, f1, f2, f3⟩ := s.lst q
          rw [h1] at f1
          cases f1
          obtain ⟨q1, q2, q3⟩ := many f3 e
          refine ⟨by rw [pd]; exact .lst (SqL.of f2) q1, by rw [pd]; exact q2, by rw [pd, PyData.depth]; omega⟩
        | ins _ _ | dic _ | nst _ => rw [q] at h; cases h
    | fn h1 => simp [res] at h
    | ty t => simp [res] at h
end
/-- resolved data has no object in it -/
theorem res_dat {st : Store} : ∀ (n : Nat) (d x : D), res st n d = some x → Dat n x := by
  intro n
  induction n with
  | zero =>
    intro d x h
    cases d with
    | non => cases h; exact .non _
    | bl b => cases h; exact .bl _ b
    | int i => cases h; exact .int _ i
    | str u => cases h; exact .str _ u
    | _ => simp [res] at h
  | succ n ih =>
    have many : ∀ {ds ys : List D}, ds.mapM (res st n) = some ys → ∀ y ∈ ys, Dat n y := by
      intro ds ys h y hy
      obtain ⟨h1, h2⟩ := mapM_some h
      obtain ⟨i, hi⟩ := List.getElem?_of_mem hy
      have hl : i < ds.length := by rw [h1]; exact (List.getElem?_eq_some_iff.mp hi).1
      obtain ⟨y', e1, e2⟩ := h2 i ds[i] (List.getElem?_eq_getElem hl)
      rw [hi] at e1
      cases e1
      exact ih _ _ e2
    intro d x h
    cases d with
    | non => cases h; exact .non _
    | bl b => cases h; exact .bl _ b
    | int i => cases h; exact .int _ i
    | str u => cases h; exact .str _ u
    | tup xs =>
      unfold res at h
      obtain ⟨ys, e, rfl⟩ := Option.map_eq_some_iff.mp h
      exact .tup (many e)
    | ro xs =>
      unfold res at h
      obtain ⟨ys, e, rfl⟩ := Option.map_eq_some_iff.mp h
      exact .ro (many e)
    | ob m =>
      unfold res at h
      cases q : st[m]? with
      | none => rw [q] at h; cases h
      | some o =>
        cases o with
        | lst xs =>
          rw [q] at h
          obtain ⟨ys, e, rfl⟩ := Option.map_eq_some_iff.mp h
          exact .ro (many e)
        | ins _ _ | dic _ | nst _ => rw [q] at h; cases h
    | fn _ => simp [res] at h
    | ty _ => simp [res] at h
    | xn _ _ _ => simp [res] at h
theorem str_beq (s t : S) : ((⟨s.toArray⟩ : Str) == ⟨t.toArray⟩) = (s == t) := by
  rw [Bool.eq_iff_iff]
  simp
/-- == is that of data -/
theorem eqv_is : ∀ (n : Nat) (a b : D), Dat n a → Dat n b → PyData.eqv (pd a) (pd b) = eqv a b := by
  intro n
  induction n with
  | zero =>
    intro a b ha hb
    cases ha <;> cases hb <;> simp only [pd, PyData.eqv, eqv] <;> first | rfl | exact str_beq _ _ | (simp only [eqv]; rfl)
  | succ n ih =>
    have many : ∀ (xs ys : List D), (∀ x ∈ xs, Dat n x) → (∀ y ∈ ys, Dat n y) → PyData.eqvAll (pds xs) (pds ys) = eqvs xs ys := by
      intro xs
      induction xs with
      | nil => intro ys _ _; cases ys <;> simp [pds, PyData.eqvAll, eqvs]
      | cons x xs ihx =>
        intro ys hx hy
        cases ys with
        | nil => simp [pds, PyData.eqvAll, eqvs]
        | cons y ys =>
          rw [pds, pds, PyData.eqvAll, eqvs, ih x y (hx x (by simp)) (hy y (by simp)), ihx ys (fun z hz => hx z (by simp [hz])) (fun z hz => hy z (by simp [hz]))]
    intro a b ha hb
    cases ha <;> cases hb <;> simp only [pd, PyData.eqv, eqv] <;> first | rfl | exact str_beq _ _ | exact many _ _ (by assumption) (by assumption) | (simp only [eqv]; rfl)
end
end Li
namespace Li
open PySem L2
section
variable {W : Wd} {X : Cx} {H : Hp} {r : List Addr} {st : Store}
theorem shaped_of {d : D} {n : Nat} (h : (pd d).canLay0 = true) (h2 : (pd d).depth ≤ n) (hn : n ≤ 64) : SeqAt.shaped (pd d) = true := by
  unfold SeqAt.shaped
  rw [h, decide_eq_true (Nat.le_trans h2 hn)]
  rfl
theorem Post.data2 {A U : Type} {Rl : Hp → List Addr → A → U → Prop} {Q : U → Hp → Prop} {a b : D} {x y : V} {f : D × D → M A} (s : SR W.b H r st) (ha : RD W.b H r a x) (hb : RD W.b H r b y) (h : Post W Rl H r (bnd (Li.data2 a b) f st) Q) :
    ∃ p q, Dp W.b.K H x (pd p) ∧ Dp W.b.K H y (pd q) ∧ SeqAt.shaped (pd p) = true ∧ SeqAt.shaped (pd q) = true ∧ Dat DEEP p ∧ Dat DEEP q ∧ Post W Rl H r (f (p, q) st) Q := by
  cases e1 : res st DEEP a with
  | none =>
    rw [bnd_bad (by unfold Li.data2; rw [e1])] at h
    exact h.elim
  | some p =>
    cases e2 : res st DEEP b with
    | none =>
      rw [bnd_bad (by unfold Li.data2; rw [e1, e2])] at h
      exact h.elim
    | some q =>
      rw [bnd_ok (a := (p, q)) (by unfold Li.data2; rw [e1, e2])] at h
      obtain ⟨p1, p2, p3⟩ := res_dp s DEEP a p x ha e1
      obtain ⟨q1, q2, q3⟩ := res_dp s DEEP b q y hb e2
      exact ⟨p, q, p1, q1, shaped_of p2 p3 (by decide), shaped_of q2 q3 (by decide), res_dat _ _ _ e1, res_dat _ _ _ e2, h⟩
def cmpV (o : Cop) (a b : D) : M D := bnd (cmpop o a b) fun k => ret (.bl k)
theorem isSub_iff (s : S) : ∀ t : S, isSub s t = true ↔ ∃ i, i + s.length ≤ t.length ∧ (t.drop i).take s.length = s
  | [] => by
    unfold isSub
    constructor
    · intro h
      simp only [Bool.or_false] at h
      cases s with
      | nil => exact ⟨0, by simp⟩
      | cons c s => cases h
    · rintro ⟨i, h1, h2⟩
      cases s with
      | nil => rfl
      | cons c s => simp at h1
  | c :: t => by
    have ih := isSub_iff s t
    unfold isSub
    rw [Bool.or_eq_true, ih, List.isPrefixOf_iff_prefix]
    constructor
    · rintro (⟨u, hu⟩ | ⟨i, h1, h2⟩)
      · refine ⟨0, ?_, ?_⟩
        · rw [← hu]
          simp
        · rw [← hu]
          simp
      · exact ⟨i + 1, by simp; omega, by simpa using h2⟩
    · rintro ⟨i, h1, h2⟩
      cases i with
      | zero =>
        left
        rw [← h2]
        exact List.take_prefix _ _
      | succ i => exact .inr ⟨i, by simp at h1; omega, by simpa using h2⟩
theorem sub_at (s t : S) (i : Nat) : Builtin.Str.subAt ⟨t.toArray⟩ ⟨s.toArray⟩ i = true ↔ (t.drop i).take s.length = s := by
  unfold Builtin.Str.subAt
  rw [str_len, beq_iff_eq, ← Array.toList_inj]
  simp [Array.toList_extract, List.extract]
theorem occ_sub (s t : S) : (!(Builtin.Str.occurrences ⟨t.toArray⟩ ⟨s.toArray⟩ 0 (⟨t.toArray⟩ : Str).length 1).isEmpty) = isSub s t := by
  rw [Bool.eq_iff_iff, StrLaws.found_iff, isSub_iff]
  constructor
  · rintro ⟨i, h1, h2⟩
    exact ⟨i, by rw [str_len, str_len] at h1; exact h1, (sub_at s t i).mp h2⟩
  · rintro ⟨i, h1, h2⟩
    exact ⟨i, by rw [str_len, str_len]; exact h1, (sub_at s t i).mpr h2⟩
theorem any_pd {n : Nat} {p : D} (hp : Dat n p) : ∀ {ys : List D}, (∀ y ∈ ys, Dat n y) → ((pds ys).any fun z => PyData.eqv z (pd p)) = ys.any fun y => eqv y p
  | [], _ => rfl
  | y :: ys, h => by
    rw [pds, List.any_cons, List.any_cons, eqv_is n y p (h y (by simp)) hp, any_pd hp fun z hz => h z (by simp [hz])]
theorem Dat.up : ∀ {n m : Nat} {d : D}, n ≤ m → Dat n d → Dat m d := by
  intro n
  induction n with
  | zero => intro m d _ h; cases h <;> constructor
  | succ n ih =>
    intro m d hm h
    obtain ⟨k, rfl⟩ : ∃ k, m = k + 1 := ⟨m - 1, by omega⟩
    cases h with
    | tup h => exact .tup fun x hx => ih (by omega) (h x hx)
    | ro h => exact .ro fun x hx => ih (by omega) (h x hx)
    | _ => constructor
/-- in a tuple -/
def rInT (K : PySem.W.Frag) (neg : Bool) : R2 := fun x y H Q => ∃ d ds, Dp K H x d ∧ Dp K H y (.tuple ds) ∧ SeqAt.shaped d = true ∧ SeqAt.shaped (.tuple ds) = true ∧ Q (.bl (if neg then !(ds.any fun z => PyData.eqv z d) else ds.any fun z => PyData.eqv z d)) H
theorem op_inT (hu : X.A.units + 65 < cLine) : OpR X (compareOp .In) (rInT X.K false) := by
  rintro pins s σ H x y v u Q I rx ry ⟨d, ds, hd, he, sd, se, q⟩
  obtain ⟨as, r1⟩ := Dp.reads I d x v hd rx
  obtain ⟨bs, r2⟩ := Dp.reads I (.tuple ds) y u he ry
  exact SeqAt.in_tuple_reads r2 r1 (SeqAt.canLay_of_shaped se) (SeqAt.canLay_of_shaped sd) (PyProof.Rows.room_in_shaped sd hu) (fin_bl I q rfl)
theorem op_ninT (hu : X.A.units + 65 < cLine) : OpR X (compareOp .NotIn) (rInT X.K true) := by
  rintro pins s σ H x y v u Q I rx ry ⟨d, ds, hd, he, sd, se, q⟩
  obtain ⟨as, r1⟩ := Dp.reads I d x v hd rx
  obtain ⟨bs, r2⟩ := Dp.reads I (.tuple ds) y u he ry
  exact SeqAt.notIn_tuple_reads r2 r1 (SeqAt.canLay_of_shaped se) (SeqAt.canLay_of_shaped sd) (PyProof.Rows.room_in_shaped sd hu) (fin_bl I q rfl)
/-- how in comes out -/
theorem in_cases {A U : Type} {Rl : Hp → List Addr → A → U → Prop} {Q : U → Hp → Prop} {a b : D} {x y : V} {f : Bool → M A} (s : SR W.b H r st) (ha : RD W.b H r a x) (hb : RD W.b H r b y) (h : Post W Rl H r (bnd (isIn a b) f st) Q) :
    ∃ k, Post W Rl H r (f k st) Q ∧
      ((∃ i j, x = .str i ∧ y = .str j ∧ k = !(Builtin.Str.occurrences j i 0 j.length 1).isEmpty) ∨
       (∃ d ds, Dp W.b.K H x d ∧ Dp W.b.K H y (.list ds) ∧ SeqAt.shaped d = true ∧ SeqAt.shaped (.list ds) = true ∧ k = ds.any fun z => PyData.eqv z d) ∨
       (∃ d ds, Dp W.b.K H x d ∧ Dp W.b.K H y (.tuple ds) ∧ SeqAt.shaped d = true ∧ SeqAt.shaped (.tuple ds) = true ∧ k = ds.any fun z => PyData.eqv z d)) := by
  have rest : isIn a b = isInD a b → ∃ k, Post W Rl H r (f k st) Q ∧
      ((∃ i j, x = .str i ∧ y = .str j ∧ k = !(Builtin.Str.occurrences j i 0 j.length 1).isEmpty) ∨
       (∃ d ds, Dp W.b.K H x d ∧ Dp W.b.K H y (.list ds) ∧ SeqAt.shaped d = true ∧ SeqAt.shaped (.list ds) = true ∧ k = ds.any fun z => PyData.eqv z d) ∨
       (∃ d ds, Dp W.b.K H x d ∧ Dp W.b.K H y (.tuple ds) ∧ SeqAt.shaped d = true ∧ SeqAt.shaped (.tuple ds) = true ∧ k = ds.any fun z => PyData.eqv z d)) := by
    intro e
    rw [e, isInD, bnd_bnd] at h
    obtain ⟨p, q, h1, h2, h3, h4, h5, h6, h⟩ := Post.data2 s ha hb h
    cases q with
    | tup ys =>
      refine ⟨_, h, .inr (.inr ⟨pd p, pds ys, h1, by rw [pd] at h2; exact h2, h3, by rw [pd] at h4; exact h4, ?_⟩)⟩
      cases h6 with
      | tup h6 => exact (any_pd h5 fun y hy => (h6 y hy).up (by decide)).symm
    | ro ys =>
      refine ⟨_, h, .inr (.inl ⟨pd p, pds ys, h1, by rw [pd] at h2; exact h2, h3, by rw [pd] at h4; exact h4, ?_⟩)⟩
      cases h6 with
      | ro h6 => exact (any_pd h5 fun y hy => (h6 y hy).up (by decide)).symm
    | _ => exact h.elim
  cases ha with
  | str u h1 h2 =>
    cases hb with
    | str t h3 h4 => exact ⟨isSub u t, h, .inl ⟨_, _, rfl, rfl, (occ_sub u t).symm⟩⟩
    | _ => exact rest rfl
  | _ => exact rest rfl
/-- the comparisons -/
theorem ok_cmp (hK : X.K = W.b.K) (hu : X.A.units + 65 < cLine) : ∀ o : Cop, ∃ q, OpR X (compareOp (copOf o)) q ∧ Op2 W q (cmpV o)
  | .eq => ⟨_, op_eqD (by omega), by
    rw [hK]
    intro H r st a b x y Q s ha hb h
    unfold cmpV cmpop at h
    rw [bnd_bnd] at h
    obtain ⟨p, q, h1, h2, h3, h4, h5, h6, h⟩ := Post.data2 s ha hb h
    exact ⟨pd p, pd q, h1, h2, h3, h4, by rw [eqv_is _ p q h5 h6]; exact h.ret s (.bl _)⟩⟩
  | .ne => ⟨_, op_neD (by omega), by
    rw [hK]
    intro H r st a b x y Q s ha hb h
    unfold cmpV cmpop at h
    rw [bnd_bnd] at h
    obtain ⟨p, q, h1, h2, h3, h4, h5, h6, h⟩ := Post.data2 s ha hb h
    exact ⟨pd p, pd q, h1, h2, h3, h4, by rw [eqv_is _ p q h5 h6]; exact h.ret s (.bl _)⟩⟩
  | .lt => ⟨_, op_lt, ints_ok fun _ _ => rfl⟩
  | .le => ⟨_, op_le, ints_ok fun _ _ => rfl⟩
  | .gt => ⟨_, op_gt, ints_ok fun _ _ => rfl⟩
  | .ge => ⟨_, op_ge, ints_ok fun _ _ => rfl⟩
  | .is => ⟨_, OpR.or op_isN op_isBl, by
    intro H r st a b x y Q s ha hb h
    cases hb with
    | non => exact .inl ⟨rfl, by
        have e : isNon a = decide (x = .non) := by cases ha <;> rfl
        rw [← e]
        exact h.ret s (.bl _)⟩
    | bl j =>
      cases ha with
      | bl i => exact .inr ⟨i, j, rfl, rfl, by
          have e : (i == j) = decide (i = j) := by cases i <;> cases j <;> rfl
          rw [← e]
          exact h.ret s (.bl _)⟩
      | _ => exact h.elim
    | _ => cases ha <;> exact h.elim⟩
  | .isn => ⟨_, OpR.or op_notN op_notBl, by
    intro H r st a b x y Q s ha hb h
    cases hb with
    | non => exact .inl ⟨rfl, by
        have e : isNon a = decide (x = .non) := by cases ha <;> rfl
        rw [← e]
        exact h.ret s (.bl _)⟩
    | bl j =>
      cases ha with
      | bl i => exact .inr ⟨i, j, rfl, rfl, by
          have e : (i == j) = decide (i = j) := by cases i <;> cases j <;> rfl
          rw [← e]
          exact h.ret s (.bl _)⟩
      | _ => exact h.elim
    | _ => cases ha <;> exact h.elim⟩
  | .isin => ⟨_, OpR.or op_in_str (OpR.or (op_inD hu) (op_inT hu)), by
    rw [hK]
    intro H r st a b x y Q s ha hb h
    obtain ⟨k, h, c⟩ := in_cases s ha hb h
    have q : Q (.bl k) H := h.ret s (.bl k)
    rcases c with ⟨i, j, e1, e2, e3⟩ | ⟨d, ds, h1, h2, h3, h4, e⟩ | ⟨d, ds, h1, h2, h3, h4, e⟩
    · exact .inl ⟨i, j, e1, e2, by rw [← e3]; exact q⟩
    · exact .inr (.inl ⟨d, ds, h1, h2, h3, h4, by rw [← e]; exact q⟩)
    · exact .inr (.inr ⟨d, ds, h1, h2, h3, h4, by rw [if_neg Bool.false_ne_true, ← e]; exact q⟩)⟩
  | .nin => ⟨_, OpR.or op_notin_str (OpR.or (op_notInD hu) (op_ninT hu)), by
    rw [hK]
    intro H r st a b x y Q s ha hb h
    unfold cmpV cmpop at h
    rw [bnd_bnd] at h
    obtain ⟨k, h, c⟩ := in_cases s ha hb h
    have q : Q (.bl (!k)) H := h.ret s (.bl (!k))
    rcases c with ⟨i, j, e1, e2, e3⟩ | ⟨d, ds, h1, h2, h3, h4, e⟩ | ⟨d, ds, h1, h2, h3, h4, e⟩
    · exact .inl ⟨i, j, e1, e2, by rw [← e3]; exact q⟩
    · exact .inr (.inl ⟨d, ds, h1, h2, h3, h4, by rw [← e]; exact q⟩)
    · exact .inr (.inr ⟨d, ds, h1, h2, h3, h4, by rw [if_pos rfl, ← e]; exact q⟩)⟩
where
  ints_ok {o : Cop} {g : Int → Int → Bool} (e : ∀ i j, cmpV o (.int i) (.int j) = ret (.bl (g i j))) (hn : ∀ a b H r st Q, (∀ i j, ¬ (a = .int i ∧ b = .int j)) → Post W (RD W.b) H r (cmpV o a b st) Q → False := by
      intro a b H r st Q hn h
      cases a <;> first | exact h.elim | (cases b <;> first | exact h.elim | exact hn _ _ ⟨rfl, rfl⟩)) : Op2 W (rI0 fun i j => .bl (g i j)) (cmpV o) := by
    intro H r st a b x y Q s ha hb h
    cases ha with
    | int i =>
      cases hb with
      | int j =>
        rw [e] at h
        exact ⟨i, j, rfl, rfl, h.ret s (.bl _)⟩
      | _ => exact (hn _ _ H r st Q (fun i j z => by cases z.2) h).elim
    | _ => exact (hn _ _ H r st Q (fun i j z => by cases z.1) h).elim
end
end Li
namespace Li
open PySem L2
section
variable {W : Wd} {X : Cx} {H : Hp} {r : List Addr} {st : Store}
theorem ref_inv {d : D} {a : Addr} (h : RD W.b H r d (.ref a)) : (∃ n, d = .ob n ∧ r[n]? = some a) ∨ (∃ vs ds, d = .tup ds ∧ SqT W.b.K H a vs ∧ RDs W.b H r ds vs) ∨ (∃ vs ds, d = .ro ds ∧ SqF W.b.K H a vs ∧ RDs W.b H r ds vs) ∨ ∃ n, d = .fn n := by
  cases h with
  | ob h => exact .inl ⟨_, rfl, h⟩
  | tup h1 h2 => exact .inr (.inl ⟨_, _, rfl, h1, h2⟩)
  | ro h1 h2 => exact .inr (.inr (.inl ⟨_, _, rfl, h1, h2⟩))
  | fn h => exact .inr (.inr (.inr ⟨_, rfl⟩))
/-- a value's truth -/
theorem ok_truth {A U : Type} {Rl : Hp → List Addr → A → U → Prop} {Q : U → Hp → Prop} {d : D} {x : V} {f : Bool → M A} (s : SR W.b H r st) (hd : RD W.b H r d x) (h : Post W Rl H r (bnd (truth d) f st) Q) :
    ∃ k, TruV W.b.K x H k ∧ Post W Rl H r (f k st) Q := by
  cases hd with
  | non => exact ⟨false, rfl, h⟩
  | bl b => exact ⟨b, rfl, h⟩
  | int i => exact ⟨_, rfl, h⟩
  | str u h1 h2 =>
    refine ⟨_, ⟨by rw [str_len, ← line_eq]; exact h1, ?_⟩, h⟩
    rw [str_len]
    cases u with
    | nil => rfl
    | cons c u =>
      symm
      show (((u.length + 1 : Nat) : Int) != 0) = true
      rw [bne_iff_ne]
      omega
  | tup h1 h2 => exact ⟨_, .inr (.inl ⟨_, h1, rfl⟩), by rw [← h2.nil_iff]; exact h⟩
  | ro h1 h2 => exact ⟨_, .inl ⟨_, h1.l, rfl⟩, by rw [← h2.nil_iff]; exact h⟩
  | ob h1 =>
    unfold truth at h
    rw [bnd_bnd] at h
    obtain ⟨xs, e, h⟩ := Post.getL h
    obtain ⟨a, vs, e1, e2, q⟩ := s.lst e
    rw [h1] at e1
    cases e1
    exact ⟨_, .inl ⟨_, SqL.of e2, rfl⟩, by rw [← q.nil_iff]; exact h⟩
  | fn _ => exact h.elim
  | ty _ => exact h.elim
def biTy : Ty → Value := fun t => .type (tyName t)
def kindTy : D → Ty → Bool
  | .bl _, .bool => true
  | .bl _, .int => true
  | .int _, .int => true
  | .str _, .str => true
  | .tup _, .tuple => true
  | .ro _, .list => true
  | .ob _, .list => true
  | _, _ => false
theorem kit_bool (t : Ty) : kitB "bool" (tyName t) = some (match t with | .bool => true | .int => true | _ => false) := by cases t <;> decide +kernel
theorem kit_int (t : Ty) : kitB "int" (tyName t) = some (match t with | .int => true | _ => false) := by cases t <;> decide +kernel
theorem kit_str (t : Ty) : kitB "str" (tyName t) = some (match t with | .str => true | _ => false) := by cases t <;> decide +kernel
theorem kit_tuple (t : Ty) : kitB "tuple" (tyName t) = some (match t with | .tuple => true | _ => false) := by cases t <;> decide +kernel
theorem kit_list (t : Ty) : kitB "list" (tyName t) = some (match t with | .list => true | _ => false) := by cases t <;> decide +kernel
theorem kit_none (t : Ty) : kitB "NoneType" (tyName t) = some false := by cases t <;> decide +kernel
/-- the class that a thing has, and what is asked of it -/
theorem kind_of {d : D} {x : V} (s : SR W.b H r st) (hd : RD W.b H r d x) (hk : kinded st d = true) : ∃ n : String, TyX W.b.K H x (.type n) ∧ ∀ t, kitB n (tyName t) = some (isTy st d t) := by
  cases hd with
  | non => exact ⟨"NoneType", .base .non, fun t => by rw [kit_none]; cases t <;> rfl⟩
  | bl b => exact ⟨"bool", .base (.bl b), fun t => by rw [kit_bool]; cases t <;> rfl⟩
  | int i => exact ⟨"int", .base (.int i), fun t => by rw [kit_int]; cases t <;> rfl⟩
  | str u _ _ => exact ⟨"str", .base (.str _), fun t => by rw [kit_str]; cases t <;> rfl⟩
  | tup h1 h2 =>
    refine ⟨"tuple", ?_, fun t => by rw [kit_tuple]; cases t <;> rfl⟩
    rcases h1 with (h1 | ⟨o, h1⟩) | ⟨o, its, n, h1, h3, _⟩
    · exact .base (.tup h1)
    · exact .fTuple h1
    · exact .kTuple h1 h3
  | ro h1 h2 =>
    refine ⟨"list", ?_, fun t => by rw [kit_list]; cases t <;> rfl⟩
    rcases h1 with ⟨o, h1⟩ | ⟨o, its, n, h1, h3, _⟩
    · exact .base (.frz h1)
    · exact .kList h1 h3
  | @ob n a h1 =>
    have hk : (match st[n]? with | some (.lst _) => true | _ => false) = true := hk
    cases q : st[n]? with
    | none => rw [q] at hk; cases hk
    | some o =>
      cases o with
      | lst xs =>
        obtain ⟨a', vs, e1, e2, _⟩ := s.lst q
        rw [h1] at e1
        cases e1
        refine ⟨"list", .base (.lst e2), fun t => ?_⟩
        rw [kit_list]
        cases t <;> simp [isTy, q]
      | ins _ _ | dic _ | nst _ => rw [q] at hk; cases hk
  | fn _ => cases hk
  | ty _ => cases hk
def biVal : Bi → Value
  | .str => .type "str" | .min => .builtin "min" | .max => .builtin "max"
  | .len => .builtin "len" | .abs => .builtin "abs" | .isi => .builtin "isinstance" | .repr => .builtin "repr"
  | .int => .type "int" | .list => .type "list" | .tuple => .type "tuple"
theorem rds1 {ds : List D} {x : V} (h : RDs W.b H r ds [x]) : ∃ d, ds = [d] ∧ RD W.b H r d x := by
  cases h with
  | cons h1 h2 => cases h2; exact ⟨_, rfl, h1⟩
def rReprD (K : PySem.W.Frag) : List V → Hp → VK → Prop := fun xs H Q => ∃ v d, xs = [v] ∧ Dp K H v d ∧ d.showable = true ∧ d.hasDict = false ∧ d.depth ≤ 60 ∧ d.shown.length ≤ sizeLine ∧ Q (.str d.shown) H
theorem str_mk' (x : Str) : (⟨x.cps.toList.toArray⟩ : Str) = x := by cases x; simp
theorem call_reprD {X : Cx} (hg : X.A.guards = some []) (hu : X.A.units + 65 < cLine) : CallR X (.builtin "repr") (rReprD X.K) := by
  intro pins z σ H xs us Q J rv h
  obtain ⟨v, d, rfl, hd, h1, h2, h3, h4, q⟩ := h
  obtain ⟨u, rfl, ru⟩ := vals1 rv
  cases hd with
  | non =>
    obtain rfl : u = Value.none := ru
    exact PySem.P.repr_of_none ⟨.str _, H, J.tok _, ⟨_, rfl⟩, q⟩
  | bl b =>
    obtain rfl : u = Value.bool b := ru
    exact PySem.P.repr_of_bool ⟨.str _, H, J.tok _, ⟨_, rfl⟩, q⟩
  | int i =>
    obtain ⟨t, rfl⟩ := ru
    exact PySem.P.repr_of_int (of_decide_eq_true h1) ⟨.str _, H, J.tok _, ⟨_, rfl⟩, q⟩
  | str x =>
    obtain ⟨t, rfl⟩ := ru
    exact PySem.P.repr_of_str ⟨.str _, H, J.tok _, ⟨_, rfl⟩, q⟩ h4
  | lst a1 a2 =>
    obtain rfl : u = Value.ref _ := ru
    obtain ⟨as, r⟩ := Dp.reads J _ _ _ (.lst a1 a2) rfl
    exact repr_of_reads' r h1 (fun e => by rw [h2] at e; cases e) hg (by omega) (fun _ _ e => e) (fun h' t tk hk => ⟨.str _, H, J.kept hk, ⟨_, rfl⟩, q⟩) h4
  | tup a1 a2 =>
    obtain rfl : u = Value.ref _ := ru
    obtain ⟨as, r⟩ := Dp.reads J _ _ _ (.tup a1 a2) rfl
    exact repr_of_reads' r h1 (fun e => by rw [h2] at e; cases e) hg (by omega) (fun _ _ e => e) (fun h' t tk hk => ⟨.str _, H, J.kept hk, ⟨_, rfl⟩, q⟩) h4
/-- the built-ins that want a calm context -/
def biCalm : Bi → Bool
  | .min | .max => true
  | _ => false
theorem call_str_bool {X : Cx} : CallR X (.type "str") (fun xs H Q => ∃ b, xs = [.bl b] ∧ Q (.str (if b then ("True" : Str) else "False")) H) := by
  intro pins s σ H xs us Q I r h
  obtain ⟨b, rfl, q⟩ := h
  obtain ⟨u, rfl, r1⟩ := vals1 r
  cases r1
  have e : (if b then ("True" : Str) else "False") = Str.ofString (if b then "True" else "False") := by cases b <;> rfl
  exact PySem.P.str_of_bool ⟨.str _, H, I.tok _, ⟨_, by rw [e]⟩, q⟩
theorem ok_built (hK : X.K = W.b.K) (hg : X.A.guards = some []) (hu : X.A.units + 65 < cLine) : ∀ b : Bi, (biCalm b = true → X.calm = true) → ∃ q, CallR X (biVal b) q ∧ OpN W q (built b)
  | .len, hcm => ⟨_, call_len, by
    rw [hK]
    intro H r st as xs Q s hs h
    cases hs with
    | nil => exact h.elim
    | cons h1 h2 =>
      cases h2 with
      | cons h3 h4 =>
        cases h1 <;> exact h.elim
      | nil =>
        cases h1 with
        | str u q1 q2 => exact ⟨_, u.length, rfl, ⟨by rw [str_len, ← line_eq]; exact q1, by rw [str_len]⟩, h.ret s (.int _)⟩
        | tup q1 q2 => exact ⟨_, _, rfl, .inr ⟨_, q1, rfl⟩, by rw [← q2.length]; exact h.ret s (.int _)⟩
        | ro q1 q2 => exact ⟨_, _, rfl, .inl ⟨_, q1.l, rfl⟩, by rw [← q2.length]; exact h.ret s (.int _)⟩
        | ob q1 =>
          obtain ⟨ds, e, h⟩ := Post.getL h
          obtain ⟨a, vs, e1, e2, q⟩ := s.lst e
          rw [q1] at e1
          cases e1
          exact ⟨_, _, rfl, .inl ⟨_, SqL.of e2, rfl⟩, by rw [← q.length]; exact h.ret s (.int _)⟩
        | _ => exact h.elim⟩
  | .repr, hcm => ⟨_, call_reprD hg hu, by
    rw [hK]
    intro H r st as xs Q s hs h
    cases hs with
    | nil => exact h.elim
    | cons h1 h2 =>
      cases h2 with
      | cons h3 h4 => cases h1 <;> exact h.elim
      | nil =>
        rename_i d v
        have h : Post W (RD W.b) H r (match res st DEEP d with
          | some x => if okS x = true then .ok (.str (shS x)) st else .bad
          | none => .bad) Q := h
        cases e : res st DEEP d with
        | none => rw [e] at h; exact h.elim
        | some x =>
          rw [e] at h
          by_cases ho : okS x = true
          · simp only [if_pos ho] at h
            obtain ⟨g1, g2, g3⟩ := res_dp s _ _ _ _ h1 e
            unfold okS at ho
            simp only [Bool.and_eq_true, decide_eq_true_eq, List.all_eq_true] at ho
            obtain ⟨o1, o2, o3⟩ := ho
            have hl : (PyData.shown (pd x)).length ≤ sizeLine := by rw [← line_eq]; exact o2
            refine ⟨_, _, rfl, g1, o1, PyData.hasDict_of_canLay _ g2, g3, hl, ?_⟩
            have e1 : (PyData.shown (pd x)) = ⟨(shS x).toArray⟩ := (str_mk' _).symm
            rw [e1]
            exact h H r (.str ⟨(shS x).toArray⟩) (Lt.refl _ _) s (.str _ o2 o3)
          · simp only [if_neg ho] at h
            exact h.elim⟩
  | .int, hcm => ⟨_, CallR.or call_int1 call_int_str, by
    intro H r st as xs Q s hs h
    cases hs with
    | nil => exact h.elim
    | cons h1 h2 =>
      cases h2 with
      | cons h3 h4 => cases h1 <;> exact h.elim
      | nil =>
        cases h1 with
        | int i => exact .inl (.inl ⟨i, rfl, h.ret s (.int _)⟩)
        | bl k => exact .inl (.inr ⟨k, rfl, h.ret s (.int _)⟩)
        | str u g1 g2 =>
          obtain ⟨hc, h⟩ := Post.chk h
          obtain ⟨i, hi, h⟩ := Post.ofO h
          exact .inr ⟨_, i, rfl, hi, by rw [str_len]; exact hc, h.ret s (.int _)⟩
        | _ => exact h.elim⟩
  | .abs, hcm => ⟨_, call_abs, by
    intro H r st as xs Q s hs h
    cases hs with
    | nil => exact h.elim
    | cons h1 h2 =>
      cases h2 with
      | cons h3 h4 => cases h1 <;> exact h.elim
      | nil =>
        cases h1 with
        | int i => exact ⟨i, rfl, h.ret s (.int _)⟩
        | _ => exact h.elim⟩
  | .str, hcm => ⟨_, CallR.or call_str_bool (CallR.or call_str_int SkE.call_str_str), by
    intro H r st as xs Q s hs h
    cases hs with
    | nil => exact h.elim
    | cons h1 h2 =>
      cases h2 with
      | cons h3 h4 => cases h1 <;> exact h.elim
      | nil =>
        cases h1 with
        | int i =>
          have p : Post W (RD W.b) H r (if okS (.int i) = true then .ok (.str (shS (.int i))) st else .bad) Q := h
          by_cases ho : okS (.int i) = true
          · rw [if_pos ho] at p
            unfold okS at ho
            simp only [Bool.and_eq_true, decide_eq_true_eq, List.all_eq_true] at ho
            obtain ⟨o1, o2, o3⟩ := ho
            refine .inr (.inl ⟨i, rfl, of_decide_eq_true o1, ?_⟩)
            have e1 : (toString i : Str) = ⟨(shS (.int i)).toArray⟩ := (str_mk' _).symm
            rw [e1]
            exact p H r _ (Lt.refl _ _) s (.str _ o2 o3)
          · rw [if_neg ho] at p
            exact p.elim
        | str u g1 g2 => exact .inr (.inr ⟨_, rfl, h.ret s (.str u g1 g2)⟩)
        | bl b =>
          refine .inl ⟨b, rfl, ?_⟩
          have e1 : (if b then ("True" : Str) else "False") = ⟨(boolS b).toArray⟩ := by cases b <;> rfl
          rw [e1]
          exact h.ret s (.str _ (by cases b <;> decide) (by cases b <;> decide))
        | _ => exact h.elim⟩
  | .min, hcm => ⟨_, call_min2 (hcm rfl), by
    intro H r st as xs Q s hs h
    cases hs with
    | nil => exact h.elim
    | cons h1 h2 =>
      cases h2 with
      | nil => cases h1 <;> exact h.elim
      | cons h3 h4 =>
        cases h4 with
        | cons h5 h6 => cases h1 <;> cases h3 <;> exact h.elim
        | nil =>
          cases h1 with
          | int i =>
            cases h3 with
            | int j => exact ⟨i, j, rfl, h.ret s (.int _)⟩
            | _ => exact h.elim
          | _ => cases h3 <;> exact h.elim⟩
  | .max, hcm => ⟨_, call_max2 (hcm rfl), by
    intro H r st as xs Q s hs h
    cases hs with
    | nil => exact h.elim
    | cons h1 h2 =>
      cases h2 with
      | nil => cases h1 <;> exact h.elim
      | cons h3 h4 =>
        cases h4 with
        | cons h5 h6 => cases h1 <;> cases h3 <;> exact h.elim
        | nil =>
          cases h1 with
          | int i =>
            cases h3 with
            | int j => exact ⟨i, j, rfl, h.ret s (.int _)⟩
            | _ => exact h.elim
          | _ => cases h3 <;> exact h.elim⟩
  | .list, hcm => ⟨_, call_list_of, by
    rw [hK]
    intro H r st as xs Q s hs h
    cases hs with
    | nil => exact h.elim
    | cons h1 h2 =>
      cases h2 with
      | cons h3 h4 => cases h1 <;> exact h.elim
      | nil =>
        obtain ⟨a, vs, ds, rfl, q, c, h⟩ := row_of s h1 h
        refine ⟨a, vs, rfl, ?_, fun l hl => h.newL s hl q⟩
        rcases c with ⟨c, _⟩ | ⟨c, _⟩
        · exact .inr c
        · exact .inl c⟩
  | .tuple, hcm => ⟨_, call_tuple_of, by
    rw [hK]
    intro H r st as xs Q s hs h
    cases hs with
    | nil => exact h.elim
    | cons h1 h2 =>
      cases h2 with
      | cons h3 h4 => cases h1 <;> exact h.elim
      | nil =>
        obtain ⟨a, vs, ds, rfl, q, c, h⟩ := row_of s h1 h
        refine ⟨a, vs, rfl, ?_⟩
        rcases c with ⟨c, _⟩ | ⟨c, _⟩
        · exact .inr ⟨c, h.ret s (.tup c q)⟩
        · exact .inl ⟨c, fun l hl => h _ _ _ (Lt.new hl) (s.new hl) (.tup (SqT.of upd_same) (q.mono (Lt.new hl)))⟩⟩
  | .isi, hcm => ⟨_, call_isi, by
    rw [hK]
    intro H r st as xs Q s hs h
    cases hs with
    | nil => exact h.elim
    | cons h1 h2 =>
      cases h2 with
      | nil => cases h1 <;> exact h.elim
      | cons h3 h4 =>
        cases h4 with
        | cons h5 h6 => cases h1 <;> cases h3 <;> exact h.elim
        | nil =>
          rename_i d x d2 x2
          cases h3 with
          | ty t =>
            have h : Post W (RD W.b) H r (if kinded st d = true then .ok (.bl (isTy st d t)) st else .bad) Q := by
              cases h1 <;> exact h
            by_cases hk : kinded st d = true
            · rw [if_pos hk] at h
              obtain ⟨n, e1, e2⟩ := kind_of s h1 hk
              exact ⟨x, .ty (tyName t), .type n, .type (tyName t), isTy st d t, rfl, .ty _, e1, kit_ty (e2 t), Post.ret (Rl := RD W.b) (a := D.bl (isTy st d t)) h s (.bl _)⟩
            · rw [if_neg hk] at h
              exact h.elim
          | _ => cases h1 <;> exact h.elim⟩
/-- append -/
theorem ok_append : OpM W rAppend (meth .append) := by
  intro H r st a as x xs Q s ha hs h
  cases ha with
  | ob h1 =>
    cases hs with
    | nil => exact h.elim
    | cons h2 h3 =>
      cases h3 with
      | cons h4 h5 => exact h.elim
      | nil =>
        obtain ⟨ds, e, h⟩ := Post.getL h
        obtain ⟨hc, h⟩ := Post.chk h
        obtain ⟨hn, h⟩ := Post.setO h
        obtain ⟨p, vs, e1, e2, q⟩ := s.lst e
        rw [h1] at e1
        cases e1
        exact ⟨_, vs, _, rfl, rfl, e2, by rw [← q.length, ← line_eq]; exact hc, h.setL s h1 e2 (q.app (.cons h2 .nil)) fun _ _ _ => .non⟩
  | _ => cases hs <;> exact h.elim
theorem ok_pop : ∀ H r st a x (Q : VK), SR W.b H r st → RD W.b H r a x → Post W (RD W.b) H r (meth .pop a [] st) Q → rPop x [] H Q := by
  intro H r st a x Q s ha h
  cases ha with
  | ob h1 =>
    obtain ⟨ds, e, h⟩ := Post.getL h
    obtain ⟨d, ed, h⟩ := Post.ofO h
    obtain ⟨hn, h⟩ := Post.setO h
    obtain ⟨p, vs, e1, e2, q⟩ := s.lst e
    rw [h1] at e1
    cases e1
    obtain ⟨v, ev, qv⟩ := q.get ed
    exact ⟨_, vs, v, rfl, rfl, e2, by rw [← q.length]; exact ev, h.setL s h1 e2 q.dropLast fun _ _ l => qv.mono l⟩
  | _ => exact h.elim
theorem RDs.erase : ∀ {ds : List D} {vs : List V} (n : Nat), RDs W.b H r ds vs → RDs W.b H r (ds.eraseIdx n) (vs.eraseIdx n)
  | _, _, _, .nil => .nil
  | _, _, 0, .cons _ h2 => h2
  | _, _, n + 1, .cons h1 h2 => .cons h1 (RDs.erase n h2)
theorem ixN_seq {n : Nat} {i : Int} {k : Nat} (h : ixN n i = some k) : seqIndex? i n = some k := by
  unfold ixN at h
  unfold seqIndex?
  by_cases h0 : 0 ≤ i
  · rw [if_pos h0] at h
    have h1 : ¬ i < 0 := by omega
    by_cases h2 : i < n
    · rw [if_pos h2] at h
      simp [h1, h0, h2, h]
    · rw [if_neg h2] at h
      cases h
  · rw [if_neg h0] at h
    have h1 : i < 0 := by omega
    by_cases h2 : -(n : Int) ≤ i
    · rw [if_pos h2] at h
      have h3 : 0 ≤ i + n := by omega
      have h4 : i + n < n := by omega
      simp [h1, h3, h]
      exact h4
    · rw [if_neg h2] at h
      cases h
theorem ok_popAt {d0 : D} {x0 : V} : ∀ H r st a x (Q : VK), SR W.b H r st → RD W.b H r a x → RD W.b H r d0 x0 → Post W (RD W.b) H r (meth .pop a [d0] st) Q → rPopAt x [x0] H Q := by
  intro H r st a x Q s ha hd h
  cases ha with
  | ob h1 =>
    cases hd with
    | int i =>
      obtain ⟨hb, h⟩ := Post.chk h
      obtain ⟨ds, e, h⟩ := Post.getL h
      obtain ⟨j, ej, h⟩ := Post.ofO h
      obtain ⟨d, ed, h⟩ := Post.ofO h
      obtain ⟨hn, h⟩ := Post.setO h
      obtain ⟨p, vs, e1, e2, q⟩ := s.lst e
      rw [h1] at e1
      cases e1
      obtain ⟨v, ev, qv⟩ := q.get ed
      unfold inBig BIG at hb
      exact ⟨_, vs, i, j, v, rfl, rfl, e2, by omega, by omega, by rw [← q.length]; exact ixN_seq ej, ev, h.setL s h1 e2 (q.erase j) fun _ _ l => qv.mono l⟩
    | _ => exact h.elim
  | _ => cases hd <;> exact h.elim
theorem ok_popN : OpM W (fun x vs H Q => (vs = [] ∧ rPop x vs H Q) ∨ ∃ v, vs = [v] ∧ rPopAt x vs H Q) (meth .pop) := by
  intro H r st a as x xs Q s ha hs h
  cases hs with
  | nil => exact .inl ⟨rfl, ok_pop _ _ _ _ _ _ s ha h⟩
  | cons h1 h2 =>
    cases h2 with
    | nil => exact .inr ⟨_, rfl, ok_popAt _ _ _ _ _ _ s ha h1 h⟩
    | cons h3 h4 => cases ha <;> cases h1 <;> exact h.elim
theorem at_get {ds : List D} {vs : List V} {i : Int} {d : D} (q : RDs W.b H r ds vs) (h : atI ds i = some d) : ∃ v, L2.atI vs i = some v ∧ RD W.b H r d v := by
  unfold atI at h
  unfold L2.atI
  rw [← q.length]
  show ∃ v, ((ixN ds.length i).bind fun j => vs[j]?) = some v ∧ _
  cases e : ixN ds.length i with
  | none => rw [e] at h; cases h
  | some j =>
    rw [e] at h
    exact q.get h
theorem ok_item (hK : X.K = W.b.K) : ∃ q, IxR X q ∧ Op2 W q item := by
  refine ⟨_, ix_list.or (ix_tup.or ix_str), ?_⟩
  rw [hK]
  intro H r st a b x y Q s ha hb h
  have rows : item a b = bnd (rowOf a) (fun xs => match b with | .int i => ofO (atI xs i) | _ => bad) → (L2.rIxL W.b.K x y H Q ∨ L2.rIxT W.b.K x y H Q ∨ rIxS x y H Q) := by
    intro e
    rw [e] at h
    obtain ⟨p, vs, ds, rfl, q, c, h⟩ := row_of s ha h
    cases hb with
    | int i =>
      have h : Post W (RD W.b) H r (bnd (ofO (atI ds i)) ret st) Q := by
        have h : Post W (RD W.b) H r (ofO (atI ds i) st) Q := h
        cases e : atI ds i with
        | none => rw [e] at h; exact h.elim
        | some d => rw [e] at h; exact h
      obtain ⟨d, ed, h⟩ := Post.ofO h
      obtain ⟨v, ev, qv⟩ := at_get q ed
      rcases c with ⟨c, _⟩ | ⟨c, _⟩
      · exact .inr (.inl ⟨p, vs, i, v, rfl, rfl, c, ev, h.ret s qv⟩)
      · exact .inl ⟨p, vs, i, v, rfl, rfl, c, ev, h.ret s qv⟩
    | _ => exact h.elim
  cases ha with
  | str u h1 h2 =>
    cases hb with
    | int i =>
      obtain ⟨c, ec, h⟩ := Post.ofO h
      refine .inr (.inr ⟨_, i, c, rfl, rfl, by rw [str_len, ← line_eq]; exact h1, ec, ?_⟩)
      have hm : c ∈ u := by
        unfold atI at ec
        cases e : ixN u.length i with
        | none => rw [e] at ec; cases ec
        | some j => rw [e] at ec; exact List.mem_of_getElem? ec
      exact h.ret s (.str [c] (by show 1 ≤ LINE; decide) fun c' hc' => by simp at hc'; subst hc'; exact h2 _ hm)
    | _ => exact h.elim
  | tup _ _ => cases hb <;> first | exact rows rfl | exact h.elim
  | ro _ _ => cases hb <;> first | exact rows rfl | exact h.elim
  | ob _ => cases hb <;> first | exact rows rfl | exact h.elim
  | _ => cases hb <;> exact h.elim
theorem RDs.cut {ds : List D} {vs : List V} (q : RDs W.b H r ds vs) (lo hi : Option Int) : RDs W.b H r (Li.cut ds lo hi) (cutV vs lo hi) := by
  rw [← cut_eq]
  unfold Li.cut
  rw [q.length]
  exact (q.drop _).take _
theorem cut_whole {A : Type} {xs : List A} {lo hi : Option Int} (h : HT.sIx xs.length 0 lo = 0 ∧ HT.sIx xs.length xs.length hi = xs.length) : cut xs lo hi = xs := by
  unfold cut
  rw [ixs_eq, ixs_eq, h.1, h.2]
  simp
theorem cutS_is (s : S) (lo hi : Option Int) : cutS ⟨s.toArray⟩ lo hi = ⟨(cut s lo hi).toArray⟩ := by
  unfold cutS cut
  simp only [str_len, ixs_eq]
def Sl (W : Wd) (q : V → Option Int → Option Int → Hp → VK → Prop) : Prop := ∀ H r st a x lo hi Q, SR W.b H r st → RD W.b H r a x → Post W (RD W.b) H r (slice a lo hi st) Q → q x lo hi H Q
theorem ok_slice (hK : X.K = W.b.K) : ∃ q, SlR X q ∧ Sl W q := by
  refine ⟨_, SlR.or sl_str (SlR.or sl_tupA sl_list), ?_⟩
  rw [hK]
  intro H r st a x lo hi Q s ha h
  cases ha with
  | str u h1 h2 =>
    refine .inl ⟨_, rfl, by rw [str_len, ← line_eq]; exact h1, ?_⟩
    rw [cutS_is]
    refine h.ret s (.str _ ?_ fun c hc => h2 c ?_)
    · unfold cut
      rw [List.length_take, List.length_drop]
      omega
    · unfold cut at hc
      exact List.mem_of_mem_drop (List.mem_of_mem_take hc)
  | tup h1 h2 =>
    refine .inr (.inl ⟨_, _, rfl, h1, fun e => ?_, fun _ p hp => ?_⟩)
    · rw [← h2.length] at e
      have h : Post W (RD W.b) H r (ret (.tup (cut _ lo hi)) st) Q := h
      rw [cut_whole e] at h
      exact h.ret s (.tup h1 h2)
    · exact h _ _ _ (Lt.new hp) (s.new hp) (.tup (SqT.of upd_same) ((h2.cut lo hi).mono (Lt.new hp)))
  | ro h1 h2 => exact .inr (.inr ⟨_, _, rfl, h1.l, fun p hp => h.newL s hp (h2.cut lo hi)⟩)
  | ob h1 =>
    obtain ⟨ds, e, h⟩ := Post.getL h
    obtain ⟨p, vs, e1, e2, q⟩ := s.lst e
    rw [h1] at e1
    cases e1
    exact .inr (.inr ⟨_, _, rfl, SqL.of e2, fun p hp => h.newL s hp (q.cut lo hi)⟩)
  | _ => exact h.elim
end
end Li
namespace Li
open PySem L2
section
variable {W : Wd} {X : Cx} {ma mb mc mt : Env → M D} {s : L2.St} {H : Hp} {Q : VK}
/-- what stands ready beside one thing -/
theorem stays1 : Stays (fun H r (p : Unit × D) => P0 H r p.1 ∧ RD W.b H r p.2 x) := fun _ _ _ _ _ l q => ⟨q.1, q.2.mono l⟩
theorem w_truth {A U : Type} {Rl : Hp → List Addr → A → U → Prop} {B : Type} {P : Hp → List Addr → B → Prop} {k : Env → B → Bool → M A} {Q : U → Hp → Prop} {x : V} {g : B → D} (hx : ∀ H r b, P H r b → RD W.b H r (g b) x)
    (h : gG W Rl P (fun env b => bnd (truth (g b)) (k env b)) s H Q) : ∃ c, TruV W.b.K x H c ∧ gG W Rl P (fun env b => k env b c) s H Q := by
  obtain ⟨r, env, st, b, e, sr, pb, p⟩ := h
  obtain ⟨c, hc, p⟩ := ok_truth sr (hx _ _ _ pb) p
  exact ⟨c, hc, r, env, st, b, e, sr, pb, p⟩
/-- forget what stands ready -/
theorem gforget {A U B : Type} {Rl : Hp → List Addr → A → U → Prop} {P : Hp → List Addr → B → Prop} {m : Env → M A} {Q : U → Hp → Prop} (h : gG W Rl P (fun env _ => m env) s H Q) : gG W Rl P0 (fun env _ => m env) s H Q := by
  obtain ⟨r, env, st, b, e, sr, pb, p⟩ := h
  exact ⟨r, env, st, (), e, sr, True.intro, p⟩
theorem gret {A U B : Type} {Rl : Hp → List Addr → A → U → Prop} {P : Hp → List Addr → B → Prop} {g : Env → B → A} {u : U} {Q : U → Hp → Prop} (h : gG W Rl P (fun env b => ret (g env b)) s H Q) (q : ∀ H r env b, ER W H r env s → P H r b → Rl H r (g env b) u) : Q u H := by
  obtain ⟨r, env, st, b, e, sr, pb, p⟩ := h
  exact p.ret sr (q _ _ _ _ e pb)
theorem w_and (h : tV W (fun env => bnd (ma env) fun x => bnd (truth x) fun k => if k then mb env else ret x) s H Q) : tAndT W.b.K (tV W ma) (tV W mb) s H Q := by
  refine gmono (gbind (R1 := RD W.b) P0.stays h) fun x H1 h1 => ?_
  obtain ⟨c, hc, h1⟩ := w_truth (g := fun p : Unit × D => p.2) (fun H r b q => q.2) h1
  refine ⟨c, hc, ?_⟩
  cases c with
  | true => exact gforget h1
  | false => exact gret h1 fun H r env b _ q => q.2
theorem w_or (h : tV W (fun env => bnd (ma env) fun x => bnd (truth x) fun k => if k then ret x else mb env) s H Q) : tOrT W.b.K (tV W ma) (tV W mb) s H Q := by
  refine gmono (gbind (R1 := RD W.b) P0.stays h) fun x H1 h1 => ?_
  obtain ⟨c, hc, h1⟩ := w_truth (g := fun p : Unit × D => p.2) (fun H r b q => q.2) h1
  refine ⟨c, hc, ?_⟩
  cases c with
  | true => exact gret h1 fun H r env b _ q => q.2
  | false => exact gforget h1
theorem w_nt (h : tV W (fun env => bnd (ma env) fun x => bnd (truth x) fun k => ret (.bl (!k))) s H Q) : tNotT W.b.K (tV W ma) s H Q := by
  refine gmono (gbind (R1 := RD W.b) P0.stays h) fun x H1 h1 => ?_
  obtain ⟨c, hc, h1⟩ := w_truth (g := fun p : Unit × D => p.2) (fun H r b q => q.2) h1
  exact ⟨c, hc, gret h1 fun H r env b _ q => .bl _⟩
/-- a test first -/
theorem w_test {A U : Type} {Rl : Hp → List Addr → A → U → Prop} {k : Env → Bool → M A} {mt : Env → M Bool} {Q : U → Hp → Prop} (h : gG W Rl P0 (fun env _ => bnd (mt env) (k env)) s H Q) :
    tT W mt s H fun c H1 => gG W Rl P0 (fun env _ => k env c) s H1 Q := by
  refine gmono (gbind (R1 := RB) P0.stays h) fun c H1 h1 => ?_
  obtain ⟨r, env, st, b, e, sr, pb, p⟩ := h1
  obtain ⟨b1, b2⟩ := b
  have e2 : b2 = c := pb.2
  subst e2
  exact ⟨r, env, st, (), e, sr, True.intro, p⟩
theorem w_ite (h : tV W (fun env => bnd (mt env) fun x => bnd (truth x) fun k => if k then ma env else mb env) s H Q) : tIf (tT W fun env => bnd (mt env) truth) (tV W ma) (tV W mb) s H Q := by
  have h : gG W (RD W.b) P0 (fun env _ => bnd (bnd (mt env) truth) fun k => if k then ma env else mb env) s H Q := by
    refine gmap (fun b => b) h (fun _ _ _ q => q) fun env b => ?_
    try dsimp only
    rw [bnd_bnd]
  refine gmono (w_test h) fun c H1 h1 => ?_
  cases c with
  | true => exact h1
  | false => exact h1
/-- tests -/
theorem w_truthT {Q : Bool → Hp → Prop} (h : tT W (fun env => bnd (ma env) truth) s H Q) : tV W ma s H fun x H' => ∃ k, TruV W.b.K x H' k ∧ Q k H' := by
  refine gmono (gbind (R1 := RD W.b) P0.stays h) fun x H1 h1 => ?_
  have h1 : gG W RB (fun H r (p : Unit × D) => P0 H r p.1 ∧ RD W.b H r p.2 x) (fun env p => bnd (truth p.2) ret) s H1 Q := by
    refine gmap (fun b => b) h1 (fun _ _ _ q => q) fun env b => ?_
    try dsimp only
    funext st
    unfold bnd
    cases truth b.2 st <;> rfl
  obtain ⟨c, hc, h1⟩ := w_truth (g := fun p : Unit × D => p.2) (fun H r b q => q.2) h1
  exact ⟨c, hc, gret h1 fun H r env b _ q => rfl⟩
theorem w_cmpT {r : R2} {o : Cop} (ho : Op2 W r (cmpV o)) {Q : Bool → Hp → Prop} (h : tT W (fun env => bnd (bnd (ma env) fun x => bnd (mb env) fun y => bnd (cmpop o x y) fun k => ret (.bl k)) truth) s H Q) :
    tTest (tOp r (tV W ma) (tV W mb)) s H Q := by
  have h : gG W RB P0 (fun env _ => bnd (ma env) fun x => bnd (mb env) fun y => cmpop o x y) s H Q := by
    refine gmap (fun b => b) h (fun _ _ _ q => q) fun env b => ?_
    try dsimp only
    rw [bnd_bnd]
    congr 1
    funext x
    rw [bnd_bnd]
    congr 1
    funext y
    rw [bnd_bnd]
    funext st
    unfold bnd
    cases cmpop o x y st <;> rfl
  refine gmono (gbind (R1 := RD W.b) P0.stays h) fun x H1 h1 => ?_
  refine gmono (gbind (R1 := RD W.b) (fun _ _ _ _ _ l q => ⟨q.1, q.2.mono l⟩) h1) fun y H2 h2 => ?_
  obtain ⟨r, env, st, b, e, sr, pb, p⟩ := h2
  refine ho _ _ _ _ _ _ _ _ sr pb.1.2 pb.2 ?_
  show Post W (RD W.b) H2 r (bnd (cmpop o b.1.2 b.2) (fun k => ret (.bl k)) st) _
  have p : Post W RB H2 r (cmpop o b.1.2 b.2 st) Q := p
  cases q : cmpop o b.1.2 b.2 st with
  | ok k st1 =>
    rw [bnd_ok q]
    rw [q] at p
    intro H' r' v l s' rd
    cases rd
    exact ⟨k, rfl, p H' r' k l s' rfl⟩
  | ex x st1 => rw [bnd_ex q]; rw [q] at p; exact p
  | bad => rw [q] at p; exact p.elim
theorem bnd_truth_if {k : Bool} {m : M D} {x : D} : bnd (if k = true then m else ret x) truth = if k = true then bnd m truth else truth x := by
  cases k <;> rfl
theorem w_andT {Q : Bool → Hp → Prop} (h : tT W (fun env => bnd (bnd (ma env) fun x => bnd (truth x) fun k => if k then mb env else ret x) truth) s H Q) :
    tAnd (tT W fun env => bnd (ma env) truth) (tT W fun env => bnd (mb env) truth) s H Q := by
  have h : gG W RB P0 (fun env _ => bnd (bnd (ma env) truth) fun k => if k then bnd (mb env) truth else ret false) s H Q := by
    obtain ⟨r, env, st, b, e, sr, pb, p⟩ := h
    refine ⟨r, env, st, b, e, sr, pb, ?_⟩
    dsimp only at p ⊢
    rw [bnd_bnd] at p ⊢
    cases q : ma env st with
    | ok x st1 =>
      rw [bnd_ok q] at p ⊢
      rw [bnd_bnd] at p
      cases q2 : truth x st1 with
      | ok k st2 =>
        rw [bnd_ok q2] at p ⊢
        cases k with
        | true => exact p
        | false =>
          have p : Post W RB H r (truth x st2) Q := p
          have e2 : truth x st2 = .ok false st2 := truth_again q2
          rw [e2] at p
          exact p
      | ex y st2 => rw [bnd_ex q2] at p ⊢; exact p
      | bad => rw [bnd_bad q2] at p ⊢; exact p
    | ex y st2 => rw [bnd_ex q] at p ⊢; exact p
    | bad => rw [bnd_bad q] at p ⊢; exact p
  refine gmono (w_test h) fun c H1 h1 => ?_
  cases c with
  | true => exact h1
  | false => exact gret h1 fun H r env b _ q => rfl
where
  truth_again {x : D} {st st' : Store} {k : Bool} (h : truth x st = .ok k st') : truth x st' = .ok k st' := by
    have e : st' = st := by
      cases x with
      | ob n =>
        have h : bnd (getL n) (fun xs => ret (!xs.isEmpty)) st = .ok k st' := h
        cases q : getL n st with
        | ok ys st1 =>
          rw [bnd_ok q] at h
          have e1 : st1 = st := by
            unfold getL at q
            split at q <;> first | (cases q; rfl) | cases q
          cases h
          exact e1
        | ex y st1 => rw [bnd_ex q] at h; cases h
        | bad => rw [bnd_bad q] at h; cases h
      | _ => first | (cases h; rfl) | cases h
    subst e
    exact h
theorem w_orT {Q : Bool → Hp → Prop} (h : tT W (fun env => bnd (bnd (ma env) fun x => bnd (truth x) fun k => if k then ret x else mb env) truth) s H Q) :
    tOr (tT W fun env => bnd (ma env) truth) (tT W fun env => bnd (mb env) truth) s H Q := by
  have h : gG W RB P0 (fun env _ => bnd (bnd (ma env) truth) fun k => if k then ret true else bnd (mb env) truth) s H Q := by
    obtain ⟨r, env, st, b, e, sr, pb, p⟩ := h
    refine ⟨r, env, st, b, e, sr, pb, ?_⟩
    dsimp only at p ⊢
    rw [bnd_bnd] at p ⊢
    cases q : ma env st with
    | ok x st1 =>
      rw [bnd_ok q] at p ⊢
      rw [bnd_bnd] at p
      cases q2 : truth x st1 with
      | ok k st2 =>
        rw [bnd_ok q2] at p ⊢
        cases k with
        | false => exact p
        | true =>
          have p : Post W RB H r (truth x st2) Q := p
          have e2 : truth x st2 = .ok true st2 := w_andT.truth_again q2
          rw [e2] at p
          exact p
      | ex y st2 => rw [bnd_ex q2] at p ⊢; exact p
      | bad => rw [bnd_bad q2] at p ⊢; exact p
    | ex y st2 => rw [bnd_ex q] at p ⊢; exact p
    | bad => rw [bnd_bad q] at p ⊢; exact p
  refine gmono (w_test h) fun c H1 h1 => ?_
  cases c with
  | false => exact h1
  | true => exact gret h1 fun H r env b _ q => rfl
theorem w_ntT {Q : Bool → Hp → Prop} (h : tT W (fun env => bnd (bnd (ma env) fun x => bnd (truth x) fun k => ret (.bl (!k))) truth) s H Q) : tNot (tT W fun env => bnd (ma env) truth) s H Q := by
  have h : gG W RB P0 (fun env _ => bnd (bnd (ma env) truth) fun k => ret (!k)) s H Q := by
    refine gmap (fun b => b) h (fun _ _ _ q => q) fun env b => ?_
    try dsimp only
    rw [bnd_bnd, bnd_bnd]
    congr 1
    funext x
    rw [bnd_bnd]
    rfl
  refine gmono (w_test h) fun c H1 h1 => ?_
  exact gret h1 fun H r env b _ q => rfl
theorem w_iteT {Q : Bool → Hp → Prop} (h : tT W (fun env => bnd (bnd (mt env) fun x => bnd (truth x) fun k => if k then ma env else mb env) truth) s H Q) :
    tT W (fun env => bnd (mt env) truth) s H fun c H1 => if c = true then tT W (fun env => bnd (ma env) truth) s H1 Q else tT W (fun env => bnd (mb env) truth) s H1 Q := by
  have h : gG W RB P0 (fun env _ => bnd (bnd (mt env) truth) fun k => if k then bnd (ma env) truth else bnd (mb env) truth) s H Q := by
    refine gmap (fun b => b) h (fun _ _ _ q => q) fun env b => ?_
    try dsimp only
    rw [bnd_bnd, bnd_bnd]
    congr 1
    funext x
    rw [bnd_bnd]
    congr 1
    funext k
    cases k <;> rfl
  refine gmono (w_test h) fun c H1 h1 => ?_
  cases c with
  | true => exact h1
  | false => exact h1
end
end Li
namespace Li
open PySem L2
section
variable {W : Wd} {X : Cx} {ma mb mc : Env → M D} {mas : Env → M (List D)} {s : L2.St} {H : Hp}
theorem w_cons {Q : List V → Hp → Prop} (h : tA W (fun env => bnd (ma env) fun x => bnd (mas env) fun xs => ret (x :: xs)) s H Q) : tCons (tV W ma) (tA W mas) s H Q := by
  refine gmono (gbind (R1 := RD W.b) P0.stays h) fun x H1 h1 => ?_
  refine gmono (gbind (R1 := RDs W.b) (fun _ _ _ _ _ l q => ⟨q.1, q.2.mono l⟩) h1) fun xs H2 h2 => ?_
  exact gret h2 fun H r env b _ q => .cons q.1.2 q.2
theorem w_nil {Q : List V → Hp → Prop} (h : tA W (fun _ => ret []) s H Q) : tNil s H Q := gret h fun H r env b _ q => .nil
theorem w_cb {Q : VK} {q : List V → Hp → VK → Prop} {f : List D → M D} (o : OpN W q f) (h : tV W (fun env => bnd (mas env) f) s H Q) : tCB q (tA W mas) s H Q := by
  refine gmono (gbind (R1 := RDs W.b) P0.stays h) fun xs H1 h1 => ?_
  obtain ⟨r, env, st, b, e, sr, pb, p⟩ := h1
  exact o _ _ _ _ _ _ sr pb.2 p
/-- the promise of the i-th def -/
def spF (W : Wb) (cf : List D → M D) (np : Nat) : Sp := fun vs H Q E => vs.length = np ∧ ∃ r ds st, SR W H r st ∧ RDs W H r ds vs ∧ Post ⟨W, E, none⟩ (RD W) H r (cf ds st) Q
theorem w_call {Q : VK} {cf : List D → M D} {np : Nat} (hl : ∀ ds st, ds.length ≠ np → cf ds st = .bad) (h : tV W (fun env => bnd (mas env) cf) s H Q) : tCall (spF W.b cf np) [] W.xk (tA W mas) s H Q := by
  refine gmono (gbind (R1 := RDs W.b) P0.stays h) fun xs H1 h1 => ?_
  obtain ⟨r, env, st, b, e, sr, pb, p⟩ := h1
  rw [List.append_nil]
  have p : Post W (RD W.b) H1 r (cf b.2 st) Q := p
  refine ⟨?_, r, b.2, st, sr, pb.2, p⟩
  rw [← pb.2.length]
  by_cases hn : b.2.length = np
  · exact hn
  · rw [hl _ _ hn] at p
    exact p.elim
theorem w_tup {Q : VK} (h : tV W (fun env => bnd (mas env) fun ds => chk (ds.length ≤ LINE) (ret (.tup ds))) s H Q) : tTup (tA W mas) s H Q := by
  refine gmono (gbind (R1 := RDs W.b) P0.stays h) fun xs H1 h1 => ?_
  obtain ⟨r, env, st, b, e, sr, pb, p⟩ := h1
  obtain ⟨hc, p⟩ := Post.chk p
  refine ⟨by rw [← pb.2.length, ← line_eq]; exact hc, fun a ha => ?_⟩
  exact p _ _ _ (Lt.new ha) (sr.new ha) (.tup (SqT.of upd_same) (pb.2.mono (Lt.new ha)))
theorem w_lst {Q : VK} (h : tV W (fun env => bnd (mas env) fun ds => chk (ds.length ≤ LINE) (newO (.lst ds))) s H Q) : tLst (tA W mas) s H Q := by
  refine gmono (gbind (R1 := RDs W.b) P0.stays h) fun xs H1 h1 => ?_
  obtain ⟨r, env, st, b, e, sr, pb, p⟩ := h1
  obtain ⟨hc, p⟩ := Post.chk p
  exact ⟨by rw [← pb.2.length, ← line_eq]; exact hc, fun a ha => Post.newL p sr ha pb.2⟩
/-- f-strings -/
theorem w_txt {Q : VK} (h : tV W (fun env => bnd (ma env) txtOf) s H Q) : tFmt (tV W ma) s H Q := by
  refine gmono (gbind (R1 := RD W.b) P0.stays h) fun x H1 h1 => ?_
  obtain ⟨r, env, st, b, e, sr, pb, p⟩ := h1
  obtain ⟨b0, d⟩ := b
  have hd : RD W.b H1 r d x := pb.2
  have p : Post W (RD W.b) H1 r (txtOf d st) Q := p
  cases hd with
  | str u g1 g2 => exact .inl ⟨_, rfl, by rw [str_len, ← line_eq]; exact g1, p.ret sr (.str u g1 g2)⟩
  | int i =>
    have p : Post W (RD W.b) H1 r (if okS (.int i) = true then .ok (.str (shS (.int i))) st else .bad) Q := p
    by_cases ho : okS (.int i) = true
    · rw [if_pos ho] at p
      unfold okS at ho
      simp only [Bool.and_eq_true, decide_eq_true_eq, List.all_eq_true] at ho
      obtain ⟨o1, o2, o3⟩ := ho
      refine .inr ⟨i, rfl, of_decide_eq_true o1, ?_⟩
      have e1 : (toString i : Str) = ⟨(shS (.int i)).toArray⟩ := (str_mk' _).symm
      rw [e1]
      exact p H1 r _ (Lt.refl _ _) sr (.str _ o2 o3)
    · rw [if_neg ho] at p
      exact p.elim
  | _ => exact p.elim
theorem w_js {cf : Nat → List D → M D} {Q : Str → Hp → Prop} : ∀ (as : List Ex) (acc : S) (H : Hp), acc.length ≤ LINE → (∀ c ∈ acc, c < 0x110000) → tV W (fun env => evJ cf as acc env) s H (fun v H => ∃ y, v = .str y ∧ Q y H) → tJs (as.map fun a => tV W (evE cf a)) ⟨acc.toArray⟩ s H Q
  | [], acc, H, g, gc, h => by
    obtain ⟨r, env, st, b, e, sr, pb, p⟩ := h
    obtain ⟨y, e1, q⟩ := Post.ret (Rl := RD W.b) (a := .str acc) p sr (.str acc g gc)
    cases e1
    exact q
  | a :: as, acc, H, g, gc, h => by
    refine gmono (gbind (R1 := RD W.b) (k := fun env (_ : Unit) x => glue acc (fun s => evJ cf as s env) x) P0.stays h) fun x H1 h1 => ?_
    obtain ⟨r, env, st, b, e, sr, pb, p⟩ := h1
    obtain ⟨b0, d⟩ := b
    have hd : RD W.b H1 r d x := pb.2
    have p : Post W (RD W.b) H1 r (glue acc (fun s => evJ cf as s env) d st) (fun v H => ∃ y, v = .str y ∧ Q y H) := p
    cases hd with
    | str u g1 g2 =>
      obtain ⟨hc, p⟩ := Post.chk p
      refine ⟨_, rfl, ?_, ?_⟩
      · rw [str_app, str_len, List.length_append, ← line_eq]
        exact hc
      · rw [str_app]
        exact w_js as (acc ++ u) H1 (by rw [List.length_append]; exact hc) (fun c hm => (List.mem_append.mp hm).elim (gc c) (g2 c)) ⟨r, env, st, (), e, sr, True.intro, p⟩
    | _ => exact p.elim
theorem evJ_str {cf : Nat → List D → M D} {env : Env} : ∀ (as : List Ex) (acc : S) (st st' : Store) (d : D), evJ cf as acc env st = .ok d st' → ∃ u, d = .str u
  | [], acc, st, st', d, h => by
    cases h
    exact ⟨_, rfl⟩
  | a :: as, acc, st, st', d, h => by
    have h : bnd (evE cf a env) (glue acc fun s => evJ cf as s env) st = .ok d st' := h
    cases z : evE cf a env st with
    | ex x s1 => rw [bnd_ex z] at h; cases h
    | bad => rw [bnd_bad z] at h; cases h
    | ok x s1 =>
      rw [bnd_ok z] at h
      cases x with
      | str u =>
        have h : chk (acc.length + u.length ≤ LINE) (evJ cf as (acc ++ u) env) s1 = .ok d st' := h
        unfold chk at h
        split at h
        · exact evJ_str as _ _ _ _ h
        · cases h
      | _ => cases h
theorem js_str {cf : Nat → List D → M D} {as : List Ex} {acc : S} {H : Hp} {Q : VK} (h : tV W (fun env => evJ cf as acc env) s H Q) : tV W (fun env => evJ cf as acc env) s H (fun v H => ∃ y, v = .str y ∧ Q (.str y) H) := by
  obtain ⟨r, env, st, b, e, sr, pb, p⟩ := h
  refine ⟨r, env, st, b, e, sr, pb, ?_⟩
  have p : Post W (RD W.b) H r (evJ cf as acc env st) Q := p
  show Post W (RD W.b) H r (evJ cf as acc env st) _
  cases z : evJ cf as acc env st with
  | ex x s1 => rw [z] at p; exact p
  | bad => rw [z] at p; exact p.elim
  | ok d s1 =>
    rw [z] at p
    obtain ⟨u, rfl⟩ := evJ_str as acc st s1 d z
    intro H' r' v l s2 rd
    cases rd
    rename_i g1 g2
    exact ⟨_, rfl, p H' r' _ l s2 (.str u g1 g2)⟩
/-- methods of built-in kinds -/
def mtTy (m : Mt) : String := if mtStr m = true then "str" else "list"
theorem kind_mt {A U B : Type} {Rl : Hp → List Addr → A → U → Prop} {P : Hp → List Addr → B → Prop} {k : Env → B → M A} {Q : U → Hp → Prop} {x : V} {g : B → D} {m : Mt} (hx : ∀ H r b, P H r b → RD W.b H r (g b) x)
    (h : gG W Rl P (fun env b => bnd (kindM m (g b)) fun _ => k env b) s H Q) : tyV W.b.K (mtTy m) x H ∧ gG W Rl P k s H Q := by
  obtain ⟨r, env, st, b, e, sr, pb, p⟩ := h
  have hd := hx _ _ _ pb
  generalize hg : g b = d at hd
  dsimp only at p
  rw [hg] at p
  unfold mtTy
  cases hd with
  | @ob n a h1 =>
    unfold kindM at p
    by_cases hm : mtStr m = true
    · simp only [if_pos hm] at p
      exact p.elim
    · simp only [if_neg hm] at p ⊢
      rw [bnd_bnd] at p
      obtain ⟨ds, e1, p⟩ := Post.getL p
      obtain ⟨a, vs, f1, f2, q⟩ := sr.lst e1
      rw [h1] at f1
      cases f1
      exact ⟨.inl ⟨rfl, vs, SqL.of f2⟩, r, env, st, b, e, sr, pb, p⟩
  | str u g1 g2 =>
    unfold kindM at p
    by_cases hm : mtStr m = true
    · simp only [if_pos hm] at p ⊢
      exact ⟨rfl, r, env, st, b, e, sr, pb, p⟩
    · simp only [if_neg hm] at p
      exact p.elim
  | _ => exact p.elim
theorem w_bm {Q : VK} {q : V → List V → Hp → VK → Prop} {m : Mt} (o : OpM W q (meth m)) (h : tV W (fun env => bnd (ma env) fun x => bnd (kindM m x) fun _ => bnd (mas env) fun ds => meth m x ds) s H Q) :
    tBM W.b.K (mtTy m) q (tV W ma) (tA W mas) s H Q := by
  refine gmono (gbind (R1 := RD W.b) P0.stays h) fun x H1 h1 => ?_
  obtain ⟨hk, h1⟩ := kind_mt (g := fun p : Unit × D => p.2) (fun H r b q => q.2) h1
  refine ⟨hk, ?_⟩
  refine gmono (gbind (R1 := RDs W.b) (fun _ _ _ _ _ l q => ⟨q.1, q.2.mono l⟩) h1) fun xs H2 h2 => ?_
  obtain ⟨r, env, st, b, e, sr, pb, p⟩ := h2
  exact o _ _ _ _ _ _ _ _ sr pb.1.2 pb.2 p
theorem w_bm0 {Q : VK} {q : V → List V → Hp → VK → Prop} {m : Mt} (o : OpM W q (meth m)) (h : tV W (fun env => bnd (ma env) fun x => bnd (kindM m x) fun _ => bnd (ret []) fun ds => meth m x ds) s H Q) :
    tBM0 W.b.K (mtTy m) q (tV W ma) s H Q := by
  refine gmono (gbind (R1 := RD W.b) P0.stays h) fun x H1 h1 => ?_
  obtain ⟨hk, h1⟩ := kind_mt (g := fun p : Unit × D => p.2) (fun H r b q => q.2) h1
  refine ⟨hk, ?_⟩
  obtain ⟨r, env, st, b, e, sr, pb, p⟩ := h1
  exact o _ _ _ _ _ _ _ _ sr pb.2 .nil p
/-- slices -/
theorem w_part {Q : Option Int → Hp → Prop} (h : tO W (fun env => bnd (ma env) bound) s H Q) : tPart (tV W ma) s H Q := by
  refine gmono (gbind (R1 := RD W.b) P0.stays h) fun x H1 h1 => ?_
  obtain ⟨r, env, st, b, e, sr, pb, p⟩ := h1
  have hd := pb.2
  have p : Post W RI H1 r (bound b.2 st) Q := p
  generalize b.2 = d at hd p
  cases hd with
  | int i => exact ⟨i, rfl, Post.ret (Rl := RI) (a := some i) p sr rfl⟩
  | _ => exact p.elim
theorem w_noPart {Q : Option Int → Hp → Prop} (h : tO W (fun _ => ret none) s H Q) : tNoPart s H Q := gret h fun H r env b _ q => rfl
theorem w_sl {Q : VK} {q : V → Option Int → Option Int → Hp → VK → Prop} {ml mh : Env → M (Option Int)} (o : Sl W q) (h : tV W (fun env => bnd (ma env) fun x => bnd (ml env) fun l => bnd (mh env) fun h => slice x l h) s H Q) :
    tSl q (tV W ma) (tO W ml) (tO W mh) s H Q := by
  refine gmono (gbind (R1 := RD W.b) P0.stays h) fun x H1 h1 => ?_
  refine gmono (gbind (R1 := RI) (fun _ _ _ _ _ l q => ⟨q.1, q.2.mono l⟩) h1) fun l H2 h2 => ?_
  refine gmono (gbind (R1 := RI) (fun _ _ _ _ _ l q => ⟨⟨q.1.1, q.1.2.mono l⟩, q.2⟩) h2) fun u H3 h3 => ?_
  obtain ⟨r, env, st, b, e, sr, pb, p⟩ := h3
  obtain ⟨⟨⟨b0, b1⟩, b2⟩, b3⟩ := b
  have e2 : b2 = l := pb.1.2
  have e3 : b3 = u := pb.2
  subst e2
  subst e3
  exact o _ _ _ _ _ _ _ _ sr pb.1.1.2 p
theorem w_chain {Q : VK} {q q' : R2} {o o' : Cop} (h1 : Op2 W q (cmpV o)) (h2 : Op2 W q' (cmpV o')) (h : tV W (fun env => bnd (ma env) fun x => bnd (mb env) fun y => bnd (cmpop o x y) fun k =>
      if k then bnd (mc env) fun z => bnd (cmpop o' y z) fun k => ret (.bl k) else ret (.bl false)) s H Q) : tChain q q' (tV W ma) (tV W mb) (tV W mc) s H Q := by
  refine gmono (gbind (R1 := RD W.b) P0.stays h) fun x H1 g1 => ?_
  refine gmono (gbind (R1 := RD W.b) (fun _ _ _ _ _ l q => ⟨q.1, q.2.mono l⟩) g1) fun y H2 g2 => ?_
  obtain ⟨r, env, st, b, e, sr, pb, p⟩ := g2
  refine h1 _ _ _ _ _ _ _ _ sr pb.1.2 pb.2 ?_
  show Post W (RD W.b) H2 r (bnd (cmpop o b.1.2 b.2) (fun k => ret (.bl k)) st) _
  dsimp only at p
  cases z : cmpop o b.1.2 b.2 st with
  | ok k st1 =>
    rw [bnd_ok z] at p ⊢
    intro H' r' v l s' rd
    cases rd
    refine ⟨k, rfl, ?_⟩
    cases k with
    | false => exact (p.lt l).ret s' (.bl _)
    | true =>
      have g3 : gG W (RD W.b) (fun H r (d : D) => RD W.b H r d y) (fun env d => bnd (mc env) fun z => cmpV o' d z) s H' Q := ⟨r', env, st1, b.2, e.mono l, s', pb.2.mono l, p.lt l⟩
      refine gmono (gbind (R1 := RD W.b) (fun _ _ _ _ _ l q => q.mono l) g3) fun w H4 g4 => ?_
      obtain ⟨r4, env4, st4, b4, e4, sr4, pb4, p4⟩ := g4
      exact h2 _ _ _ _ _ _ _ _ sr4 pb4.1 pb4.2 p4
  | ex x st1 => rw [bnd_ex z] at p ⊢; exact p
  | bad => rw [bnd_bad z] at p; exact p.elim
end
end Li
namespace Li
open PySem L2
section
variable {W : Wd} {X : Cx} {s : L2.St} {H : Hp} {D' : Ends}
/-- a wish about a statement's end -/
def PostS (W : Wd) (H : Hp) (r : List Addr) (x : R Fl) (N : Ends) : Prop := match x with
  | .ok (.next env) st => ∀ H' r' s', Lt H r H' r' → SR W.b H' r' st → ER W H' r' env s' → N.nx s' H'
  | .ok (.brk env) st => ∀ H' r' s', Lt H r H' r' → SR W.b H' r' st → ER W H' r' env s' → N.bk s' H'
  | .ok (.cnt env) st => ∀ H' r' s', Lt H r H' r' → SR W.b H' r' st → ER W H' r' env s' → N.ct s' H'
  | .ok (.ret d) st => ∀ H' r' v, Lt H r H' r' → SR W.b H' r' st → RD W.b H' r' d v → N.rt v H'
  | .ex x st => ∀ H' r' cls d, Lt H r H' r' → SR W.b H' r' st → RX W.b H' x cls d → W.xk cls d H'
  | .bad => False
def tS (W : Wd) (m : Env → M Fl) : TS := fun N s H => ∃ r env st, ER W H r env s ∧ SR W.b H r st ∧ PostS W H r (m env st) N
theorem PostS.lt {H H1 : Hp} {r r1 : List Addr} {x : R Fl} {N : Ends} (l : Lt H r H1 r1) (h : PostS W H r x N) : PostS W H1 r1 x N := by
  match x, h with
  | .ok (.next env) st, h => exact fun H' r' s' l' a b => h H' r' s' (l.trans l') a b
  | .ok (.brk env) st, h => exact fun H' r' s' l' a b => h H' r' s' (l.trans l') a b
  | .ok (.cnt env) st, h => exact fun H' r' s' l' a b => h H' r' s' (l.trans l') a b
  | .ok (.ret d) st, h => exact fun H' r' s' l' a b => h H' r' s' (l.trans l') a b
  | .ex _ _, h => exact fun H' r' cls d l' a b => h H' r' cls d (l.trans l') a b
  | .bad, h => exact h
/-- a wish about a target's end -/
def PostE (W : Wd) (H : Hp) (r : List Addr) (x : R Env) (Q : L2.St → Hp → Prop) : Prop := match x with
  | .ok env st => ∀ H' r' s', Lt H r H' r' → SR W.b H' r' st → ER W H' r' env s' → Q s' H'
  | .ex x st => ∀ H' r' cls d, Lt H r H' r' → SR W.b H' r' st → RX W.b H' x cls d → W.xk cls d H'
  | .bad => False
theorem PostE.lt {H H1 : Hp} {r r1 : List Addr} {x : R Env} {Q : L2.St → Hp → Prop} (l : Lt H r H1 r1) (h : PostE W H r x Q) : PostE W H1 r1 x Q := by
  match x, h with
  | .ok env st, h => exact fun H' r' s' l' a b => h H' r' s' (l.trans l') a b
  | .ex _ _, h => exact fun H' r' cls d l' a b => h H' r' cls d (l.trans l') a b
  | .bad, h => exact h
def tG (W : Wd) (p : D → Env → M Env) : TG := fun v s H Q => ∃ r env st d, ER W H r env s ∧ SR W.b H r st ∧ RD W.b H r d v ∧ PostE W H r (p d env st) Q
/-- an expression, then a statement with its value -/
theorem s_bind {m : Env → M D} {k : Env → D → M Fl} (h : tS W (fun env => bnd (m env) (k env)) D' s H) {Q : V → Hp → Prop}
    (q : ∀ H' r' env st d v, ER W H' r' env s → SR W.b H' r' st → RD W.b H' r' d v → PostS W H' r' (k env d st) D' → Q v H') : tV W m s H Q := by
  obtain ⟨r, env, st, e, sr, p⟩ := h
  refine ⟨r, env, st, (), e, sr, True.intro, ?_⟩
  show Post W (RD W.b) H r (m env st) Q
  dsimp only at p
  cases z : m env st with
  | ok d st1 =>
    rw [bnd_ok z] at p
    exact fun H' r' v l s' rd => q H' r' env st1 d v (e.mono l) s' rd (p.lt l)
  | ex x st1 => rw [bnd_ex z] at p; exact p
  | bad => rw [bnd_bad z] at p; exact p
theorem s_test {m : Env → M Bool} {k : Env → Bool → M Fl} (h : tS W (fun env => bnd (m env) (k env)) D' s H) {Q : Bool → Hp → Prop}
    (q : ∀ c H', tS W (fun env => k env c) D' s H' → Q c H') : tT W m s H Q := by
  obtain ⟨r, env, st, e, sr, p⟩ := h
  refine ⟨r, env, st, (), e, sr, True.intro, ?_⟩
  show Post W RB H r (m env st) Q
  dsimp only at p
  cases z : m env st with
  | ok d st1 =>
    rw [bnd_ok z] at p
    intro H' r' v l s' rd
    cases rd
    exact q d H' ⟨r', env, st1, e.mono l, s', p.lt l⟩
  | ex x st1 => rw [bnd_ex z] at p; exact p
  | bad => rw [bnd_bad z] at p; exact p
theorem s_ex {m : Env → M D} (h : tS W (fun env => bnd (m env) fun _ => ret (.next env)) D' s H) : tDrop (tV W m) D' s H :=
  s_bind h fun H' r' env st d v e sr rd p => p H' r' s (Lt.refl _ _) sr e
theorem s_ret {m : Env → M D} (h : tS W (fun env => bnd (m env) fun d => ret (.ret d)) D' s H) : tRet (tV W m) D' s H :=
  s_bind h fun H' r' env st d v e sr rd p => p H' r' v (Lt.refl _ _) sr rd
theorem s_asg {m : Env → M D} {p : D → Env → M Env} (h : tS W (fun env => bnd (m env) fun d => bnd (p d env) fun env' => ret (.next env')) D' s H) : tAsg (tV W m) (tG W p) D' s H :=
  s_bind h fun H' r' env st d v e sr rd q => ⟨r', env, st, d, e, sr, rd, by
    cases z : p d env st with
    | ok env' st1 =>
      rw [bnd_ok z] at q
      exact q
    | ex x st1 => rw [bnd_ex z] at q; exact q
    | bad => rw [bnd_bad z] at q; exact q⟩
theorem s_ite {t : Env → M Bool} {a b : Env → M Fl} (h : tS W (fun env => bnd (t env) fun k => if k then a env else b env) D' s H) : tIfS (tT W t) (tS W a) (tS W b) D' s H :=
  s_test h fun c H' q => by cases c <;> exact q
theorem g_nm {i : Nat} {v : V} {Q : L2.St → Hp → Prop} (h : tG W (fun d env => ret (env.set i (some d))) v s H Q) : gName i v s H Q := by
  obtain ⟨r, env, st, d, e, sr, rd, p⟩ := h
  exact p H r _ (Lt.refl _ _) sr (e.set i rd)
theorem g_sub {mo mi : Env → M D} {v : V} {Q : L2.St → Hp → Prop} (h : tG W (fun d env => bnd (mo env) fun x => bnd (mi env) fun y => bnd (putItem x y d) fun _ => ret env) v s H Q) :
    gSub (tV W mo) (tV W mi) rSetL v s H Q := by
  obtain ⟨r, env, st, d, e, sr, rd, p⟩ := h
  refine ⟨r, env, st, (), e, sr, True.intro, ?_⟩
  show Post W (RD W.b) H r (mo env st) _
  dsimp only at p
  cases z : mo env st with
  | ex x st1 => rw [bnd_ex z] at p; exact p
  | bad => rw [bnd_bad z] at p; exact p
  | ok x st1 =>
    rw [bnd_ok z] at p
    intro H1 r1 xv l1 sr1 rx
    refine ⟨r1, env, st1, (), e.mono l1, sr1, True.intro, ?_⟩
    show Post W (RD W.b) H1 r1 (mi env st1) _
    have p := p.lt l1
    cases z2 : mi env st1 with
    | ex y st2 => rw [bnd_ex z2] at p; exact p
    | bad => rw [bnd_bad z2] at p; exact p
    | ok y st2 =>
      rw [bnd_ok z2] at p
      intro H2 r2 yv l2 sr2 ry
      have p := p.lt l2
      have rx2 := rx.mono l2
      have rd2 := rd.mono (l1.trans l2)
      have e2 := e.mono (l1.trans l2)
      cases rx2 with
      | @ob n a h1 =>
        cases ry with
        | int k =>
          cases z3 : st2[n]? with
          | none =>
            have b : putItem (.ob n) (.int k) d st2 = .bad := by
              show bnd (getL n) _ st2 = .bad
              exact bnd_bad (by unfold getL; rw [z3])
            rw [bnd_bad b] at p
            exact p.elim
          | some o =>
            cases o with
            | ins _ _ | dic _ | nst _ =>
              have b : putItem (.ob n) (.int k) d st2 = .bad := by
                show bnd (getL n) _ st2 = .bad
                exact bnd_bad (by unfold getL; rw [z3])
              rw [bnd_bad b] at p
              exact p.elim
            | lst xs =>
              obtain ⟨a', vs, f1, f2, q⟩ := sr2.lst z3
              rw [h1] at f1
              cases f1
              cases z4 : ixN xs.length k with
              | none =>
                have b : putItem (.ob n) (.int k) d st2 = .bad := by
                  show bnd (getL n) _ st2 = .bad
                  rw [bnd_ok (a := xs) (st' := st2) (by unfold getL; rw [z3])]
                  exact bnd_bad (by rw [z4]; rfl)
                rw [bnd_bad b] at p
                exact p.elim
              | some j =>
                have hn : n < st2.length := (List.getElem?_eq_some_iff.mp z3).1
                have b : putItem (.ob n) (.int k) d st2 = .ok () (st2.set n (.lst (xs.set j d))) := by
                  show bnd (getL n) _ st2 = _
                  rw [bnd_ok (a := xs) (st' := st2) (by unfold getL; rw [z3])]
                  rw [bnd_ok (a := j) (st' := st2) (by rw [z4]; rfl)]
                  unfold setO
                  rw [if_pos hn]
                rw [bnd_ok b] at p
                refine ⟨a, vs, k, j, rfl, rfl, f2, by rw [← q.length]; exact z4, ?_⟩
                have l : Lt H2 r2 (upd H2 a (.lst (vs.set j v))) r2 := Lt.mut h1 f2 True.intro
                exact p _ r2 s l (sr2.set h1 f2 True.intro (.lst ((q.set rd2 j).mono l))) (e2.mono l)
        | _ => exact p.elim
      | _ => cases ry <;> exact p.elim
/-- the body's turn -/
theorem turn_run {p : D → Env → M Env} {b : Env → M Fl} {k : Env → M Fl} {N : Ends} {r : List Addr} {env : Env} {st : Store} {d : D} {x : V} {Nx : L2.St → Hp → Prop} (e : ER W H r env s) (sr : SR W.b H r st) (rd : RD W.b H r d x)
    (h : PostS W H r (bnd (bnd (p d env) b) (fun q => match q with | .next e => k e | .cnt e => k e | .brk e => ret (.next e) | .ret d => ret (.ret d)) st) N)
    (hn : ∀ H' r' env' st' s', Lt H r H' r' → SR W.b H' r' st' → ER W H' r' env' s' → PostS W H' r' (k env' st') N → Nx s' H') :
    tG W p x s H fun s2 H2 => tS W b { N with nx := Nx, ct := Nx, bk := N.nx } s2 H2 := by
  refine ⟨r, env, st, d, e, sr, rd, ?_⟩
  rw [bnd_bnd] at h
  cases z : p d env st with
  | ex y st1 => rw [bnd_ex z] at h; exact h
  | bad => rw [bnd_bad z] at h; exact h
  | ok env1 st1 =>
    rw [bnd_ok z] at h
    intro H1 r1 s1 l1 sr1 e1
    refine ⟨r1, env1, st1, e1, sr1, ?_⟩
    have h := h.lt l1
    cases z2 : b env1 st1 with
    | ex y st2 => rw [bnd_ex z2] at h; exact h
    | bad => rw [bnd_bad z2] at h; exact h
    | ok f st2 =>
      rw [bnd_ok z2] at h
      cases f with
      | next env2 => exact fun H' r' s' l sr' e' => hn H' r' env2 st2 s' (l1.trans l) sr' e' (h.lt l)
      | cnt env2 => exact fun H' r' s' l sr' e' => hn H' r' env2 st2 s' (l1.trans l) sr' e' (h.lt l)
      | brk env2 => exact fun H' r' s' l sr' e' => h H' r' s' l sr' e'
      | ret d => exact fun H' r' v l sr' rd => h H' r' v l sr' rd
/-- what holds ahead of the i-th turn, of a fixed row -/
def AtI (W : Wd) (f : D → Env → M Fl) (xs : List D) (N : Ends) (H0 : Hp) (r0 : List Addr) (i : Nat) (s : L2.St) (H : Hp) : Prop :=
  ∃ r env st, Lt H0 r0 H r ∧ ER W H r env s ∧ SR W.b H r st ∧ PostS W H r (forI f (xs.drop i) env st) N
theorem AtI.turn {p : D → Env → M Env} {b : Env → M Fl} {xs : List D} {N : Ends} {H0 : Hp} {r0 : List Addr} {i : Nat} {x : V} {d : D} (h : AtI W (fun y env => bnd (p y env) b) xs N H0 r0 i s H) (hd : xs[i]? = some d) (rd : ∀ r, Lt H0 r0 H r → RD W.b H r d x) :
    tG W p x s H fun s2 H2 => tS W b { N with nx := AtI W (fun y env => bnd (p y env) b) xs N H0 r0 (i + 1), ct := AtI W (fun y env => bnd (p y env) b) xs N H0 r0 (i + 1), bk := N.nx } s2 H2 := by
  obtain ⟨r, env, st, l, e, sr, q⟩ := h
  have hi : i < xs.length := (List.getElem?_eq_some_iff.mp hd).1
  have ed : xs[i] = d := (List.getElem?_eq_some_iff.mp hd).2
  rw [List.drop_eq_getElem_cons hi, ed] at q
  exact turn_run (k := forI (fun y env => bnd (p y env) b) (xs.drop (i + 1))) e sr (rd r l) q fun H' r' env' st' s' l' sr' e' q' => ⟨r', env', st', l.trans l', e', sr', q'⟩
theorem AtI.done {f : D → Env → M Fl} {xs : List D} {N : Ends} {H0 : Hp} {r0 : List Addr} (h : AtI W f xs N H0 r0 xs.length s H) : N.nx s H := by
  obtain ⟨r, env, st, l, e, sr, q⟩ := h
  rw [List.drop_length] at q
  exact q H r s (Lt.refl _ _) sr e
/-- .. of a list of the store -/
def AtO (W : Wd) (f : D → Env → M Fl) (n : Nat) (N : Ends) (a : Addr) (H0 : Hp) (r0 : List Addr) (i m : Nat) (s : L2.St) (H : Hp) : Prop :=
  ∃ r env st, r[n]? = some a ∧ ER W H r env s ∧ SR W.b H r st ∧ PostS W H r (forO f n m i env st) N
theorem rangeD_get {lo : Int} {n i : Nat} (h : i < n) : (rangeD lo n)[i]? = some (.int (lo + (i : Nat))) := by
  unfold rangeD
  rw [List.getElem?_map, List.getElem?_range h]
  rfl
theorem rangeD_len (lo : Int) (n : Nat) : (rangeD lo n).length = n := by
  unfold rangeD
  rw [List.length_map, List.length_range]
section
variable {tg iter : Expr} {body : List Stmt} {pos : Pos} {me : Env → M D} {p : D → Env → M Env} {b : Env → M Fl}
theorem ps_forSeq (hK : X.K = W.b.K) (hp : PassesOwn (model X.prog X.w) X.A X.env X.xe) (hc : X.calm = true) (he : PE X iter (tV W me)) (hg : PG X tg (tG W p)) (hb : PSs X body (tS W b)) (hs : ∀ x, foldedSetIterable iter X.env x = pure x) :
    PS X (.For tg iter body [] pos) (tS W fun env => bnd (me env) fun d => forRun (fun y env => bnd (p y env) b) d env) := by
  refine ⟨fun pins S s H N I h => ?_⟩
  obtain ⟨r, env, st, e, sr, q⟩ := id h
  dsimp only at q
  cases z : me env st with
  | ex x st1 =>
    rw [bnd_ex z] at q
    exact (ps_for (wi := iTup X.K (tV W me)) hp hc (pi_tup he) hg hb hs).run pins S s H N I ⟨r, env, st, (), e, sr, True.intro, by
      show Post W (RD W.b) H r (me env st) _
      rw [z]
      exact q⟩
  | bad => rw [bnd_bad z] at q; exact q.elim
  | ok d st1 =>
    rw [bnd_ok z] at q
    have go : ∀ {R : V → Hp → Prop}, (∀ H' r' v, Lt H r H' r' → SR W.b H' r' st1 → RD W.b H' r' d v → ER W H' r' env s → PostS W H' r' (forRun (fun y env => bnd (p y env) b) d env st1) N → R v H') → tV W me s H R := fun {R} k =>
      ⟨r, env, st, (), e, sr, True.intro, by
        show Post W (RD W.b) H r (me env st) R
        rw [z]
        exact fun H' r' v l s' rd => k H' r' v l s' rd (e.mono l) (q.lt l)⟩
    cases d with
    | tup xs =>
      refine (ps_for (wi := iTup X.K (tV W me)) hp hc (pi_tup he) hg hb hs).run pins S s H N I (go fun H1 r1 v l sr1 rd e1 q1 => ?_)
      cases rd with
      | @tup a vs _ h1 h2 =>
        rw [hK]
        refine ⟨a, rfl, ⟨vs, h1⟩, for_tup (xs := vs) (AtI W (fun y env => bnd (p y env) b) xs N H1 r1) ⟨r1, env, st1, Lt.refl _ _, e1, sr1, q1⟩ (fun i s' H' _ hi => ?_) (fun i x s' H' hx hi => ?_) fun s' H' hi => ?_⟩
        · obtain ⟨r', _, _, l', _⟩ := hi
          exact l'.sqT h1
        · obtain ⟨d, hd, rd⟩ := h2.getV hx
          exact hi.turn hd fun r' l' => rd.mono l'
        · rw [← h2.length] at hi
          exact hi.done
    | ro xs =>
      refine (ps_for (wi := iList X.K (tV W me)) hp hc (pi_list he) hg hb hs).run pins S s H N I (go fun H1 r1 v l sr1 rd e1 q1 => ?_)
      cases rd with
      | @ro a vs _ h1 h2 =>
        rw [hK]
        refine ⟨a, rfl, ⟨vs, h1.l⟩, for_list (xs := vs) (AtI W (fun y env => bnd (p y env) b) xs N H1 r1) ⟨r1, env, st1, Lt.refl _ _, e1, sr1, q1⟩ (fun i s' H' _ hi => ?_) (fun i x s' H' hx hi => ?_) fun s' H' hi => ?_⟩
        · obtain ⟨r', _, _, l', _⟩ := hi
          exact (l'.sqF h1).l
        · obtain ⟨d, hd, rd⟩ := h2.getV hx
          exact hi.turn hd fun r' l' => rd.mono l'
        · rw [← h2.length] at hi
          exact hi.done
    | str u =>
      refine (ps_for (wi := iStr (tV W me)) hp hc (pi_str he) hg hb hs).run pins S s H N I (go fun H1 r1 v l sr1 rd e1 q1 => ?_)
      cases rd with
      | str _ h1 h2 =>
        have hlen : (⟨u.toArray⟩ : Str).cps.size = u.length := by simp
        refine ⟨_, rfl, fun i m s' H' => m = u.length - i ∧ i ≤ u.length ∧ AtI W (fun y env => bnd (p y env) b) (charsOf u) N H1 r1 i s' H', ⟨_, rfl, Nat.zero_le _, r1, env, st1, Lt.refl _ _, e1, sr1, q1⟩, ?_⟩
        rintro i m s' H' ⟨rfl, hi, q2⟩
        by_cases hlt : i < u.length
        · refine .inr ⟨by show i < _; rw [hlen]; exact hlt, AtI W (fun y env => bnd (p y env) b) (charsOf u) N H1 r1 (i + 1), fun s2 H2 q3 => ⟨u.length - (i + 1), by omega, rfl, hlt, q3⟩, fun x H2 y => ?_⟩
          obtain ⟨rfl, c, hc', rfl⟩ := y
          have ec : u[i]? = some c := by simpa using hc'
          refine q2.turn (d := .str [c]) (by unfold charsOf; rw [List.getElem?_map, ec]; rfl) fun r' l' => .str [c] (by show 1 ≤ LINE; decide) fun c' h' => ?_
          simp at h'
          subst h'
          exact h2 _ (List.mem_of_getElem? ec)
        · have ei : i = u.length := by omega
          subst ei
          refine .inl ⟨by show (⟨u.toArray⟩ : Str).cps.size ≤ _; rw [hlen]; exact Nat.le_refl _, ?_⟩
          have : (charsOf u).length = u.length := by simp [charsOf]
          rw [← this] at q2
          exact q2.done
    | ob n =>
      refine (ps_for (wi := iList X.K (tV W me)) hp hc (pi_list he) hg hb hs).run pins S s H N I (go fun H1 r1 v l sr1 rd e1 q1 => ?_)
      cases rd with
      | @ob _ a h1 =>
        have there : ∀ {i m : Nat} {r' : List Addr} {env' : Env} {st' : Store} {s' : L2.St} {H' : Hp}, r'[n]? = some a → SR W.b H' r' st' → PostS W H' r' (forO (fun y env => bnd (p y env) b) n m i env' st') N →
            ∃ k ds vs, m = k + 1 ∧ st'[n]? = some (.lst ds) ∧ H' a = some (.lst vs) ∧ RDs W.b H' r' ds vs := by
          intro i m r' env' st' s' H' hr sr' q'
          cases m with
          | zero => exact q'.elim
          | succ k =>
            cases z2 : st'[n]? with
            | none =>
              have z3 : getL n st' = .bad := by unfold getL; rw [z2]
              unfold forO at q'
              rw [bnd_bad z3] at q'
              exact q'.elim
            | some o =>
              cases o with
              | ins _ _ | dic _ | nst _ =>
                have z3 : getL n st' = .bad := by unfold getL; rw [z2]
                unfold forO at q'
                rw [bnd_bad z3] at q'
                exact q'.elim
              | lst ds =>
                obtain ⟨a', vs, f1, f2, f3⟩ := sr'.lst z2
                rw [hr] at f1
                cases f1
                exact ⟨k, ds, vs, rfl, rfl, f2, f3⟩
        have q1 : PostS W H1 r1 (forO (fun y env => bnd (p y env) b) n FUEL 0 env st1) N := q1
        obtain ⟨_, _, vs0, _, _, hv0, _⟩ := there (s' := s) h1 sr1 q1
        rw [hK]
        refine ⟨a, rfl, ⟨vs0, SqL.of hv0⟩, AtO W (fun y env => bnd (p y env) b) n N a H1 r1, ⟨FUEL, r1, env, st1, h1, e1, sr1, q1⟩, ?_⟩
        rintro i m s' H' ⟨r', env', st', hr, e', sr', q'⟩
        obtain ⟨k, ds, vs, rfl, hds, hvs, hrd⟩ := there (s' := s') hr sr' q'
        unfold forO at q'
        rw [bnd_ok (a := ds) (st' := st') (by unfold getL; rw [hds])] at q'
        cases z4 : ds[i]? with
        | none =>
          rw [z4] at q'
          refine .inl ⟨⟨vs, SqL.of hvs, ?_⟩, q' H' r' s' (Lt.refl _ _) sr' e'⟩
          rw [← hrd.length]
          exact List.getElem?_eq_none_iff.mp z4
        | some y =>
          rw [z4] at q'
          obtain ⟨x, hx, rx⟩ := hrd.get z4
          refine .inr ⟨⟨vs, x, SqL.of hvs, hx⟩, AtO W (fun y env => bnd (p y env) b) n N a H1 r1 (i + 1) k, fun s2 H2 q3 => ⟨k, Nat.lt_succ_self _, q3⟩, fun x' H2 yy => ?_⟩
          obtain ⟨rfl, yy⟩ := yy
          have ex : x = x' := by
            have := yy vs (SqL.of hvs)
            rw [hx] at this
            exact Option.some.inj this
          subst ex
          exact turn_run (k := forO (fun y env => bnd (p y env) b) n k (i + 1)) e' sr' rx q' fun H3 r3 env3 st3 s3 l3 sr3 e3 q3 => ⟨r3, env3, st3, l3.get hr, e3, sr3, q3⟩
    | _ => exact q.elim
end
end
end Li
namespace Li
open PySem L2
section
variable {W : Wd} {X : Cx}
section
variable {s : L2.St} {H : Hp} {N : Ends} {mas : Env → M (List D)} {f : D → Env → M Fl}
/-- arguments, then a walk over the range that they name -/
theorem rng_go (h : tS W (fun env => bnd (mas env) fun ds => bnd (rangeOf ds) fun xs => forI f xs env) N s H) {R : List V → Hp → Prop}
    (k : ∀ H' r' ds xs vs env st, (∃ env st st', mas env st = .ok ds st') → SR W.b H' r' st → ER W H' r' env s → RDs W.b H' r' ds vs → rangeOf ds st = .ok xs st → PostS W H' r' (forI f xs env st) N → R vs H') : tA W mas s H R := by
  obtain ⟨r, env, st, e, sr, q⟩ := h
  refine ⟨r, env, st, (), e, sr, True.intro, ?_⟩
  show Post W (RDs W.b) H r (mas env st) R
  dsimp only at q
  cases z : mas env st with
  | ex x st1 => rw [bnd_ex z] at q; exact q
  | bad => rw [bnd_bad z] at q; exact q
  | ok ds st1 =>
    rw [bnd_ok z] at q
    intro H' r' vs l sr' rd
    cases z2 : rangeOf ds st1 with
    | ex x st2 =>
      exfalso
      unfold rangeOf at z2
      split at z2 <;> first | (unfold chk ret at z2; split at z2 <;> cases z2) | cases z2
    | bad => rw [bnd_bad z2] at q; exact q.elim
    | ok xs st2 =>
      have est : st2 = st1 := by
        unfold rangeOf at z2
        split at z2 <;> first | (unfold chk ret at z2; split at z2 <;> first | (cases z2; rfl) | cases z2) | cases z2
      subst est
      rw [bnd_ok z2] at q
      exact k H' r' ds xs vs env st2 ⟨_, _, _, z⟩ sr' (e.mono l) rd z2 (q.lt l)
end
theorem range1_inv {ds : List D} {st : Store} {xs : List D} {H : Hp} {r : List Addr} {v : V} (rd : RDs W.b H r ds [v]) (h : rangeOf ds st = .ok xs st) : ∃ j, v = .int j ∧ inBig j ∧ xs = rangeD 0 j.toNat := by
  obtain ⟨d, rfl, h1⟩ : ∃ d, ds = [d] ∧ RD W.b H r d v := rds1 rd
  cases h1 with
  | int j =>
    have h : chk (inBig j) (ret (rangeD 0 j.toNat)) st = .ok xs st := h
    by_cases hj : inBig j
    · rw [chk_true hj] at h
      cases h
      exact ⟨j, rfl, hj, rfl⟩
    · rw [chk_false hj] at h
      cases h
  | _ => cases h
theorem range2_inv {ds : List D} {st : Store} {xs : List D} {H : Hp} {r : List Addr} {v u : V} (rd : RDs W.b H r ds [v, u]) (h : rangeOf ds st = .ok xs st) : ∃ i j, v = .int i ∧ u = .int j ∧ inBig i ∧ inBig j ∧ xs = rangeD i (j - i).toNat := by
  cases rd with
  | cons h1 rd =>
    obtain ⟨d, rfl, h2⟩ := rds1 rd
    cases h1 with
    | int i =>
      cases h2 with
      | int j =>
        have h : chk (inBig i ∧ inBig j) (ret (rangeD i (j - i).toNat)) st = .ok xs st := h
        by_cases hj : inBig i ∧ inBig j
        · rw [chk_true hj] at h
          cases h
          exact ⟨i, j, rfl, rfl, hj.1, hj.2, rfl⟩
        · rw [chk_false hj] at h
          cases h
      | _ => cases h
    | _ => cases h
theorem range3_inv {ds : List D} {st : Store} {xs : List D} {H : Hp} {r : List Addr} {v u w : V} (rd : RDs W.b H r ds [v, u, w]) (h : rangeOf ds st = .ok xs st) :
    ∃ i j, v = .int i ∧ u = .int j ∧ w = .int (-1) ∧ inBig i ∧ inBig j ∧ xs = (List.range (i - j).toNat).map fun k => .int (i + (k : Nat) * (-1)) := by
  cases rd with
  | cons h1 rd =>
    cases rd with
    | cons h2 rd =>
      obtain ⟨d, rfl, h3⟩ := rds1 rd
      cases h1 with
      | int i =>
        cases h2 with
        | int j =>
          cases h3 with
          | int c =>
            have h : chk (c = -1 ∧ inBig i ∧ inBig j) (ret ((List.range (i - j).toNat).map fun k => .int (i + (k : Nat) * (-1)))) st = .ok xs st := h
            by_cases hj : c = -1 ∧ inBig i ∧ inBig j
            · rw [chk_true hj] at h
              cases h
              obtain ⟨rfl, h1, h2⟩ := hj
              exact ⟨i, j, rfl, rfl, rfl, h1, h2, rfl⟩
            · rw [chk_false hj] at h
              cases h
          | _ => cases h
        | _ => cases h
      | _ => cases h
section
variable {tg a b c : Expr} {body : List Stmt} {pos pp : Pos} {mas : Env → M (List D)} {p : D → Env → M Env} {mb : Env → M Fl}
/-- the invariant of a walk over a range -/
theorem for_rng {H1 : Hp} {r1 : List Addr} {env : Env} {st : Store} {s : L2.St} {N : Ends} {lo : Int} {n : Nat} (e : ER W H1 r1 env s) (sr : SR W.b H1 r1 st) (q : PostS W H1 r1 (forI (fun y env => bnd (p y env) mb) (rangeD lo n) env st) N) :
    ∃ Wi : Nat → Nat → L2.St → Hp → Prop, (∃ m, Wi 0 m s H1) ∧ ∀ i m s H, Wi i m s H →
      ((Itr lo n).stop i H ∧ N.nx s H) ∨ ((Itr lo n).go i H ∧ ∃ Nx : L2.St → Hp → Prop, (∀ s' H', Nx s' H' → ∃ m', m' < m ∧ Wi (i + 1) m' s' H') ∧ ∀ x H', (Itr lo n).yld i H x H' → tG W p x s H' fun s2 H2 => tS W mb { N with nx := Nx, ct := Nx, bk := N.nx } s2 H2) := by
  refine for_range (AtI W (fun y env => bnd (p y env) mb) (rangeD lo n) N H1 r1) ⟨r1, env, st, Lt.refl _ _, e, sr, q⟩ (fun i s' H' hi h => ?_) fun s' H' h => ?_
  · exact h.turn (rangeD_get hi) fun _ _ => .int _
  · have e1 := rangeD_len lo n
    have h : AtI W (fun y env => bnd (p y env) mb) (rangeD lo n) N H1 r1 (rangeD lo n).length s' H' := by rw [e1]; exact h
    exact h.done
theorem one_of {H : Hp} {r : List Addr} {ds : List D} {vs : List V} (rd : RDs W.b H r ds vs) (h : ds.length = 1) : ∃ v, vs = [v] := by
  match ds, vs, rd, h with
  | [_], [v], _, _ => exact ⟨v, rfl⟩
  | [_], _ :: _ :: _, .cons _ h, _ => cases h
theorem two_of {H : Hp} {r : List Addr} {ds : List D} {vs : List V} (rd : RDs W.b H r ds vs) (h : ds.length = 2) : ∃ v u, vs = [v, u] := by
  match ds, vs, rd, h with
  | [_, _], [v, u], _, _ => exact ⟨v, u, rfl⟩
  | [_, _], [_], .cons _ h, _ => cases h
  | [_, _], _ :: _ :: _ :: _, .cons _ (.cons _ h), _ => cases h
theorem three_of {H : Hp} {r : List Addr} {ds : List D} {vs : List V} (rd : RDs W.b H r ds vs) (h : ds.length = 3) : ∃ v u w, vs = [v, u, w] := by
  match ds, vs, rd, h with
  | [_, _, _], [v, u, w], _, _ => exact ⟨v, u, w, rfl⟩
  | [_, _, _], [_], .cons _ h, _ => cases h
  | [_, _, _], [_, _], .cons _ (.cons _ h), _ => cases h
  | [_, _, _], _ :: _ :: _ :: _ :: _, .cons _ (.cons _ (.cons _ h)), _ => cases h
theorem ps_forR1 (hp : PassesOwn (model X.prog X.w) X.A X.env X.xe) (hc : X.calm = true) (hgl : Gl X "range") (hm : X.mg "range" = none) (ha : PA X [a] (tA W mas)) (hn : ∀ env st ds st', mas env st = .ok ds st' → ds.length = 1) (hs1 : starEach [a] X.env = [(false, eval a X.env)]) (hg : PG X tg (tG W p)) (hb : PSs X body (tS W mb)) :
    PS X (.For tg (.Call (.Name "range" pp) [a] [] pos') body [] pos) (tS W fun env => bnd (mas env) fun ds => bnd (rangeOf ds) fun xs => forI (fun y env => bnd (p y env) mb) xs env) := by
  refine ⟨fun pins S s H N I h => ?_⟩
  refine (ps_for (wi := iRng1 (tA W mas)) hp hc (pi_range1 hgl hm ha hs1) hg hb (fun _ => rfl)).run pins S s H N I ?_
  refine rng_go h fun H1 r1 ds xs vs env st hz sr e rd hr q => ?_
  obtain ⟨_, _, _, hz⟩ := hz
  obtain ⟨v, rfl⟩ := one_of rd (hn _ _ _ _ hz)
  obtain ⟨j, rfl, hj, rfl⟩ := range1_inv rd hr
  exact ⟨j, rfl, hj.1, hj.2, for_rng e sr q⟩
theorem ps_forR2 (hp : PassesOwn (model X.prog X.w) X.A X.env X.xe) (hc : X.calm = true) (hgl : Gl X "range") (hm : X.mg "range" = none) (ha : PA X [a, b] (tA W mas)) (hn : ∀ env st ds st', mas env st = .ok ds st' → ds.length = 2)
    (hs1 : starEach [a, b] X.env = [(false, eval a X.env), (false, eval b X.env)]) (hs2 : starEach [b] X.env = [(false, eval b X.env)]) (hg : PG X tg (tG W p)) (hb : PSs X body (tS W mb)) :
    PS X (.For tg (.Call (.Name "range" pp) [a, b] [] pos') body [] pos) (tS W fun env => bnd (mas env) fun ds => bnd (rangeOf ds) fun xs => forI (fun y env => bnd (p y env) mb) xs env) := by
  refine ⟨fun pins S s H N I h => ?_⟩
  refine (ps_for (wi := iRng2 (tA W mas)) hp hc (pi_range2 hgl hm ha hs1 hs2) hg hb (fun _ => rfl)).run pins S s H N I ?_
  refine rng_go h fun H1 r1 ds xs vs env st hz sr e rd hr q => ?_
  obtain ⟨_, _, _, hz⟩ := hz
  obtain ⟨v, u, rfl⟩ := two_of rd (hn _ _ _ _ hz)
  obtain ⟨i, j, rfl, rfl, hi, hj, rfl⟩ := range2_inv rd hr
  exact ⟨i, j, rfl, ⟨hi.1, hi.2, hj.1, hj.2⟩, for_rng e sr q⟩
theorem ps_forR3 (hp : PassesOwn (model X.prog X.w) X.A X.env X.xe) (hc : X.calm = true) (hgl : Gl X "range") (hm : X.mg "range" = none) (ha : PA X [a, b, c] (tA W mas)) (hn : ∀ env st ds st', mas env st = .ok ds st' → ds.length = 3)
    (hs1 : starEach [a, b, c] X.env = (false, eval a X.env) :: starEach [b, c] X.env) (hpl : (backTo pos' (starEach [b, c] X.env)).any (·.1) = false) (hg : PG X tg (tG W p)) (hb : PSs X body (tS W mb)) :
    PS X (.For tg (.Call (.Name "range" pp) [a, b, c] [] pos') body [] pos) (tS W fun env => bnd (mas env) fun ds => bnd (rangeOf ds) fun xs => forI (fun y env => bnd (p y env) mb) xs env) := by
  refine ⟨fun pins S s H N I h => ?_⟩
  refine (ps_for (wi := iRng3 (tA W mas)) hp hc (pi_range3 hgl hm ha hs1 hpl) hg hb (fun _ => rfl)).run pins S s H N I ?_
  refine rng_go h fun H1 r1 ds xs vs env st hz sr e rd hr q => ?_
  obtain ⟨_, _, _, hz⟩ := hz
  obtain ⟨v, u, w, rfl⟩ := three_of rd (hn _ _ _ _ hz)
  obtain ⟨i, j, rfl, rfl, rfl, hi, hj, rfl⟩ := range3_inv rd hr
  refine ⟨i, j, -1, (i - j).toNat, rfl, RgC.neg hi.1 hi.2 hj.1 hj.2, ?_⟩
  have hl : ((List.range (i - j).toNat).map fun k => D.int (i + (k : Nat) * (-1))).length = (i - j).toNat := by rw [List.length_map, List.length_range]
  refine for_rangeC (AtI W (fun y env => bnd (p y env) mb) _ N H1 r1) ⟨r1, env, st, Lt.refl _ _, e, sr, q⟩ (fun k s' H' hk h => ?_) fun s' H' h => ?_
  · exact h.turn (d := .int (i + (k : Nat) * (-1))) (by rw [List.getElem?_map, List.getElem?_range hk]; rfl) fun _ _ => .int _
  · exact AtI.done (xs := (List.range (i - j).toNat).map fun k => D.int (i + (k : Nat) * (-1))) (by rw [hl]; exact h)
/-- while -/
theorem ps_whl {mt : Env → M Bool} (hp : PassesOwn (model X.prog X.w) X.A X.env X.xe) (ht : PT X c (tT W mt)) (hb : PSs X body (tS W mb)) : PS X (.While c body [] pos) (tS W fun env => whlN mt mb FUEL env) := by
  refine (⟨fun pins S s H N I h => (ps_while hp ht hb).run pins S s H N I ?_⟩ : PS X _ _)
  obtain ⟨r, env, st, e, sr, q⟩ := h
  refine ⟨fun m s H => ∃ r env st, ER W H r env s ∧ SR W.b H r st ∧ PostS W H r (whlN mt mb m env st) N, ⟨FUEL, r, env, st, e, sr, q⟩, ?_⟩
  rintro m s H ⟨r, env, st, e, sr, q⟩
  cases m with
  | zero => exact q.elim
  | succ k =>
    unfold whlN at q
    refine ⟨r, env, st, (), e, sr, True.intro, ?_⟩
    show Post W RB H r (mt env st) _
    cases z : mt env st with
    | ex x st1 => rw [bnd_ex z] at q; exact q
    | bad => rw [bnd_bad z] at q; exact q
    | ok d st1 =>
      rw [bnd_ok z] at q
      intro H1 r1 v l1 sr1 rd
      cases rd
      have q := q.lt l1
      cases d with
      | false => exact q H1 r1 s (Lt.refl _ _) sr1 (e.mono l1)
      | true =>
        have q : PostS W H1 r1 (bnd (mb env) (fun r => match r with | .next e => whlN mt mb k e | .cnt e => whlN mt mb k e | .brk e => ret (.next e) | .ret d => ret (.ret d)) st1) N := q
        rw [if_pos rfl]
        refine ⟨fun s H => ∃ r env st, ER W H r env s ∧ SR W.b H r st ∧ PostS W H r (whlN mt mb k env st) N, fun s' H' q' => ⟨k, Nat.lt_succ_self _, q'⟩, ?_⟩
        refine ⟨r1, env, st1, e.mono l1, sr1, ?_⟩
        cases z2 : mb env st1 with
        | ex y st2 => rw [bnd_ex z2] at q; exact q
        | bad => rw [bnd_bad z2] at q; exact q
        | ok f st2 =>
          rw [bnd_ok z2] at q
          cases f with
          | next env2 => exact fun H' r' s' l sr' e' => ⟨r', env2, st2, e', sr', q.lt l⟩
          | cnt env2 => exact fun H' r' s' l sr' e' => ⟨r', env2, st2, e', sr', q.lt l⟩
          | brk env2 => exact fun H' r' s' l sr' e' => q H' r' s' l sr' e'
          | ret d => exact fun H' r' v l sr' rd => q H' r' v l sr' rd
/-- a block -/
theorem pss_seq {st : Stmt} {rest : List Stmt} {m : Env → M Fl} {k : Env → M Fl} (h1 : PS X st (tS W m)) (h2 : PSs X rest (tS W k)) : PSs X (st :: rest) (tS W fun env => bnd (m env) fun r => match r with | .next e => k e | r => ret r) := by
  refine (⟨fun pins S s H N I h => (pss_cons h1 h2).run pins S s H N I ?_⟩ : PSs X _ _)
  obtain ⟨r, env, st, e, sr, q⟩ := h
  refine ⟨r, env, st, e, sr, ?_⟩
  dsimp only at q
  cases z : m env st with
  | ex y st2 => rw [bnd_ex z] at q; exact q
  | bad => rw [bnd_bad z] at q; exact q
  | ok f st2 =>
    rw [bnd_ok z] at q
    cases f with
    | next env2 => exact fun H' r' s' l sr' e' => ⟨r', env2, st2, e', sr', q.lt l⟩
    | cnt env2 => exact q
    | brk env2 => exact q
    | ret d => exact q
end
end
end Li
namespace Li
open PySem L2
section
variable {W : Wd} {X : Cx} {s : L2.St} {H : Hp} {Q : VK}
theorem ER.wset {r : List Addr} {env : Env} {i : Nat} {d : D} {v : V} (e : ER W H r env s) (q : RD W.b H r d v) : ER W H r (env.set i (some d)) ((L2.wipe s [i]).set i (some v)) := by
  show ER W H r _ ((s.set i none).set i (some v))
  rw [List.set_set]
  exact e.set i q
theorem w_yes {Q : Bool → Hp → Prop} (h : tT W (fun _ => ret true) s H Q) : tYes s H Q := gret h fun H r env b _ q => rfl
/-- what holds ahead of the i-th turn: the new list at Dl -/
def AtL (W : Wd) (k : Nat → List D → M (List D)) (Dl : Addr) (env : Env) (s : L2.St) (H0 : Hp) (r0 : List Addr) (Q : VK) (i : Nat) (H : Hp) : Prop :=
  ∃ r st acc vs, Lt H0 r0 H r ∧ ER W H r env s ∧ SR W.b H r st ∧ Dl ∉ r ∧ H Dl = some (.lst vs) ∧ RDs W.b H r acc vs ∧ Post W (RD W.b) H0 r0 (bnd (k i acc) (fun ys => newO (.lst ys)) st) Q
theorem AtL.start {k : Nat → List D → M (List D)} {Dl : Addr} {env : Env} {H0 : Hp} {r0 : List Addr} {st : Store} (hD : H0 Dl = none) (e : ER W H0 r0 env s) (sr : SR W.b H0 r0 st) (q : Post W (RD W.b) H0 r0 (bnd (k 0 []) (fun ys => newO (.lst ys)) st) Q) :
    AtL W k Dl env s H0 r0 Q 0 (upd H0 Dl (.lst [])) := by
  refine ⟨r0, st, [], [], Lt.new hD, e.mono (Lt.new hD), sr.new hD, fun z => ?_, upd_same, .nil, q⟩
  obtain ⟨n, hn⟩ := List.getElem?_of_mem z
  have hl : n < st.length := by rw [← sr.len]; exact (List.getElem?_eq_some_iff.mp hn).1
  obtain ⟨u, hu, _⟩ := sr.at_ n Dl _ hn (List.getElem?_eq_getElem hl)
  rw [hD] at hu
  cases hu
/-- the end -/
theorem AtL.finX {k : Nat → List D → M (List D)} {Dl : Addr} {H0 : Hp} {r0 : List Addr} {i : Nat} {r : List Addr} {st : Store} {acc : List D} {vs : List V} (hD : H0 Dl = none) (l : Lt H0 r0 H r) (sr : SR W.b H r st) (np : Dl ∉ r) (hv : H Dl = some (.lst vs)) (q : RDs W.b H r acc vs)
    (p : Post W (RD W.b) H0 r0 (bnd (k i acc) (fun ys => newO (.lst ys)) st) Q) (ek : k i acc st = .ok acc st) : Q (.ref Dl) H := by
  rw [bnd_ok ek] at p
  have l0 : Lt0 H r H (r ++ [Dl]) := ⟨fun _ _ h => h, fun _ _ _ h => h, fun _ _ h => h, [Dl], rfl⟩
  refine p H (r ++ [Dl]) (.ref Dl) (l.take hD) (sr.take np hv (.lst (q.mono0 l0))) (.ob ?_)
  rw [← sr.len, List.getElem?_append_right (Nat.le_refl _)]
  simp
/-- a turn -/
theorem AtL.turn {k : Nat → List D → M (List D)} {Dl : Addr} {env : Env} {H0 : Hp} {r0 : List Addr} {i j : Nat} {ml : Env → M D} {mt : Env → M Bool} {x : V} {d : D} {r : List Addr} {st : Store} {acc : List D} {vs : List V} (hD : H0 Dl = none)
    (l : Lt H0 r0 H r) (e : ER W H r env s) (sr : SR W.b H r st) (np : Dl ∉ r) (hv : H Dl = some (.lst vs)) (q : RDs W.b H r acc vs) (p : Post W (RD W.b) H0 r0 (bnd (k i acc) (fun ys => newO (.lst ys)) st) Q) (rd : RD W.b H r d x)
    (hk : k i acc st = bnd (mt (env.set j (some d))) (fun c => if c then bnd (ml (env.set j (some d))) fun y => chk (acc.length < LINE) (k (i + 1) (acc ++ [y])) else k (i + 1) acc) st) :
    L2.wipe ((L2.wipe s [j]).set j (some x)) [j] = L2.wipe s [j] ∧ tT W mt ((L2.wipe s [j]).set j (some x)) H fun b H3 =>
      if b = true then tV W ml ((L2.wipe s [j]).set j (some x)) H3 fun y H4 => ∃ acc, H4 Dl = some (.lst acc) ∧ acc.length < sizeLine ∧ AtL W k Dl env s H0 r0 Q (i + 1) (upd H4 Dl (.lst (acc ++ [y]))) else AtL W k Dl env s H0 r0 Q (i + 1) H3 := by
  refine ⟨?_, ?_⟩
  · show ((s.set j none).set j (some x)).set j none = s.set j none
    rw [List.set_set, List.set_set]
  have p : Post W (RD W.b) H0 r0 (bnd (bnd (mt (env.set j (some d))) (fun c => if c then bnd (ml (env.set j (some d))) fun y => chk (acc.length < LINE) (k (i + 1) (acc ++ [y])) else k (i + 1) acc)) (fun ys => newO (.lst ys)) st) Q := by
    rw [bnd_congr hk] at p
    exact p
  rw [bnd_bnd] at p
  refine ⟨r, env.set j (some d), st, (), e.wset rd, sr, True.intro, ?_⟩
  show Post W RB H r (mt (env.set j (some d)) st) _
  cases z : mt (env.set j (some d)) st with
  | ex y st1 => rw [bnd_ex z] at p; exact fun H' r' cls d l' a b => p H' r' cls d (l.trans l') a b
  | bad => rw [bnd_bad z] at p; exact p
  | ok c st1 =>
    rw [bnd_ok z] at p
    intro H3 r3 c' l3 sr3 ec
    cases ec
    obtain ⟨hv3, np3⟩ := l3.keep Dl _ hv np
    have e3 := e.mono l3
    have q3 := q.mono l3
    have l03 := l.trans l3
    cases c with
    | false => exact ⟨r3, st1, acc, vs, l03, e3, sr3, np3, hv3, q3, p⟩
    | true =>
      rw [if_pos rfl]
      have p : Post W (RD W.b) H0 r0 (bnd (bnd (ml (env.set j (some d))) fun y => chk (acc.length < LINE) (k (i + 1) (acc ++ [y]))) (fun ys => newO (.lst ys)) st1) Q := p
      rw [bnd_bnd] at p
      refine ⟨r3, env.set j (some d), st1, (), e3.wset (rd.mono l3), sr3, True.intro, ?_⟩
      show Post W (RD W.b) H3 r3 (ml (env.set j (some d)) st1) _
      cases z2 : ml (env.set j (some d)) st1 with
      | ex y st2 => rw [bnd_ex z2] at p; exact fun H' r' cls d l' a b => p H' r' cls d (l03.trans l') a b
      | bad => rw [bnd_bad z2] at p; exact p
      | ok y st2 =>
        rw [bnd_ok z2] at p
        intro H4 r4 v l4 sr4 rdv
        obtain ⟨hv4, np4⟩ := l4.keep Dl _ hv3 np3
        by_cases hc : acc.length < LINE
        · have p : Post W (RD W.b) H0 r0 (bnd (k (i + 1) (acc ++ [y])) (fun ys => newO (.lst ys)) st2) Q := by
            rw [chk_true hc] at p
            exact p
          have q4 := q3.mono l4
          have l0 : Lt0 H4 r4 (upd H4 Dl (.lst (vs ++ [v]))) r4 := Lt0.mut hv4 True.intro
          refine ⟨vs, hv4, by rw [← q.length, ← line_eq]; exact hc, r4, st2, acc ++ [y], vs ++ [v], (l03.trans l4).own hD, ?_, sr4.out np4 hv4 True.intro, np4, upd_same, (q4.app (.cons rdv .nil)).mono0 l0, p⟩
          exact (e3.mono l4).mono0 l0
        · have z3 : chk (acc.length < LINE) (k (i + 1) (acc ++ [y])) st2 = .bad := chk_false hc _ _
          rw [bnd_bad z3] at p
          exact p.elim
section
variable {tg iter elt : Expr} {ifs : List Expr} {scope : Scope} {pos : Pos} {x : Str} {i : Nat} {me ml : Env → M D} {mt : Env → M Bool}
/-- what is asked of a comprehension's parts -/
structure LcOk (W : Wd) (X : Cx) (tg elt : Expr) (ifs : List Expr) (scope : Scope) (x : Str) (i : Nat) (ml : Env → M D) (mt : Env → M Bool) : Prop where
  blk : BlkOk X.N X.env.scope scope [(x, i)]
  tgt : ∀ (s : Shared) (H : Hp) (C : Addr) (cl : List (Str × Addr)) (fp : List Addr), PG (X.blk s H scope (compEnvC scope cl C X.env) fp) tg (gName i)
  tst : ∀ (s : Shared) (H : Hp) (C : Addr) (cl : List (Str × Addr)) (fp : List Addr), PTs (X.blk s H scope (compEnvC scope cl C X.env) fp) ifs (tT W mt)
  elm : ∀ (s : Shared) (H : Hp) (C : Addr) (cl : List (Str × Addr)) (fp : List Addr), PE (X.blk s H scope (compEnvC scope cl C X.env) fp) elt (tV W ml)
/-- .. over a fixed row -/
theorem lc_row {xs : List D} {H1 : Hp} {r1 : List Addr} {env : Env} {st : Store} (n : Nat) (J : It) (hn : xs.length = n) (e : ER W H1 r1 env s) (sr : SR W.b H1 r1 st)
    (q : Post W (RD W.b) H1 r1 (bnd (lcI (fun y => mt (env.set i (some y))) (fun y => ml (env.set i (some y))) [] xs) (fun ys => newO (.lst ys)) st) Q)
    (hgo : ∀ k r H, Lt H1 r1 H r → k < n → J.go k H ∧ ∀ v H', J.yld k H v H' → H' = H ∧ ∃ d, xs[k]? = some d ∧ RD W.b H r d v) (hst : ∀ r H, Lt H1 r1 H r → J.stop n H) :
    ∀ Dl, H1 Dl = none → ∃ Wi : Nat → Nat → Hp → Prop, (∃ m, Wi 0 m (upd H1 Dl (.lst []))) ∧ ∀ k m H, Wi k m H →
      (J.stop k H ∧ Q (.ref Dl) H) ∨ (J.go k H ∧ ∃ Nx : Hp → Prop, (∀ H', Nx H' → ∃ m', m' < m ∧ Wi (k + 1) m' H') ∧ ∀ v H', J.yld k H v H' → gName i v (L2.wipe s [i]) H' fun s2 H2 => L2.wipe s2 [i] = L2.wipe s [i] ∧ tT W mt s2 H2 fun b H3 =>
        if b = true then tV W ml s2 H3 fun y H4 => ∃ acc, H4 Dl = some (.lst acc) ∧ acc.length < sizeLine ∧ Nx (upd H4 Dl (.lst (acc ++ [y]))) else Nx H3) := by
  intro Dl hD
  let k0 : Nat → List D → M (List D) := fun k acc => lcI (fun y => mt (env.set i (some y))) (fun y => ml (env.set i (some y))) acc (xs.drop k)
  refine ⟨fun k m H => m = n - k ∧ k ≤ n ∧ AtL W k0 Dl env s H1 r1 Q k H, ⟨_, rfl, Nat.zero_le _, AtL.start hD e sr q⟩, ?_⟩
  rintro k m H ⟨rfl, hk, h⟩
  obtain ⟨r, st', acc, vs, l, rest⟩ := id h
  by_cases hlt : k < n
  · obtain ⟨go, yl⟩ := hgo k r H l hlt
    refine .inr ⟨go, AtL W k0 Dl env s H1 r1 Q (k + 1), fun H' q' => ⟨n - (k + 1), by omega, rfl, hlt, q'⟩, fun v H' y => ?_⟩
    obtain ⟨rfl, d, hd, _⟩ := yl v H' y
    have hl : k < xs.length := by omega
    have ed : xs[k] = d := (List.getElem?_eq_some_iff.mp hd).2
    obtain ⟨e', sr', np, hv, q', p⟩ := rest
    have rd : RD W.b H' r d v := by
      obtain ⟨_, d', hd', rd'⟩ := (hgo k r _ l hlt).2 v _ y
      rw [hd] at hd'
      cases hd'
      exact rd'
    refine AtL.turn (d := d) hD l e' sr' np hv q' p rd ?_
    show lcI _ _ acc (xs.drop k) st' = _
    rw [List.drop_eq_getElem_cons hl, ed]
    rfl
  · have ek : k = n := by omega
    subst ek
    obtain ⟨e', sr', np, hv, q', p⟩ := rest
    refine .inl ⟨hst r H l, AtL.finX hD l sr' np hv q' p ?_⟩
    show lcI _ _ acc (xs.drop k) st' = .ok acc st'
    rw [← hn, List.drop_length]
    rfl
/-- the readings of a comprehension over a thing -/
theorem lc_seq (hK : X.K = W.b.K) (he : PE X iter (tV W me)) (h : tV W (fun env => bnd (me env) fun d => bnd (lcRun (fun y => mt (env.set i (some y))) (fun y => ml (env.set i (some y))) d) fun ys => newO (.lst ys)) s H Q) :
    ∃ wi, PI X tg iter wi ∧ tLc wi (gName i) (tT W mt) (tV W ml) [i] s H Q := by
  obtain ⟨r, env, st, _, e, sr, _, q⟩ := h
  dsimp only at q
  cases z : me env st with
  | ex x st1 =>
    rw [bnd_ex z] at q
    refine ⟨_, pi_tup he, ⟨r, env, st, (), e, sr, True.intro, ?_⟩⟩
    show Post W (RD W.b) H r (me env st) _
    rw [z]
    exact q
  | bad => rw [bnd_bad z] at q; exact q.elim
  | ok d st1 =>
    rw [bnd_ok z] at q
    have go : ∀ {R : V → Hp → Prop}, (∀ H' r' v, SR W.b H' r' st1 → RD W.b H' r' d v → ER W H' r' env s → Post W (RD W.b) H' r' (bnd (lcRun (fun y => mt (env.set i (some y))) (fun y => ml (env.set i (some y))) d) (fun ys => newO (.lst ys)) st1) Q → R v H') → tV W me s H R := fun {R} k =>
      ⟨r, env, st, (), e, sr, True.intro, by
        show Post W (RD W.b) H r (me env st) R
        rw [z]
        exact fun H' r' v l s' rd => k H' r' v s' rd (e.mono l) (q.lt l)⟩
    cases d with
    | tup xs =>
      refine ⟨_, pi_tup he, go fun H1 r1 v sr1 rd e1 q1 => ?_⟩
      cases rd with
      | @tup a vs _ h1 h2 =>
        rw [hK]
        refine ⟨a, rfl, ⟨vs, h1⟩, lc_row vs.length (Itt W.b.K a) h2.length e1 sr1 q1 (fun k r' H' l hk => ⟨⟨vs, vs[k], l.sqT h1, List.getElem?_eq_getElem hk⟩, fun v H2 y => ?_⟩) fun r' H' l => ⟨vs, l.sqT h1, Nat.le_refl _⟩⟩
        obtain ⟨rfl, y⟩ := y
        obtain ⟨d, hd, rd⟩ := h2.getV (y vs (l.sqT h1))
        exact ⟨rfl, d, hd, rd.mono l⟩
    | ro xs =>
      refine ⟨_, pi_list he, go fun H1 r1 v sr1 rd e1 q1 => ?_⟩
      cases rd with
      | @ro a vs _ h1 h2 =>
        rw [hK]
        refine ⟨a, rfl, ⟨vs, h1.l⟩, lc_row vs.length (Itl W.b.K a) h2.length e1 sr1 q1 (fun k r' H' l hk => ⟨⟨vs, vs[k], (l.sqF h1).l, List.getElem?_eq_getElem hk⟩, fun v H2 y => ?_⟩) fun r' H' l => ⟨vs, (l.sqF h1).l, Nat.le_refl _⟩⟩
        obtain ⟨rfl, y⟩ := y
        obtain ⟨d, hd, rd⟩ := h2.getV (y vs (l.sqF h1).l)
        exact ⟨rfl, d, hd, rd.mono l⟩
    | str u =>
      refine ⟨_, pi_str he, go fun H1 r1 v sr1 rd e1 q1 => ?_⟩
      cases rd with
      | str _ h1 h2 =>
        have hlen : (⟨u.toArray⟩ : Str).cps.size = u.length := by simp
        refine ⟨_, rfl, lc_row u.length (Its ⟨u.toArray⟩) (by simp [charsOf]) e1 sr1 q1 (fun k r' H' l hk => ⟨by show k < _; rw [hlen]; exact hk, fun v H2 y => ?_⟩) fun r' H' l => by show (⟨u.toArray⟩ : Str).cps.size ≤ _; rw [hlen]; exact Nat.le_refl _⟩
        obtain ⟨rfl, c, hc', rfl⟩ := y
        have ec : u[k]? = some c := by simpa using hc'
        refine ⟨rfl, .str [c], by unfold charsOf; rw [List.getElem?_map, ec]; rfl, .str [c] (by show 1 ≤ LINE; decide) fun c' h' => ?_⟩
        simp at h'
        subst h'
        exact h2 _ (List.mem_of_getElem? ec)
    | ob n =>
      refine ⟨_, pi_list he, go fun H1 r1 v sr1 rd e1 q1 => ?_⟩
      cases rd with
      | @ob _ a h1 =>
        let k0 : Nat → List D → M (List D) := fun k acc => lcO (fun y => mt (env.set i (some y))) (fun y => ml (env.set i (some y))) n (FUEL - k) k acc
        have there : ∀ {k : Nat} {Dl : Addr} {H' : Hp}, AtL W k0 Dl env s H1 r1 Q k H' → k < FUEL ∧ ∃ vs, H' a = some (.lst vs) := by
          rintro k Dl H' ⟨r', st', acc, vs, l, e', sr', np, hv, q', p⟩
          have hk : k < FUEL := by
            refine Nat.lt_of_not_le fun hk => ?_
            have z0 : k0 k acc st' = .bad := by
              show lcO _ _ n (FUEL - k) k acc st' = .bad
              rw [Nat.sub_eq_zero_of_le hk]
              rfl
            rw [bnd_bad z0] at p
            exact p.elim
          refine ⟨hk, ?_⟩
          cases z2 : st'[n]? with
          | none =>
            have z3 : k0 k acc st' = .bad := by
              show lcO _ _ n (FUEL - k) k acc st' = .bad
              obtain ⟨m, hm⟩ : ∃ m, FUEL - k = m + 1 := ⟨FUEL - k - 1, by omega⟩
              rw [hm]
              unfold lcO
              exact bnd_bad (by unfold getL; rw [z2])
            rw [bnd_bad z3] at p
            exact p.elim
          | some o =>
            cases o with
            | lst ds =>
              obtain ⟨a', ws, f1, f2, f3⟩ := sr'.lst z2
              rw [l.toLt0.get h1] at f1
              cases f1
              exact ⟨ws, f2⟩
            | ins _ _ | dic _ | nst _ =>
              have z3 : k0 k acc st' = .bad := by
                show lcO _ _ n (FUEL - k) k acc st' = .bad
                obtain ⟨m, hm⟩ : ∃ m, FUEL - k = m + 1 := ⟨FUEL - k - 1, by omega⟩
                rw [hm]
                unfold lcO
                exact bnd_bad (by unfold getL; rw [z2])
              rw [bnd_bad z3] at p
              exact p.elim
        have q1 : Post W (RD W.b) H1 r1 (bnd (k0 0 []) (fun ys => newO (.lst ys)) st1) Q := q1
        have hv0 : ∃ vs, H1 a = some (.lst vs) := by
          cases z2 : st1[n]? with
          | none =>
            have z3 : k0 0 [] st1 = .bad := by
              show lcO _ _ n (FUEL - 0) 0 [] st1 = .bad
              obtain ⟨m, hm⟩ : ∃ m, FUEL - 0 = m + 1 := ⟨FUEL - 0 - 1, by unfold FUEL; omega⟩
              rw [hm]
              unfold lcO
              exact bnd_bad (by unfold getL; rw [z2])
            rw [bnd_bad z3] at q1
            exact q1.elim
          | some o =>
            cases o with
            | lst ds =>
              obtain ⟨a', ws, f1, f2, f3⟩ := sr1.lst z2
              rw [h1] at f1
              cases f1
              exact ⟨ws, f2⟩
            | ins _ _ | dic _ | nst _ =>
              have z3 : k0 0 [] st1 = .bad := by
                show lcO _ _ n (FUEL - 0) 0 [] st1 = .bad
                obtain ⟨m, hm⟩ : ∃ m, FUEL - 0 = m + 1 := ⟨FUEL - 0 - 1, by unfold FUEL; omega⟩
                rw [hm]
                unfold lcO
                exact bnd_bad (by unfold getL; rw [z2])
              rw [bnd_bad z3] at q1
              exact q1.elim
        rw [hK]
        obtain ⟨vs0, hv0⟩ := hv0
        refine ⟨a, rfl, ⟨vs0, SqL.of hv0⟩, fun Dl hD => ⟨fun k m H => m = FUEL - k ∧ AtL W k0 Dl env s H1 r1 Q k H, ⟨_, rfl, AtL.start hD e1 sr1 q1⟩, ?_⟩⟩
        rintro k m H' ⟨rfl, h⟩
        obtain ⟨hk, vs, hvs⟩ := there h
        have look : ∀ {r' : List Addr} {st' : Store}, Lt H1 r1 H' r' → SR W.b H' r' st' → ∃ ds, st'[n]? = some (.lst ds) ∧ RDs W.b H' r' ds vs := fun {r' st'} l sr' => by
          have hr := l.toLt0.get h1
          have hn : n < st'.length := by rw [← sr'.len]; exact (List.getElem?_eq_some_iff.mp hr).1
          cases z2 : st'[n]? with
          | none => rw [List.getElem?_eq_getElem hn] at z2; cases z2
          | some o =>
            cases o with
            | ins c fs =>
              obtain ⟨a', C, dx, gs, f1, f2, f3⟩ := sr'.ins z2
              rw [hr] at f1
              cases f1
              rw [hvs] at f2
              cases f2
            | nst ks =>
              obtain ⟨a', L, f1, f2, f3⟩ := sr'.nst z2
              rw [hr] at f1
              cases f1
              have f2 := f2.1
              rw [hvs] at f2
              injection f2 with f2
              exact nomatch (show HO.lst vs = HO.ext _ from f2)
            | dic ks =>
              obtain ⟨a', us, f1, f2, f3⟩ := sr'.dic z2
              rw [hr] at f1
              cases f1
              rw [hvs] at f2
              cases f2
            | lst ds =>
              obtain ⟨a', ws, f1, f2, f3⟩ := sr'.lst z2
              rw [hr] at f1
              cases f1
              rw [hvs] at f2
              cases f2
              exact ⟨ds, rfl, f3⟩
        obtain ⟨m, hm⟩ : ∃ m, FUEL - k = m + 1 := ⟨FUEL - k - 1, by omega⟩
        have hm2 : FUEL - (k + 1) = m := by omega
        obtain ⟨r', st', acc, ws, l, e', sr', np, hw, q', p⟩ := id h
        obtain ⟨ds, hd, rd⟩ := look l sr'
        have gl : getL n st' = .ok ds st' := by
          unfold getL
          rw [hd]
        by_cases hl : k < vs.length
        · refine .inr ⟨⟨vs, vs[k], SqL.of hvs, List.getElem?_eq_getElem hl⟩, AtL W k0 Dl env s H1 r1 Q (k + 1), fun H2 q2 => ⟨FUEL - (k + 1), by omega, rfl, q2⟩, fun v H2 y => ?_⟩
          obtain ⟨rfl, y⟩ := y
          obtain ⟨d, hdk, rdk⟩ := rd.getV (y vs (SqL.of hvs))
          refine AtL.turn (d := d) hD l e' sr' np hw q' p rdk ?_
          show lcO _ _ n (FUEL - k) k acc st' = bnd _ (fun (c : Bool) => if c then bnd _ fun y => chk _ (lcO _ _ n (FUEL - (k + 1)) (k + 1) _) else lcO _ _ n (FUEL - (k + 1)) (k + 1) acc) st'
          rw [hm, hm2]
          conv => lhs; unfold lcO
          rw [bnd_ok gl, hdk]
        · refine .inl ⟨⟨vs, SqL.of hvs, Nat.le_of_not_lt hl⟩, AtL.finX hD l sr' np hw q' p ?_⟩
          show lcO _ _ n (FUEL - k) k acc st' = .ok acc st'
          rw [hm]
          unfold lcO
          rw [bnd_ok gl, List.getElem?_eq_none_iff.mpr (by rw [rd.length]; omega)]
          rfl
    | _ => exact q.elim
/-- .. over a range -/
theorem lc_rng {mas : Env → M (List D)} (h : tV W (fun env => bnd (mas env) fun ds => bnd (rangeOf ds) fun xs => bnd (lcI (fun y => mt (env.set i (some y))) (fun y => ml (env.set i (some y))) [] xs) fun ys => newO (.lst ys)) s H Q) {R : List V → Hp → Prop}
    (k : ∀ H' r' ds xs vs env st, (∃ env st st', mas env st = .ok ds st') → SR W.b H' r' st → ER W H' r' env s → RDs W.b H' r' ds vs → rangeOf ds st = .ok xs st → Post W (RD W.b) H' r' (bnd (lcI (fun y => mt (env.set i (some y))) (fun y => ml (env.set i (some y))) [] xs) (fun ys => newO (.lst ys)) st) Q → R vs H') : tA W mas s H R := by
  obtain ⟨r, env, st, _, e, sr, _, q⟩ := h
  refine ⟨r, env, st, (), e, sr, True.intro, ?_⟩
  show Post W (RDs W.b) H r (mas env st) R
  dsimp only at q
  cases z : mas env st with
  | ex x st1 => rw [bnd_ex z] at q; exact q
  | bad => rw [bnd_bad z] at q; exact q
  | ok ds st1 =>
    rw [bnd_ok z] at q
    intro H' r' vs l sr' rd
    cases z2 : rangeOf ds st1 with
    | ex x st2 =>
      exfalso
      unfold rangeOf at z2
      split at z2 <;> first | (unfold chk ret at z2; split at z2 <;> cases z2) | cases z2
    | bad => rw [bnd_bad z2] at q; exact q.elim
    | ok xs st2 =>
      have est : st2 = st1 := by
        unfold rangeOf at z2
        split at z2 <;> first | (unfold chk ret at z2; split at z2 <;> first | (cases z2; rfl) | cases z2) | cases z2
      subst est
      rw [bnd_ok z2] at q
      exact k H' r' ds xs vs env st2 ⟨_, _, _, z⟩ sr' (e.mono l) rd z2 (q.lt l)
theorem itr_go {lo : Int} {n : Nat} : ∀ k (r : List Addr) (H : Hp), k < n → (Itr lo n).go k H ∧ ∀ v H', (Itr lo n).yld k H v H' → H' = H ∧ ∃ d, (rangeD lo n)[k]? = some d ∧ RD W.b H r d v := fun k r H hk =>
  ⟨hk, fun v H' y => by
    obtain ⟨rfl, rfl⟩ := y
    exact ⟨rfl, _, rangeD_get hk, .int _⟩⟩
theorem lc_r1 {a : Expr} {pp pos' : Pos} {mas : Env → M (List D)} (hgl : Gl X "range") (hm : X.mg "range" = none) (ha : PA X [a] (tA W mas)) (hn : ∀ env st ds st', mas env st = .ok ds st' → ds.length = 1) (hs1 : starEach [a] X.env = [(false, eval a X.env)])
    (h : tV W (fun env => bnd (mas env) fun ds => bnd (rangeOf ds) fun xs => bnd (lcI (fun y => mt (env.set i (some y))) (fun y => ml (env.set i (some y))) [] xs) fun ys => newO (.lst ys)) s H Q) :
    ∃ wi, PI X tg (.Call (.Name "range" pp) [a] [] pos') wi ∧ tLc wi (gName i) (tT W mt) (tV W ml) [i] s H Q := by
  refine ⟨_, pi_range1 hgl hm ha hs1, lc_rng h fun H1 r1 ds xs vs env st hz sr e rd hr q => ?_⟩
  obtain ⟨_, _, _, hz⟩ := hz
  obtain ⟨v, rfl⟩ := one_of rd (hn _ _ _ _ hz)
  obtain ⟨j, rfl, hj, rfl⟩ := range1_inv rd hr
  exact ⟨j, rfl, hj.1, hj.2, lc_row j.toNat (Itr 0 j.toNat) (rangeD_len _ _) e sr q (fun k r' H' _ hk => itr_go k r' H' hk) fun _ _ _ => Nat.le_refl _⟩
theorem lc_r2 {a b : Expr} {pp pos' : Pos} {mas : Env → M (List D)} (hgl : Gl X "range") (hm : X.mg "range" = none) (ha : PA X [a, b] (tA W mas)) (hn : ∀ env st ds st', mas env st = .ok ds st' → ds.length = 2)
    (hs1 : starEach [a, b] X.env = [(false, eval a X.env), (false, eval b X.env)]) (hs2 : starEach [b] X.env = [(false, eval b X.env)])
    (h : tV W (fun env => bnd (mas env) fun ds => bnd (rangeOf ds) fun xs => bnd (lcI (fun y => mt (env.set i (some y))) (fun y => ml (env.set i (some y))) [] xs) fun ys => newO (.lst ys)) s H Q) :
    ∃ wi, PI X tg (.Call (.Name "range" pp) [a, b] [] pos') wi ∧ tLc wi (gName i) (tT W mt) (tV W ml) [i] s H Q := by
  refine ⟨_, pi_range2 hgl hm ha hs1 hs2, lc_rng h fun H1 r1 ds xs vs env st hz sr e rd hr q => ?_⟩
  obtain ⟨_, _, _, hz⟩ := hz
  obtain ⟨v, u, rfl⟩ := two_of rd (hn _ _ _ _ hz)
  obtain ⟨i', j, rfl, rfl, hi, hj, rfl⟩ := range2_inv rd hr
  exact ⟨i', j, rfl, ⟨hi.1, hi.2, hj.1, hj.2⟩, lc_row (j - i').toNat (Itr i' (j - i').toNat) (rangeD_len _ _) e sr q (fun k r' H' _ hk => itr_go k r' H' hk) fun _ _ _ => Nat.le_refl _⟩
/-- a comprehension, by what it walks -/
def LcW (W : Wd) (X : Cx) (tg iter : Expr) (i : Nat) (mt : Env → M Bool) (ml mlc : Env → M D) : Prop := ∀ s H Q, tV W mlc s H Q → ∃ wi, PI X tg iter wi ∧ tLc wi (gName i) (tT W mt) (tV W ml) [i] s H Q
theorem pe_lcW {mlc : Env → M D} (hc : X.calm = true) (hN : X.N.Nodup) (ok : LcOk W X tg elt ifs scope x i ml mt) (hs : ∀ y, foldedSetIterable iter X.env y = pure y) (w : LcW W X tg iter i mt ml mlc) : PE X (.ListComp elt [⟨tg, iter, ifs, 0⟩] scope pos) (tV W mlc) :=
  ⟨fun pins S s H Q I h => by
    obtain ⟨wi, hi, h⟩ := w s H Q h
    exact (pe_lc (own := [(x, i)]) hc hN hi ok.blk ok.tgt ok.tst ok.elm hs).run pins S s H Q I h⟩
theorem ps_lcW {mlc : Env → M D} {y : Str} {py spos : Pos} {j : Nat} (hc : X.calm = true) (hN : X.N.Nodup) (ok : LcOk W X tg elt ifs scope x i ml mt) (hs : ∀ y, foldedSetIterable iter X.env y = pure y) (w : LcW W X tg iter i mt ml mlc)
    (hy : X.N[j]? = some y) (hyl : X.env.scope.names.lookup y = some .local) (hsw : swapsWith (.ListComp elt [⟨tg, iter, ifs, 0⟩] scope pos) (some (.Name y py)) spos.line X.env = pure true) :
    PS X (.Assign [.Name y py] (.ListComp elt [⟨tg, iter, ifs, 0⟩] scope pos) spos) (tS W fun env => bnd (mlc env) fun d => bnd (put (fun _ _ => bad) (.nm j) d env) fun env' => ret (.next env')) :=
  ⟨fun pins S s H N I h => by
    have h1 : tV W mlc s H fun x H1 => gName j x s H1 N.nx := gmono (s_asg h) fun x H1 q => g_nm q
    obtain ⟨wi, hi, h2⟩ := w s H _ h1
    exact (ps_setLc (own := [(x, i)]) hc hN hy hyl hsw hi ok.blk ok.tgt ok.tst ok.elm hs).run pins S s H N I h2⟩
end
end
end Li
namespace Li
open PySem PySem.Spec PyProof.Rows L2
section
variable {W : Wd}
theorem RDs.rev {ds : List D} {vs : List V} (h : RDs W.b H r ds vs) : RDs W.b H r ds.reverse vs.reverse := by
  induction ds generalizing vs with
  | nil => cases h; exact .nil
  | cons d ds ih =>
    cases h with
    | cons h1 h2 =>
      rw [List.reverse_cons, List.reverse_cons]
      exact (ih h2).app (.cons h1 .nil)
theorem ok_extend : OpM W rExtend (meth .extend) := by
  intro H r st a as x xs Q s ha hs h
  cases ha with
  | ob h1 =>
    cases hs with
    | nil => exact h.elim
    | cons h2 h3 =>
      cases h3 with
      | cons h4 h5 => cases h2 <;> exact h.elim
      | nil =>
        cases h2 with
        | ob h6 =>
          obtain ⟨ds, e, h⟩ := Post.getL h
          obtain ⟨es, e', h⟩ := Post.getL h
          obtain ⟨hc, h⟩ := Post.chk h
          obtain ⟨hn, h⟩ := Post.setO h
          obtain ⟨p, vs, e1, e2, q⟩ := s.lst e
          obtain ⟨p', vs', f1, f2, q'⟩ := s.lst e'
          rw [h1] at e1
          cases e1
          rw [h6] at f1
          cases f1
          exact ⟨_, _, vs, vs', rfl, rfl, e2, f2, by rw [← q.length, ← q'.length, ← line_eq]; exact hc, h.setL s h1 e2 (q.app q') fun _ _ _ => .non⟩
        | _ => exact h.elim
  | _ => cases hs <;> exact h.elim
theorem ok_reverse : OpM W rReverse (meth .reverse) := by
  intro H r st a as x xs Q s ha hs h
  cases ha with
  | ob h1 =>
    cases hs with
    | nil =>
      obtain ⟨ds, e, h⟩ := Post.getL h
      obtain ⟨hn, h⟩ := Post.setO h
      obtain ⟨p, vs, e1, e2, q⟩ := s.lst e
      rw [h1] at e1
      cases e1
      exact ⟨_, vs, rfl, rfl, e2, h.setL s h1 e2 q.rev fun _ _ _ => .non⟩
    | cons h2 h3 => exact h.elim
  | _ => cases hs <;> exact h.elim
theorem ok_clear : OpM W rClear (meth .clear) := by
  intro H r st a as x xs Q s ha hs h
  cases ha with
  | ob h1 =>
    cases hs with
    | nil =>
      obtain ⟨ds, e, h⟩ := Post.getL h
      obtain ⟨hn, h⟩ := Post.setO h
      obtain ⟨p, vs, e1, e2, q⟩ := s.lst e
      rw [h1] at e1
      cases e1
      exact ⟨_, vs, rfl, rfl, e2, h.setL s h1 e2 .nil fun _ _ _ => .non⟩
    | cons h2 h3 => exact h.elim
  | _ => cases hs <;> exact h.elim
def rInsert : V → List V → Hp → VK → Prop := fun x vs H Q => ∃ (l : Addr) (xs : List V) (i : Int) (y : V), x = .ref l ∧ vs = [.int i, y] ∧ H l = some (.lst xs) ∧ xs.length < sizeLine ∧ 0 ≤ i ∧ i < 2 ^ 63 ∧ Q .non (upd H l (.lst (xs.take i.toNat ++ [y] ++ xs.drop i.toNat)))
theorem ok_insert : OpM W rInsert (meth .insert) := by
  intro H r st a as x xs Q s ha hs h
  cases ha with
  | ob h1 =>
    cases hs with
    | nil => exact h.elim
    | cons h2 h3 =>
      cases h3 with
      | nil => cases h2 <;> exact h.elim
      | cons h4 h5 =>
        cases h5 with
        | cons _ _ => cases h2 <;> exact h.elim
        | nil =>
          cases h2 with
          | int i =>
            obtain ⟨hb, h⟩ := Post.chk h
            obtain ⟨ds, e, h⟩ := Post.getL h
            obtain ⟨hc, h⟩ := Post.chk h
            obtain ⟨hn, h⟩ := Post.setO h
            obtain ⟨p, vs, e1, e2, q⟩ := s.lst e
            rw [h1] at e1
            cases e1
            obtain ⟨hb1, hb2⟩ := hb
            unfold inBig BIG at hb2
            exact ⟨_, vs, i, _, rfl, rfl, e2, by rw [← q.length, ← line_eq]; exact hc, hb1, by omega, h.setL s h1 e2 (((q.take _).app (.cons h4 .nil)).app (q.drop _)) fun _ _ _ => .non⟩
          | _ => exact h.elim
  | _ => cases hs <;> exact h.elim
theorem okC_ok {t : S} (h : okC t = true) : t.length ≤ LINE ∧ ∀ c ∈ t, c < 0x110000 := by
  unfold okC at h
  simp only [Bool.and_eq_true, decide_eq_true_eq, List.all_eq_true] at h
  exact h
theorem rd_str (H : Hp) (r : List Addr) (z : Str) (h : okC z.cps.toList = true) : RD W.b H r (.str z.cps.toList) (.str z) := by
  obtain ⟨h1, h2⟩ := okC_ok h
  have := RD.str (W := W.b) (H := H) (r := r) z.cps.toList h1 h2
  exact this
theorem rds_strs (H : Hp) (r : List Addr) : ∀ (zs : List Str), ((zs.map fun z => z.cps.toList).all okC) = true → RDs W.b H r ((zs.map fun z => z.cps.toList).map .str) (zs.map V.str)
  | [], _ => .nil
  | z :: zs, h => by
    rw [List.map_cons, List.all_cons, Bool.and_eq_true] at h
    exact .cons (rd_str H r z h.1) (rds_strs H r zs h.2)
def rSplit2 : V → List V → Hp → VK → Prop := fun x xs H Q => (∃ a b, x = .str a ∧ xs = [.str b] ∧ (b.length == 0) = false ∧ a.length + 2 ≤ sizeLine ∧ rNewStrs (Txt.split a b) H Q) ∨ (∃ a, x = .str a ∧ xs = [] ∧ a.length + 2 ≤ sizeLine ∧ rNewStrs (Txt.words a) H Q)
theorem ok_split : OpM W rSplit2 (meth .split) := by
  intro H r st a as x xs Q s ha hs h
  cases ha with
  | str u g1 g2 =>
    cases hs with
    | nil =>
      obtain ⟨⟨hc, hk⟩, h⟩ := Post.chk h
      exact .inr ⟨_, rfl, rfl, by rw [str_len, ← line_eq]; exact hc, fun p hp => h.newL s hp (rds_strs H r _ hk)⟩
    | cons h2 h3 =>
      cases h3 with
      | cons _ _ => cases h2 <;> exact h.elim
      | nil =>
        cases h2 with
        | str t g3 g4 =>
          obtain ⟨⟨hn, hc, hk⟩, h⟩ := Post.chk h
          exact .inl ⟨_, _, rfl, rfl, by rw [str_len]; cases t with
            | nil => exact absurd rfl hn
            | cons _ _ => rfl, by rw [str_len, ← line_eq]; exact hc, fun p hp => h.newL s hp (rds_strs H r _ hk)⟩
        | _ => exact h.elim
  | _ => cases hs <;> exact h.elim
theorem strsOf_ok {H : Hp} {r : List Addr} : ∀ {ds : List D} {ys : List S} {vs : List V}, strsOf ds = some ys → RDs W.b H r ds vs → vs = (ys.map mkS).map V.str ∧ ∀ y ∈ ys, ∀ c ∈ y, c < 0x110000
  | [], ys, vs, h, q => by
    cases h
    cases q
    exact ⟨rfl, fun y hy => by simp at hy⟩
  | d :: ds, ys, vs, h, q => by
    cases q with
    | cons q1 q2 =>
      cases q1 with
      | str t g1 g2 =>
        unfold strsOf at h
        obtain ⟨zs, hz, rfl⟩ := Option.map_eq_some_iff.mp h
        obtain ⟨k1, k2⟩ := strsOf_ok hz q2
        subst k1
        exact ⟨rfl, fun y hy => (List.mem_cons.mp hy).elim (fun e => e ▸ g2) fun e => k2 y e⟩
      | _ => cases h
theorem joinS_eq (s : S) : ∀ ys : List S, joinS s ys = TL.joinL s ys
  | [] => rfl
  | [_] => rfl
  | p :: q :: r => by
    unfold joinS TL.joinL
    rw [joinS_eq s (q :: r)]
theorem tl_mkS (s : S) : TL.tl (mkS s) = s := rfl
theorem join_eqS (s : S) (ys : List S) : Txt.join (mkS s) (ys.map mkS) = mkS (joinS s ys) := by
  refine TL.ext_tl ?_
  rw [TL.join_eq, TL.tl_join, tl_mkS, tl_mkS, joinS_eq, List.map_map]
  congr 1
  exact (List.map_congr_left fun y _ => rfl).trans (List.map_id _)
theorem joinS_mem {s : S} {c : Nat} : ∀ {ys : List S}, c ∈ joinS s ys → c ∈ s ∨ ∃ y ∈ ys, c ∈ y
  | [], h => by cases h
  | [p], h => .inr ⟨p, List.mem_singleton.mpr rfl, h⟩
  | p :: q :: r, h => by
    unfold joinS at h
    rcases List.mem_append.mp h with h | h
    · exact .inr ⟨p, List.mem_cons_self .., h⟩
    · rcases List.mem_append.mp h with h | h
      · exact .inl h
      · rcases joinS_mem h with h | ⟨y, hy, h⟩
        · exact .inl h
        · exact .inr ⟨y, List.mem_cons_of_mem _ hy, h⟩
theorem joinS_len {s : S} : ∀ {ys : List S}, (joinS s ys).length ≤ (ys.map (·.length)).sum + ys.length * s.length
  | [] => by simp [joinS]
  | [p] => by simp [joinS]
  | p :: q :: r => by
    have := joinS_len (s := s) (ys := q :: r)
    unfold joinS
    simp only [List.length_append, List.map_cons, List.sum_cons, List.length_cons] at this ⊢
    have e : (r.length + 1 + 1) * s.length = (r.length + 1) * s.length + s.length := by rw [Nat.add_mul (r.length + 1) 1, Nat.one_mul]
    omega
def rJoin2 (K : PySem.W.Frag) : V → List V → Hp → VK → Prop := fun x xs H Q => ∃ a p, ∃ ys : List Str, x = .str a ∧ xs = [.ref p] ∧ (SqL K H p (ys.map V.str) ∨ SqT K H p (ys.map V.str)) ∧ (ys.map (·.length)).sum + ys.length * a.length ≤ 16777216 ∧ Q (.str (Txt.join a ys)) H
theorem ok_join : OpM W (rJoin2 W.b.K) (meth .join) := by
  intro H r st a as x xs Q s ha hs h
  cases ha with
  | str u g1 g2 =>
    cases hs with
    | nil => exact h.elim
    | cons h2 h3 =>
      cases h3 with
      | cons _ _ => exact h.elim
      | nil =>
        have h : Post W (RD W.b) H r (bnd (rowOf _) (fun xs => bnd (ofO (strsOf xs)) fun ys => chk ((ys.map (·.length)).sum + ys.length * u.length ≤ LINE) (ret (.str (joinS u ys)))) st) Q := h
        obtain ⟨p, vs, ds, rfl, q, k, h⟩ := row_of s h2 h
        obtain ⟨ys, e, h⟩ := Post.ofO h
        obtain ⟨hc, h⟩ := Post.chk h
        obtain ⟨k1, k2⟩ := strsOf_ok e q
        subst k1
        refine ⟨mkS u, p, ys.map mkS, rfl, rfl, k.elim (fun z => .inr z.1) (fun z => .inl z.1), ?_, ?_⟩
        · rw [List.map_map, List.length_map]
          have e1 : (ys.map ((fun x : Str => x.length) ∘ mkS)) = ys.map (·.length) := List.map_congr_left fun y _ => str_len y
          rw [show (mkS u).length = u.length from str_len u]
          have e1 : (ys.map ((·.length) ∘ mkS)).sum = (ys.map (·.length)).sum := congrArg List.sum e1
          rw [e1]
          exact hc
        · rw [join_eqS]
          refine h.ret s (.str _ (Nat.le_trans joinS_len hc) fun c hm => ?_)
          rcases joinS_mem hm with z | ⟨y, hy, z⟩
          · exact g2 c z
          · exact k2 y hy c z
  | _ => cases hs <;> exact h.elim
theorem ok_index : OpM W (fun x xs H Q => ∃ a b i rest, x = .str a ∧ xs = [.str b] ∧ Builtin.Str.occurrences a b 0 a.length 1 = i :: rest ∧ Q (.int (i : Nat)) H) (meth .index) := by
  intro H r st a as x xs Q s ha hs h
  cases ha with
  | str u g1 g2 =>
    cases hs with
    | nil => exact h.elim
    | cons h2 h3 =>
      cases h3 with
      | cons _ _ => cases h2 <;> exact h.elim
      | nil =>
        cases h2 with
        | str t _ _ =>
          obtain ⟨i, ei, h⟩ := Post.ofO h
          have ei : (Builtin.Str.occurrences (mkS u) (mkS t) 0 (mkS u).length 1).head? = some i := ei
          cases eo : Builtin.Str.occurrences (mkS u) (mkS t) 0 (mkS u).length 1 with
          | nil => rw [eo] at ei; cases ei
          | cons j rest =>
            rw [eo] at ei
            cases ei
            exact ⟨_, _, i, rest, rfl, rfl, eo, h.ret s (.int _)⟩
        | _ => exact h.elim
  | _ => cases hs <;> exact h.elim
theorem ok_m0 {m : Mt} {C : Str → Prop} {f : Str → V} (hm : ∀ (s : S) H r st (Q : VK), SR W.b H r st → Post W (RD W.b) H r (meth m (.str s) [] st) Q → C (mkS s) ∧ Q (f (mkS s)) H)
    (hn : ∀ s d ds st, meth m (.str s) (d :: ds) st = .bad) (ho : ∀ d ds st, (∀ s, d ≠ .str s) → meth m d ds st = .bad) : OpM W (fun x xs H Q => ∃ a, x = .str a ∧ xs = [] ∧ C a ∧ Q (f a) H) (meth m) := by
  intro H r st a as x xs Q s ha hs h
  cases ha with
  | str u g1 g2 =>
    cases hs with
    | nil =>
      obtain ⟨h1, h2⟩ := hm u H r st Q s h
      exact ⟨_, rfl, rfl, h1, h2⟩
    | cons _ _ => rw [hn] at h; exact h.elim
  | _ => rw [ho _ _ _ (fun s z => by cases z)] at h; exact h.elim
theorem ok_m1 {m : Mt} {f : Str → Str → V} (hm : ∀ (s t : S) H r st (Q : VK), SR W.b H r st → Post W (RD W.b) H r (meth m (.str s) [.str t] st) Q → Q (f (mkS s) (mkS t)) H)
    (hn : ∀ s ds st, (∀ t, ds ≠ [.str t]) → meth m (.str s) ds st = .bad) (ho : ∀ d ds st, (∀ s, d ≠ .str s) → meth m d ds st = .bad) : OpM W (fun x xs H Q => ∃ a b, x = .str a ∧ xs = [.str b] ∧ Q (f a b) H) (meth m) := by
  intro H r st a as x xs Q s ha hs h
  cases ha with
  | str u g1 g2 =>
    cases hs with
    | nil => rw [hn _ _ _ (fun t z => by cases z)] at h; exact h.elim
    | cons h2 h3 =>
      cases h3 with
      | cons _ _ => rw [hn _ _ _ (fun t z => by cases z)] at h; exact h.elim
      | nil =>
        cases h2 with
        | str t _ _ => exact ⟨_, _, rfl, rfl, hm u t H r st Q s h⟩
        | _ => rw [hn _ _ _ (fun t z => by cases z)] at h; exact h.elim
  | _ => rw [ho _ _ _ (fun s z => by cases z)] at h; exact h.elim
theorem chg_ok {f : Str → Str} {s : S} {H : Hp} {r : List Addr} {st : Store} {Q : VK} (hs : SR W.b H r st) (h : Post W (RD W.b) H r (chg f s st) Q) : (mkS s).length ≤ 5000000 ∧ Q (.str (f (mkS s))) H := by
  obtain ⟨⟨h1, h2⟩, h⟩ := Post.chk h
  exact ⟨by rw [show (mkS s).length = s.length from str_len s]; exact h1, h.ret hs (rd_str H r _ h2)⟩
theorem mt_popN {X : Cx} : MtM X "list.pop" (fun x vs H Q => (vs = [] ∧ rPop x vs H Q) ∨ ∃ v, vs = [v] ∧ rPopAt x vs H Q) := by
  intro pins s σ H x vs v us Q I rx rv h
  rcases h with ⟨rfl, h⟩ | ⟨y, rfl, h⟩
  · exact mt_pop pins s σ H x _ v us Q I rx rv h
  · exact mt_popAt pins s σ H x _ v us Q I rx rv h
theorem MtR.imp {X : Cx} {id : String} {q q' : V → List V → Hp → VK → Prop} (h : MtR X id q') (i : ∀ x xs H Q, q x xs H Q → q' x xs H Q) : MtR X id q := fun pins s σ H x xs v us Q I rx rv k => h pins s σ H x xs v us Q I rx rv (i _ _ _ _ k)
end
def mtNm : Mt → Str
  | .append => "append" | .pop => "pop" | .extend => "extend" | .reverse => "reverse" | .insert => "insert" | .clear => "clear" | .split => "split" | .join => "join"
  | .startswith => "startswith" | .endswith => "endswith" | .find => "find" | .isdigit => "isdigit" | .upper => "upper" | .lower => "lower" | .strip => "strip" | .index => "index"
def mtAll : List Mt := [.append, .pop, .extend, .reverse, .insert, .clear, .split, .join, .startswith, .endswith, .find, .isdigit, .upper, .lower, .strip, .index]
def mtOf (x : Str) : Option Mt := mtAll.find? fun m => decide (mtNm m = x)
theorem mtOf_ok {x : Str} {m : Mt} (h : mtOf x = some m) : x = mtNm m := by
  unfold mtOf at h
  have := List.find?_some (p := fun m => decide (mtNm m = x)) h
  exact (of_decide_eq_true this).symm
theorem mt_plain (m : Mt) : PlainAttrs (mtTy m) := by
  unfold mtTy
  split
  · exact PySem.F.plainAttrs_str
  · exact PySem.F.plainAttrs_list
theorem mt_fact {W : Wd} {X : Cx} (hK : X.K = W.b.K) (m : Mt) : ∃ id q, Slot (mtTy m) (mtNm m) id ∧ typeOf (.builtin id) = pure (.type "method_descriptor") ∧ MtR X id q ∧ OpM W q (meth m) := by
  cases m with
  | append => exact ⟨_, _, PySem.F.slot_list_append, PySem.F.type_list_append, mt_append, ok_append⟩
  | pop => exact ⟨_, _, PySem.F.slot_list_pop, PySem.F.type_list_pop, mt_popN, ok_popN⟩
  | extend => exact ⟨_, _, PySem.F.slot_list_extend, PySem.F.type_list_extend, mt_extend, ok_extend⟩
  | reverse => exact ⟨_, _, PySem.F.slot_list_reverse, PySem.F.type_list_reverse, mt_reverse, ok_reverse⟩
  | insert => exact ⟨_, _, PySem.F.slot_list_insert, PySem.F.type_list_insert, mt_insert, ok_insert⟩
  | clear => exact ⟨_, _, PySem.F.slot_list_clear, PySem.F.type_list_clear, mt_clear, ok_clear⟩
  | split => exact ⟨_, _, PySem.F.slot_str_split, PySem.F.type_str_split, MtR.or mt_split mt_words, ok_split⟩
  | join => exact ⟨_, _, PySem.F.slot_str_join, PySem.F.type_str_join, hK ▸ mt_join, ok_join⟩
  | startswith => exact ⟨_, _, PySem.F.slot_str_startswith, PySem.F.type_str_startswith, mt_startswith, ok_m1 (f := fun a b => .bl (Txt.startswith a b)) (fun s t H r st Q hs h => h.ret hs (.bl _)) (fun s ds st h => by rcases ds with _ | ⟨d, _ | ⟨e, ds⟩⟩ <;> (try cases d) <;> first | rfl | exact absurd rfl (h _)) fun d ds st h => by cases d <;> first | rfl | exact absurd rfl (h _)⟩
  | endswith => exact ⟨_, _, PySem.F.slot_str_endswith, PySem.F.type_str_endswith, mt_endswith, ok_m1 (f := fun a b => .bl (Txt.endswith a b)) (fun s t H r st Q hs h => h.ret hs (.bl _)) (fun s ds st h => by rcases ds with _ | ⟨d, _ | ⟨e, ds⟩⟩ <;> (try cases d) <;> first | rfl | exact absurd rfl (h _)) fun d ds st h => by cases d <;> first | rfl | exact absurd rfl (h _)⟩
  | find => exact ⟨_, _, PySem.F.slot_str_find, PySem.F.type_str_find, mt_find, ok_m1 (f := fun a b => .int (Txt.find a b)) (fun s t H r st Q hs h => h.ret hs (.int _)) (fun s ds st h => by rcases ds with _ | ⟨d, _ | ⟨e, ds⟩⟩ <;> (try cases d) <;> first | rfl | exact absurd rfl (h _)) fun d ds st h => by cases d <;> first | rfl | exact absurd rfl (h _)⟩
  | isdigit => exact ⟨_, _, PySem.F.slot_str_isdigit, PySem.F.type_str_isdigit, mt_isdigit, ok_m0 (C := fun _ => True) (f := fun a => .bl (Txt.isdigit a)) (fun s H r st Q hs h => ⟨trivial, h.ret hs (.bl _)⟩) (fun _ _ _ _ => rfl) fun d ds st h => by cases d <;> first | rfl | exact absurd rfl (h _)⟩
  | upper => exact ⟨_, _, PySem.F.slot_str_upper, PySem.F.type_str_upper, MtR.imp mt_upper (fun x xs H Q ⟨a, e1, e2, e3, e4⟩ => ⟨a, e1, e2, by have e3 : a.length ≤ 5000000 := e3; omega, e4⟩), ok_m0 (C := fun a => a.length ≤ 5000000) (f := fun a => .str (Txt.upper a)) (fun s H r st Q hs h => chg_ok hs h) (fun _ _ _ _ => rfl) fun d ds st h => by cases d <;> first | rfl | exact absurd rfl (h _)⟩
  | lower => exact ⟨_, _, PySem.F.slot_str_lower, PySem.F.type_str_lower, MtR.imp mt_lower (fun x xs H Q ⟨a, e1, e2, e3, e4⟩ => ⟨a, e1, e2, by have e3 : a.length ≤ 5000000 := e3; omega, e4⟩), ok_m0 (C := fun a => a.length ≤ 5000000) (f := fun a => .str (Txt.lower a)) (fun s H r st Q hs h => chg_ok hs h) (fun _ _ _ _ => rfl) fun d ds st h => by cases d <;> first | rfl | exact absurd rfl (h _)⟩
  | index => exact ⟨_, _, PySem.F.slot_str_index, PySem.F.type_str_index, mt_sindex, ok_index⟩
  | strip => exact ⟨_, _, PySem.F.slot_str_strip, PySem.F.type_str_strip, MtR.imp mt_strip (fun x xs H Q ⟨a, e1, e2, e3, e4⟩ => ⟨a, e1, e2, by rw [← line_eq]; unfold LINE; have e3 : a.length ≤ 5000000 := e3; omega, e4⟩), ok_m0 (C := fun a => a.length ≤ 5000000) (f := fun a => .str (Txt.strip a)) (fun s H r st Q hs h => chg_ok hs h) (fun _ _ _ _ => rfl) fun d ds st h => by cases d <;> first | rfl | exact absurd rfl (h _)⟩
end Li
namespace Li
open PySem L2
section
variable {W : Wd} {X : Cx} {iter : Expr} {elts : List Expr} {kk : Nat} {body : List Stmt} {pos pp cp tp : Pos} {me : Env → M D} {p : D → Env → M Env} {b : Env → M Fl}
def AtE (W : Wd) (f : D → Env → M Fl) (n : Nat) (N : Ends) (a : Addr) (i m : Nat) (s : L2.St) (H : Hp) : Prop :=
  ∃ r env st, r[n]? = some a ∧ ER W H r env s ∧ SR W.b H r st ∧ PostS W H r (forE f n m i env st) N
/-- a loop over an enumerate of a tuple -/
theorem en_for {N : Ends} {H1 : Hp} {r1 : List Addr} {a : Addr} {vs : List V} {ds rows : List D} {f : Nat → Nat} {env : Env} {st1 : Store} {s : L2.St} (h1 : SqT W.b.K H1 a vs) (h2 : RDs W.b H1 r1 ds vs) (hl : rows.length = vs.length) (hf : ∀ i, i < vs.length → f i < vs.length)
    (hr : ∀ (i : Nat) (d : D), i < vs.length → ds[f i]? = some d → rows[i]? = some (.tup [.int ((i : Nat) : Int), d])) (e1 : ER W H1 r1 env s) (sr1 : SR W.b H1 r1 st1) (q1 : PostS W H1 r1 (forI (fun y env => bnd (p y env) b) rows env st1) N) :
    ∃ Z : Nat → Nat → L2.St → Hp → Prop, (∃ m, Z 0 m s H1) ∧ ∀ i m s' H', Z i m s' H' → ((ItEn W.b.K a vs.length f).stop i H' ∧ N.nx s' H') ∨
      ((ItEn W.b.K a vs.length f).go i H' ∧ ∃ N' : L2.St → Hp → Prop, (∀ s2 H2, N' s2 H2 → ∃ m', m' < m ∧ Z (i + 1) m' s2 H2) ∧ ∀ x H2, (ItEn W.b.K a vs.length f).yld i H' x H2 → tG W p x s' H2 fun s2 H2 => tS W b { N with nx := N', ct := N', bk := N.nx } s2 H2) := by
  refine ⟨fun i m s' H' => m = rows.length - i ∧ i ≤ rows.length ∧ AtI W (fun y env => bnd (p y env) b) rows N H1 r1 i s' H', ⟨_, rfl, Nat.zero_le _, r1, env, st1, Lt.refl _ _, e1, sr1, q1⟩, ?_⟩
  rintro i m s' H' ⟨rfl, hi, q2⟩
  have hq : SqT W.b.K H' a vs := by
    obtain ⟨r', _, _, l', _⟩ := q2
    exact l'.sqT h1
  by_cases hlt : i < rows.length
  · have hfi := hf i (by omega)
    obtain ⟨x0, hx0⟩ : ∃ x0, vs[f i]? = some x0 := ⟨_, List.getElem?_eq_getElem hfi⟩
    refine .inr ⟨⟨by omega, vs, x0, hq, rfl, hx0⟩, AtI W (fun y env => bnd (p y env) b) rows N H1 r1 (i + 1), fun s2 H2 q3 => ⟨rows.length - (i + 1), by omega, rfl, hlt, q3⟩, fun x H2 y => ?_⟩
    obtain ⟨T, x1, rfl, hT, rfl, hx1⟩ := y
    have ex := hx1 vs hq
    obtain ⟨d, hd, rd⟩ := h2.getV ex
    obtain ⟨r', env', st', l', e', sr', q'⟩ := q2
    have q2 : AtI W (fun y env => bnd (p y env) b) rows N H1 r1 i s' (upd H' T (.tup [.int (i : Nat), x1])) := ⟨r', env', st', l'.trans (Lt.new hT), e'.mono (Lt.new hT), sr'.new hT, q'.lt (Lt.new hT)⟩
    refine q2.turn (hr i d (by omega) hd) fun r'' l'' => ?_
    exact .tup (SqT.of upd_same) (.cons (.int _) (.cons (rd.mono l'') .nil))
  · have ei : i = rows.length := by omega
    subst ei
    exact .inl ⟨⟨hl, vs, hq, rfl⟩, q2.done⟩
theorem ps_forEnum (hK : X.K = W.b.K) (hp : PassesOwn (model X.prog X.w) X.A X.env X.xe) (hc : X.calm = true) (hgl : Gl X "enumerate") (hm : X.mg "enumerate" = none) (he : PE X iter (tV W me))
    (hs1 : starEach [iter] X.env = [(false, eval iter X.env)]) (hg : PG X (.Tuple elts kk tp) (tG W p)) (hb : PSs X body (tS W b)) :
    PS X (.For (.Tuple elts kk tp) (.Call (.Name "enumerate" pp) [iter] [] cp) body [] pos) (tS W fun env => bnd (me env) fun d => enuRun (fun y env => bnd (p y env) b) d env) := by
  refine ⟨fun pins S s H N I h => ?_⟩
  obtain ⟨r, env, st, e, sr, q⟩ := id h
  dsimp only at q
  have hpa : PA X [iter] (tCons (tV W me) tNil) := pa_cons he pa_nil (by rw [hs1]; rfl)
  have hps := ps_for (body := body) (tb := tS W b) (pos := pos) (wi := iEnA X.K (tCons (tV W me) tNil)) hp hc (pi_enA (p := pp) (pos := cp) (tpos := tp) (elts := elts) (kk := kk) hgl hm hpa hs1) hg hb fun _ => rfl
  cases z : me env st with
  | ex x st1 =>
    rw [bnd_ex z] at q
    exact hps.run pins S s H N I (show tV W me s H _ from ⟨r, env, st, (), e, sr, True.intro, by
      show Post W (RD W.b) H r (me env st) _
      rw [z]
      exact q⟩)
  | bad => rw [bnd_bad z] at q; exact q.elim
  | ok d st1 =>
    rw [bnd_ok z] at q
    have go : ∀ {R : V → Hp → Prop}, (∀ H' r' v, Lt H r H' r' → SR W.b H' r' st1 → RD W.b H' r' d v → ER W H' r' env s → PostS W H' r' (enuRun (fun y env => bnd (p y env) b) d env st1) N → R v H') → tV W me s H R := fun {R} k =>
      ⟨r, env, st, (), e, sr, True.intro, by
        show Post W (RD W.b) H r (me env st) R
        rw [z]
        exact fun H' r' v l s' rd => k H' r' v l s' rd (e.mono l) (q.lt l)⟩
    cases d with
    | ro xs =>
      refine hps.run pins S s H N I (go fun H1 r1 v l sr1 rd e1 q1 => ?_)
      cases rd with
      | @ro a vs _ h1 h2 =>
        rw [hK]
        refine ⟨a, vs, rfl, .inl ⟨h1.l, fun i m s' H' => m = xs.length - i ∧ i ≤ xs.length ∧ AtI W (fun y env => bnd (p y env) b) (enuL 0 xs) N H1 r1 i s' H', ⟨_, rfl, Nat.zero_le _, r1, env, st1, Lt.refl _ _, e1, sr1, q1⟩, ?_⟩⟩
        rintro i m s' H' ⟨rfl, hi, q2⟩
        have hl' : SqL W.b.K H' a vs := by
          obtain ⟨r', _, _, l', _⟩ := q2
          exact (l'.sqF h1).l
        by_cases hlt : i < xs.length
        · obtain ⟨x0, hx0⟩ : ∃ x0, vs[i]? = some x0 := ⟨_, List.getElem?_eq_getElem (by rw [← h2.length]; exact hlt)⟩
          refine .inr ⟨⟨vs, x0, hl', hx0⟩, AtI W (fun y env => bnd (p y env) b) (enuL 0 xs) N H1 r1 (i + 1), fun s2 H2 q3 => ⟨xs.length - (i + 1), by omega, rfl, hlt, q3⟩, fun x H2 y => ?_⟩
          obtain ⟨T, x1, rfl, hT, rfl, hx1⟩ := y
          have ex := hx1 vs hl'
          obtain ⟨d, hd, rd⟩ := h2.getV ex
          obtain ⟨r', env', st', l', e', sr', q'⟩ := q2
          have q2 : AtI W (fun y env => bnd (p y env) b) (enuL 0 xs) N H1 r1 i s' (upd H' T (.tup [.int (i : Nat), x1])) := ⟨r', env', st', l'.trans (Lt.new hT), e'.mono (Lt.new hT), sr'.new hT, q'.lt (Lt.new hT)⟩
          refine q2.turn (d := .tup [.int ((0 + i : Nat) : Int), d]) (by rw [enuL_get, hd]; rfl) fun r'' l'' => ?_
          rw [Nat.zero_add]
          exact .tup (SqT.of upd_same) (.cons (.int _) (.cons (rd.mono l'') .nil))
        · have ei : i = xs.length := by omega
          subst ei
          refine .inl ⟨⟨vs, hl', by rw [h2.length]; exact Nat.le_refl _⟩, ?_⟩
          rw [← enuL_len xs 0] at q2
          exact q2.done
    | tup xs =>
      refine hps.run pins S s H N I (go fun H1 r1 v l sr1 rd e1 q1 => ?_)
      cases rd with
      | @tup a vs _ h1 h2 =>
        rw [hK]
        exact ⟨a, vs, rfl, .inr ⟨h1, en_for h1 h2 (by rw [enuL_len, h2.length]) (fun i hi => hi) (fun i d _ hd => by rw [enuL_get, hd, Nat.zero_add]; rfl) e1 sr1 q1⟩⟩
    | ob n =>
      refine hps.run pins S s H N I (go fun H1 r1 v l sr1 rd e1 q1 => ?_)
      cases rd with
      | @ob _ a h1 =>
        have there : ∀ {i m : Nat} {r' : List Addr} {env' : Env} {st' : Store} {s' : L2.St} {H' : Hp}, r'[n]? = some a → SR W.b H' r' st' → PostS W H' r' (forE (fun y env => bnd (p y env) b) n m i env' st') N →
            ∃ k ds vs, m = k + 1 ∧ st'[n]? = some (.lst ds) ∧ H' a = some (.lst vs) ∧ RDs W.b H' r' ds vs := by
          intro i m r' env' st' s' H' hr sr' q'
          cases m with
          | zero => exact q'.elim
          | succ k =>
            cases z2 : st'[n]? with
            | none =>
              have z3 : getL n st' = .bad := by unfold getL; rw [z2]
              unfold forE at q'
              rw [bnd_bad z3] at q'
              exact q'.elim
            | some o =>
              cases o with
              | ins _ _ | dic _ | nst _ =>
                have z3 : getL n st' = .bad := by unfold getL; rw [z2]
                unfold forE at q'
                rw [bnd_bad z3] at q'
                exact q'.elim
              | lst ds =>
                obtain ⟨a', vs, f1, f2, f3⟩ := sr'.lst z2
                rw [hr] at f1
                cases f1
                exact ⟨k, ds, vs, rfl, rfl, f2, f3⟩
        have q1 : PostS W H1 r1 (forE (fun y env => bnd (p y env) b) n FUEL 0 env st1) N := q1
        obtain ⟨_, _, vs0, _, _, hv0, _⟩ := there (s' := s) h1 sr1 q1
        rw [hK]
        refine ⟨a, vs0, rfl, .inl ⟨SqL.of hv0, AtE W (fun y env => bnd (p y env) b) n N a, ⟨FUEL, r1, env, st1, h1, e1, sr1, q1⟩, ?_⟩⟩
        rintro i m s' H' ⟨r', env', st', hr, e', sr', q'⟩
        obtain ⟨k, ds, vs, rfl, hds, hvs, hrd⟩ := there (s' := s') hr sr' q'
        unfold forE at q'
        rw [bnd_ok (a := ds) (st' := st') (by unfold getL; rw [hds])] at q'
        cases z4 : ds[i]? with
        | none =>
          rw [z4] at q'
          refine .inl ⟨⟨vs, SqL.of hvs, ?_⟩, q' H' r' s' (Lt.refl _ _) sr' e'⟩
          rw [← hrd.length]
          exact List.getElem?_eq_none_iff.mp z4
        | some y =>
          rw [z4] at q'
          obtain ⟨x, hx, rx⟩ := hrd.get z4
          refine .inr ⟨⟨vs, x, SqL.of hvs, hx⟩, AtE W (fun y env => bnd (p y env) b) n N a (i + 1) k, fun s2 H2 q3 => ⟨k, Nat.lt_succ_self _, q3⟩, fun x' H2 yy => ?_⟩
          obtain ⟨T, x1, rfl, hT, rfl, yy⟩ := yy
          have ex : x = x1 := by
            have := yy vs (SqL.of hvs)
            rw [hx] at this
            exact Option.some.inj this
          subst ex
          have l' : Lt H' r' (upd H' T (.tup [.int (i : Nat), x])) r' := Lt.new hT
          exact turn_run (k := forE (fun y env => bnd (p y env) b) n k (i + 1)) (e'.mono l') (sr'.new hT) (.tup (SqT.of upd_same) (.cons (.int _) (.cons (rx.mono l') .nil))) (q'.lt l') fun H3 r3 env3 st3 s3 l3 sr3 e3 q3 => ⟨r3, env3, st3, l3.get hr, e3, sr3, q3⟩
    | _ => exact q.elim
theorem ps_forEnR (hK : X.K = W.b.K) (hp : PassesOwn (model X.prog X.w) X.A X.env X.xe) (hc : X.calm = true) (hgl : Gl X "enumerate") (hm : X.mg "enumerate" = none) (hg2 : Gl X "reversed") (hm2 : X.mg "reversed" = none) (he : PE X iter (tV W me))
    (hs1 : starEach [iter] X.env = (false, eval iter X.env) :: starEach [] X.env) (hg : PG X (.Tuple elts kk tp) (tG W p)) (hb : PSs X body (tS W b)) {p2 pos2 : Pos} :
    PS X (.For (.Tuple elts kk tp) (.Call (.Name "enumerate" pp) [.Call (.Name "reversed" p2) [iter] [] pos2] [] cp) body [] pos) (tS W fun env => bnd (me env) fun d => enrRun (fun y env => bnd (p y env) b) d env) := by
  refine ⟨fun pins S s H N I h => ?_⟩
  obtain ⟨r, env, st, e, sr, q⟩ := id h
  dsimp only at q
  have hps := ps_for (body := body) (tb := tS W b) (pos := pos) hp hc (pi_enR (p := pp) (p2 := p2) (pos := cp) (pos2 := pos2) (tpos := tp) (elts := elts) (kk := kk) hgl hm hg2 hm2 he hs1) hg hb fun _ => rfl
  cases z : me env st with
  | ex x st1 =>
    rw [bnd_ex z] at q
    exact hps.run pins S s H N I (show tV W me s H _ from ⟨r, env, st, (), e, sr, True.intro, by
      show Post W (RD W.b) H r (me env st) _
      rw [z]
      exact q⟩)
  | bad => rw [bnd_bad z] at q; exact q.elim
  | ok d st1 =>
    rw [bnd_ok z] at q
    refine hps.run pins S s H N I (show tV W me s H _ from ⟨r, env, st, (), e, sr, True.intro, ?_⟩)
    show Post W (RD W.b) H r (me env st) _
    rw [z]
    intro H1 r1 v l sr1 rd
    have e1 := e.mono l
    have q1 := q.lt l
    cases d with
    | tup xs =>
      cases rd with
      | @tup a vs _ h1 h2 =>
        rw [hK]
        refine ⟨a, vs, rfl, h1, en_for h1 h2 (by rw [enuL_len, List.length_reverse, h2.length]) (fun i hi => by omega) (fun i d hi hd => ?_) e1 sr1 q1⟩
        rw [enuL_get, Nat.zero_add, List.getElem?_reverse (by rw [h2.length]; exact hi), h2.length, hd]
        rfl
    | _ => exact (show False from q1).elim
end
end Li
namespace Li
open PySem PySem.Spec PyProof.Rows L2
structure FnG (P : Program) (w : World) (K : PySem.W.Frag) (mg : Str → Option Value) (bs : Heap) (k : Nat) (f : Addr) (fd : FuncData) (ps : List Str) (sp : Sp) : Prop where
  cnt : ∀ vs H Q E, sp vs H Q E → vs.length = ps.length
  does : ∀ (B : Around) (up : List PySem.Env) (z : Shared) (H : Hp) (as : Args) (us : List Value) (vs : List V) (Q : VK) (E : XK), Room k B → B.guards = some [] → Env0 P w K mg bs B up z H → BindsTo z fd as (ps.zip us) → Vals vs us → sp vs H Q E →
    codeAny (model P w) B (.call (.ref f) as) (CR (L2.CX P w) up P w H z Q E) z
section
variable {X : Cx} {k : Nat} {f : Addr} {fd : FuncData} {ps : List Str} {sp : Sp} {E : XK} {x : Str} {p pos : Pos} {e : Expr} {es : List Expr} {t : TA}
theorem g_run {pins : List (Addr × Obj)} {σ : L2.St} {H : Hp} {z : Shared} {Q : VK} {us : List Value} {vs : List V} (G : FnG X.prog X.w X.K X.mg X.base k f fd ps sp) (hr : Room k X.A) (hg : X.A.guards = some []) (hb : Binds X.K fd ps []) (hx : PassesAt (L2.CX X.prog X.w) X σ E)
    (J : Inv X pins σ H z) (r : Vals vs us) (h : sp vs H Q E) : wpAny (model X.prog X.w) X.A (PySem.call (.ref f) us) (EP X pins σ Q) X.xe z := by
  have b1 := hb z us J.kIn (by rw [List.append_nil, ← r.length]; exact G.cnt _ _ _ _ h)
  rw [List.append_nil] at b1
  refine wpAny_call (codeAny_mono (G.does X.A X.stack z H ⟨us, []⟩ us vs Q E hr hg J.env0 b1 r h) fun y z' q => ?_)
  match y, q with
  | .error e, q => exact hx _ _ _ _ _ J q
  | .ok (.ret u), q => exact J.after q
  | .ok .next, q => exact q.elim
  | .ok .brk, q => exact q.elim
  | .ok .cont, q => exact q.elim
theorem pe_callG (G : FnG X.prog X.w X.K X.mg X.base k f fd ps sp) (hr : Room k X.A) (hg : X.A.guards = some []) (hgl : Gl X x) (hm : X.mg x = some (.ref f)) (hk : PySem.W.keepIn X.K (.ref f) = true) (hb : Binds X.K fd ps []) (hx : ∀ σ, PassesAt (L2.CX X.prog X.w) X σ E)
    (ha : PA X (e :: es) t) (hdb : (x == ("__debug__" : Str)) = false) (he : starEach (e :: es) X.env = (false, eval e X.env) :: starEach es X.env) (hpl : (backTo pos (starEach es X.env)).any (·.1) = false) :
    PE X (.Call (.Name x p) (e :: es) [] pos) (tCall sp [] E t) := by
  refine ⟨fun pins z σ H Q J h => wpAny_Call_Name_kw (ld_glob J hgl hm ?_ hdb)⟩
  refine PySem.W.callWith_K (h₀ := X.base) J.ok.mod.kin hk (thn (ha.run pos pins z σ H _ J h) fun us z1 ⟨vs, H1, J1, r, q⟩ => ⟨J1.kIn, ?_⟩) he hpl
  have q : sp (vs ++ []) H1 Q E := q
  rw [List.append_nil] at q
  exact g_run G hr hg hb (hx σ) J1 r q
theorem pe_callG0 (G : FnG X.prog X.w X.K X.mg X.base k f fd ps sp) (hr : Room k X.A) (hg : X.A.guards = some []) (hgl : Gl X x) (hm : X.mg x = some (.ref f)) (hk : PySem.W.keepIn X.K (.ref f) = true) (hb : Binds X.K fd ps []) (hx : ∀ σ, PassesAt (L2.CX X.prog X.w) X σ E)
    (hdb : (x == ("__debug__" : Str)) = false) : PE X (.Call (.Name x p) [] [] pos) (tCall sp [] E tNil) := by
  refine ⟨fun pins z σ H Q J h => wpAny_Call_Name_kw (ld_glob J hgl hm ?_ hdb)⟩
  have h : sp ([] ++ []) H Q E := h
  exact PySem.W.callWith_K0 J.kIn hk (g_run (us := []) G hr hg hb (hx σ) J .nil h)
end
section
variable {X : Cx} {k n : Nat} {f : Addr} {fd : FuncData} {ps ks : List Str} {sp : Sp} {E : XK} {x : Str} {p pos : Pos} {e : Expr} {es : List Expr} {kws : List Keyword} {t tk : TA} {g : List Value → List Value → List Value} {gV : List V → List V → List V}
theorem pe_callNG (G : FnG X.prog X.w X.K X.mg X.base k f fd ps sp) (hr : Room k X.A) (hg : X.A.guards = some []) (hgl : Gl X x) (hm : X.mg x = some (.ref f)) (hk : PySem.W.keepIn X.K (.ref f) = true) (hb : KBn X.K fd ps n ks g gV) (hx : ∀ σ, PassesAt (L2.CX X.prog X.w) X σ E)
    (ha : PA X (e :: es) t) (hkw : PK X kws tk) (hall : (backToKw pos (keywordEach kws X.env)).all (·.1.isSome) = true) (hks : (backToKw pos (keywordEach kws X.env)).filterMap (·.1) = ks)
    (hdb : (x == ("__debug__" : Str)) = false) (he : starEach (e :: es) X.env = (false, eval e X.env) :: starEach es X.env)
    (hpl : ((backTo pos (starEach (e :: es) X.env)).any (·.1) || (backToKw pos (keywordEach kws X.env)).any (·.1.isNone)) = false) :
    PE X (.Call (.Name x p) (e :: es) kws pos) (tCallN n ks.length sp gV E t tk) := by
  refine ⟨fun pins z σ H Q J h => wpAny_Call_Name_kw (ld_glob J hgl hm ?_ hdb)⟩
  refine PySem.W.callWith_KW (h₀ := X.base) J.ok.mod.kin hk hall (thn (ha.run pos pins z σ H _ J h) fun us z1 ⟨vs, H1, J1, r, q⟩ => ?_) hpl he
  refine thn (hkw.run pos pins z1 σ H1 _ J1 q) fun ws z2 ⟨zs, H2, J2, rz, l1, l2, q2⟩ => ⟨J2.kIn, ?_⟩
  rw [hks]
  refine wpAny_call (codeAny_mono (G.does X.A X.stack z2 H2 ⟨us, ks.zip ws⟩ (g us ws) (gV vs zs) Q E hr hg J2.env0 (hb.to z2 us ws J2.kIn (r.length.symm.trans l1) (rz.length.symm.trans l2)) (hb.rel r rz) q2) fun y z' q => ?_)
  match y, q with
  | .error e, q => exact hx _ _ _ _ _ _ J2 q
  | .ok (.ret u), q => exact J2.after q
  | .ok .next, q => exact q.elim
  | .ok .brk, q => exact q.elim
  | .ok .cont, q => exact q.elim
/-- no defaults at all, keyword-only parameters written last -/
theorem kbn_of {K : PySem.W.Frag} {x qual : Str} {params : Arguments} {body : List Stmt} {scope : Scope} (F : FunD K x qual params body scope [] [] f fd)
    (h : ∀ (kV doc pm : Value) (an : Option Addr) (cdv ct : Value) (us ws : List Value), us.length = n → ws.length = ks.length → bindArgs (PySem.W.fnOf x qual params body scope .none kV doc pm an cdv ct) ⟨us, ks.zip ws⟩ = pure (ps.zip (us ++ ws))) :
    KBn K fd ps n ks (fun us ws => us ++ ws) (fun vs zs => vs ++ zs) := by
  obtain ⟨oc, od, dV, kV, doc, pm, an, cdv, ct, osl, rfl, lk, hcd, hD, hK⟩ := F.ex
  rcases hD with ⟨_, rfl⟩ | ⟨e, _⟩
  · exact ⟨fun s us ws X l1 l2 => .of_eq (h kV doc pm an cdv ct us ws l1 l2), fun r1 r2 => r1.append r2⟩
  · exact absurd rfl e
end
theorem guards_deeper (A : Around) (env : PySem.Env) : (A.deeper env).guards = A.guards := rfl
section
variable {P : Program} {w : World} {K : PySem.W.Frag} {mg : Str → Option Value} {bs : Heap} {x qual : Str} {params : Arguments} {body : List Stmt} {scope : Scope} {f : Addr} {fd : FuncData}
theorem fn_g {N ps : List Str} {k : Nat} {sp : Sp} (F : FunD K x qual params body scope [] [] f fd) (S : FnScope N ps scope) (cnt : ∀ vs H Q E, sp vs H Q E → vs.length = ps.length)
    (hb : ∀ (cdv : Value) (B : Around) (up : List PySem.Env) (z : Shared) (H : Hp) (vs : List V) (Q : VK) (E : XK), Room k (B.deeper (envOfC qual scope z.heap.objs.size f cdv)) → B.guards = some [] → sp vs H Q E →
      ∃ t, PSs (cxOf (L2.CX P w) P w K mg bs N qual scope f cdv B up z H E) body t ∧ t { nx := fun _ H' => Q .non H', rt := Q } (L2.start N vs) H) : FnG P w K mg bs (k + 1) f fd ps sp := by
  obtain ⟨oc, od, dV, kV, doc, pm, an, cdv, ct, osl, efd, lk, hcd, _, _⟩ := F.ex
  subst efd
  refine ⟨cnt, fun B up z H as us vs Q E room hg en hbd rv hs => ?_⟩
  have inK : K.In z.heap := en.mod.kin.keeps fun b o h => (en.bs b o h).1
  have noLim : z.heap.NoLimit := en.mod.nolimit.keeps fun b o h => (en.bs b o h).1
  have kinds : ∀ y ∈ ps.zip us, scope.names.lookup y.1 = some .local ∨ (scope.names.lookup y.1 = some .cell ∧ ((cellsFrom (z.heap.objs.size + 1) scope.names []).lookup y.1).isSome = true) := by
    rintro ⟨y, u⟩ hy
    exact (S.par y (List.of_mem_zip hy).1).imp id fun h => ⟨h, PySem.W.cellsFrom_some _ _ _ (.inl h)⟩
  refine codeAny_call_function room.depth (inK _ _ lk) rfl S.co S.gen rfl (PySem.W.codeRec_of inK hcd) (hbd _ _ _ _ (wpAny_newFunctionEnv_cells S.kind kinds fun env he z1 made => ?_))
  subst he
  obtain ⟨t, wt, ht⟩ := hb cdv B up z H vs Q E (room.deeper _) hg hs
  refine ⟨noLim.keeps made.toInCall.keep, codeAny_func (wpAny_mono (wt.run [] z1 (L2.start N vs) H _ (inv_start S room.hd en (cnt _ _ _ _ hs) rv made) ht) (fun fl z' h => ?_) fun _ _ h => h)⟩
  match fl, h with
  | .ret u, ⟨v, _, H', J, r, q⟩ => exact ⟨v, H', J.os, J.bare, J.base, J.hok, r, q⟩
  | .next, ⟨_, H', J, q⟩ => exact ⟨V.non, H', J.os, J.bare, J.base, J.hok, rfl, q⟩
  | .brk, ⟨_, _, _, q⟩ => exact q.elim
  | .cont, ⟨_, _, _, q⟩ => exact q.elim
end
section
variable {P : Program} {w : World} {K : PySem.W.Frag} {mg mb : Str → Option Value} {k : Nat} {fa a : Addr} {fd : FuncData} {x : Str} {sp : Sp} {z : Shared} {us : List Value} {ns : List Int}
/-- a heap of the promise's words in which nothing but the script is known -/
theorem script_hp (KX : K.In z.heap) (ha : z.heap.get? a = some { cls := .type "list", data := .seq us.toArray }) (hi : IntsAre us ns) (hl : ns.length ≤ sizeLine) :
    ∃ T : Hp, Only T ∧ SqL K T a (ns.map V.int) ∧ HOk P w T z.heap ∧ (∀ b, T b ≠ none → b = a) ∧ (T a ≠ none → K.lookup a = none) := by
  have rv := vals_ints hi
  cases q : K.lookup a with
  | some o =>
    have e1 := KX a o q
    rw [ha] at e1
    cases e1
    refine ⟨fun _ => none, fun _ => .inl rfl, .inr ⟨_, us.toArray, _, q, rfl, rfl, rfl, ?_, by simpa using rv⟩, ?_, fun b h => absurd rfl h, fun h => absurd rfl h⟩
    · rw [List.size_toArray, hi.length]
      exact hl
    · intro b u e
      cases (show (none : Option HO) = some u from e)
  | none =>
    have tr : ∀ b u, (if b = a then some (HO.frz { cls := .type "list", data := .seq us.toArray } (.lst (ns.map V.int))) else none) = some u → b = a ∧ u = .frz { cls := .type "list", data := .seq us.toArray } (.lst (ns.map V.int)) := by
      intro b u e
      by_cases h : b = a
      · rw [if_pos h] at e
        exact ⟨h, (Option.some.inj e).symm⟩
      · rw [if_neg h] at e
        cases e
    refine ⟨fun b => if b = a then some (HO.frz { cls := .type "list", data := .seq us.toArray } (.lst (ns.map V.int))) else none, fun b => ?_, .inl (.inr ⟨_, if_pos rfl⟩), fun b u e => ?_, fun b h => ?_, fun _ => rfl⟩
    · by_cases h : b = a
      · exact .inr ⟨_, _, if_pos h⟩
      · exact .inl (if_neg h)
    · obtain ⟨rfl, rfl⟩ := tr b u e
      exact ⟨ha, by rw [List.length_map]; exact hl, us, _, rv, ha⟩
    · by_cases h2 : b = a
      · exact h2
      · exact absurd (if_neg h2) h
theorem law_callG (KX : K.In z.heap) (hns : z.heap.Ns mainGlobals mg) (hb : z.heap.Ns builtinsNs mb) (hbb : ∀ x : Str, x ≠ "__name__" → mb x = bootBuiltins x) (hlim : z.heap.NoLimit) (hgn : z.gens = #[])
    (ha : z.heap.get? a = some { cls := .type "list", data := .seq us.toArray }) (hi : IntsAre us ns) (hl : ns.length ≤ sizeLine) (hr : Room k callerA)
    (F : ∀ bs : Heap, K.In bs → bs.Ns mainGlobals mg → FnG P w K mg bs k fa fd [x] sp) (hbd : ∀ (s : Shared) (u : Value), BindsTo s fd ⟨[u], []⟩ [(x, u)])
    (hsp : ∀ H : Hp, Only H → SqL K H a (ns.map V.int) → sp [.ref a] H (fun v _ => v = .bl true) fun _ _ _ => False) :
    codeAny (model P w) callerA (.call (.ref fa) ⟨[.ref a], []⟩) (fun r s' => r = .ok (.ret (.bool true)) ∧ OldK z.heap s'.heap ∧ s'.os = z.os ∧ AllBare s'.gens) z := by
  obtain ⟨T, hO, hS, hok, hA, hK⟩ := script_hp (P := P) (w := w) KX ha hi hl
  have one : ∀ {b : Addr}, b ≠ a → T b = none := fun {b} h => Classical.byContradiction fun q => h (hA b q)
  have stays : ∀ {b : Addr} {o : Obj}, z.heap.get? b = some o → (b = a → K.lookup a = none → False) → (hidT z.heap T).get? b = some o := fun {b o} e h => hidT_get e (by
    by_cases q : b = a
    · subst q
      cases e1 : T b with
      | none => rfl
      | some u => exact (h rfl (hK (by rw [e1]; simp))).elim
    · exact one q)
  have dicts : ∀ {b : Addr} {m : Str → Option Value}, z.heap.Ns b m → (hidT z.heap T).Ns b m := by
    rintro b m ⟨o, es, ep, e, d, r⟩
    refine ⟨o, es, ep, hidT_get e ?_, d, r⟩
    by_cases q : b = a
    · subst q
      rw [ha] at e
      cases e
      cases (show Data.seq us.toArray _ = Data.dict es ep from d)
    · exact one q
  have parts : K.In (hidT z.heap T) := fun b o e => stays (KX b o e) fun q n => by
    subst q
    rw [n] at e
    cases e
  have md : Mod K mg (hidT z.heap T) := ⟨parts, dicts hns, ⟨mb, dicts hb, hbb⟩, let ⟨m, h1, h2⟩ := hlim; ⟨m, dicts h1, h2⟩⟩
  have en : Env0 P w K mg (hidT z.heap T) callerA [] z T :=
    { frames := rfl, mod := md, bs := fun _ _ e => of_hidT e, bsz := Nat.le_of_eq (hidT_size _ _), funs := True.intro, frf := fun b h => absurd (show b ∈ ([] : List Addr) from h) (by simp), hok := hok, bare := .of_eq hgn }
  refine codeAny_mono ((F _ parts (dicts hns)).does callerA [] z T ⟨[.ref a], []⟩ [.ref a] [.ref a] _ _ hr rfl en (hbd z (.ref a)) (.cons rfl .nil) (hsp T hO hS)) fun y z' h => ?_
  match y, h with
  | .error e, h => obtain ⟨_, _, _, _, _, _, _, _, _, _, _, _, h⟩ := h; exact (show False from h).elim
  | .ok .next, h => exact (show False from h).elim
  | .ok .brk, h => exact (show False from h).elim
  | .ok .cont, h => exact (show False from h).elim
  | .ok (.ret u), ⟨v, T', os, bare, un, hok', r', q⟩ =>
    have q : v = .bl true := q
    subst q
    obtain rfl : u = Value.bool true := r'
    refine ⟨rfl, OldK.of_keep fun b o e => ?_, os, bare⟩
    have nofr : b ∉ frs ([] : List PySem.Env) := fun h => absurd (show b ∈ ([] : List Addr) from h) (by simp)
    rcases hO b with n | ⟨ob, xs, e1⟩
    · exact un.keep b o e n nofr (by simp)
    · obtain ⟨g1, _⟩ := hok b _ e1
      obtain ⟨g2, _⟩ := hok' b _ (un.frzs b ob _ e1)
      rw [e] at g1
      cases g1
      exact g2
end
/-- from the head's facts to the law -/
theorem walk_ofG {l : PySem.W.OpenLaw} {n k : Nat} {q : Program} {loose : List Str} {XP : (Str → Option Value) → Heap → Prop} {YP : World → Heap → Prop} {d : DefRec} {x : Str}
    (hn : l.most = some n) (hn2 : n ≤ sizeLine) (hdf : d.params.defaults = []) (hr : Room k callerA)
    (F : ∀ (w : World) (mg : Str → Option Value) (fa : Addr) (h : Heap), YP w h → h.Ns mainGlobals mg → mg d.name = some (.ref fa) →
      ∃ (K : PySem.W.Frag) (fd : FuncData) (sp : Sp), K.In h ∧ (∀ (s : Shared) (u : Value), BindsTo s fd ⟨[u], []⟩ [(x, u)]) ∧
        (∀ (H : Hp) (a : Addr) (ns : List Int), ns.length ≤ n → Only H → SqL K H a (ns.map V.int) → sp [.ref a] H (fun v _ => v = .bl true) fun _ _ _ => False) ∧
        ∀ bs : Heap, K.In bs → bs.Ns mainGlobals mg → FnG l.prog w K mg bs k fa fd [x] sp) :
    PySem.W.WalkO q loose XP YP l.row.toRowW d [] (fun f vs => PySem.call f vs) := by
  refine Att.attach_call hn hdf fun w z0 z mg mb fa o pm cd doc a us ns G Y ho hd hcd hmg hobj hints hlen hgn => ?_
  obtain ⟨K, fd, sp, KX, hb, hsp, hF⟩ := F w mg fa _ Y G.T.g hmg
  exact law_callG KX G.T.g G.T.b G.T.builtins G.T.nolimit hgn hobj hints (Nat.le_trans hlen hn2) hr hF hb fun H hO hS => hsp H a ns hlen hO hS
end Li
namespace Li
open PySem PySem.Spec PyProof.Rows L2
section
variable {X : Cx} {k : Nat} {f C : Addr} {fd : FuncData} {ps : List Str} {sp : Sp} {E : XK} {x m : Str} {p pos apos : Pos} {e o : Expr} {es : List Expr} {ta : TE} {t : TA}
theorem meth_late {prog : Program} {w : World} {A : Around} {E : Value → Shared → Prop} {env : PySem.Env} {s : Shared} {o : Expr} {name : Str} {apos pos : Pos} {args : List Expr} {Q : Value → Shared → Prop}
    (hbase : attributeBase o name env (eval o env) = eval o env)
    (hfew : methodCallForm (args.length + ([] : List Keyword).length) (backTo pos (starEach args env)) (backToKw pos (keywordEach [] env)) = true)
    (hline : (apos.endLine == pos.line) = true)
    (h : wpAny (model prog w) A (eval o env) (fun ov s₁ => wpAny (model prog w) A (getMethod ov name (do return (← importBound o env).getD true)) (fun fx s₂ => wpAny (model prog w) A (callWith pos fx.1 fx.2 (backTo pos (starEach args env)) (backToKw pos (keywordEach [] env))) Q E s₂) E s₁) E s) :
    wpAny (model prog w) A (eval (.Call (.Attribute o name apos) args [] pos) env) Q E s := by
  rw [arm_eval_Call, hbase]
  refine wpAny_bind (wpAny_mono h (fun ov s₁ h₁ => ?_) fun _ _ e => e)
  refine wpAny_bind (wpAny_standAt ?_)
  have hpos : methodCallPos true o env apos pos = pure pos := by unfold methodCallPos; simp [hline]
  unfold methodCall
  rw [hfew]
  refine wpAny_bind (wpAny_holding (wpAny_mono h₁ (fun fx s₂ h₂ => ?_) fun _ _ e => e))
  exact wpAny_bind (wpAny_of_eq hpos h₂)
theorem pe_methG (he : PE X o ta) (c : Cls X.K C) (hm : Meth X.K C m f) (G : FnG X.prog X.w X.K X.mg X.base k f fd ps sp) (hr : Room k X.A) (hg : X.A.guards = some []) (hb : Binds X.K fd ps []) (hx : ∀ σ, PassesAt (L2.CX X.prog X.w) X σ E) (ha : PA X (e :: es) t)
    (hst : starEach (e :: es) X.env = (false, eval e X.env) :: starEach es X.env) (hpl : (backTo pos (starEach es X.env)).any (·.1) = false)
    (hbase : attributeBase o m X.env (eval o X.env) = eval o X.env)
    (hfew : methodCallForm ((e :: es).length + ([] : List Keyword).length) (backTo pos (starEach (e :: es) X.env)) (backToKw pos (keywordEach [] X.env)) = true)
    (hline : (apos.endLine == pos.line) = true) :
    PE X (.Call (.Attribute o m apos) (e :: es) [] pos) (tMeth C m sp [] E ta t) := by
  refine ⟨fun pins s σ H Q I h => ?_⟩
  refine meth_late hbase hfew hline (thn (he.run pins s σ H _ I h) fun u s1 ⟨x, H1, I1, rx, a, dx, fs, ex, ea, l, q⟩ => ?_)
  subst ex
  obtain rfl : u = Value.ref a := rx
  refine getmeth_ok I1 ea c hm l ?_
  refine PySem.W.callWith_K (first := [.ref a]) (h₀ := X.base) I.ok.mod.kin hm.kp (thn (ha.run pos pins s1 σ H1 _ I1 q) fun us s2 ⟨vs, H2, I2, r, q2⟩ => ⟨I2.kIn, ?_⟩) hst hpl
  have q2 : sp (.ref a :: (vs ++ [])) H2 Q E := q2
  rw [List.append_nil] at q2
  exact g_run (us := .ref a :: us) (vs := .ref a :: vs) G hr hg hb (hx _) I2 (.cons rfl r) q2
theorem pe_methG0 (he : PE X o ta) (c : Cls X.K C) (hm : Meth X.K C m f) (G : FnG X.prog X.w X.K X.mg X.base k f fd ps sp) (hr : Room k X.A) (hg : X.A.guards = some []) (hb : Binds X.K fd ps []) (hx : ∀ σ, PassesAt (L2.CX X.prog X.w) X σ E)
    (hbase : attributeBase o m X.env (eval o X.env) = eval o X.env)
    (hline : (apos.endLine == pos.line) = true) :
    PE X (.Call (.Attribute o m apos) [] [] pos) (tMeth C m sp [] E ta tNil) := by
  refine ⟨fun pins s σ H Q I h => ?_⟩
  refine meth_late hbase rfl hline (thn (he.run pins s σ H _ I h) fun u s1 ⟨x, H1, I1, rx, a, dx, fs, ex, ea, l, q⟩ => ?_)
  subst ex
  obtain rfl : u = Value.ref a := rx
  refine getmeth_ok I1 ea c hm l ?_
  have q : sp (.ref a :: ([] ++ [])) H1 Q E := q
  exact PySem.W.callWith_K0 (first := [.ref a]) I1.kIn hm.kp (g_run (us := [.ref a]) (vs := [.ref a]) G hr hg hb (hx _) I1 (.cons rfl .nil) q)
theorem guards_make {A : Around} {C : Addr} {us : List Value} {kw : List (Str × Value)} (h : A.guards = some []) : (A.under (.builtin "type.__call__" ⟨.ref C :: us, kw⟩)).guards = some [] := by
  first | exact h | (simp [Around.under, h]; done) | (unfold Around.under; simp [h, Code.isGuard, guardIds])
theorem run_makeG {pins : List (Addr × Obj)} {σ : L2.St} {H : Hp} {s : Shared} {Q : VK} {us : List Value} {vs : List V} (M : Mk X.K C f) (G : FnG X.prog X.w X.K X.mg X.base k f fd ps sp) (hr : Room (k + 1) X.A) (hg : X.A.guards = some []) (hb : Binds X.K fd ps [])
    (hx : ∀ σ, PassesAt (L2.CX X.prog X.w) X σ E) (I : Inv X pins σ H s) (r : Vals vs us)
    (h : ∀ x dx, H x = none → H dx = none → dx ≠ x → sp (.ref x :: (vs ++ [])) (upd (upd H dx (.own x)) x (.ins C dx [])) (fun v H2 => v = .non ∧ Q (.ref x) H2) E) :
    wpAny (model X.prog X.w) X.A (PySem.call (.ref C) us) (EP X pins σ Q) X.xe s := by
  have hq := h (s.heap.objs.size + 1) s.heap.objs.size (I.hok.fresh (Nat.le_succ _)) (I.hok.fresh (Nat.le_refl _)) (Nat.ne_of_lt (Nat.lt_succ_self _))
  rw [List.append_nil] at hq
  have I2 := Inv.made (C := C) I
  have r2 : Vals (V.ref (s.heap.objs.size + 1) :: vs) (Value.ref (s.heap.objs.size + 1) :: us) := .cons rfl r
  have hl : ((Value.ref (s.heap.objs.size + 1) :: us) ++ ([] : List Value)).length = ps.length := by
    have e := r2.length
    rw [G.cnt _ _ _ _ hq] at e
    rw [List.append_nil]
    exact e.symm
  have b1 := hb _ (Value.ref (s.heap.objs.size + 1) :: us) I2.kIn hl
  rw [List.append_nil] at b1
  refine wpAny_call (make_map (f := f) I.kIn M.makes M.init (beq_iff_eq.mp M.fn) (codeAny_mono (G.does _ X.stack _ _ ⟨Value.ref (s.heap.objs.size + 1) :: us, []⟩ (Value.ref (s.heap.objs.size + 1) :: us) _ _ E (hr.make C us [])
    (guards_make hg) (I2.env0.make C us []) b1 r2 hq) fun r s' hq' => ?_))
  match r, hq' with
  | .error e, hq' => exact hx _ pins _ _ e s' I2 hq'
  | .ok (.ret u), hq' =>
    obtain ⟨v, H', I3, rv, ev, q3⟩ := I2.after hq'
    subst ev
    exact ⟨rv, ⟨V.ref (s.heap.objs.size + 1), H', I3, rfl, q3⟩⟩
  | .ok .next, hq' => exact False.elim hq'
  | .ok .brk, hq' => exact False.elim hq'
  | .ok .cont, hq' => exact False.elim hq'
theorem pe_makeG (M : Mk X.K C f) (G : FnG X.prog X.w X.K X.mg X.base k f fd ps sp) (hr : Room (k + 1) X.A) (hg : X.A.guards = some []) (hgl : Gl X x) (hm : X.mg x = some (.ref C)) (hb : Binds X.K fd ps []) (hx : ∀ σ, PassesAt (L2.CX X.prog X.w) X σ E)
    (ha : PA X (e :: es) t) (hdb : (x == ("__debug__" : Str)) = false) (he : starEach (e :: es) X.env = (false, eval e X.env) :: starEach es X.env) (hpl : (backTo pos (starEach es X.env)).any (·.1) = false) :
    PE X (.Call (.Name x p) (e :: es) [] pos) (tMake C sp [] E t) := by
  refine ⟨fun pins s σ H Q I h => ?_⟩
  refine wpAny_Call_Name_kw (ld_glob I hgl hm ?_ hdb)
  refine PySem.W.callWith_K (h₀ := X.base) I.ok.mod.kin M.kp (thn (ha.run pos pins s σ H _ I h) fun us s1 ⟨vs, H1, I1, r, q⟩ => ⟨I1.kIn, ?_⟩) he hpl
  exact run_makeG M G hr hg hb hx I1 r q
theorem pe_makeG0 (M : Mk X.K C f) (G : FnG X.prog X.w X.K X.mg X.base k f fd ps sp) (hr : Room (k + 1) X.A) (hg : X.A.guards = some []) (hgl : Gl X x) (hm : X.mg x = some (.ref C)) (hb : Binds X.K fd ps []) (hx : ∀ σ, PassesAt (L2.CX X.prog X.w) X σ E)
    (hdb : (x == ("__debug__" : Str)) = false) : PE X (.Call (.Name x p) [] [] pos) (tMake C sp [] E tNil) := by
  refine ⟨fun pins s σ H Q I h => ?_⟩
  refine wpAny_Call_Name_kw (ld_glob I hgl hm ?_ hdb)
  exact PySem.W.callWith_K0 I.kIn M.kp (run_makeG (us := []) M G hr hg hb hx I .nil h)
end
section
variable {W : Wd} {X : Cx} {ma mb : Env → M D} {mas : Env → M (List D)} {s : L2.St} {H : Hp} {Q : VK}
/-- what is known of the classes -/
structure CAt (W : Wb) (K : PySem.W.Frag) (f : Str) : Prop where
  at_ : ∀ n C, W.C n = some C → Cls K C ∧ NoAttr K C f
theorem w_fld {K : PySem.W.Frag} {f : S}  (c : CAt W.b K ⟨f.toArray⟩) (h : tV W (fun env => bnd (ma env) (fldOf f)) s H Q) : tFld K (tV W ma) ⟨f.toArray⟩ s H Q := by
  refine gmono (gbind (R1 := RD W.b) P0.stays h) fun x H1 h1 => ?_
  obtain ⟨r, env, st, b, e, sr, pb, p⟩ := h1
  obtain ⟨b0, d⟩ := b
  have hd : RD W.b H1 r d x := pb.2
  have p : Post W (RD W.b) H1 r (fldOf f d st) Q := p
  cases hd with
  | @ob m a h1 =>
    obtain ⟨n, fs, e1, p⟩ := Post.getF p
    obtain ⟨a', C, dx, gs, f1, f2, f3, f4⟩ := sr.ins e1
    rw [h1] at f1
    cases f1
    have p : Post W (RD W.b) H1 r (bnd (ofO (fs.lookup f)) ret st) Q := by
      have p : Post W (RD W.b) H1 r (ofO (fs.lookup f) st) Q := p
      cases z : fs.lookup f with
      | none => rw [z] at p; exact p.elim
      | some d => rw [z] at p; exact p
    obtain ⟨d, e2, p⟩ := Post.ofO p
    obtain ⟨v, e3, q⟩ := f4.look e2
    obtain ⟨g1, g2⟩ := c.at_ _ _ f3
    exact ⟨a, C, dx, gs, v, rfl, f2, g1, g2, e3, p.ret sr q⟩
  | _ => exact p.elim
/-- a field is set, the value first -/
theorem post_fld {H : Hp} {r : List Addr} {st : Store} {A U : Type} {Rl : Hp → List Addr → A → U → Prop} {Q : U → Hp → Prop} {f : S} {d dx : D} {x v : V} {a : A} {u : U} {K : PySem.W.Frag} (c : CAt W.b K ⟨f.toArray⟩) (sr : SR W.b H r st) (hx : RD W.b H r dx x) (hd : RD W.b H r d v)
    (p : Post W Rl H r (bnd (putFld f d dx) (fun _ => ret a) st) Q) (ra : ∀ H' r', Lt H r H' r' → Rl H' r' a u) :
    ∃ b C ddx gs, x = .ref b ∧ (∀ cn, clsOf dx st = .ok cn st → W.b.C cn = some C) ∧ H b = some (.ins C ddx gs) ∧ Cls K C ∧ NoAttr K C ⟨f.toArray⟩ ∧ gs.length < 1000 ∧ Q u (upd H b (.ins C ddx (L2.putF ⟨f.toArray⟩ v gs))) := by
  cases hx with
  | @ob n b h1 =>
    have p : Post W Rl H r (bnd (getF n) (fun q => bnd (chk (q.2.length < 1000) (setO n (.ins q.1 (putF f d q.2)))) fun _ => ret a) st) Q := by
      have e : bnd (putFld f d (.ob n)) (fun _ => ret a) = bnd (getF n) (fun q => bnd (chk (q.2.length < 1000) (setO n (.ins q.1 (putF f d q.2)))) fun _ => ret a) := bnd_bnd _ _ _
      rw [← e]
      exact p
    obtain ⟨cn, fs, e1, p⟩ := Post.getF p
    by_cases hl : fs.length < 1000
    · simp only [chk_true hl] at p
      obtain ⟨hn, p⟩ := Post.setO p
      obtain ⟨a', C, ddx, gs, f1, f2, f3, f4⟩ := sr.ins e1
      rw [h1] at f1
      cases f1
      obtain ⟨g1, g2⟩ := c.at_ _ _ f3
      have l : Lt H r (upd H b (.ins C ddx (L2.putF ⟨f.toArray⟩ v gs))) r := Lt.mut h1 f2 True.intro
      refine ⟨b, C, ddx, gs, rfl, fun cn' hcn => ?_, f2, g1, g2, by rw [← f4.length]; exact hl, p _ r u l (sr.set h1 f2 True.intro (.ins f3 ((f4.put hd).mono0 l.toLt0))) (ra _ _ l)⟩
      have hcn : bnd (getF n) (fun p => ret p.1) st = .ok cn' st := hcn
      rw [bnd_ok (a := (cn, fs)) (st' := st) (by unfold getF; rw [e1])] at hcn
      cases hcn
      exact f3
    · rw [bnd_bad (chk_false hl _ _)] at p
      exact p.elim
  | _ => exact p.elim
/-- the receiver of a method -/
theorem w_me {c : Nat} {C : Addr} {m : S} {cf : List D → M D} {np : Nat} (hC : W.b.C c = some C) (hl : ∀ ds st, ds.length ≠ np → cf ds st = .bad)
    (h : tV W (fun env => bnd (ma env) fun x => bnd (isC c m x) fun _ => bnd (mas env) fun ds => cf (x :: ds)) s H Q) : tMeth C ⟨m.toArray⟩ (spF W.b cf np) [] W.xk (tV W ma) (tA W mas) s H Q := by
  refine gmono (gbind (R1 := RD W.b) P0.stays h) fun x H1 h1 => ?_
  obtain ⟨r, env, st, b, e, sr, pb, p⟩ := h1
  obtain ⟨b0, d⟩ := b
  have hd : RD W.b H1 r d x := pb.2
  have p : Post W (RD W.b) H1 r (bnd (isC c m d) (fun _ => bnd (mas env) fun ds => cf (d :: ds)) st) Q := p
  cases hd with
  | @ob n a h1 =>
    have p : Post W (RD W.b) H1 r (bnd (getF n) (fun q => bnd (chk (q.1 = c ∧ q.2.lookup m = none) (ret ())) fun _ => bnd (mas env) fun ds => cf (D.ob n :: ds)) st) Q := by
      have e : bnd (isC c m (.ob n)) (fun _ => bnd (mas env) fun ds => cf (D.ob n :: ds)) = bnd (getF n) (fun q => bnd (chk (q.1 = c ∧ q.2.lookup m = none) (ret ())) fun _ => bnd (mas env) fun ds => cf (D.ob n :: ds)) := bnd_bnd _ _ _
      rw [← e]
      exact p
    obtain ⟨cn, fs, e1, p⟩ := Post.getF p
    by_cases hc : cn = c ∧ fs.lookup m = none
    · have p2 : Post W (RD W.b) H1 r (bnd (chk (cn = c ∧ fs.lookup m = none) (ret ())) (fun _ => bnd (mas env) fun ds => cf (D.ob n :: ds)) st) Q := p
      rw [chk_true hc] at p2
      clear p
      obtain ⟨rfl, hm⟩ := hc
      obtain ⟨a', C', ddx, gs, f1, f2, f3, f4⟩ := sr.ins e1
      rw [h1] at f1
      cases f1
      rw [hC] at f3
      cases f3
      refine ⟨a, ddx, gs, rfl, f2, f4.look0 hm, ?_⟩
      have p : Post W (RD W.b) H1 r (bnd (mas env) (fun ds => cf (D.ob n :: ds)) st) Q := p2
      refine ⟨r, env, st, (), e, sr, True.intro, ?_⟩
      show Post W (RDs W.b) H1 r (mas env st) _
      cases z : mas env st with
      | ex y s1 => rw [bnd_ex z] at p; exact p
      | bad => rw [bnd_bad z] at p; exact p
      | ok ds s1 =>
        rw [bnd_ok z] at p
        intro H2 r2 vs l2 sr2 rv
        have p : Post W (RD W.b) H2 r2 (cf (D.ob n :: ds) s1) Q := p.lt l2
        rw [List.append_nil]
        refine ⟨?_, r2, D.ob n :: ds, s1, sr2, .cons (.ob (l2.get h1)) rv, p⟩
        rw [List.length_cons, ← rv.length]
        by_cases hn : (D.ob n :: ds).length = np
        · exact hn
        · rw [hl _ _ hn] at p
          exact p.elim
    · rw [bnd_bad (chk_false hc _ _)] at p
      exact p.elim
  | _ => exact p.elim
/-- a new instance -/
theorem w_mk {c : Nat} {C : Addr} {cf : List D → M D} {np : Nat} (hC : W.b.C c = some C) (hl : ∀ ds st, ds.length ≠ np → cf ds st = .bad)
    (h : tV W (fun env => bnd (mas env) fun ds => bnd (newO (.ins c [])) fun x => bnd (cf (x :: ds)) fun y => bnd (nonOnly y) fun _ => ret x) s H Q) : tMake C (spF W.b cf np) [] W.xk (tA W mas) s H Q := by
  refine gmono (gbind (R1 := RDs W.b) P0.stays h) fun xs H1 h1 => ?_
  obtain ⟨r, env, st, b, e, sr, pb, p⟩ := h1
  obtain ⟨b0, ds⟩ := b
  have hds : RDs W.b H1 r ds xs := pb.2
  intro x dx hx hdx hne
  have p : Post W (RD W.b) H1 r (bnd (cf (D.ob st.length :: ds)) (fun y => bnd (nonOnly y) fun _ => ret (D.ob st.length)) (st ++ [.ins c []])) Q := p
  have l1 : Lt H1 r (upd H1 dx (.own x)) r := Lt.new hdx
  have s1 : SR W.b (upd H1 dx (.own x)) r st := sr.new hdx
  have hx1 : (upd H1 dx (.own x)) x = none := by rw [upd_ne (Ne.symm hne)]; exact hx
  have l2 : Lt (upd H1 dx (.own x)) r (upd (upd H1 dx (.own x)) x (.ins C dx [])) (r ++ [x]) := Lt.newO hx1
  have s2 : SR W.b (upd (upd H1 dx (.own x)) x (.ins C dx [])) (r ++ [x]) (st ++ [.ins c []]) := s1.newO hx1 (.ins hC .nil)
  have l := l1.trans l2
  have hnew : (r ++ [x])[st.length]? = some x := by
    rw [← sr.len, List.getElem?_append_right (Nat.le_refl _)]
    simp
  have p := p.lt l
  rw [List.append_nil]
  have q : (D.ob st.length :: ds).length = np := by
    by_cases hn : (D.ob st.length :: ds).length = np
    · exact hn
    · rw [bnd_bad (hl _ _ hn)] at p
      exact p.elim
  refine ⟨by rw [List.length_cons, ← hds.length]; exact q, r ++ [x], D.ob st.length :: ds, st ++ [.ins c []], s2, .cons (.ob hnew) (hds.mono l), ?_⟩
  cases z : cf (D.ob st.length :: ds) (st ++ [.ins c []]) with
  | ex y s1 => rw [bnd_ex z] at p; exact p
  | bad => rw [bnd_bad z] at p; exact p
  | ok y s3 =>
    rw [bnd_ok z] at p
    intro H3 r3 v l3 sr3 rv
    have p := p.lt l3
    cases rv with
    | non => exact ⟨rfl, Post.ret (Rl := RD W.b) (a := D.ob st.length) p sr3 (.ob (l3.get hnew))⟩
    | _ => exact p.elim
end
end Li
namespace Li
open PySem PySem.Spec PyProof.Rows L2
section
variable {W : Wd} {X : Cx} {s : L2.St} {H : Hp} {D' : Ends}
theorem post_bind {r : List Addr} {st : Store} {m : M D} {k : D → M Fl} {Q : VK} (p : PostS W H r (bnd m k st) D') (q : ∀ H' r' d v st', Lt H r H' r' → SR W.b H' r' st' → RD W.b H' r' d v → PostS W H' r' (k d st') D' → Q v H') : Post W (RD W.b) H r (m st) Q := by
  cases z : m st with
  | ok d st1 =>
    rw [bnd_ok z] at p
    exact fun H' r' v l s' rd => q H' r' d v st1 l s' rd (p.lt l)
  | ex x st1 => rw [bnd_ex z] at p; exact p
  | bad => rw [bnd_bad z] at p; exact p
/-- what is to be shown of a field that is set -/
theorem fin_fld {r : List Addr} {st : Store} {env : Env} {f : S} {d dx : D} {x v : V} {K : PySem.W.Frag} (c : CAt W.b K ⟨f.toArray⟩) (e : ER W H r env s) (sr : SR W.b H r st) (hx : RD W.b H r dx x) (hd : RD W.b H r d v)
    (p : PostS W H r (bnd (putFld f d dx) (fun _ => ret (.next env)) st) D') :
    ∃ b C ddx gs, x = .ref b ∧ (∀ cn, clsOf dx st = .ok cn st → W.b.C cn = some C) ∧ H b = some (.ins C ddx gs) ∧ Cls K C ∧ NoAttr K C ⟨f.toArray⟩ ∧ gs.length < 1000 ∧ D'.nx s (upd H b (.ins C ddx (L2.putF ⟨f.toArray⟩ v gs))) := by
  have p2 : Post W (fun H r (a : Env) (u : L2.St) => ER W H r a u) H r (bnd (putFld f d dx) (fun _ => ret env) st) D'.nx := by
    cases z : putFld f d dx st with
    | ok a st1 =>
      rw [bnd_ok z] at p ⊢
      exact fun H' r' u l s' rd => p H' r' u l s' rd
    | ex x st1 => rw [bnd_ex z] at p ⊢; exact p
    | bad => rw [bnd_bad z] at p; exact p.elim
  exact post_fld c sr hx hd p2 fun H' r' l => e.mono l
theorem s_fld {f : S} {K : PySem.W.Frag} {me mo : Env → M D} (c : CAt W.b K ⟨f.toArray⟩)
    (h : tS W (fun env => bnd (me env) fun d => bnd (bnd (mo env) fun x => bnd (putFld f d x) fun _ => ret env) fun env' => ret (.next env')) D' s H) : sFld K (tV W mo) (tV W me) ⟨f.toArray⟩ D' s H := by
  refine s_bind h fun H1 r1 env st d v e sr rd p => ?_
  refine ⟨r1, env, st, (), e, sr, True.intro, ?_⟩
  rw [bnd_bnd] at p
  refine post_bind p fun H2 r2 dx x st2 l2 sr2 rx p2 => ?_
  have e1 : bnd (bnd (putFld f d dx) fun _ => ret env) (fun env' => ret (Fl.next env')) = bnd (putFld f d dx) fun _ => ret (Fl.next env) := by
    rw [bnd_bnd]
    rfl
  rw [e1] at p2
  obtain ⟨b, C, ddx, gs, k1, _, k2⟩ := fin_fld c (e.mono l2) sr2 rx (rd.mono l2) p2
  exact ⟨b, C, ddx, gs, k1, k2⟩
/-- op= -/
theorem in_mul : OpR X (inplaceOp .Mult) (fun x y H Q => ∃ i j, x = .int i ∧ y = .int j ∧ ((-SMALL < i ∧ i < SMALL) ∨ (-SMALL < j ∧ j < SMALL)) ∧ Q (.int (i * j)) H) := by
  intro pins z σ H x y v u Q J rx ry h
  obtain ⟨i, j, rfl, rfl, hc, q⟩ := h
  obtain ⟨t, rfl⟩ := rx
  obtain ⟨t', rfl⟩ := ry
  have hm : CMul i j := hc
  exact PySem.P.imul_int ⟨.int _, H, J.tok _, ⟨_, rfl⟩, q⟩ hm.ok
theorem ok_aug : ∀ o : Bop, ∃ q, OpR X (inplaceOp (opOf o)) q ∧ Op2 W q (augop o)
  | .add => ⟨_, OpR.or (fun pins z σ H x y v u Q J rx ry h => ip_add pins z σ H x y v u Q J rx ry h) iop_add_str, by
    intro H r st a b x y Q s ha hb h
    cases ha with
    | int i =>
      cases hb with
      | int j => exact .inl ⟨i, j, rfl, rfl, h.ret s (.int _)⟩
      | _ => exact h.elim
    | str u h1 h2 =>
      cases hb with
      | str t h3 h4 =>
        obtain ⟨hc, h⟩ := Post.chk h
        refine .inr ⟨_, _, rfl, rfl, by rw [str_len, str_len, ← line_eq]; exact hc, ?_⟩
        rw [str_app]
        exact h.ret s (.str _ (by rw [List.length_append]; exact hc) fun c hm => (List.mem_append.mp hm).elim (h2 c) (h4 c))
      | _ => exact h.elim
    | _ => cases hb <;> exact h.elim⟩
  | .sub => ⟨_, fun pins z σ H x y v u Q J rx ry h => ip_sub pins z σ H x y v u Q J rx ry h, by
    intro H r st a b x y Q s ha hb h
    cases ha with
    | int i =>
      cases hb with
      | int j => exact ⟨i, j, rfl, rfl, h.ret s (.int _)⟩
      | _ => exact h.elim
    | _ => cases hb <;> exact h.elim⟩
  | .mul => ⟨_, in_mul, by
    intro H r st a b x y Q s ha hb h
    cases ha with
    | int i =>
      cases hb with
      | int j =>
        obtain ⟨hc, h⟩ := Post.chk h
        exact ⟨i, j, rfl, rfl, hc, h.ret s (.int _)⟩
      | _ => exact h.elim
    | _ => cases hb <;> exact h.elim⟩
  | .fdiv => ⟨fun _ _ _ _ => False, fun pins z σ H x y v u Q J rx ry h => h.elim, fun H r st a b x y Q s ha hb h => by cases ha <;> exact h.elim⟩
  | .mod => ⟨fun _ _ _ _ => False, fun pins z σ H x y v u Q J rx ry h => h.elim, fun H r st a b x y Q s ha hb h => by cases ha <;> exact h.elim⟩
  | .pow => ⟨fun _ _ _ _ => False, fun pins z σ H x y v u Q J rx ry h => h.elim, fun H r st a b x y Q s ha hb h => by cases ha <;> exact h.elim⟩
theorem s_augN {i : Nat} {o : Bop} {me : Env → M D} {q : R2} (hi : i < s.length) (h2 : Op2 W q (augop o))
    (h : tS W (fun env => bnd (match env[i]? with | some (some d) => ret d | _ => bad) fun x => bnd (me env) fun y => bnd (augop o x y) fun z => ret (.next (env.set i (some z)))) D' s H) : tAug i (tV W me) q D' s H := by
  obtain ⟨r, env, st, e, sr, p⟩ := h
  dsimp only at p
  cases z : env[i]? with
  | none => rw [z] at p; exact p.elim
  | some od =>
    cases od with
    | none => rw [z] at p; exact p.elim
    | some d =>
      rw [z] at p
      obtain ⟨v, f1, f2⟩ := e.at_ i d hi z
      refine ⟨v, f1, r, env, st, (), e, sr, True.intro, ?_⟩
      have p : PostS W H r (bnd (me env) (fun y => bnd (augop o d y) fun z => ret (.next (env.set i (some z)))) st) D' := p
      refine post_bind p fun H2 r2 dy y st2 l2 sr2 ry p2 => ?_
      refine h2 _ _ _ _ _ _ _ _ sr2 (f2.mono l2) ry ?_
      refine post_bind p2 fun H3 r3 dz z st3 l3 sr3 rz p3 => ?_
      exact p3 H3 r3 _ (Lt.refl _ _) sr3 ((e.mono (l2.trans l3)).set i rz)
theorem s_augF {f : S} {K : PySem.W.Frag} {o : Bop} {ma me : Env → M D} {q : R2} (c : CAt W.b K ⟨f.toArray⟩) (h2 : Op2 W q (augop o))
    (h : tS W (fun env => bnd (ma env) fun x => bnd (clsOf x) fun cn => bnd (fldOf f x) fun u => bnd (me env) fun y => bnd (augop o u y) fun z => bnd (clsOf x) fun cm => chk (cm = cn) (bnd (putFld f z x) fun _ => ret (.next env))) D' s H) : sFldAug K (tV W ma) (tV W me) q ⟨f.toArray⟩ D' s H := by
  refine s_bind h fun H1 r1 env st d x e sr rd p => ?_
  cases rd with
  | @ob n a h1 =>
    have p : PostS W H1 r1 (bnd (clsOf (.ob n)) (fun cn => bnd (fldOf f (.ob n)) (fun u => bnd (me env) fun y => bnd (augop o u y) fun z => bnd (clsOf (.ob n)) fun cm => chk (cm = cn) (bnd (putFld f z (.ob n)) fun _ => ret (.next env)))) st) D' := p
    cases z : st[n]? with
    | none =>
      rw [bnd_bad (show clsOf (.ob n) st = .bad from bnd_bad (by unfold getF; rw [z]))] at p
      exact p.elim
    | some ob =>
      cases ob with
      | lst _ | dic _ | nst _ =>
        rw [bnd_bad (show clsOf (.ob n) st = .bad from bnd_bad (by unfold getF; rw [z]))] at p
        exact p.elim
      | ins cn fs =>
        rw [bnd_ok (a := cn) (st' := st) (show clsOf (.ob n) st = .ok cn st by
          show bnd (getF n) (fun p => ret p.1) st = _
          rw [bnd_ok (a := (cn, fs)) (st' := st) (by unfold getF; rw [z])]
          rfl)] at p
        obtain ⟨a', C, dx, gs, f1, f2, f3, f4⟩ := sr.ins z
        rw [h1] at f1
        cases f1
        obtain ⟨g1, g2⟩ := c.at_ _ _ f3
        have ef : fldOf f (.ob n) st = ofO (fs.lookup f) st := by
          show bnd (getF n) _ st = _
          rw [bnd_ok (a := (cn, fs)) (st' := st) (by unfold getF; rw [z])]
        cases zl : fs.lookup f with
        | none =>
          rw [bnd_bad (by rw [ef, zl]; rfl)] at p
          exact p.elim
        | some u =>
          rw [bnd_ok (a := u) (st' := st) (by rw [ef, zl]; rfl)] at p
          obtain ⟨vu, e3, ru⟩ := f4.look zl
          refine ⟨a, C, dx, gs, vu, rfl, f2, g1, g2, e3, r1, env, st, (), e, sr, True.intro, ?_⟩
          refine post_bind p fun H2 r2 dy y st2 l2 sr2 ry p2 => ?_
          refine h2 _ _ _ _ _ _ _ _ sr2 (ru.mono l2) ry ?_
          refine post_bind p2 fun H3 r3 dz zv st3 l3 sr3 rz p3 => ?_
          have l := l2.trans l3
          cases zc : clsOf (.ob n) st3 with
          | bad => rw [bnd_bad zc] at p3; exact p3.elim
          | ex x s4 =>
            exfalso
            have zc : bnd (getF n) (fun p => ret p.1) st3 = .ex x s4 := zc
            unfold bnd getF ret at zc
            split at zc
            · cases zc
            · rename_i hq
              split at hq <;> cases hq
            · cases zc
          | ok cm st4 =>
            have e4 : st4 = st3 := by
              have zc : bnd (getF n) (fun p => ret p.1) st3 = .ok cm st4 := zc
              cases z5 : st3[n]? with
              | none => rw [bnd_bad (by unfold getF; rw [z5])] at zc; cases zc
              | some o5 =>
                cases o5 with
                | lst _ | dic _ | nst _ => rw [bnd_bad (by unfold getF; rw [z5])] at zc; cases zc
                | ins c5 f5 =>
                  rw [bnd_ok (a := (c5, f5)) (st' := st3) (by unfold getF; rw [z5])] at zc
                  cases zc
                  rfl
            subst e4
            rw [bnd_ok zc] at p3
            by_cases hcm : cm = cn
            · rw [chk_true hcm] at p3
              subst hcm
              obtain ⟨b, C', ddx, gs', k1, kc, k2, k3, k4, k5, k6⟩ := fin_fld c (e.mono l) sr3 (.ob (l.toLt0.get h1)) rz p3
              cases k1
              have hc := kc _ zc
              rw [f3] at hc
              cases hc
              exact ⟨ddx, gs', k2, k5, k6⟩
            · rw [chk_false hcm] at p3
              exact p3.elim
  | _ => exact p.elim
end
end Li
namespace Li
open PySem PySem.Spec PyProof.Rows L2
/-- X() -/
theorem pmk_own0 {X : Cx} {C : Addr} {bmB : List Value} {B newId initId : String} {x : Str} {p pos : Pos} (F : ExcBaseFacts B newId initId bmB) (q : PySem.W.excIn X.K C bmB newId = true) (gC : X.mg x = some (.ref C)) (kC : PySem.W.keepIn X.K (.ref C) = true) (r : Raises X (.ref C)) (hg : Gl X x)
    (hdb : (x == ("__debug__" : Str)) = false) : PMk X (.Call (.Name x p) [] [] pos) (fun _ H Q => Q (.ref C) none H) := by
  intro pins s σ H Q I h
  refine wpAny_Call_Name_kw (ld_glob I hg gC ?_ hdb)
  refine PySem.W.callWith_K0 I.kIn kC ?_
  show wpAny _ _ (PySem.call (.ref C) []) _ _ _
  obtain ⟨bm, N, nm, qn, bs, hdct, sn, sub, ab, col, dd, k0, k1, k2, k3, k5, mN, hC, hN, hni, T⟩ := exc_obj I.kIn q
  refine wpAny_call_exc_subT F T hC hN hni (fun h' e hm => ?_) (by show 0 ≤ sizeLine; exact Nat.zero_le _)
  exact mk_of I hm r h (I.hok.gone hm.new)
def initS (self : Str) : List Str → List Stmt → Option (List Str)
  | [], [] => some []
  | p :: ps, .Assign [.Attribute (.Name s _) f _] (.Name q _) _ :: r => if s = self ∧ q = p then (initS self ps r).map (f :: ·) else none
  | _, _ => none
theorem initS_cons {self p : Str} {ps : List Str} {st : Stmt} {r : List Stmt} {fs : List Str} (h : initS self (p :: ps) (st :: r) = some fs) :
    ∃ f fs' p1 p2 p3 pos, st = .Assign [.Attribute (.Name self p1) f p2] (.Name p p3) pos ∧ initS self ps r = some fs' ∧ fs = f :: fs' := by
  unfold initS at h
  split at h
  · rename_i e
    cases e
  · rename_i p' ps' s p1 f p2 q p3 pos r' e1 e2
    cases e1
    cases e2
    split at h
    · rename_i hq
      obtain ⟨fs', h1, rfl⟩ := Option.map_eq_some_iff.mp h
      obtain ⟨rfl, rfl⟩ := hq
      exact ⟨f, fs', p1, p2, p3, pos, rfl, h1, rfl⟩
    · cases h
  · cases h
theorem initS_nil {self : Str} {st : List Stmt} {fs : List Str} (h : initS self [] st = some fs) : st = [] ∧ fs = [] := by
  cases st with
  | nil => cases h; exact ⟨rfl, rfl⟩
  | cons s r => unfold initS at h; cases h
theorem initS_nil' {self p : Str} {ps : List Str} {fs : List Str} (h : initS self (p :: ps) [] = some fs) : False := by
  unfold initS at h
  cases h
section
variable {X : Cx}
/-- the further fields -/
theorem init_rest {self : Str} {C : Addr} (T : OexC X.K C) (hs : X.N[0]? = some self) (vs : Vis X.env.scope self) (n1 : (self == ("__debug__" : Str)) = false) (n2 : (self == ("__classdict__" : Str)) = false) :
    ∀ (ps : List Str) (body : List Stmt) (fs : List Str) (j : Nat), initS self ps body = some fs → (∀ (i : Nat) (p : Str), ps[i]? = some p → X.N[j + i]? = some p ∧ Vis X.env.scope p ∧ (p == ("__debug__" : Str)) = false ∧ (p == ("__classdict__" : Str)) = false) → (∀ f ∈ fs, PySem.W.findIn X.K (.ref C) f = some none) →
      PSs X body fun D σ H => ∃ (a dx : Addr) (gs : List (Str × V)) (ws : List V), σ[0]? = some (some (.ref a)) ∧ ws.length = ps.length ∧ (∀ (i : Nat) (w : V), ws[i]? = some w → σ[j + i]? = some (some w)) ∧ dx ≠ a ∧ H a = some (exo a C (some dx)) ∧ H dx = some (exd dx gs) ∧ gs.length + ps.length ≤ 900 ∧
        ∀ H2, H2 a = some (exo a C (some dx)) → H2 dx = some (exd dx ((fs.zip ws).reverse ++ gs)) → (∀ b, b ≠ dx → H2 b = H b) → D.nx σ H2
  | [], body, fs, j, hi, hN, hf => by
    obtain ⟨rfl, rfl⟩ := initS_nil hi
    refine ⟨fun pins s σ H D I h => pss_nil.run pins s σ H D I ?_⟩
    obtain ⟨a, dx, gs, ws, h1, h2, h3, _, h4, h5, h6, h7⟩ := h
    have e : ws = [] := by simpa using h2
    subst e
    exact h7 H h4 (by simpa using h5) fun b _ => rfl
  | p :: ps, [], fs, j, hi, hN, hf => (initS_nil' hi).elim
  | p :: ps, st :: r, fs, j, hi, hN, hf => by
    obtain ⟨f, fs', p1, p2, p3, pos, rfl, hi', rfl⟩ := initS_cons hi
    obtain ⟨k1, k2, k3, k4⟩ := hN 0 p rfl
    have ih := init_rest T hs vs n1 n2 ps r fs' (j + 1) hi' (fun i p' hp => by
      have := hN (i + 1) p' (by simpa using hp)
      have e : j + (i + 1) = j + 1 + i := by omega
      rw [e] at this
      exact this) fun f' hf' => hf f' (List.mem_cons_of_mem _ hf')
    have h1 : PS X (.Assign [.Attribute (.Name self p1) f p2] (.Name p p3) pos) (tOst X.K f (tVar 0) (tVar j)) := ps_ost (pe_var hs vs n1 n2) (pe_var (by simpa using k1) k2 k3 k4)
    refine ⟨fun pins s σ H D I h => (pss_cons h1 ih).run pins s σ H D I ?_⟩
    obtain ⟨a, dx, gs, ws, g1, g2, g3, ne, g4, g5, g6, g7⟩ := h
    cases ws with
    | nil => simp at g2
    | cons w ws =>
      refine ⟨w, by simpa using g3 0 w rfl, ?_⟩
      refine ⟨.ref a, g1, a, C, rfl, T, hf f (List.mem_cons_self ..), .inr ⟨dx, gs, g4, g5, by simp at g6; omega, ?_⟩⟩
      refine ⟨a, dx, (f, w) :: gs, ws, g1, by simpa using g2, fun i w' hw => ?_, ne, by rw [upd_ne (Ne.symm ne)]; exact g4, upd_same, by simp at g6 ⊢; omega, fun H2 e1 e2 e3 => ?_⟩
      · have := g3 (i + 1) w' (by simpa using hw)
        have e : j + 1 + i = j + (i + 1) := by omega
        rw [e]
        exact this
      · refine g7 H2 e1 ?_ fun b hb => by rw [e3 b hb, upd_ne hb]
        rw [e2]
        congr 2
        simp
/-- what is promised of it -/
def spInit (C : Addr) (fs : List Str) : Sp := fun vs H Q _ => ∃ (a : Addr) (ws : List V), vs = .ref a :: ws ∧ ws.length = fs.length ∧ H a = some (exo a C none) ∧
  ∀ H2 dx gs, H dx = none → dx ≠ a → H2 a = some (exo a C (some dx)) → H2 dx = some (exd dx gs) → gs = (fs.zip ws).reverse → (∀ b, b ≠ a → b ≠ dx → H2 b = H b) → Q .non H2
theorem init_body {self p : Str} {C : Addr} (T : OexC X.K C) {ps : List Str} {body : List Stmt} {fs : List Str} (hi : initS self (p :: ps) body = some fs)
    (hN : ∀ (i : Nat) (p' : Str), (self :: p :: ps)[i]? = some p' → X.N[i]? = some p' ∧ Vis X.env.scope p' ∧ (p' == ("__debug__" : Str)) = false ∧ (p' == ("__classdict__" : Str)) = false) (hf : ∀ f ∈ fs, PySem.W.findIn X.K (.ref C) f = some none) (hl : ps.length ≤ 800) :
    PSs X body fun D σ H => ∃ (a : Addr) (ws : List V), σ[0]? = some (some (.ref a)) ∧ ws.length = (p :: ps).length ∧ (∀ (i : Nat) (w : V), ws[i]? = some w → σ[i + 1]? = some (some w)) ∧ H a = some (exo a C none) ∧
      ∀ H2 dx gs, H dx = none → dx ≠ a → H2 a = some (exo a C (some dx)) → H2 dx = some (exd dx gs) → gs = (fs.zip ws).reverse → (∀ b, b ≠ a → b ≠ dx → H2 b = H b) → D.nx σ H2 := by
  cases body with
  | nil => exact (initS_nil' hi).elim
  | cons st r =>
    obtain ⟨f, fs', p1, p2, p3, pos, rfl, hi', rfl⟩ := initS_cons hi
    obtain ⟨s1, s2, s3, s4⟩ := hN 0 self rfl
    obtain ⟨k1, k2, k3, k4⟩ := hN 1 p rfl
    have ih := init_rest T s1 s2 s3 s4 ps r fs' 2 hi' (fun i p' hp => by
      have := hN (i + 2) p' (by simpa using hp)
      have e : 2 + i = i + 2 := by omega
      rw [e]
      exact this) fun f' hf' => hf f' (List.mem_cons_of_mem _ hf')
    have h1 : PS X (.Assign [.Attribute (.Name self p1) f p2] (.Name p p3) pos) (tOst X.K f (tVar 0) (tVar 1)) := ps_ost (pe_var s1 s2 s3 s4) (pe_var k1 k2 k3 k4)
    refine ⟨fun pins s σ H D I h => (pss_cons h1 ih).run pins s σ H D I ?_⟩
    obtain ⟨a, ws, g1, g2, g3, g4, g7⟩ := h
    cases ws with
    | nil => simp at g2
    | cons w ws =>
      refine ⟨w, by simpa using g3 0 w rfl, ?_⟩
      refine ⟨.ref a, g1, a, C, rfl, T, hf f (List.mem_cons_self ..), .inl ⟨g4, fun dx hn ne => ?_⟩⟩
      refine ⟨a, dx, [(f, w)], ws, g1, by simpa using g2, fun i w' hw => ?_, ne, upd_same, by rw [upd_ne ne]; exact upd_same, by simp; omega, fun H2 e1 e2 e3 => ?_⟩
      · have := g3 (i + 1) w' (by simpa using hw)
        have e : 2 + i = i + 1 + 1 := by omega
        rw [e]
        exact this
      · refine g7 H2 dx _ hn ne e1 e2 (by simp) fun b hb hb2 => ?_
        rw [e3 b hb2, upd_ne hb, upd_ne hb2]
end
section
variable {P : Program} {w : World} {K : PySem.W.Frag} {mg : Str → Option Value} {base : Heap} {x qual : Str} {params : Arguments} {body : List Stmt} {scope : Scope} {f : Addr} {fd : FuncData}
/-- the promise is kept -/
theorem init_fn {C : Addr} {self p : Str} {ps : List Str} {fs : List Str} (F : FunD K x qual params body scope [] [] f fd) (S : FnScope (self :: p :: ps) (self :: p :: ps) scope) (T : OexC K C) (hi : initS self (p :: ps) body = some fs) (hlen : fs.length = (p :: ps).length)
    (hv : ∀ p' ∈ self :: p :: ps, Vis scope p' ∧ (p' == ("__debug__" : Str)) = false ∧ (p' == ("__classdict__" : Str)) = false) (hf : ∀ f ∈ fs, PySem.W.findIn K (.ref C) f = some none) (hl : ps.length ≤ 800) : FnOk P w K mg base CX0 1 f fd (self :: p :: ps) (spInit C fs) := by
  refine FunD.ok F S (fun vs H Q E h => ?_) fun cdv A outer s H vs Q E hr h => ?_
  · obtain ⟨a, ws, rfl, h2, _⟩ := h
    simp [h2, hlen]
  · obtain ⟨a, ws, rfl, h2, h3, h4⟩ := h
    refine ⟨_, init_body T hi (fun i p' hp => ⟨hp, ?_⟩) hf hl, a, ws, ?_, by rw [h2, hlen], fun i w' hw => ?_, h3, fun H2 dx gs e1 e2 e3 e4 e5 e6 => h4 H2 dx gs e1 e2 e3 e4 e5 e6⟩
    · exact hv p' (List.mem_of_getElem? hp)
    · rfl
    · have hi2 := (List.getElem?_eq_some_iff.mp hw).1
      show (L2.start (self :: p :: ps) (.ref a :: ws))[i + 1]? = _
      unfold L2.start
      rw [List.map_cons, List.cons_append, List.getElem?_cons_succ, List.getElem?_append_left (by simpa using hi2), List.getElem?_map, hw]
      rfl
end
theorem lookup_memN {α β : Type} [BEq α] [LawfulBEq α] {k : α} {v : β} : ∀ {l : List (α × β)}, (l.map (·.1)).Nodup → (k, v) ∈ l → l.lookup k = some v
  | [], _, h => by cases h
  | (x, y) :: l, hn, h => by
    rw [List.map_cons, List.nodup_cons] at hn
    rcases List.mem_cons.mp h with e | e
    · cases e
      exact List.lookup_cons_self
    · have : k ≠ x := fun z => hn.1 (z ▸ List.mem_map_of_mem (f := (·.1)) e)
      rw [List.lookup_cons, beq_eq_false_iff_ne.mpr this]
      exact lookup_memN hn.2 e
theorem mem_lookupN {α β : Type} [BEq α] [LawfulBEq α] {k : α} {v : β} : ∀ {l : List (α × β)}, l.lookup k = some v → (k, v) ∈ l
  | [], h => by cases h
  | (x, y) :: l, h => by
    by_cases e : k = x
    · subst e
      rw [List.lookup_cons_self] at h
      cases h
      exact List.mem_cons_self ..
    · rw [List.lookup_cons, beq_eq_false_iff_ne.mpr e] at h
      exact List.mem_cons_of_mem _ (mem_lookupN h)
section
variable {W : Wd} {X : Cx} {s : L2.St} {H : Hp} {D' : Ends}
/-- the fields, as the dict has them -/
theorem xd_look {Wb' : Wb} {r : List Addr} {fs : List S} {ds : List D} {vs : List V} (hn : fs.Nodup) (hl : ds.length = fs.length) (ha : ds.all atom = true) (q : RDs Wb' H r ds vs) {f : S} {u : D} (h : (fs.zip ds).lookup f = some u) :
    ∃ v, (((fs.map mkS).zip vs).reverse).lookup ⟨f.toArray⟩ = some v ∧ RA u v := by
  have hm := mem_lookupN h
  obtain ⟨i, hi⟩ := List.getElem?_of_mem hm
  rw [List.getElem?_zip_eq_some] at hi
  obtain ⟨h1, h2⟩ := hi
  obtain ⟨v, h3, h4⟩ := q.get h2
  refine ⟨v, lookup_memN ?_ ?_, h4.ra (List.all_eq_true.mp ha u (List.mem_of_getElem? h2))⟩
  · rw [List.map_reverse]
    refine (List.reverse_perm _).nodup_iff.mpr ?_
    have e : ((fs.map mkS).zip vs).map (·.1) = fs.map mkS := by
      rw [List.map_fst_zip]
      rw [List.length_map, ← hl, q.length]
      exact Nat.le_refl _
    rw [e]
    refine List.pairwise_map.mpr (List.Pairwise.imp (fun {a b} hab z => hab ?_) hn)
    have := congrArg (fun z : Str => z.cps.toList) z
    exact this
  · rw [List.mem_reverse]
    refine List.mem_of_getElem? (i := i) ?_
    rw [List.getElem?_zip_eq_some]
    exact ⟨by rw [List.getElem?_map, h1]; rfl, h3⟩
theorem s_rais {c : Nat} {C : Addr} {fs : List S} {mas : Env → M (List D)} (hE : W.b.E c = some C) (hn : fs.Nodup) (hl : fs.length ≤ 800)
    (h : tS W (fun env => bnd (mas env) fun ds => throw c fs ds) D' s H) : tMkO C (spInit C (fs.map mkS)) [] (tA W mas) s H fun cls d H' => W.xk cls d H' := by
  obtain ⟨r, env, st, e, sr, p⟩ := h
  refine ⟨r, env, st, (), e, sr, True.intro, ?_⟩
  show Post W (RDs W.b) H r (mas env st) _
  dsimp only at p
  cases z : mas env st with
  | ex y s1 => rw [bnd_ex z] at p; exact p
  | bad => rw [bnd_bad z] at p; exact p.elim
  | ok ds st1 =>
    rw [bnd_ok z] at p
    intro H1 r1 vs l sr1 q
    unfold throw at p
    by_cases hc : ds.length = fs.length ∧ ds.all atom = true
    · rw [if_pos hc] at p
      refine ⟨by rw [← q.length, hc.1]; omega, fun a ha => ⟨a, vs, by simp, by rw [← q.length, List.length_map, hc.1], upd_same, fun H2 dx gs e1 e2 e3 e4 e5 e6 => ?_⟩⟩
      have hd : H1 dx = none := by rw [upd_ne e2] at e1; exact e1
      refine ⟨rfl, dx, gs, e3, e4, hd, ?_⟩
      have eH : upd (del H2 a) dx (.xd gs) = upd H1 dx (.xd gs) := by
        funext b
        by_cases hb : b = dx
        · subst hb
          rw [upd_same, upd_same]
        · rw [upd_ne hb, upd_ne hb]
          by_cases hba : b = a
          · rw [hba, del_same, ha]
          · rw [del_ne hba, e6 b hba hb, upd_ne hba]
      rw [eH]
      refine p _ r1 _ _ (l.trans (Lt.new hd)) (sr1.new hd) ⟨C, hE, rfl, .inr ⟨dx, gs, rfl, upd_same, fun f u hu => ?_⟩⟩
      rw [e5]
      exact xd_look hn hc.1 hc.2 q hu
    · rw [if_neg hc] at p
      exact p.elim
theorem s_rais0 {c : Nat} {C : Addr} (hE : W.b.E c = some C) (h : tS W (fun env => bnd (ret []) fun ds => throw c [] ds) D' s H) : W.xk (.ref C) none H := by
  obtain ⟨r, env, st, e, sr, p⟩ := h
  exact p H r _ _ (Lt.refl _ _) sr ⟨C, hE, rfl, .inl ⟨rfl, rfl⟩⟩
/-- what an exception's class must say -/
structure XcK (K : PySem.W.Frag) (C : Addr) (at_ : List Str) : Prop extends XfC K C where
  cl : (PySem.W.clsIn K C).isSome = true
  ca : PySem.W.findIn K (.ref C) "__class__" = some (some (.builtin "object.__class__"))
  cg : PySem.W.specialIn K (.builtin "object.__class__") "__get__" = some (some (.builtin "getset_descriptor.__get__"))
  ct : PySem.W.takesIn K (.builtin "object.__class__") = some true
  cm : PySem.W.mroIn K C (.type "object") = some true
  no : ∀ f ∈ at_, PySem.W.findIn K (.ref C) f = some none
  ve : PySem.W.kitOne K (.ref C) (.type "ValueError") = some true
def xcB (K : PySem.W.Frag) (C : Addr) (at_ : List Str) : Bool := xfB K C && ((PySem.W.clsIn K C).isSome && (decide (PySem.W.findIn K (.ref C) "__class__" = some (some (.builtin "object.__class__"))) && (decide (PySem.W.specialIn K (.builtin "object.__class__") "__get__" = some (some (.builtin "getset_descriptor.__get__"))) &&
  (decide (PySem.W.takesIn K (.builtin "object.__class__") = some true) && (decide (PySem.W.mroIn K C (.type "object") = some true) && ((at_.all fun f => decide (PySem.W.findIn K (.ref C) f = some none)) && decide (PySem.W.kitOne K (.ref C) (.type "ValueError") = some true)))))))
theorem xcB_ok {K : PySem.W.Frag} {C : Addr} {at_ : List Str} (h : xcB K C at_ = true) : XcK K C at_ := by
  unfold xcB at h
  simp only [Bool.and_eq_true, decide_eq_true_eq, List.all_eq_true] at h
  obtain ⟨h1, h2, h3, h4, h5, h6, h7, h8⟩ := h
  exact ⟨xfB_ok h1, h2, h3, h4, h5, h6, h7, h8⟩
/-- isinstance(e, c) -/
def rIsX (K : PySem.W.Frag) (D a : Addr) (d : Option Addr) : List V → Hp → VK → Prop := fun xs H Q => ∃ (c : V) (cv : Value) (b : Bool), xs = [.ref a, c] ∧ (∀ u, RelV c u → u = cv) ∧ PySem.W.kitOne K (.ref D) cv = some b ∧
  (d = none ∨ ∃ dd gs, d = some dd ∧ H dd = some (.xd gs)) ∧ Q (.bl b) H
theorem call_isX {a D : Addr} {oe : Obj} {d : Option Addr} {pn : List (Addr × Obj)} {at_ : List Str} (C : XcK X.K D at_) (hz : Zc (.ref D) d oe) (hf : ∃ vs, oe.data = .fields vs) : CallR (X.suite a ((a, oe) :: pn)) (.builtin "isinstance") (rIsX X.K D a d) := by
  intro pins s σ H xs us Q I r h
  obtain ⟨c, cv, b, rfl, hcv, e, hd, q⟩ := h
  cases r with
  | cons rx rr =>
    cases rr with
    | cons rt rr =>
      cases rr
      cases rx
      have ec := hcv _ rt
      subst ec
      obtain ⟨hget, _⟩ := I.pin (a, oe) (List.mem_append.mpr (.inl List.mem_cons_self))
      obtain ⟨vs, hv⟩ := hf
      obtain ⟨od, J⟩ : ∃ od, PySem.W.InstAt s.heap a oe D od := by
        rcases hd with rfl | ⟨dd, gs, rfl, ed⟩
        · refine ⟨none, ?_⟩
          obtain ⟨oc, od, oda, osl⟩ := oe
          obtain ⟨h1, h2⟩ := hz
          dsimp only at h1 h2 hv
          subst h1 h2 hv
          exact ⟨hget, rfl, rfl, trivial⟩
        · have hx : ObjOk X.prog X.w H s.heap dd (.xd gs) := I.hok dd _ ed
          obtain ⟨mA, hns, hr⟩ := hx
          obtain ⟨od, ho, hl⟩ := lookIn_ns hns
          exact ⟨some od, hget, hz.1, by unfold PySem.W.notCls; rw [hv] <;> rfl, by rw [hz.2]; exact ho⟩
      exact PySem.W.kia_one (PySem.W.kitx_exc (od := od) C.cl C.ga C.gg C.exC C.ca C.cg C.ct C.cm) I.kIn J e (fun z => nomatch z) fun tk => ⟨.bl b, H, I.kept (t' := tk) fun _ _ z => z, rfl, q⟩
theorem cur_inv {U : Type} {Rl : Hp → List Addr → D → U → Prop} {r : List Addr} {st : Store} {n i : Nat} {env : Env} {k : Xn → M D} {Q : U → Hp → Prop} (p : Post W Rl H r (curX n i env k st) Q) : ∃ c fs ds, env[n]? = some (some (.xn c fs ds)) ∧ env[i]? = some none ∧ Post W Rl H r (k ⟨c, fs, ds⟩ st) Q := by
  cases h1 : env[n]? with
  | none => unfold curX at p; rw [h1] at p; exact p.elim
  | some o =>
    cases o with
    | none => unfold curX at p; rw [h1] at p; exact p.elim
    | some d =>
      cases d with
      | xn c fs ds =>
        cases h2 : env[i]? with
        | none => unfold curX at p; rw [h1, h2] at p; exact p.elim
        | some o =>
          cases o with
          | some d => unfold curX at p; rw [h1, h2] at p; exact p.elim
          | none => unfold curX at p; rw [h1, h2] at p; exact ⟨c, fs, ds, rfl, rfl, p⟩
      | _ => unfold curX at p; rw [h1] at p; exact p.elim
theorem w_xi {n i : Nat} {ks : List Nat} {a : Addr} {d : Option Addr} {D : Addr} {v : V} {cv : Value} {Q : VK} (hn : s.length = n) (hc : W.cur = some (i, a, .ref D, d)) (hv : ∀ u, RelV v u → u = cv) (hk : ∀ c, W.b.E c = some D → PySem.W.kitOne W.b.K (.ref D) cv = some (ks.contains c))
    (h : tV W (fun env => curX n i env fun x => ret (.bl (ks.contains x.c))) s H Q) : tCB (rIsX W.b.K D a d) (tCons (tVar i) (tCons (fun _ H Q => Q v H) tNil)) s H Q := by
  obtain ⟨r, env, st, _, e, sr, _, p⟩ := h
  have p : Post W (RD W.b) H r (curX n i env (fun x => ret (.bl (ks.contains x.c))) st) Q := p
  subst hn
  obtain ⟨c, fs, ds, h1, h2, p⟩ := cur_inv p
  · skip
    obtain ⟨i', a', cls, d', C, e1, e2, e3, e4, e5⟩ := e.hid c fs ds h1
    rw [hc] at e1
    cases e1
    cases e3
    have h3 := e5 h2
    refine ⟨_, h3, v, cv, _, rfl, hv, hk c e2, ?_, p.ret sr (.bl _)⟩
    rcases e4 with ⟨_, rfl⟩ | ⟨dd, gs, rfl, e6, _⟩
    · exact .inl rfl
    · exact .inr ⟨dd, gs, rfl, e6⟩
theorem w_xf {n i : Nat} {f : S} {a : Addr} {d : Option Addr} {D : Addr} {Q : VK} (hn : s.length = n) (hc : W.cur = some (i, a, .ref D, d)) (h : tV W (fun env => curX n i env fun x => ofO ((x.fs.zip x.ds).lookup f)) s H Q) : tXf a (.ref D) d D ⟨f.toArray⟩ (tVar i) s H Q := by
  obtain ⟨r, env, st, _, e, sr, _, p⟩ := h
  have p : Post W (RD W.b) H r (curX n i env (fun x => ofO ((x.fs.zip x.ds).lookup f)) st) Q := p
  subst hn
  obtain ⟨c, fs, ds, h1, h2, p⟩ := cur_inv p
  · skip
    obtain ⟨i', a', cls, d', C, e1, e2, e3, e4, e5⟩ := e.hid c fs ds h1
    rw [hc] at e1
    cases e1
    cases e3
    have h3 := e5 h2
    have p : Post W (RD W.b) H r (ofO ((fs.zip ds).lookup f) st) Q := p
    cases hu : (fs.zip ds).lookup f with
    | none => rw [hu] at p; exact p.elim
    | some u =>
      rw [hu] at p
      refine ⟨_, h3, rfl, rfl, ?_⟩
      rcases e4 with ⟨rfl, _⟩ | ⟨dd, gs, rfl, e6, e7⟩
      · cases hu
      · obtain ⟨v, e8, e9⟩ := e7 f u hu
        exact ⟨dd, gs, v, rfl, e6, e8, Post.ret (Rl := RD W.b) (a := u) p sr e9.rd⟩
/-- where the exception is none of ours -/
theorem w_xno {n i j : Nat} {k : Xn → M D} {a : Addr} {cls : Value} {d : Option Addr} {Q : VK} (hn : s.length = n) (hc : W.cur = some (j, a, cls, d)) (hno : ¬ ∃ c C, W.b.E c = some C ∧ cls = .ref C) (h : tV W (fun env => curX n i env k) s H Q) : False := by
  obtain ⟨r, env, st, _, e, sr, _, p⟩ := h
  have p : Post W (RD W.b) H r (curX n i env k st) Q := p
  subst hn
  obtain ⟨c, fs, ds, h1, h2, p⟩ := cur_inv p
  · skip
    obtain ⟨i', a', cls, d', C, e1, e2, e3, e4, e5⟩ := e.hid c fs ds h1
    rw [hc] at e1
    cases e1
    exact hno ⟨c, C, e2, e3⟩
end
theorem takes_len {Y : Cx} {Wx : WX} (t : Takes Y Wx) : Takes Y fun cls d _ H => ∀ σ : L2.St, σ.length = Y.N.length → Wx cls d σ H :=
  fun u s' ⟨a, B, sI, pins, σ, H, cls, d, e, I, h1, h2, h3, h4, h5, h6, w⟩ => t u s' ⟨a, B, sI, pins, σ, H, cls, d, e, I, h1, h2, h3, h4, h5, h6, w σ I.len⟩
theorem takes_never {X : Cx} {W : WX} (h : ∀ c d σ H, ¬ W c d σ H) : Takes X W := fun u s' ⟨_, _, _, _, _, _, _, _, _, _, _, _, _, _, _, _, w⟩ => (h _ _ _ _ w).elim
section
variable {W : Wd} {s : L2.St}
theorem ER.xk {H : Hp} {r : List Addr} {env : Env} {xk : XK} (e : ER W H r env s) : ER { W with xk := xk } H r env s := ⟨e.len, e.at_, e.hid⟩
theorem ER.unxk {H : Hp} {r : List Addr} {env : Env} {xk : XK} (e : ER { W with xk := xk } H r env s) : ER W H r env s := ⟨e.len, e.at_, e.hid⟩
theorem PostS.ok_xk {H : Hp} {r : List Addr} {f : Fl} {st : Store} {D' : Ends} {xk : XK} (h : PostS W H r (.ok f st) D') : PostS { W with xk := xk } H r (.ok f st) D' := by
  cases f with
  | next e => exact fun H' r' s' l a b => h H' r' s' l a b.unxk
  | brk e => exact fun H' r' s' l a b => h H' r' s' l a b.unxk
  | cnt e => exact fun H' r' s' l a b => h H' r' s' l a b.unxk
  | ret d => exact fun H' r' v l a b => h H' r' v l a b
/-- behind the suite -/
theorem hOut_er {H : Hp} {r : List Addr} {e : Env} {i : Nat} {b : Wb} {xk : XK} {p : Nat × Addr × Value × Option Addr} {xk' : XK} (h : ER ⟨b, xk, some p⟩ H r e s) : ER ⟨b, xk', none⟩ H r (hOut i e) (s.set i none) := by
  have len : e.length = s.length + 1 := h.len
  refine ⟨?_, fun j d hj hd => ?_, fun c fs ds hd => ?_⟩
  · show (e.dropLast.set i none).length = (s.set i none).length + 0
    simp [len]
  · rw [List.length_set] at hj
    unfold hOut at hd
    by_cases hi : i = j
    · subst hi
      rw [List.getElem?_set_self (by simp [len]; exact hj)] at hd
      cases hd
    · rw [List.getElem?_set_ne hi] at hd ⊢
      rw [List.getElem?_dropLast] at hd
      split at hd
      · exact h.at_ j d hj hd
      · cases hd
  · exfalso
    rw [List.length_set] at hd
    have : (hOut i e)[s.length]? = none := by
      rw [List.getElem?_eq_none_iff]
      unfold hOut
      simp [len]
    rw [this] at hd
    cases hd
theorem rep_none {n i : Nat} {x : Xn} {d : D} (hi : i < n) : (hEnv n x)[i]? ≠ some (some d) := by
  unfold hEnv
  rw [List.getElem?_append_left (by simpa using hi), List.getElem?_replicate]
  simp [hi]
theorem hEnv_er {H : Hp} {r : List Addr} {n i : Nat} {x : Xn} {b : Wb} {xk : XK} {a : Addr} {cls : Value} {d : Option Addr} (hn : s.length = n) (hi : i < n) (hx : RX b H x cls d) : ER ⟨b, xk, some (i, a, cls, d)⟩ H r (hEnv n x) (s.set i (some (.ref a))) := by
  refine ⟨?_, fun j d' hj hd => ?_, fun c fs ds hd => ?_⟩
  · show (hEnv n x).length = (s.set i (some (.ref a))).length + 1
    unfold hEnv
    simp [hn]
  · rw [List.length_set, hn] at hj
    exact (rep_none hj hd).elim
  · rw [List.length_set, hn] at hd
    unfold hEnv at hd
    rw [List.getElem?_append_right (by simp)] at hd
    simp at hd
    obtain ⟨rfl, rfl, rfl⟩ := hd
    obtain ⟨C, h1, h2, h3⟩ := hx
    exact ⟨i, a, cls, d, C, rfl, h1, h2, h3, fun _ => List.getElem?_set_self (by rw [hn]; exact hi)⟩
/-- the suite's end is the statement's -/
theorem suite_end {H : Hp} {r : List Addr} {m : M Fl} {st : Store} {i : Nat} {b : Wb} {xk : XK} {p : Nat × Addr × Value × Option Addr} {D' : Ends} (h : PostS ⟨b, xk, none⟩ H r (calm (bnd m fun f => ret (hFl i f)) st) D') :
    PostS ⟨b, fun _ _ _ => False, some p⟩ H r (m st) { nx := fun σ' H' => D'.nx (σ'.set i none) H', rt := D'.rt, bk := fun σ' H' => D'.bk (σ'.set i none) H', ct := fun σ' H' => D'.ct (σ'.set i none) H' } := by
  unfold calm bnd at h
  cases z : m st with
  | ex y s1 => rw [z] at h; exact h.elim
  | bad => rw [z] at h; exact h.elim
  | ok f s1 =>
    rw [z] at h
    cases f with
    | next e => exact fun H' r' s' l a b' => h H' r' _ l a (hOut_er b')
    | brk e => exact fun H' r' s' l a b' => h H' r' _ l a (hOut_er b')
    | cnt e => exact fun H' r' s' l a b' => h H' r' _ l a (hOut_er b')
    | ret d => exact fun H' r' v l a b' => h H' r' v l a b'
theorem ps_tryX {b : Wb} {xk : XK} {X : Cx} {x n : Str} {Ch : Addr} {i : Nat} {body suite : List Stmt} {b₀ : Stmt} {np pos pos' : Pos} {mb : Env → M Fl} {mh : Env → M Fl} {ks : List Nat} (hs : X.stack = X.env :: X.outer) (hf : X.env.frame = some X.env.locals) (hN : X.N.Nodup) (hi : X.N[i]? = some n) (hln : X.env.kindOf n = some .local)
    (hc : Names X x (.ref Ch)) (tk : Takes X fun cls d _ H => xk cls d H) (hex : ∀ c C, b.E c = some C → PySem.W.exmOne X.K (.ref C) (.ref Ch) = some (ks.contains c))
    (hb : ∀ (xk' : XK) (pn : List (Addr × Obj)) (xe : Value → Shared → Prop), Takes (X.tr pn xe) (fun cls d _ H => xk' cls d H) → PassesOwn (model X.prog X.w) X.A X.env xe → PSs (X.tr pn xe) body (tS ⟨b, xk', none⟩ mb))
    (hsu : ∀ (a : Addr) (oe : Obj) (cls : Value) (d : Option Addr) (pn : List (Addr × Obj)), Zc cls d oe → (∃ vs, oe.data = .fields vs) → PSs (X.suite a ((a, oe) :: pn)) (b₀ :: suite) (tS ⟨b, fun _ _ _ => False, some (i, a, cls, d)⟩ mh)) :
    PS X (.Try body [.ExceptHandler (some (.Name x np)) (some n) (b₀ :: suite) pos'] [] [] pos) (tS ⟨b, xk, none⟩ fun env => tryM (mb env) ks fun y => bnd (mh (hEnv X.N.length y)) fun f => ret (hFl i f)) := by
  refine ⟨fun pins z σ H D' I q => ?_⟩
  refine (ps_try_as (tb := fun Wx D σ H => tS ⟨b, fun cls d H => ∀ σ : L2.St, σ.length = X.N.length → Wx cls d σ H, none⟩ mb D σ H) (ts := fun a cls d => tS ⟨b, fun _ _ _ => False, some (i, a, cls, d)⟩ mh) (Wout := fun cls d _ H => xk cls d H) hs hf hN hi hln hc tk (fun Wx pn xe t pass => hb _ pn xe (takes_len t) pass) hsu).run pins z σ H D' I ?_
  obtain ⟨r, env, st, e, sr, p⟩ := q
  refine ⟨r, env, st, ⟨e.len, e.at_, e.hid⟩, sr, ?_⟩
  have p : PostS ⟨b, xk, none⟩ H r (tryM (mb env) ks (fun y => bnd (mh (hEnv X.N.length y)) fun f => ret (hFl i f)) st) D' := p
  unfold tryM at p
  cases zm : mb env st with
  | bad => rw [zm] at p; exact p
  | ok f st1 =>
    rw [zm] at p
    exact PostS.ok_xk (W := ⟨b, xk, none⟩) p
  | ex y st1 =>
    rw [zm] at p
    intro H1 r1 cls d l sr1 hx σ1 hl
    obtain ⟨C, h1, h2, h3⟩ := id hx
    subst h2
    refine ⟨_, hex _ _ h1, fun hk a ha => ?_, fun hk => ?_⟩
    · dsimp only at p
      rw [if_pos hk] at p
      have hi2 := (List.getElem?_eq_some_iff.mp hi).1
      exact ⟨r1, hEnv X.N.length y, st1, hEnv_er hl hi2 hx, sr1, suite_end (p.lt l)⟩
    · dsimp only at p
      rw [if_neg (by rw [hk]; simp)] at p
      exact p H1 r1 _ _ l sr1 hx
end
end Li
namespace Li
open PySem PySem.Spec PyProof.Rows L2
section
variable {W : Wd} {H H' : Hp} {r r' : List Addr}
theorem key_rd {d : D} {v : V} {k : K} (h : RD W.b H r d v) (e : keyD d = some k) : v = kV (kk k) := by
  cases h <;> cases e <;> rfl
theorem lookM_pos {k : K} {d : D} {ks : List (K × D)} : lookM ((k, d) :: ks) k = some d := by simp [lookM, List.find?_cons]
theorem lookM_neg {j k : K} {d : D} {ks : List (K × D)} (h : ¬ j = k) : lookM ((j, d) :: ks) k = lookM ks k := by simp [lookM, List.find?_cons, h]
theorem kk_ne {j k : K} (h : ¬ j = k) : ¬ kk j = kk k := fun e => h (kk_inj e)
theorem RKs.some {k : K} {d : D} : ∀ {ks : List (K × D)} {us : List (Key × V)}, RKs W.b H r ks us → lookM ks k = some d → ∃ v, valV us (kk k) = some v ∧ RD W.b H r d v
  | _, _, .nil, h => by cases h
  | _, _, .cons (k := j) h1 h2, h => by
    by_cases e : j = k
    · subst e
      rw [lookM_pos] at h
      cases h
      exact ⟨_, valV_pos rfl, h1⟩
    · rw [lookM_neg e] at h
      rw [valV_neg (kk_ne e)]
      exact RKs.some h2 h
theorem RKs.none {k : K} : ∀ {ks : List (K × D)} {us : List (Key × V)}, RKs W.b H r ks us → lookM ks k = none → valV us (kk k) = none
  | _, _, .nil, h => rfl
  | _, _, .cons (k := j) h1 h2, h => by
    by_cases e : j = k
    · subst e
      rw [lookM_pos] at h
      cases h
    · rw [lookM_neg e] at h
      rw [valV_neg (kk_ne e)]
      exact RKs.none h2 h
theorem RKs.isSome {k : K} {ks : List (K × D)} {us : List (Key × V)} (q : RKs W.b H r ks us) : (valV us (kk k)).isSome = (lookM ks k).isSome := by
  cases e : lookM ks k with
  | none => rw [q.none e]; rfl
  | some d =>
    obtain ⟨v, h, _⟩ := q.some e
    rw [h]
    rfl
theorem RKs.any {k : K} : ∀ {ks : List (K × D)} {us : List (Key × V)}, RKs W.b H r ks us → (us.any fun p => decide (p.1 = kk k)) = ks.any fun p => decide (p.1 = k)
  | _, _, .nil => rfl
  | _, _, .cons (k := j) h1 h2 => by
    rw [List.any_cons, List.any_cons, RKs.any h2]
    congr 1
    by_cases e : j = k
    · subst e; simp
    · simp [e, kk_ne e]
theorem RKs.repl {k : K} {d : D} {v : V} (q : RD W.b H r d v) : ∀ {ks : List (K × D)} {us : List (Key × V)}, RKs W.b H r ks us → RKs W.b H r (ks.map fun p => if p.1 = k then (p.1, d) else p) (us.map fun p => if p.1 = kk k then (p.1, v) else p)
  | _, _, .nil => .nil
  | _, _, .cons (k := j) h1 h2 => by
    rw [List.map_cons, List.map_cons]
    by_cases e : j = k
    · subst e
      simp only [if_true]
      exact .cons q (RKs.repl q h2)
    · simp only [if_neg e, if_neg (kk_ne e)]
      exact .cons h1 (RKs.repl q h2)
theorem RKs.app : ∀ {ks ls : List (K × D)} {us ws : List (Key × V)}, RKs W.b H r ks us → RKs W.b H r ls ws → RKs W.b H r (ks ++ ls) (us ++ ws)
  | _, _, _, _, .nil, h => h
  | _, _, _, _, .cons h1 h2, h => .cons h1 (RKs.app h2 h)
theorem RKs.put {k : K} {d : D} {v : V} {ks : List (K × D)} {us : List (Key × V)} (h : RKs W.b H r ks us) (q : RD W.b H r d v) : RKs W.b H r (putM ks k d) (putK us (kk k) v) := by
  unfold putM putK
  rw [h.any]
  split
  · exact h.repl q
  · exact h.app (.cons q .nil)
theorem RKs.merge : ∀ {ms : List (K × D)} {ws : List (Key × V)} {ks : List (K × D)} {us : List (Key × V)}, RKs W.b H r ms ws → RKs W.b H r ks us → RKs W.b H r (mergeM ks ms) (mergeK us ws)
  | _, _, _, _, .nil, h => h
  | _, _, _, _, .cons (k := k) (d := d) (v := v) (ks := ms) (us := ws) h1 h2, h => by
    have := RKs.merge h2 (h.put (k := k) h1)
    exact this
/-- an item; whether a key is in it -/
def rDGet : R2 := fun x y H Q => ∃ a v, x = .ref a ∧ DGet H a y (some v) ∧ Q v H
def rDHas (neg : Bool) : R2 := fun y x H Q => ∃ a o, x = .ref a ∧ DGet H a y o ∧ Q (.bl (o.isSome != neg)) H
theorem ok_dget : Op2 W rDGet dgetOf := by
  intro H r st a b x y Q s ha hb h
  cases ha with
  | @ob n p h1 =>
    have h : Post W (RD W.b) H r (bnd (ofO (keyD b)) (fun k => bnd (getM n) fun kvs => bnd (ofO (lookM kvs k)) ret) st) Q := by
      have e : dgetOf (.ob n) b = bnd (ofO (keyD b)) (fun k => bnd (getM n) fun kvs => bnd (ofO (lookM kvs k)) ret) := by
        show bnd (ofO (keyD b)) (fun k => bnd (getM n) fun kvs => ofO (lookM kvs k)) = _
        congr
        funext k
        congr
        funext kvs
        cases lookM kvs k <;> rfl
      rw [← e]
      exact h
    obtain ⟨k, ek, h⟩ := Post.ofO h
    obtain ⟨ks, e, h⟩ := Post.getM h
    obtain ⟨d, ed, h⟩ := Post.ofO h
    obtain ⟨p', us, f1, f2, q⟩ := s.dic e
    rw [h1] at f1
    cases f1
    obtain ⟨v, ev, rv⟩ := q.some ed
    rw [key_rd hb ek]
    exact ⟨p, v, rfl, ev ▸ DGet.k f2, h.ret s rv⟩
  | _ => exact h.elim
theorem ok_dhas {neg : Bool} : Op2 W (rDHas neg) (dhasOf neg) := by
  intro H r st a b x y Q s ha hb h
  cases hb with
  | @ob n p h1 =>
    have h : Post W (RD W.b) H r (bnd (ofO (keyD a)) (fun k => bnd (getM n) fun kvs => ret (.bl ((lookM kvs k).isSome != neg))) st) Q := by cases a <;> exact h
    obtain ⟨k, ek, h⟩ := Post.ofO h
    obtain ⟨ks, e, h⟩ := Post.getM h
    obtain ⟨p', us, f1, f2, q⟩ := s.dic e
    rw [h1] at f1
    cases f1
    rw [key_rd ha ek]
    refine ⟨p, _, rfl, DGet.k f2, ?_⟩
    rw [q.isSome]
    exact h.ret s (.bl _)
  | _ => cases a <;> exact h.elim
theorem op_dhas {X : Cx} (hu : X.A.units + 1 < cLine) (neg : Bool) : OpR X (compareOp (if neg then .NotIn else .In)) (rDHas neg) := by
  intro pins s σ H x y v u Q I rx ry ⟨a, o, ex, g, q⟩
  subst ex
  obtain rfl : u = Value.ref a := ry
  cases neg
  · have e : (o.isSome != false) = o.isSome := by cases o <;> rfl
    rw [e] at q
    exact d_in hu I g rx fun s3 I3 => ⟨.bl o.isSome, H, I3, rfl, q⟩
  · have e : (o.isSome != true) = !o.isSome := by cases o <;> rfl
    rw [e] at q
    exact d_notIn hu I g rx fun s3 I3 => ⟨.bl (!o.isSome), H, I3, rfl, q⟩
/-- d[k] = v -/
def rSetD : V → V → V → Hp → (Hp → Prop) → Prop := fun o i v H Q => ∃ a H4, o = .ref a ∧ DPut H a i v H4 ∧ Q H4
theorem set_dict {X : Cx} (hu : X.A.units + 1 < cLine) : PSet X rSetD := by
  intro pins s σ H o i v ov iv u Q I ro ri rv ⟨a, H4, e, g, q⟩
  subst e
  obtain rfl : ov = Value.ref a := ro
  exact d_setItem hu I g ri rv fun s4 I4 => ⟨H4, I4, q⟩
theorem g_dsub {s : L2.St} {H : Hp} {mo mi : Env → M D} {v : V} {Q : L2.St → Hp → Prop} (h : tG W (fun d env => bnd (mo env) fun x => bnd (mi env) fun y => bnd (dputOf x y d) fun _ => ret env) v s H Q) :
    gSub (tV W mo) (tV W mi) rSetD v s H Q := by
  obtain ⟨r, env, st, d, e, sr, rd, p⟩ := h
  refine ⟨r, env, st, (), e, sr, True.intro, ?_⟩
  show Post W (RD W.b) H r (mo env st) _
  dsimp only at p
  cases z : mo env st with
  | ex x st1 => rw [bnd_ex z] at p; exact p
  | bad => rw [bnd_bad z] at p; exact p
  | ok x st1 =>
    rw [bnd_ok z] at p
    intro H1 r1 xv l1 sr1 rx
    refine ⟨r1, env, st1, (), e.mono l1, sr1, True.intro, ?_⟩
    show Post W (RD W.b) H1 r1 (mi env st1) _
    have p := p.lt l1
    cases z2 : mi env st1 with
    | ex y st2 => rw [bnd_ex z2] at p; exact p
    | bad => rw [bnd_bad z2] at p; exact p
    | ok y st2 =>
      rw [bnd_ok z2] at p
      intro H2 r2 yv l2 sr2 ry
      have p := p.lt l2
      have rx2 := rx.mono l2
      have rd2 := rd.mono (l1.trans l2)
      have e2 := e.mono (l1.trans l2)
      cases rx2 with
      | @ob n a h1 =>
        cases ek : keyD y with
        | none =>
          have b : dputOf (.ob n) y d st2 = .bad := by
            show bnd (ofO (keyD y)) _ st2 = .bad
            rw [ek]
            rfl
          rw [bnd_bad b] at p
          exact p.elim
        | some k =>
          cases z3 : st2[n]? with
          | none =>
            have b : dputOf (.ob n) y d st2 = .bad := by
              show bnd (ofO (keyD y)) _ st2 = .bad
              rw [ek]
              exact bnd_bad (m := getM n) (by unfold getM; rw [z3])
            rw [bnd_bad b] at p
            exact p.elim
          | some o =>
            cases o with
            | ins _ _ | lst _ | nst _ =>
              have b : dputOf (.ob n) y d st2 = .bad := by
                show bnd (ofO (keyD y)) _ st2 = .bad
                rw [ek]
                exact bnd_bad (m := getM n) (by unfold getM; rw [z3])
              rw [bnd_bad b] at p
              exact p.elim
            | dic ks =>
              obtain ⟨a', us, f1, f2, q⟩ := sr2.dic z3
              rw [h1] at f1
              cases f1
              have hn : n < st2.length := (List.getElem?_eq_some_iff.mp z3).1
              have b0 : dputOf (.ob n) y d st2 = chk (ks.length < LINE) (setO n (.dic (putM ks k d))) st2 := by
                show bnd (ofO (keyD y)) _ st2 = _
                rw [ek]
                exact bnd_ok (m := getM n) (a := ks) (st' := st2) (by unfold getM; rw [z3])
              by_cases hc : ks.length < LINE
              · have b : dputOf (.ob n) y d st2 = .ok () (st2.set n (.dic (putM ks k d))) := by
                  rw [b0, chk_true hc]
                  unfold setO
                  rw [if_pos hn]
                rw [bnd_ok b] at p
                rw [key_rd ry ek]
                have l : Lt H2 r2 (upd H2 a (.dK (putK us (kk k) v))) r2 := Lt.mut h1 f2 True.intro
                exact ⟨a, _, rfl, DPut.k f2 (by rw [← q.length, ← line_eq]; exact hc), p _ r2 s l (sr2.set h1 f2 True.intro (.dic ((q.put rd2).mono0 l.toLt0))) (e2.mono l)⟩
              · rw [bnd_bad (b0.trans (chk_false hc _ _))] at p
                exact p.elim
      | _ => exact p.elim
theorem isM_at {A U B : Type} {Rl : Hp → List Addr → A → U → Prop} {P : Hp → List Addr → B → Prop} {k : Env → B → M A} {s : L2.St} {H : Hp} {Q : U → Hp → Prop} {x : V} {g : B → D} (hx : ∀ H r b, P H r b → RD W.b H r (g b) x)
    (h : gG W Rl P (fun env b => bnd (isM (g b)) fun _ => k env b) s H Q) : (∃ a, x = .ref a ∧ IsD H a) ∧ gG W Rl P k s H Q := by
  obtain ⟨r, env, st, b, e, sr, pb, p⟩ := h
  have hd := hx _ _ _ pb
  generalize hg : g b = d at hd
  dsimp only at p
  rw [hg] at p
  cases hd with
  | @ob n a h1 =>
    have p : Post W Rl H r (bnd (bnd (getM n) fun _ => ret ()) (fun _ => k env b) st) Q := p
    rw [bnd_bnd] at p
    obtain ⟨ks, e1, p⟩ := Post.getM p
    obtain ⟨a', us, f1, f2, q⟩ := sr.dic e1
    rw [h1] at f1
    cases f1
    exact ⟨⟨a, rfl, .inl ⟨us, .inl f2⟩⟩, r, env, st, b, e, sr, pb, p⟩
  | _ => exact p.elim
theorem ok_dgetD {H : Hp} {r : List Addr} {st : Store} {a b c : D} {x y z : V} {Q : VK} (s : SR W.b H r st) (ha : RD W.b H r a x) (hb : RD W.b H r b y) (hc : RD W.b H r c z) (h : Post W (RD W.b) H r (dgetD a b c st) Q) :
    ∃ p o, x = .ref p ∧ DGet H p y o ∧ Q (o.getD z) H := by
  cases ha with
  | @ob n p h1 =>
    have h : Post W (RD W.b) H r (bnd (ofO (keyD b)) (fun k => bnd (getM n) fun kvs => ret ((lookM kvs k).getD c)) st) Q := h
    obtain ⟨k, ek, h⟩ := Post.ofO h
    obtain ⟨ks, e, h⟩ := Post.getM h
    obtain ⟨p', us, f1, f2, q⟩ := s.dic e
    rw [h1] at f1
    cases f1
    rw [key_rd hb ek]
    cases el : lookM ks k with
    | none =>
      rw [el] at h
      refine ⟨p, none, rfl, ?_, h.ret s hc⟩
      rw [← q.none el]
      exact DGet.k f2
    | some d =>
      rw [el] at h
      obtain ⟨v, ev, rv⟩ := q.some el
      refine ⟨p, some v, rfl, ?_, h.ret s rv⟩
      rw [← ev]
      exact DGet.k f2
  | _ => exact h.elim
variable {ma mb mc : Env → M D} {s : L2.St} {Q : VK}
theorem w_dm1 (h : tV W (fun env => bnd (ma env) fun x => bnd (isM x) fun _ => bnd (mb env) fun y => dgetD x y .non) s H Q) : tDGet1 (tV W ma) (tV W mb) s H Q := by
  refine gmono (gbind (R1 := RD W.b) P0.stays h) fun x H1 h1 => ?_
  obtain ⟨⟨a, ea, hi⟩, h1⟩ := isM_at (g := fun p : Unit × D => p.2) (fun H r b q => q.2) h1
  refine ⟨a, ea, hi, ?_⟩
  refine gmono (gbind (R1 := RD W.b) (fun _ _ _ _ _ l q => ⟨q.1, q.2.mono l⟩) h1) fun y H2 h2 => ?_
  obtain ⟨r, env, st, b, e, sr, pb, p⟩ := h2
  obtain ⟨p', o, e1, g, q⟩ := ok_dgetD sr pb.1.2 pb.2 .non p
  rw [ea] at e1
  cases e1
  exact ⟨o, g, q⟩
theorem w_dm2 (h : tV W (fun env => bnd (ma env) fun x => bnd (isM x) fun _ => bnd (mb env) fun y => bnd (mc env) fun z => dgetD x y z) s H Q) : tDGet2 (tV W ma) (tV W mb) (tV W mc) s H Q := by
  refine gmono (gbind (R1 := RD W.b) P0.stays h) fun x H1 h1 => ?_
  obtain ⟨⟨a, ea, hi⟩, h1⟩ := isM_at (g := fun p : Unit × D => p.2) (fun H r b q => q.2) h1
  refine ⟨a, ea, hi, ?_⟩
  refine gmono (gbind (R1 := RD W.b) (fun _ _ _ _ _ l q => ⟨q.1, q.2.mono l⟩) h1) fun y H2 h2 => ?_
  refine gmono (gbind (R1 := RD W.b) (fun _ _ _ _ _ l q => ⟨⟨q.1.1, q.1.2.mono l⟩, q.2.mono l⟩) h2) fun z H3 h3 => ?_
  obtain ⟨r, env, st, b, e, sr, pb, p⟩ := h3
  obtain ⟨p', o, e1, g, q⟩ := ok_dgetD sr pb.1.1.2 pb.1.2 pb.2 p
  rw [ea] at e1
  cases e1
  exact ⟨o, g, q⟩
def upairs : List V → List (V × V)
  | x :: y :: r => (x, y) :: upairs r
  | _ => []
theorem upairs_of : ∀ {ds : List D} {us : List V} {ks : List (K × D)}, RDs W.b H r ds us → pairsOf ds = some ks → ∃ ws : List (Key × V), upairs us = ws.map (fun kv => (kV kv.1, kv.2)) ∧ RKs W.b H r ks ws
  | _, _, _, .nil, h => by
    cases h
    exact ⟨[], rfl, .nil⟩
  | _, _, _, .cons h1 .nil, h => by cases h
  | _, _, _, .cons h1 (.cons h2 h3), h => by
    unfold pairsOf at h
    obtain ⟨k, ek, h⟩ := Option.bind_eq_some_iff.mp h
    obtain ⟨ks, e, rfl⟩ := Option.map_eq_some_iff.mp h
    obtain ⟨ws, e1, q⟩ := upairs_of h3 e
    refine ⟨(kk k, _) :: ws, ?_, .cons h2 q⟩
    rw [upairs, e1, key_rd h1 ek]
    rfl
theorem w_dis0 (h : tV W (fun env => bnd (ret []) fun ds => bnd (ofO (pairsOf ds)) fun kvs => chk (kvs.length ≤ 15) (newO (.dic (mergeM [] kvs)))) s H Q) : tDNewK s H Q := by
  obtain ⟨r, env, st, b, e, sr, pb, p⟩ := h
  intro x hx
  have p : Post W (RD W.b) H r (chk (([] : List (K × D)).length ≤ 15) (newO (.dic [])) st) Q := p
  obtain ⟨_, p⟩ := Post.chk p
  refine p (upd H x (.dK [])) (r ++ [x]) (.ref x) (Lt.newO hx) (sr.newO hx (.dic .nil)) (.ob ?_)
  rw [← sr.len]
  simp
theorem w_dis {mas : Env → M (List D)} {trs : List (TE × TE)} (ht : ∀ s H Q, tA W mas s H (fun us H' => Q (upairs us) H') → tPairs trs s H Q)
    (h : tV W (fun env => bnd (mas env) fun ds => bnd (ofO (pairsOf ds)) fun kvs => chk (kvs.length ≤ 15) (newO (.dic (mergeM [] kvs)))) s H Q) : tDisp trs s H Q := by
  obtain ⟨r, env, st, b, e, sr, pb, p⟩ := h
  intro x hx
  refine ht _ _ _ ⟨r, env, st, (), e.mono (Lt.new hx), sr.new hx, True.intro, ?_⟩
  have nx : x ∉ r := fun z => by
    obtain ⟨n, hn⟩ := List.getElem?_of_mem z
    have hl : n < st.length := by rw [← sr.len]; exact (List.getElem?_eq_some_iff.mp hn).1
    obtain ⟨u, e1, _⟩ := sr.at_ n x _ hn (List.getElem?_eq_getElem hl)
    rw [hx] at e1
    cases e1
  dsimp only at p ⊢
  cases z : mas env st with
  | ex y st1 =>
    rw [bnd_ex z] at p
    exact p.lt (Lt.new hx)
  | bad =>
    rw [bnd_bad z] at p
    exact p
  | ok ds st1 =>
    rw [bnd_ok z] at p
    intro H2 r2 us l2 s2 rds
    obtain ⟨ks, ek, p⟩ := Post.ofO p
    obtain ⟨hc, p⟩ := Post.chk p
    obtain ⟨hv, np⟩ := l2.keep x _ upd_same nx
    obtain ⟨ws, e1, q⟩ := upairs_of rds ek
    refine ⟨hv, ws, e1, by rw [← q.length]; exact hc, ?_⟩
    have l1 : Lt H r H2 r2 := (Lt.new hx).trans l2
    have l3 : Lt H r (upd H2 x (.dK (mergeK [] ws))) r2 := l1.own hx
    have l0 : Lt0 H2 r2 (upd H2 x (.dK (mergeK [] ws))) r2 := Lt0.mut hv True.intro
    have l4 : Lt0 (upd H2 x (.dK (mergeK [] ws))) r2 (upd H2 x (.dK (mergeK [] ws))) (r2 ++ [x]) := ⟨fun _ _ h => h, fun _ _ _ h => h, fun _ _ h => h, [x], rfl⟩
    have s3 : SR W.b (upd H2 x (.dK (mergeK [] ws))) r2 st1 := s2.out np hv True.intro
    refine p _ (r2 ++ [x]) (.ref x) (l3.take hx) (s3.take np upd_same (.dic (((q.mono0 l0).mono0 l4).merge .nil))) (.ob ?_)
    rw [← s3.len]
    simp
def rTix (K : PySem.W.Frag) : V → List V → Hp → VK → Prop := fun x xs H Q => ∃ p, ∃ ys : List Str, ∃ z j, x = .ref p ∧ xs = [.str z] ∧ SqT K H p (ys.map V.str) ∧ ys[j]? = some z ∧ (∀ m, m < j → ys[m]? ≠ some z) ∧ Q (.int (j : Nat)) H
theorem w_tix {ys : List S} {a : Addr} (hc : ∀ H, SqT W.b.K H a ((ys.map mkS).map V.str)) (ht : ∀ H, tyV W.b.K "tuple" (.ref a) H) (h : tV W (fun env => bnd (ma env) (tixOf ys)) s H Q) :
    tBM W.b.K "tuple" (rTix W.b.K) (fun _ H Q => Q (.ref a) H) (tA W fun env => bnd (ma env) fun x => bnd (ret []) fun xs => ret (x :: xs)) s H Q := by
  refine ⟨ht H, ?_⟩
  obtain ⟨r, env, st, b, e, sr, pb, p⟩ := h
  refine ⟨r, env, st, (), e, sr, True.intro, ?_⟩
  dsimp only at p ⊢
  cases z : ma env st with
  | ex y st1 =>
    rw [bnd_ex z] at p ⊢
    exact p
  | bad =>
    rw [bnd_bad z] at p
    exact p.elim
  | ok d st1 =>
    rw [bnd_ok z] at p ⊢
    intro H2 r2 us l2 s2 rds
    have p := p.lt l2
    cases rds with
    | cons r1 r3 =>
      cases r3
      cases r1 with
      | str t g1 g2 =>
        obtain ⟨j, ej, p⟩ := Post.ofO p
        have ej : ys.findIdx? (fun y => decide (y = t)) = some j := ej
        obtain ⟨hj, h1, h2⟩ := List.findIdx?_eq_some_iff_getElem.mp ej
        refine ⟨a, ys.map mkS, mkS t, j, rfl, rfl, hc H2, ?_, fun m hm => ?_, p.ret s2 (.int _)⟩
        · rw [List.getElem?_map, List.getElem?_eq_getElem hj]
          have := of_decide_eq_true h1
          rw [this]
          rfl
        · have hml : m < ys.length := Nat.lt_trans hm hj
          rw [List.getElem?_map, List.getElem?_eq_getElem hml]
          intro e
          have e : mkS ys[m] = mkS t := Option.some.inj e
          have e2 : ys[m] = t := by
            have := congrArg (fun z : Str => z.cps.toList) e
            simpa [mkS] using this
          have := h2 m hm
          rw [e2] at this
          simp at this
      | _ => exact p.elim
end
end Li
namespace Li
open PySem PySem.Spec PyProof.Rows L2
section
variable {W : Wd} {H H' : Hp} {r r' : List Addr}
mutual
theorem nv_rd {W : Wb} : ∀ {d : D} {v : V} {k : NK}, RD W H r d v → kN d = some k → NV W.K H k v
  | _, _, _, .non, e => by cases e; exact .non
  | _, _, _, .bl b, e => by cases e; exact .bl b
  | _, _, _, .int i, e => by cases e; exact .int i
  | _, _, _, .str s _ _, e => by cases e; exact .str _
  | .tup ds, _, _, .tup h1 h2, e => by
    rw [kN] at e
    obtain ⟨ks, e2, rfl⟩ := Option.map_eq_some_iff.mp e
    exact .tup h1 (nvs_rd h2 e2)
  | _, _, _, .ro _ _, e => by cases e
  | _, _, _, .ob _, e => by cases e
  | _, _, _, .fn _, e => by cases e
  | _, _, _, .ty _, e => by cases e
theorem nvs_rd {W : Wb} : ∀ {ds : List D} {vs : List V} {ks : List NK}, RDs W H r ds vs → kNs ds = some ks → NVs W.K H ks vs
  | _, _, _, .nil, e => by cases e; exact .nil
  | d :: ds, _, _, .cons h1 h2, e => by
    rw [kNs] at e
    obtain ⟨k, ek, e⟩ := Option.bind_eq_some_iff.mp e
    obtain ⟨ks, e2, rfl⟩ := Option.map_eq_some_iff.mp e
    exact .cons (nv_rd h1 ek) (nvs_rd h2 e2)
end
theorem keyN_rd {W : Wb} {d : D} {v : V} {k : NK} (h : RD W H r d v) (e : keyN d = some k) : ∃ b, v = .ref b ∧ NV W.K H k (.ref b) ∧ k.depth ≤ 8 := by
  cases h with
  | @tup a vs ds h1 h2 =>
    have e : (kN (.tup ds)).bind (fun k => if k.depth ≤ 8 then some k else none) = some k := e
    obtain ⟨k', e1, e2⟩ := Option.bind_eq_some_iff.mp e
    split at e2 <;> cases e2
    rename_i hd
    exact ⟨a, rfl, nv_rd (.tup h1 h2) e1, hd⟩
  | _ => cases e
variable {ma mb : Env → M D} {s : L2.St} {Q : VK}
theorem w_nset (h : tV W (fun _ => newO (.nst [])) s H Q) : tCB (rNset W.b.w) tNil s H Q := by
  obtain ⟨r, env, st, b, e, sr, pb, p⟩ := h
  refine ⟨rfl, fun x hx => ?_⟩
  refine p (upd H x (NsO W.b.w x [])) (r ++ [x]) (.ref x) (Lt.newO hx) (sr.newO hx (.nst (fun p hp => by cases hp) (fun k => by simp) (Nat.le_refl _))) (.ob ?_)
  rw [← sr.len]
  simp
theorem ok_nin {neg : Bool} : Op2 W (rNin W.b.K W.b.w neg) (nhasOf neg) := by
  intro H r st a b x y Q s ha hb h
  cases hb with
  | @ob n p h1 =>
    have h : Post W (RD W.b) H r (bnd (ofO (keyN a)) (fun k => bnd (getN n) fun ks => ret (.bl (decide (k ∈ ks) != neg))) st) Q := by cases a <;> exact h
    obtain ⟨k, ek, h⟩ := Post.ofO h
    obtain ⟨ks, e, h⟩ := Post.getN h
    obtain ⟨p', L, f1, f2, f3, f4⟩ := s.nst e
    rw [h1] at f1
    cases f1
    obtain ⟨c, rfl, hk, hd⟩ := keyN_rd ha ek
    refine ⟨p, c, k, L, rfl, rfl, f2, hk, hd, ?_⟩
    have : decide (k ∈ L.map (·.2)) = decide (k ∈ ks) := by
      have := f3 k
      by_cases z : k ∈ ks
      · rw [decide_eq_true z, decide_eq_true (this.mp z)]
      · rw [decide_eq_false z, decide_eq_false fun y => z (this.mpr y)]
    rw [this]
    exact h.ret s (.bl _)
  | _ => cases a <;> exact h.elim
def tNAdd (K : PySem.W.Frag) (w : World) (to te : TE) : TE := fun σ H Q => to σ H fun x H1 => (∃ a L, x = V.ref a ∧ NsAt K w H1 a L) ∧ te σ H1 fun y H2 => rNadd K w x y H2 Q
theorem pe_nadd {X : Cx} {o e : Expr} {to te : TE} {apos cpos : Pos} (hu : X.A.units + 9 < cLine) (ho : PE X o to) (he : PE X e te) (hbase : attributeBase o "add" X.env (eval o X.env) = eval o X.env)
    (hfew : methodCallForm (1 + ([] : List Keyword).length) (backTo cpos (starEach [e] X.env)) (backToKw cpos (keywordEach [] X.env)) = true) (hline : (apos.endLine == cpos.line) = true) (hs : starEach [e] X.env = (false, eval e X.env) :: starEach [] X.env) :
    PE X (.Call (.Attribute o "add" apos) [e] [] cpos) (tNAdd X.K X.w to te) := by
  refine ⟨fun pins s σ H Q I h => ?_⟩
  refine wpAny_Call_method_late hbase hfew hline rfl (thn (ho.run pins s σ H _ I h) fun v s1 ⟨x, H1, I1, r1, ⟨a, L, ex, hn⟩, q1⟩ => ?_)
  subst ex
  obtain rfl : v = Value.ref a := r1
  obtain ⟨es, ep, t, R⟩ := hn.full I1
  obtain ⟨oo, ho', hex, hdt⟩ := R.ob
  refine ⟨"set", "set.add", F.plainAttrs_set, F.slot_set_add, F.type_set_add, ⟨oo, ho', hex.1⟩, (fun b eb => by injection eb with eb; subst eb; exact ⟨oo, ho', hex.2.1⟩), ?_⟩
  rw [hs]
  refine Calls.callWith_builtin rfl (Calls.evalArgs_plain (Calls.spliced_cons (thn (he.run pins s1 σ H1 _ I1 q1) fun u s2 ⟨y, H2, I2, r2, q2⟩ => Calls.spliced_nil ?_)))
  exact mt_nadd hu I2 (x := .ref a) rfl r2 q2
theorem isNs_at {A U B : Type} {Rl : Hp → List Addr → A → U → Prop} {P : Hp → List Addr → B → Prop} {k : Env → B → M A} {s : L2.St} {H : Hp} {Q : U → Hp → Prop} {x : V} {g : B → D} (hx : ∀ H r b, P H r b → RD W.b H r (g b) x)
    (h : gG W Rl P (fun env b => bnd (isNs (g b)) fun _ => k env b) s H Q) : (∃ a L, x = .ref a ∧ NsAt W.b.K W.b.w H a L) ∧ gG W Rl P k s H Q := by
  obtain ⟨r, env, st, b, e, sr, pb, p⟩ := h
  have hd := hx _ _ _ pb
  generalize hg : g b = d at hd
  dsimp only at p
  rw [hg] at p
  cases hd with
  | @ob n a h1 =>
    have p : Post W Rl H r (bnd (bnd (getN n) fun _ => ret ()) (fun _ => k env b) st) Q := p
    rw [bnd_bnd] at p
    obtain ⟨ks, e1, p⟩ := Post.getN p
    obtain ⟨a', L, f1, f2, q⟩ := sr.nst e1
    rw [h1] at f1
    cases f1
    exact ⟨⟨a, L, rfl, f2⟩, r, env, st, b, e, sr, pb, p⟩
  | _ => exact p.elim
theorem w_nadd (h : tV W (fun env => bnd (ma env) fun x => bnd (isNs x) fun _ => bnd (mb env) fun y => naddOf x y) s H Q) : tNAdd W.b.K W.b.w (tV W ma) (tV W mb) s H Q := by
  refine gmono (gbind (R1 := RD W.b) P0.stays h) fun x H1 h1 => ?_
  obtain ⟨⟨a, L, ea, hi⟩, h1⟩ := isNs_at (g := fun p : Unit × D => p.2) (fun H r b q => q.2) h1
  refine ⟨⟨a, L, ea, hi⟩, ?_⟩
  refine gmono (gbind (R1 := RD W.b) (fun _ _ _ _ _ l q => ⟨q.1, q.2.mono l⟩) h1) fun y H2 h2 => ?_
  obtain ⟨r, env, st, b, e, sr, ⟨⟨_, rx⟩, ry⟩, p⟩ := h2
  dsimp only at rx ry p
  generalize b.1.2 = dx at rx p
  generalize b.2 = dy at ry p
  cases rx with
  | @ob n a hr =>
    have p : Post W (RD W.b) H2 r (bnd (ofO (keyN dy)) (fun k => bnd (getN n) fun ks => chk (ks.length + 1 < 64) (bnd (setO n (.nst (if k ∈ ks then ks else k :: ks))) fun _ => ret .non)) st) Q := p
    obtain ⟨k, ek, p⟩ := Post.ofO p
    obtain ⟨ks, e1, p⟩ := Post.getN p
    obtain ⟨hc, p⟩ := Post.chk p
    obtain ⟨hn, p⟩ := Post.setO p
    obtain ⟨p', M, f1, f2, f3, f4⟩ := sr.nst e1
    rw [hr] at f1
    cases f1
    obtain ⟨c, rfl, hk, hd⟩ := keyN_rd ry ek
    refine ⟨a, c, k, M, rfl, rfl, f2, hk, hd, by omega, fun M' m1 m2 => ?_⟩
    have l : Lt H2 r (upd H2 a (NsO W.b.w a M')) r := Lt.mut hr f2.1 True.intro
    refine p _ r .non l (sr.set hr f2.1 True.intro ?_) .non
    by_cases hin : k ∈ ks
    · rw [m1 ((f3 k).mp hin), if_pos hin]
      refine .nst (fun p hp => ⟨(f2.2 p hp).1.mono fun _ _ q => ?_, (f2.2 p hp).2⟩) f3 f4
      have l' : Lt0 H2 r (upd H2 a (NsO W.b.w a M)) r := Lt0.mut f2.1 True.intro
      exact l'.sqT (W := W.b) q
    · have pm := m2 fun z => hin ((f3 k).mpr z)
      rw [if_neg hin]
      refine .nst (fun p hp => ?_) (fun j => ?_) ?_
      · have st : ∀ a' xs, SqT W.b.K H2 a' xs → SqT W.b.K (upd H2 a (NsO W.b.w a M')) a' xs := fun _ _ q => l.toLt0.sqT (W := W.b) q
        rcases List.mem_cons.mp (pm.mem_iff.mp hp) with e | hp
        · rw [e]
          exact ⟨hk.mono st, hd⟩
        · exact ⟨(f2.2 p hp).1.mono st, (f2.2 p hp).2⟩
      · rw [(pm.map (·.2)).mem_iff, List.map_cons, List.mem_cons, List.mem_cons, f3 j]
      · rw [pm.length_eq]
        simp
        exact f4
  | _ => exact p.elim
theorem w_lrev (h : tV W (fun env => bnd (ma env) revOf) s H Q) : tLRev W.b.K (tV W ma) s H Q := by
  refine gmono (gbind (R1 := RD W.b) P0.stays h) fun x H1 h1 => ?_
  obtain ⟨r, env, st, b, e, sr, ⟨_, rx⟩, p⟩ := h1
  dsimp only at rx p
  generalize b.2 = d at rx p
  have p : Post W (RD W.b) H1 r (bnd (rowOf d) (fun xs => newO (.lst xs.reverse)) st) Q := p
  have rev : ∀ {H : Hp} {ds : List D} {vs : List V}, RDs W.b H r ds vs → RDs W.b H r ds.reverse vs.reverse := by
    intro H ds vs h
    induction ds generalizing vs with
    | nil => cases h; exact .nil
    | cons d ds ih =>
      cases h with
      | cons h1 h2 =>
        rw [List.reverse_cons, List.reverse_cons]
        exact (ih h2).app (.cons h1 .nil)
  have fin : ∀ {ds : List D} {vs : List V}, RDs W.b H1 r ds vs → Post W (RD W.b) H1 r (newO (.lst ds.reverse) st) Q → ∀ q, H1 q = none → Q (.ref q) (upd H1 q (.lst vs.reverse)) := fun h2 p q hq => by
    refine p (upd H1 q (.lst _)) (r ++ [q]) (.ref q) (Lt.newO hq) (sr.newO hq (.lst ?_)) (.ob ?_)
    · exact (rev h2).mono (Lt.newO hq)
    · rw [← sr.len]
      simp
  cases rx with
  | @tup a vs ds h1 h2 => exact ⟨a, vs, rfl, .inr h1, fin h2 p⟩
  | @ro a vs ds h1 h2 => exact ⟨a, vs, rfl, .inl h1.l, fin h2 p⟩
  | @ob n a h1 =>
    obtain ⟨xs, e1, p⟩ := Post.getL p
    obtain ⟨a', vs, f1, f2, f3⟩ := sr.lst e1
    rw [h1] at f1
    cases f1
    exact ⟨a, vs, rfl, .inl (SqL.of f2), fin f3 p⟩
  | _ => exact p.elim
end
end Li
namespace Li
open PySem PySem.Spec PyProof.Rows L2
/-- what is zipped -/
inductive Zk where
  | tup (a : Addr) | lst (a : Addr) | str (s : Str)
def Zk.val : Zk → V
  | .tup a => .ref a
  | .lst a => .ref a
  | .str s => .str s
/-- its items -/
def Zk.at_ (K : PySem.W.Frag) (H : Hp) : Zk → List V → Prop
  | .tup a, xs => SqT K H a xs
  | .lst a, xs => SqL K H a xs
  | .str s, xs => xs = s.cps.toList.map fun c => V.str ⟨#[c]⟩
/-- its iterator -/
def Zk.it (h : Heap) (it : Addr) (i : Nat) : Zk → Prop
  | .tup a => h.IsTupleIter it a i
  | .lst a => h.IsListIter it a i
  | .str s => ∃ t, h.IsStrIter it (strIterType s) s t i
def Zk.fp (it : Addr) : Zk → List Addr
  | .tup a => [it, a]
  | .lst a => [it, a]
  | .str _ => [it]
theorem Zk.it_at {h h' : Heap} {it : Addr} {i : Nat} {k : Zk} (x : k.it h it i) (e : ∀ o, h.get? it = some o → h'.get? it = some o) : k.it h' it i := by
  cases k with
  | tup a => exact Heap.IsTupleIter.at x e
  | lst a => exact Heap.IsListIter.at x e
  | str s =>
    obtain ⟨t, o, ho, r⟩ := x
    exact ⟨t, o, e o ho, r⟩
theorem Zk.it_obj {h : Heap} {it : Addr} {i : Nat} {k : Zk} (x : k.it h it i) : ∃ o, h.get? it = some o ∧ ∀ v, o.data ≠ .cell v := by
  cases k with
  | tup a => obtain ⟨o, ho, _, hd⟩ := x; exact ⟨o, ho, fun v q => by rw [hd] at q; cases q⟩
  | lst a => obtain ⟨o, ho, _, hd⟩ := x; exact ⟨o, ho, fun v q => by rw [hd] at q; cases q⟩
  | str s => obtain ⟨t, o, ho, _, hd⟩ := x; exact ⟨o, ho, fun v q => by rw [hd] at q; cases q⟩
theorem vals_getR {xs : List V} {us : List Value} {j : Nat} {u : Value} (r : Vals xs us) (h : us[j]? = some u) : ∃ x, xs[j]? = some x ∧ RelV x u := by
  have hl := r.length
  have hj := (List.getElem?_eq_some_iff.mp h).1
  have hx : xs[j]? = some xs[j] := List.getElem?_eq_getElem (by omega)
  obtain ⟨u', h1, h2⟩ := r.get hx
  rw [h] at h1
  cases h1
  exact ⟨_, hx, h2⟩
section
variable {X : Cx} {pins : List (Addr × Obj)} {s : Shared} {σ : L2.St} {H : Hp}
theorem zk_inj (I : Inv X pins σ H s) {k : Zk} {xs ys : List V} (h1 : k.at_ X.K H xs) (h2 : k.at_ X.K H ys) : xs = ys := by
  cases k with
  | tup a => exact I.tuple_inj h1 h2
  | lst a => exact I.list_inj h1 h2
  | str z => exact h1.trans h2.symm
/-- what it draws -/
theorem zk_draws (I : Inv X pins σ H s) (hc : X.calm = true) {k : Zk} {xs : List V} {it : Addr} {i : Nat} (hx : k.at_ X.K H xs) (hne : k.fp it = [it] ∨ ∃ a, k.fp it = [it, a] ∧ a ≠ it) (hi : k.it s.heap it i) :
    ∃ (P : Nat → Value → Prop) (St : Nat → Heap → Prop), Draws X.prog X.w X.A.in1 it (k.fp it) xs.length P St ∧ St i s.heap ∧ (∀ j h, St j h → k.it h it j) ∧ ∀ j u, P j u → ∃ x, xs[j]? = some x ∧ RelV x u := by
  have hh : X.A.in1.handled = none := I.ok.hd hc
  cases k with
  | tup a =>
    obtain ⟨its, rv, p, _⟩ := I.tuple hx
    have ne : a ≠ it := by
      rcases hne with q | ⟨b, q, n⟩
      · cases q
      · cases q; exact n
    refine ⟨fun i v => its.toArray[i]? = some v, fun i h => h.IsTupleIter it a i ∧ h.IsTuple a its.toArray, by rw [rv.length]; exact Draws.tuple (prog := X.prog) (w := X.w) hh it a ne its.toArray, ⟨hi, p⟩, fun j h z => z.1, fun j u z => ?_⟩
    exact vals_getR rv (by simpa using z)
  | lst a =>
    obtain ⟨its, rv, p, _⟩ := I.list hx
    have ne : a ≠ it := by
      rcases hne with q | ⟨b, q, n⟩
      · cases q
      · cases q; exact n
    refine ⟨fun i v => its.toArray[i]? = some v, fun i h => h.IsListIter it a i ∧ h.IsList a its.toArray, by rw [rv.length]; exact Draws.list (prog := X.prog) (w := X.w) hh it a ne its.toArray, ⟨hi, p.isList⟩, fun j h z => z.1, fun j u z => ?_⟩
    exact vals_getR rv (by simpa using z)
  | str z =>
    obtain ⟨t, hi⟩ := hi
    obtain rfl : xs = _ := hx
    refine ⟨fun i v => ∃ c u, z.cps[i]? = some c ∧ v = .str ⟨#[c]⟩ u, fun i h => h.IsStrIter it (strIterType z) z t i, by rw [List.length_map, Array.length_toList]; exact Draws.text (prog := X.prog) (w := X.w) hh it z t, hi, fun j h z => ⟨t, z⟩, fun j u q => ?_⟩
    obtain ⟨c, t', h1, rfl⟩ := q
    refine ⟨V.str ⟨#[c]⟩, ?_, ⟨_, rfl⟩⟩
    rw [List.getElem?_map, Array.getElem?_toList, h1]
    rfl
end
/-- both as they stand at each turn, the items in new pairs -/
def ItZ (K : PySem.W.Frag) (k1 k2 : Zk) : It :=
  ⟨fun i H => ∃ (xs ys : List V) (x y : V), k1.at_ K H xs ∧ k2.at_ K H ys ∧ xs[i]? = some x ∧ ys[i]? = some y,
    fun i H v H' => ∃ T x y, v = .ref T ∧ H T = none ∧ H' = upd H T (.tup [x, y]) ∧ (∀ xs, k1.at_ K H xs → xs[i]? = some x) ∧ ∀ ys, k2.at_ K H ys → ys[i]? = some y,
    fun i H => ∃ xs ys : List V, k1.at_ K H xs ∧ k2.at_ K H ys ∧ i ≤ xs.length ∧ i ≤ ys.length ∧ (i = xs.length ∨ i = ys.length)⟩
theorem fp_or {k : Zk} {it : Addr} (h : ∀ a, k.fp it = [it, a] → a ≠ it) : k.fp it = [it] ∨ ∃ a, k.fp it = [it, a] ∧ a ≠ it := by
  cases k with
  | tup a => exact .inr ⟨a, rfl, h a rfl⟩
  | lst a => exact .inr ⟨a, rfl, h a rfl⟩
  | str s => exact .inl rfl
theorem turn_z {P : Program} {w : World} {K : PySem.W.Frag} {elts : List Expr} {kk : Nat} {tpos : Pos} {z TI TO i1 i2 : Addr} {k1 k2 : Zk} (D : ZipSep2 z TI TO i1 i2 (k1.fp i1) (k2.fp i2)) (n1 : ∀ a, k1.fp i1 = [i1, a] → a ≠ i1) (n2 : ∀ a, k2.fp i2 = [i2, a] → a ≠ i2) :
    Turn P w K (.Tuple elts kk tpos) (ItZ K k1 k2) [z, TI, TO, i1, i2] z (fun i h => IsZip h z TI TO .none ∧ IsTupOf2 h TI (.ref i1) (.ref i2) ∧ (∃ x y, IsTupOf2 h TO x y) ∧ k1.it h i1 i ∧ k2.it h i2 i) where
  mem := by simp
  obj := fun i h st c hc => by
    obtain ⟨hz, hTI, ⟨x, y, hTO⟩, e1, e2⟩ := st
    have e' : c = z ∨ c = TI ∨ c = TO ∨ c = i1 ∨ c = i2 := by simpa using hc
    rcases e' with q | q | q | q | q
    · rw [q]; exact ⟨_, hz, fun v q => nomatch q⟩
    · rw [q]; exact ⟨_, hTI, fun v q => nomatch q⟩
    · rw [q]; exact ⟨_, hTO, fun v q => nomatch q⟩
    · rw [q]; exact Zk.it_obj e1
    · rw [q]; exact Zk.it_obj e2
  keep := fun i h h' st k => by
    obtain ⟨hz, hTI, ⟨x, y, hTO⟩, h1, h2⟩ := st
    exact ⟨k z (by simp) _ hz, k TI (by simp) _ hTI, ⟨x, y, k TO (by simp) _ hTO⟩, Zk.it_at h1 fun o q => k i1 (by simp) o q, Zk.it_at h2 fun o q => k i2 (by simp) o q⟩
  item := by
    intro X hP hw hK hc i pins s σ H E I hf st hg
    subst hP hw hK
    obtain ⟨hz, hTI, ⟨x0, y0, hTO⟩, h1, h2⟩ := st
    obtain ⟨xs, ys, x, y, hqx, hqy, hx, hy⟩ := hg
    obtain ⟨P1, S1, D1, s1, b1, g1⟩ := zk_draws I hc hqx (fp_or n1) h1
    obtain ⟨P2, S2, D2, s2, b2, g2⟩ := zk_draws I hc hqy (fp_or n2) h2
    have hzl : z < s.heap.objs.size := Heap.lt_size hz
    have l1 := (List.getElem?_eq_some_iff.mp hx).1
    have l2 := (List.getElem?_eq_some_iff.mp hy).1
    refine wpAny_pyNext_zipD2_item D D1 D2 hz hTI hTO s1 s2 l1 l2 fun u u2 h' tk p1 p2 z' TO' t1 t2 hT hsz hk => ?_
    obtain ⟨x', hx', ru⟩ := g1 _ _ p1
    obtain ⟨y', hy', ru2⟩ := g2 _ _ p2
    obtain rfl : x' = x := by rw [hx] at hx'; exact (Option.some.inj hx').symm
    obtain rfl : y' = y := by rw [hy] at hy'; exact (Option.some.inj hy').symm
    refine ⟨_, rfl, wpAny_letOwnedTupleGo_zip (s := { s with heap := h', toks := tk }) z' fun h'' z'' sb => ?_⟩
    have hT2 : h''.get? s.heap.objs.size = some { cls := .type "tuple", data := .seq #[u, u2] } := (sb.2 _ (Nat.ne_of_gt hzl)).trans hT
    have new : ObjOk X.prog X.w (upd H s.heap.objs.size (.tup [x', y'])) h'' s.heap.objs.size (.tup [x', y']) :=
      ⟨by show 2 ≤ sizeLine; decide, [u, u2], .cons ru (.cons ru2 .nil), ⟨_, hT2, rfl, _, rfl⟩⟩
    have I1 : Inv X pins σ (upd H s.heap.objs.size (.tup [x', y'])) { s with heap := h'', toks := tk } :=
      I.turnedNew (t' := tk) (ch := [z, TI, TO, i1, i2]) (fun c o hb q => (sb.2 c (fun q' => hb (by simp [q']))).trans (hk c o (fun q' => hb (by simp [q'])) (fun q' => hb (by simp [q'])) (fun q' => hb (by simp [q'])) (fun q' => hb (by simp [q'])) q)) hf (Nat.le_refl _) new
    refine ⟨.ref s.heap.objs.size, _, I1, rfl, ⟨_, x', y', rfl, I.hok.fresh (Nat.le_refl _), rfl, fun l hl => by rw [zk_inj I hl hqx]; exact hx, fun l hl => by rw [zk_inj I hl hqy]; exact hy⟩, ⟨z'', ?_, ⟨u, u2, ?_⟩, ?_, ?_⟩, fun c hcm => ?_⟩
    · exact (sb.2 _ D.TIz).trans (hk _ _ D.TIz D.TITO D.TIi1 D.TIi2 hTI)
    · exact (sb.2 _ D.TOz).trans TO'
    · exact Zk.it_at (b1 _ _ t1) fun o q => (sb.2 _ (Ne.symm D.zi1)).trans q
    · exact Zk.it_at (b2 _ _ t2) fun o q => (sb.2 _ (Ne.symm D.zi2)).trans q
    · have hlt : c < s.heap.objs.size := by
        have e' : c = z ∨ c = TI ∨ c = TO ∨ c = i1 ∨ c = i2 := by simpa using hcm
        rcases e' with q | q | q | q | q
        · rw [q]; exact hzl
        · rw [q]; exact Heap.lt_size hTI
        · rw [q]; exact Heap.lt_size hTO
        · rw [q]; obtain ⟨_, e1, _⟩ := Zk.it_obj h1; exact Heap.lt_size e1
        · rw [q]; obtain ⟨_, e2, _⟩ := Zk.it_obj h2; exact Heap.lt_size e2
      rw [upd_ne (Nat.ne_of_lt hlt)]
      exact (hf c hcm).1
  done := by
    intro X hP hw hK hc i pins s σ H E I hf st hg
    subst hP hw hK
    obtain ⟨hz, hTI, ⟨x0, y0, hTO⟩, h1, h2⟩ := st
    obtain ⟨xs, ys, hqx, hqy, hl1, hl2, hend⟩ := hg
    obtain ⟨P1, S1, D1, s1, b1, g1⟩ := zk_draws I hc hqx (fp_or n1) h1
    obtain ⟨P2, S2, D2, s2, b2, g2⟩ := zk_draws I hc hqy (fp_or n2) h2
    exact wpAny_pyNext_zipD2_end D D1 D2 hz hTI hTO s1 s2 hl1 hl2 hend fun h' tk hk => ⟨rfl, I.turnedL (t' := tk) (ch := [z, TI, TO, i1, i2]) (fun c o hb q =>
      hk c o (fun q' => hb (by simp [q'])) (fun q' => hb (by simp [q'])) (fun q' => hb (by simp [q'])) (fun q' => hb (by simp [q'])) q) hf⟩
  self := fun A i s Q E st h => wpAny_pyIter_zip st.1 h
/-- how its iterator begins -/
theorem zk_begins {X : Cx} {pins : List (Addr × Obj)} {s : Shared} {σ : L2.St} {H : Hp} (I : Inv X pins σ H s) {k : Zk} {xs : List V} {u : Value} (hx : k.at_ X.K H xs) (r : RelV k.val u) :
    ∃ (o : Obj) (G : Heap → Prop), Begins u o G ∧ G s.heap ∧ (∀ h it, h.get? it = some o → k.it h it 0) ∧ ∀ it, (∀ b ∈ k.fp it, b = it ∨ b < s.heap.objs.size) := by
  cases k with
  | tup a =>
    obtain ⟨its, rv, p, _⟩ := I.tuple hx
    obtain rfl : u = Value.ref a := r
    have p : s.heap.IsTuple a its.toArray := p
    refine ⟨_, _, begins_tuple a its.toArray, p, fun h it e => ⟨_, e, rfl, rfl⟩, fun it b hb => ?_⟩
    have e' : b = it ∨ b = a := by simpa [Zk.fp] using hb
    obtain ⟨o, ho, _⟩ := p
    rcases e' with q | q
    · exact .inl q
    · exact .inr (q ▸ Heap.lt_size ho)
  | lst a =>
    obtain ⟨its, rv, p, _⟩ := I.list hx
    obtain rfl : u = Value.ref a := r
    refine ⟨_, _, begins_list a its.toArray, p.isList, fun h it e => ⟨_, e, rfl, rfl⟩, fun it b hb => ?_⟩
    have e' : b = it ∨ b = a := by simpa [Zk.fp] using hb
    rcases e' with q | q
    · exact .inl q
    · exact .inr (q ▸ p.lt)
  | str z =>
    obtain ⟨t, rfl⟩ : ∃ t, u = Value.str z t := r
    refine ⟨_, _, begins_text z t, trivial, fun h it e => ⟨t, _, e, rfl, rfl⟩, fun it b hb => ?_⟩
    exact .inl (by simpa [Zk.fp] using hb)
def iZ (K : PySem.W.Frag) (ta : TA) : TI := fun σ H R => ta σ H fun vs H1 => ∃ (k1 k2 : Zk) (xs ys : List V), vs = [k1.val, k2.val] ∧ k1.at_ K H1 xs ∧ k2.at_ K H1 ys ∧ R (ItZ K k1 k2) H1
theorem pi_z {X : Cx} {e e2 : Expr} {ta : TA} {p pos tpos : Pos} {elts : List Expr} {kk : Nat} (hg : Gl X "zip") (hm : X.mg "zip" = none) (ha : PA X [e, e2] ta)
    (hs : starEach [e, e2] X.env = (false, eval e X.env) :: starEach [e2] X.env := by rfl) (hpl : (backTo pos (starEach [e2] X.env)).any (·.1) = false := by rfl) :
    PI X (.Tuple elts kk tpos) (.Call (.Name "zip" p) [e, e2] [] pos) (iZ X.K ta) := by
  refine ⟨fun pins s σ H R I h => ?_⟩
  refine Call_ (ld_blt I hg hm PyProof.Rows.boot_zip (PyProof.Rows.callWith_type1 (thn (ha.run pos pins s σ H _ I h) fun us s1 ⟨vs, H1, I1, r1, q1⟩ => ?_) hs hpl))
  obtain ⟨k1, k2, xs, ys, ex, hq1, hq2, q⟩ := q1
  subst ex
  cases r1 with
  | cons r rr =>
    cases rr with
    | cons r' rr =>
      cases rr
      have fresh5 : ∀ c, c ∈ [s1.heap.objs.size + 4, s1.heap.objs.size + 2, s1.heap.objs.size + 3, s1.heap.objs.size, s1.heap.objs.size + 1] → FpOk X pins H1 c := fun c hcm => by
        have e' : c = s1.heap.objs.size + 4 ∨ c = s1.heap.objs.size + 2 ∨ c = s1.heap.objs.size + 3 ∨ c = s1.heap.objs.size ∨ c = s1.heap.objs.size + 1 := by simpa using hcm
        have hle : s1.heap.objs.size ≤ c := by
          rcases e' with z | z | z | z | z <;> rw [z] <;> first | exact Nat.le_add_right _ _ | exact Nat.le_refl _
        exact I1.fpOk hle (I1.hok.fresh hle)
      obtain ⟨o1, G1, B1, g1, i1, f1⟩ := zk_begins I1 hq1 r
      obtain ⟨o2, G2, B2, g2, i2, f2⟩ := zk_begins I1 hq2 r'
      refine zip_begins2 B1 B2 g1 g2 fun h' hz hTI hTO h1 h2 hsz hk => wpAny_pyIter_zip hz ?_
      have I2 : Inv X pins σ H1 { s1 with heap := h' } := I1.kept (t' := s1.toks) hk
      have hmem : ∀ (k : Zk) (it : Addr), it ∈ k.fp it := fun k it => by cases k <;> simp [Zk.fp]
      have hno : ∀ (k : Zk) (it c : Addr), (∀ b ∈ k.fp it, b = it ∨ b < s1.heap.objs.size) → s1.heap.objs.size ≤ c → c ≠ it → c ∉ k.fp it := fun k it c hf hc hn hm => by
        rcases hf c hm with q | q
        · exact hn q
        · exact absurd q (Nat.not_lt.mpr hc)
      generalize hn : s1.heap.objs.size = n at *
      have sep : ZipSep2 (n + 4) (n + 2) (n + 3) n (n + 1) (k1.fp n) (k2.fp (n + 1)) :=
        ⟨by simp, by simp, by simp, by simp, hmem _ _, hno _ _ _ (f1 _) (by omega) (by simp), hno _ _ _ (f1 _) (by omega) (by simp), by simp, hmem _ _, hno _ _ _ (f2 _) (by omega) (by simp), hno _ _ _ (f2 _) (by omega) (by simp), hno _ _ _ (f2 _) (by omega) (by simp), hno _ _ _ (f1 _) (by omega) (by simp)⟩
      have apart : ∀ (k : Zk) (it : Addr), (∀ b ∈ k.fp it, b = it ∨ b < n) → (∀ it', (∀ b ∈ k.fp it', b = it' ∨ b < n)) → n ≤ it → ∀ a, k.fp it = [it, a] → a ≠ it := fun k it hf hf2 hi a e z => by
        have q : a = a + 1 ∨ a < n := hf2 (a + 1) a (by
          cases k with
          | tup b => cases e; simp [Zk.fp]
          | lst b => cases e; simp [Zk.fp]
          | str b => cases e)
        have z2 : n ≤ a := by rw [z]; exact hi
        rcases q with q | q
        · exact absurd q (Nat.ne_of_lt (Nat.lt_succ_self a))
        · exact absurd q (Nat.not_lt.mpr z2)
      exact ⟨n + 4, [n + 4, n + 2, n + 3, n, n + 1], _, _, H1, rfl, I2, turn_z sep (apart _ _ (f1 _) f1 (Nat.le_refl _)) (apart _ _ (f2 _) f2 (by omega)), ⟨hz, hTI, ⟨_, _, hTO⟩, i1 _ _ h1, i2 _ _ h2⟩, fresh5, q⟩
end Li
namespace Li
open PySem L2
section
variable {W : Wd} {X : Cx} {e1 e2 : Expr} {elts : List Expr} {kk : Nat} {body : List Stmt} {pos pp cp tp : Pos} {mas : Env → M (List D)} {p : D → Env → M Env} {b : Env → M Fl}
/-- a thing that is zipped, and what stands for it -/
def ZR (W : Wb) (H : Hp) (r : List Addr) : D → Zk → Prop
  | .tup ds, .tup a => ∃ vs, SqT W.K H a vs ∧ RDs W H r ds vs
  | .ro ds, .lst a => ∃ vs, SqF W.K H a vs ∧ RDs W H r ds vs
  | .str s, .str z => z = ⟨s.toArray⟩ ∧ s.length ≤ LINE ∧ ∀ c ∈ s, c < 0x110000
  | .ob n, .lst a => r[n]? = some a
  | _, _ => False
theorem ZR.mono {W : Wb} {H H' : Hp} {r r' : List Addr} (l : Lt H r H' r') {d : D} {k : Zk} (h : ZR W H r d k) : ZR W H' r' d k := by
  unfold ZR at h ⊢
  split at h
  · obtain ⟨vs, h1, h2⟩ := h
    exact ⟨vs, l.sqT h1, h2.mono l⟩
  · obtain ⟨vs, h1, h2⟩ := h
    exact ⟨vs, l.sqF h1, h2.mono l⟩
  · exact h
  · exact l.get h
  · exact h.elim
theorem chars_rd {W : Wb} {H : Hp} {r : List Addr} : ∀ {s : S}, (∀ c ∈ s, c < 0x110000) → RDs W H r (charsOf s) (s.map fun c => V.str ⟨#[c]⟩)
  | [], _ => .nil
  | c :: s, h => .cons (.str [c] (by show 1 ≤ LINE; decide) fun c' hc => by
      obtain rfl := List.mem_singleton.mp hc
      exact h _ (List.mem_cons_self ..)) (chars_rd fun c' hc => h c' (List.mem_cons_of_mem _ hc))
theorem zr_src {W : Wb} {H : Hp} {r : List Addr} {st : Store} (sr : SR W H r st) {d : D} {k : Zk} (h : ZR W H r d k) {Q : List D → M α} {st : Store} (sr : SR W H r st) :
    bnd (srcL d) Q st = .bad ∨ ∃ xs vs, srcL d st = .ok xs st ∧ k.at_ W.K H vs ∧ RDs W H r xs vs := by
  unfold ZR at h
  split at h
  · obtain ⟨vs, h1, h2⟩ := h
    exact .inr ⟨_, vs, rfl, h1, h2⟩
  · obtain ⟨vs, h1, h2⟩ := h
    exact .inr ⟨_, vs, rfl, h1.l, h2⟩
  · obtain ⟨rfl, h1, h2⟩ := h
    refine .inr ⟨_, _, rfl, rfl, ?_⟩
    show RDs W H r (charsOf _) _
    simpa using chars_rd h2
  · rename_i n a
    cases z : st[n]? with
    | none => exact .inl (bnd_bad (by show getL n st = .bad; unfold getL; rw [z]))
    | some o =>
      cases o with
      | ins _ _ | dic _ | nst _ => exact .inl (bnd_bad (by show getL n st = .bad; unfold getL; rw [z]))
      | lst ds =>
        obtain ⟨a', vs, f1, f2, f3⟩ := sr.lst z
        rw [h] at f1
        cases f1
        exact .inr ⟨ds, vs, by show getL n st = _; unfold getL; rw [z], SqL.of f2, f3⟩
  · exact h.elim
theorem zr_of {W : Wb} {H : Hp} {r : List Addr} {st : Store} {d : D} {v : V} (h : RD W H r d v) {α : Type} {Q : List D → M α} : bnd (srcL d) Q st = .bad ∨ ∃ k : Zk, k.val = v ∧ ZR W H r d k := by
  cases h with
  | @tup a vs ds h1 h2 => exact .inr ⟨.tup a, rfl, vs, h1, h2⟩
  | @ro a vs ds h1 h2 => exact .inr ⟨.lst a, rfl, vs, h1, h2⟩
  | str s h1 h2 => exact .inr ⟨.str ⟨s.toArray⟩, rfl, rfl, h1, h2⟩
  | @ob n a h1 => exact .inr ⟨.lst a, rfl, h1⟩
  | _ => exact .inl rfl
def AtZ (W : Wd) (f : D → Env → M Fl) (d1 d2 : D) (k1 k2 : Zk) (N : Ends) (i m : Nat) (s : L2.St) (H : Hp) : Prop :=
  ∃ r env st, ZR W.b H r d1 k1 ∧ ZR W.b H r d2 k2 ∧ ER W H r env s ∧ SR W.b H r st ∧ PostS W H r (forZ f d1 d2 m i env st) N
theorem ps_forZip (hK : X.K = W.b.K) (hp : PassesOwn (model X.prog X.w) X.A X.env X.xe) (hc : X.calm = true) (hgl : Gl X "zip") (hm : X.mg "zip" = none) (ha : PA X [e1, e2] (tA W mas))
    (hs : starEach [e1, e2] X.env = (false, eval e1 X.env) :: starEach [e2] X.env) (hpl : (backTo cp (starEach [e2] X.env)).any (·.1) = false) (hg : PG X (.Tuple elts kk tp) (tG W p)) (hb : PSs X body (tS W b)) :
    PS X (.For (.Tuple elts kk tp) (.Call (.Name "zip" pp) [e1, e2] [] cp) body [] pos) (tS W fun env => bnd (mas env) fun ds => zipRun (fun y env => bnd (p y env) b) ds env) := by
  refine ⟨fun pins S s H N I h => ?_⟩
  obtain ⟨r, env, st, e, sr, q⟩ := id h
  dsimp only at q
  have hps := ps_for (body := body) (tb := tS W b) (pos := pos) (wi := iZ X.K (tA W mas)) hp hc (pi_z (p := pp) (pos := cp) (tpos := tp) (elts := elts) (kk := kk) hgl hm ha hs hpl) hg hb fun _ => rfl
  refine hps.run pins S s H N I (show tA W mas s H _ from ⟨r, env, st, (), e, sr, True.intro, ?_⟩)
  show Post W (RDs W.b) H r (mas env st) _
  cases z : mas env st with
  | ex x st1 =>
    rw [bnd_ex z] at q
    exact q
  | bad => rw [bnd_bad z] at q; exact q.elim
  | ok ds st1 =>
    rw [bnd_ok z] at q
    intro H1 r1 vs l sr1 rd
    have e1 := e.mono l
    have q1 := q.lt l
    match ds, vs, rd, q1 with
    | [], _, _, q1 => exact (show False from q1).elim
    | [_], _, _, q1 => exact (show False from q1).elim
    | _ :: _ :: _ :: _, _, _, q1 => exact (show False from q1).elim
    | [d1, d2], _, .cons (v := v1) rd1 (.cons (v := v2) rd2 .nil), q1 =>
      have q1 : PostS W H1 r1 (forZ (fun y env => bnd (p y env) b) d1 d2 FUEL 0 env st1) N := q1
      have fu : FUEL = FUEL - 1 + 1 := by decide
      have key : ∀ {i m : Nat} {r' : List Addr} {env' : Env} {st' : Store} {H' : Hp} {k1 k2 : Zk}, ZR W.b H' r' d1 k1 → ZR W.b H' r' d2 k2 → SR W.b H' r' st' → PostS W H' r' (forZ (fun y env => bnd (p y env) b) d1 d2 m i env' st') N →
          ∃ k xs ys vs ws, m = k + 1 ∧ k1.at_ W.b.K H' vs ∧ RDs W.b H' r' xs vs ∧ k2.at_ W.b.K H' ws ∧ RDs W.b H' r' ys ws ∧ (i ≤ xs.length ∧ i ≤ ys.length) ∧ PostS W H' r' ((match xs[i]?, ys[i]? with
            | some x, some y => bnd (bnd (p (.tup [x, y]) env') b) fun r => match r with
              | .next e => forZ (fun y env => bnd (p y env) b) d1 d2 k (i + 1) e
              | .cnt e => forZ (fun y env => bnd (p y env) b) d1 d2 k (i + 1) e
              | .brk e => ret (.next e)
              | .ret d => ret (.ret d)
            | _, _ => ret (.next env')) st') N := by
        intro i m r' env' st' H' k1 k2 z1 z2 sr' q'
        cases m with
        | zero => exact q'.elim
        | succ k =>
          unfold forZ at q'
          rcases zr_src sr' z1 sr' with t | ⟨xs, vs, t1, t2, t3⟩
          · rw [t] at q'; exact q'.elim
          · rw [bnd_ok t1] at q'
            rcases zr_src sr' z2 sr' with t | ⟨ys, ws, u1, u2, u3⟩
            · rw [t] at q'; exact q'.elim
            · rw [bnd_ok u1] at q'
              by_cases hc : i ≤ xs.length ∧ i ≤ ys.length
              · rw [chk_true hc] at q'
                exact ⟨k, xs, ys, vs, ws, rfl, t2, t3, u2, u3, hc, q'⟩
              · rw [chk_false hc] at q'
                exact q'.elim
      have two : ∃ k1 k2 : Zk, k1.val = v1 ∧ k2.val = v2 ∧ ZR W.b H1 r1 d1 k1 ∧ ZR W.b H1 r1 d2 k2 := by
        have q2 := q1
        rw [fu] at q2
        unfold forZ at q2
        rcases zr_of (st := st1) rd1 with t | ⟨k1, t1, t2⟩
        · rw [t] at q2; exact q2.elim
        · rcases zr_src sr1 t2 sr1 with t | ⟨xs, vs, u1, u2, u3⟩
          · rw [t] at q2; exact q2.elim
          · rw [bnd_ok u1] at q2
            rcases zr_of (st := st1) rd2 with t | ⟨k2, t3, t4⟩
            · rw [t] at q2; exact q2.elim
            · exact ⟨k1, k2, t1, t3, t2, t4⟩
      obtain ⟨k1, k2, y1, y2, zr1, zr2⟩ := two
      subst y1
      subst y2
      rw [hK]
      obtain ⟨_, _, _, vs0, ws0, _, g1, _, g2, _⟩ := key zr1 zr2 sr1 q1
      refine ⟨k1, k2, vs0, ws0, rfl, g1, g2, AtZ W (fun y env => bnd (p y env) b) d1 d2 k1 k2 N, ⟨FUEL, r1, env, st1, zr1, zr2, e1, sr1, q1⟩, ?_⟩
      rintro i m s' H' ⟨r', env', st', z1, z2, e', sr', q'⟩
      obtain ⟨k, xs, ys, vs, ws, rfl, a1, a2, b1, b2, hc, q'⟩ := key z1 z2 sr' q'
      cases zx : xs[i]? with
      | none =>
        rw [zx] at q'
        refine .inl ⟨⟨vs, ws, a1, b1, by rw [← a2.length]; exact hc.1, by rw [← b2.length]; exact hc.2, .inl ?_⟩, q' H' r' s' (Lt.refl _ _) sr' e'⟩
        rw [← a2.length]
        have := List.getElem?_eq_none_iff.mp zx
        omega
      | some x =>
        cases zy : ys[i]? with
        | none =>
          rw [zx, zy] at q'
          refine .inl ⟨⟨vs, ws, a1, b1, by rw [← a2.length]; exact hc.1, by rw [← b2.length]; exact hc.2, .inr ?_⟩, q' H' r' s' (Lt.refl _ _) sr' e'⟩
          rw [← b2.length]
          have := List.getElem?_eq_none_iff.mp zy
          omega
        | some y =>
          rw [zx, zy] at q'
          obtain ⟨vx, hx, rx⟩ := a2.get zx
          obtain ⟨vy, hy, ry⟩ := b2.get zy
          refine .inr ⟨⟨vs, ws, vx, vy, a1, b1, hx, hy⟩, AtZ W (fun y env => bnd (p y env) b) d1 d2 k1 k2 N (i + 1) k, fun s2 H2 q3 => ⟨k, Nat.lt_succ_self _, q3⟩, fun x' H2 yy => ?_⟩
          obtain ⟨T, x1, x2, rfl, hT, rfl, yy1, yy2⟩ := yy
          obtain rfl : vx = x1 := by
            have := yy1 vs a1
            rw [hx] at this
            exact Option.some.inj this
          obtain rfl : vy = x2 := by
            have := yy2 ws b1
            rw [hy] at this
            exact Option.some.inj this
          have l' : Lt H' r' (upd H' T (.tup [vx, vy])) r' := Lt.new hT
          exact turn_run (k := forZ (fun y env => bnd (p y env) b) d1 d2 k (i + 1)) (e'.mono l') (sr'.new hT) (.tup (SqT.of upd_same) (.cons (rx.mono l') (.cons (ry.mono l') .nil))) (q'.lt l') fun H3 r3 env3 st3 s3 l3 sr3 e3 q3 => ⟨r3, env3, st3, (z1.mono l').mono l3, (z2.mono l').mono l3, e3, sr3, q3⟩
end
end Li
namespace Li
open PySem L2
/-- what a name of the module stands for -/
inductive Gr where
  | fn (i : Nat) | val (d : D) | cls (n i : Nat) | dict (kvs : List (S × D)) | xc (n : Nat) | kfn (i k : Nat) (nm : Str)
/-- a class: its name, its methods with their numbers -/
structure Ci where
  name : Str
  meths : List (Str × Nat)
/-- a class of exceptions: its name, the fields that its __init__ sets, the classes it stands under, its __init__ -/
structure Xci where
  name : Str
  fs : List S
  ups : List Nat
  init : Option Nat
structure CC where
  N : List Str
  sc : Scope
  all : Bool
  gl : List (Str × Gr)
  cl : List Ci
  at_ : List Str
  xs : List Xci := []
  /-- in an except suite: the exception's name -/
  sx : Option Str := none
  calm : Bool := true
  /-- what may be a dict (for the choice of terms alone) -/
  dn : List Str := []
  /-- what may be a set -/
  sn : List Str := []
/-- the class and the number of a method that only one class has -/
def methQ (m : Str) : Nat → List Ci → Option (Nat × Nat)
  | _, [] => none
  | n, c :: r => match c.meths.lookup m with
    | some i => some (n, i)
    | none => methQ m (n + 1) r
theorem methQ_ok {m : Str} : ∀ {l : List Ci} {n a i : Nat}, methQ m n l = some (a, i) → ∃ c, l[a - n]? = some c ∧ n ≤ a ∧ c.meths.lookup m = some i
  | [], n, a, i, h => by cases h
  | c :: r, n, a, i, h => by
    unfold methQ at h
    split at h
    · rename_i j e
      cases h
      exact ⟨c, by simp, Nat.le_refl _, e⟩
    · obtain ⟨c', h1, h2, h3⟩ := methQ_ok h
      refine ⟨c', ?_, by omega, h3⟩
      have : a - n = (a - (n + 1)) + 1 := by omega
      rw [this]
      simpa using h1
def slot (N : List Str) (x : Str) : Option Nat := N.findIdx? (· == x)
theorem slot_get {N : List Str} {x : Str} {i : Nat} (h : slot N x = some i) : N[i]? = some x := by
  unfold slot at h
  obtain ⟨h1, h2, _⟩ := List.findIdx?_eq_some_iff_getElem.mp h
  rw [List.getElem?_eq_getElem h1]
  exact congrArg some (by simpa using h2)
def visQ (sc : Scope) (x : Str) : Bool := match sc.names.lookup x with
  | some .local => true
  | some .cell => true
  | some .free => true
  | _ => false
theorem vis_of {sc : Scope} {x : Str} (h : visQ sc x = true) : Vis sc x := by
  unfold visQ at h
  split at h <;> first | exact .inl (by assumption) | exact .inr (.inl (by assumption)) | exact .inr (.inr (by assumption)) | cases h
def locQ (c : CC) (x : Str) : Bool := match c.sc.names.lookup x with
  | some .local => true
  | some .cell => c.all
  | _ => false
def glbQ (sc : Scope) (x : Str) : Bool := decide (sc.names.lookup x = some .globalImplicit)
def okName (x : Str) : Bool := x != "__debug__" && x != "__classdict__" && x != "__name__"
def bopOf : Operator → Option Bop
  | .Add => some .add | .Sub => some .sub | .Mult => some .mul | .FloorDiv => some .fdiv | .Mod => some .mod | .Pow => some .pow
  | _ => none
theorem bop_op {o : Operator} {b : Bop} (h : bopOf o = some b) : o = opOf b := by
  cases o <;> simp [bopOf] at h <;> subst h <;> rfl
def copTo : CmpOp → Cop
  | .Eq => .eq | .NotEq => .ne | .Lt => .lt | .LtE => .le | .Gt => .gt | .GtE => .ge | .Is => .is | .IsNot => .isn | .In => .isin | .NotIn => .nin
theorem cop_op (o : CmpOp) : o = copOf (copTo o) := by cases o <;> rfl
def tyOf (x : Str) : Option Ty :=
  if x = "int" then some .int else if x = "str" then some .str else if x = "bool" then some .bool else if x = "list" then some .list else if x = "tuple" then some .tuple else if x = "dict" then some .dict else none
def biOf (x : Str) : Option Bi :=
  if x = "len" then some .len else if x = "int" then some .int else if x = "abs" then some .abs else if x = "list" then some .list else if x = "tuple" then some .tuple else if x = "isinstance" then some .isi else if x = "repr" then some .repr else if x = "str" then some .str else if x = "min" then some .min else if x = "max" then some .max else none
/-- the built-in names that are used -/
def blts : List Str := ["ValueError", "int", "str", "bool", "list", "tuple", "dict", "len", "abs", "isinstance", "range", "repr", "min", "max", "enumerate", "set", "reversed", "zip", "sum", "sorted", "all", "any"]
def starQ : Expr → Bool
  | .Starred .. => true
  | _ => false
/-- no call of super() -/
def baseQ : Expr → Bool
  | .Call (.Name _ _) [] [] _ => false
  | _ => true
def baseQ2 : Expr → Bool
  | .Call .. => false
  | _ => true
def setQ : Expr → Bool
  | .Set .. => true
  | _ => false
def sliceQ : Expr → Bool
  | .Slice .. => true
  | _ => false
def compQ : Expr → Bool
  | .ListComp .. => true
  | .SetComp .. => true
  | .DictComp .. => true
  | _ => false
def ands : List Ex → Option Ex
  | [] => none
  | [a] => some a
  | a :: r => (ands r).map (.and a)
def ors : List Ex → Option Ex
  | [] => none
  | [a] => some a
  | a :: r => (ors r).map (.or a)
def cO (f : Expr → Option Ex) : Option Expr → Option (Option Ex)
  | none => some none
  | some e => (f e).map some
def rangeQ (c : CC) : Expr → Bool
  | .Call (.Name f _) _ [] _ => decide (f = "range") && glbQ c.sc "range" && (c.gl.lookup ("range" : Str)).isNone
  | _ => false
def cIfs (f : Expr → Option Ex) : List Expr → Option (Option Ex)
  | [] => some none
  | [t] => (f t).map some
  | _ => none
def cRng (f : Expr → Option Ex) (mk : List Ex → Ex) : List Expr → Option Ex
  | [a] => if starQ a then none else (f a).map fun y => mk [y]
  | [a, b] => if starQ a || starQ b then none else (f a).bind fun y => (f b).map fun z => mk [y, z]
  | _ => none
def callArgs : Expr → List Expr
  | .Call _ as _ _ => as
  | _ => []
def cLc (f : CC → Expr → Option Ex) (c : CC) (elt : Expr) (x : Str) (iter : Expr) (ifs : List Expr) (scope : Scope) : Option Ex :=
  if !(c.calm && c.sx.isNone) then none else (slot c.N x).bind fun i => if blkC c.N c.sc scope [(x, i)] && decide ((relS scope c.sc).names.lookup x = some .local) then
    (f { c with sc := relS scope c.sc, all := false } elt).bind fun e => (cIfs (f { c with sc := relS scope c.sc, all := false }) ifs).bind fun t =>
      if rangeQ c iter then cRng (f c) (fun as => .lcr e i as t) (callArgs iter)
      else if setQ iter then none else (f c iter).map fun y => .lc e i y t
  else none
def cJp (f : Expr → Option Ex) : Expr → Option Ex
  | .FormattedValue e cv none _ => if cv = -1 then (f e).map .txt else none
  | .Constant v k p => f (.Constant v k p)
  | _ => none
def orBad : Option Ex → Option Ex
  | some x => some x
  | none => some .bad
theorem orBad_inv {o : Option Ex} {x : Ex} (h : orBad o = some x) : o = some x ∨ x = .bad := by
  cases o with
  | none => cases h; exact .inr rfl
  | some y => exact .inl h
/-- a name of a module's dict -/
def dctQ (c : CC) : Expr → Option (List (S × D))
  | .Name x _ => if okName x && (!visQ c.sc x && glbQ c.sc x) then (match c.gl.lookup x with
    | some (.dict kvs) => some kvs
    | _ => none) else none
  | _ => none
def dinQ (c : CC) (op : CmpOp) (b : Expr) : Option (List (S × D) × Bool) := match op with
  | .In => (dctQ c b).map fun k => (k, false)
  | .NotIn => (dctQ c b).map fun k => (k, true)
  | _ => none
/-- what may be a dict of one's own -/
def dQ (c : CC) : Expr → Bool
  | .Name x _ => c.dn.contains x
  | .Attribute _ f _ => c.dn.contains f
  | .Call (.Name f _) _ _ _ => c.dn.contains f
  | .Dict .. => true
  | _ => false
def dhQ (c : CC) (op : CmpOp) (b : Expr) : Option Bool := match op with
  | .In => if dQ c b then some false else none
  | .NotIn => if dQ c b then some true else none
  | _ => none
/-- what may be a set -/
def sQ (c : CC) : Expr → Bool
  | .Name x _ => c.sn.contains x
  | .Attribute _ f _ => c.sn.contains f
  | _ => false
def nhQ (c : CC) (op : CmpOp) (b : Expr) : Option Bool := match op with
  | .In => if sQ c b then some false else none
  | .NotIn => if sQ c b then some true else none
  | _ => none
theorem nhQ_op {c : CC} {op : CmpOp} {b : Expr} {neg : Bool} (h : nhQ c op b = some neg) : op = if neg then .NotIn else .In := by
  unfold nhQ at h
  split at h
  · split at h <;> cases h
    rfl
  · split at h <;> cases h
    rfl
  · cases h
/-- list(reversed(e)) -/
def lrevQ (c : CC) (f : Str) : List Expr → Option Expr
  | [.Call (.Name g _) [e] [] _] => if decide (f = "list") && (decide (g = "reversed") && ((c.gl.lookup ("list" : Str)).isNone && ((c.gl.lookup ("reversed" : Str)).isNone && (glbQ c.sc "reversed" && (!starQ e && c.calm))))) then some e else none
  | _ => none
/-- reversed(e), walked by enumerate -/
def enrQ (c : CC) : Expr → Option Expr
  | .Call (.Name g _) [e] [] _ => if decide (g = "reversed") && ((c.gl.lookup ("reversed" : Str)).isNone && (glbQ c.sc "reversed" && !starQ e)) then some e else none
  | _ => none
theorem dhQ_op {c : CC} {op : CmpOp} {b : Expr} {neg : Bool} (h : dhQ c op b = some neg) : op = if neg then .NotIn else .In := by
  unfold dhQ at h
  split at h
  · split at h <;> cases h
    rfl
  · split at h <;> cases h
    rfl
  · cases h
/-- a constant tuple of texts, asked for a place -/
def tixQ (c : CC) : Expr → Option (List S)
  | .Name x _ => if okName x && (!visQ c.sc x && glbQ c.sc x) then (match c.gl.lookup x with
    | some (.val (.tup ds)) => strsOf ds
    | _ => none) else none
  | _ => none
def tixI (c : CC) (m : Str) (o : Expr) : List Expr → Option (List S × Expr)
  | [e] => if decide (m = "index") && !starQ e then (tixQ c o).map fun ys => (ys, e) else none
  | _ => none
/-- a display's keys and values, in their order -/
def cDis (f : Expr → Option Ex) : List (Option Expr) → List Expr → Option (List Ex)
  | [], [] => some []
  | some k :: ks, v :: vs => (f k).bind fun a => (f v).bind fun b => (cDis f ks vs).map fun r => a :: b :: r
  | _, _ => none
/-- the exception's name, in a suite -/
def xnQ (c : CC) : Expr → Option Nat
  | .Name y _ => if decide (c.sx = some y) && (okName y && visQ c.sc y) then slot c.N y else none
  | _ => none
/-- the classes under the m-th -/
def subs (xs : List Xci) (m : Nat) : List Nat := (List.range xs.length).filter fun n => match xs[n]? with
  | some ci => ci.ups.contains m
  | none => false
def xsub (c : CC) : Expr → Option (List Nat)
  | .Name z _ => if okName z && (!visQ c.sc z && glbQ c.sc z) then (match c.gl.lookup z with
    | some (.xc m) => some (subs c.xs m)
    | none => if z = "ValueError" then some (List.range c.xs.length) else none
    | _ => none) else none
  | _ => none
/-- isinstance of the exception -/
def xiQ (c : CC) (f : Str) : List Expr → Option Ex
  | [a, b] => if decide (f = "isinstance") && (c.gl.lookup ("isinstance" : Str)).isNone then (xnQ c a).bind fun i => (xsub c b).map fun ks => .xi c.N.length i ks else none
  | _ => none
def xats (c : CC) : List Str := c.xs.flatMap fun x => x.fs.map mkS
def cE : Nat → CC → Expr → Option Ex
  | 0, _, _ => some .bad
  | n + 1, c, e => orBad <| match e with
    | .Constant (.int i) _ _ => some (.c (.int i))
    | .Constant (.bool b) _ _ => some (.c (.bl b))
    | .Constant .none _ _ => some (.c .non)
    | .Constant (.str x) _ _ => if decide (x.cps.size ≤ LINE) && x.cps.all (· < 0x110000) then some (.c (.str x.cps.toList)) else none
    | .Name x _ => if okName x then (if visQ c.sc x then (slot c.N x).map .v else if glbQ c.sc x then (match c.gl.lookup x with
        | some (.val d) => some (.c d)
        | some (.fn i) => some (.c (.fn i))
        | some (.cls _ _) => none
        | some (.dict _) => none
        | some (.xc _) => none
        | some (.kfn _ _ _) => none
        | none => (tyOf x).map fun t => .c (.ty t)) else none) else none
    | .BinOp a op b _ => (bopOf op).bind fun o => (cE n c a).bind fun x => (cE n c b).map fun y => .bin o x y
    | .UnaryOp .Not a _ => (cE n c a).map .nt
    | .UnaryOp .USub a _ => (cE n c a).map .neg
    | .Compare a [op] [b] _ => if setQ b then none else match dinQ c op b with
      | some p => (cE n c a).map (.din p.1 p.2)
      | none => match nhQ c op b with
      | some neg => (cE n c a).bind fun x => (cE n c b).map fun y => .nin neg x y
      | none => match dhQ c op b with
      | some neg => (cE n c a).bind fun x => (cE n c b).map fun y => .dq neg x y
      | none => (cE n c a).bind fun x => (cE n c b).map fun y => .cmp (copTo op) x y
    | .Compare a [o1, o2] [b, d] _ => if setQ b || setQ d then none else (cE n c a).bind fun x => (cE n c b).bind fun y => (cE n c d).map fun z => .chain (copTo o1) (copTo o2) x y z
    | .BoolOp .And es _ => (es.mapM (cE n c)).bind ands
    | .BoolOp .Or es _ => (es.mapM (cE n c)).bind ors
    | .IfExp t a b _ => (cE n c t).bind fun x => (cE n c a).bind fun y => (cE n c b).map fun z => .ite x y z
    | .Call (.Name f _) as [] _ => if okName f && glbQ c.sc f && !(as.any starQ) then (match lrevQ c f as with
      | some e => (cE n c e).map .lrev
      | none => match xiQ c f as with
      | some x => some x
      | none => (match c.gl.lookup f with
        | some (.fn i) => if c.calm then (as.mapM (cE n c)).map (.call i) else none
        | some (.val _) => none
        | some (.dict _) => none
        | some (.xc _) => none
        | some (.kfn _ _ _) => none
        | some (.cls j i) => if c.calm then (as.mapM (cE n c)).map (.mk j i) else none
        | none => if as.isEmpty then (if decide (f = "set") then some .nset else none) else (biOf f).bind fun b => if biCalm b && !c.calm then none else (as.mapM (cE n c)).map (.bi b))) else if okName f && visQ c.sc f && !(as.any starQ) && c.calm then (slot c.N f).bind fun i => (as.mapM (cE n c)).map (.cv (.v i)) else none
    | .Call (.Name f _) (e0 :: as) [⟨some nm, v, _⟩] _ => if okName f && glbQ c.sc f && !((e0 :: as).any starQ) && c.calm then (match c.gl.lookup f with
        | some (.kfn i k nm2) => if decide (nm = nm2) then ((e0 :: as).mapM (cE n c)).bind fun a => (cE n c v).map fun b => .call i (a ++ [b]) else none
        | _ => none) else none
    | .Call (.Attribute o m ap) as [] pos => if baseQ o && ap.endLine == pos.line && !(as.any starQ) && decide (as.length < 30) then
        (match tixI c m o as with
         | some p => (cE n c p.2).map (.tix p.1)
         | none => match mtOf m with
         | some M => (cE n c o).bind fun x => (as.mapM (cE n c)).map (.mt M x)
         | none => if decide (m = "get") && dQ c o then (match as with
           | [e] => (cE n c o).bind fun x => (cE n c e).map fun y => .dm1 x y
           | [e, f] => (cE n c o).bind fun x => (cE n c e).bind fun y => (cE n c f).map fun z => .dm2 x y z
           | _ => none) else if decide (m = "add") && sQ c o then (match as with
           | [e] => (cE n c o).bind fun x => (cE n c e).map fun y => .nadd x y
           | _ => none) else match methQ m 0 c.cl with
          | some (j, i) => if !c.calm then none else (cE n c o).bind fun x => (as.mapM (cE n c)).map fun ys => .me j i m.cps.toList x ys
          | none => none) else none
    | .Call (.Subscript fa fb fp) as [] _ => if !(as.any starQ) && c.calm then (cE n c (.Subscript fa fb fp)).bind fun x => (as.mapM (cE n c)).map (.cv x) else none
    | .Attribute o f _ => (match xnQ c o with
      | some i => if (xats c).contains f then some (.xf c.N.length i f.cps.toList) else none
      | none => if baseQ2 o && c.at_.contains f then (cE n c o).map fun x => .fld x f.cps.toList else none)
    | .Subscript a (.Slice lo hi none _) _ => (cE n c a).bind fun x => (cO (cE n c) lo).bind fun l => (cO (cE n c) hi).map fun h => .sl x l h
    | .Subscript a b _ => if sliceQ b then none else match dctQ c a with
      | some kvs => (cE n c b).map (.dix kvs)
      | none => if dQ c a then (cE n c a).bind fun x => (cE n c b).map fun y => .dg x y else (cE n c a).bind fun x => (cE n c b).map fun y => .ix x y
    | .Dict keys values _ => if decide (keys.length ≤ 15) && decide (keys.length = values.length) then (cDis (cE n c) keys values).map .dis else none
    | .JoinedStr es _ => if decide (2 ≤ es.length) then (es.mapM (cJp (cE n c))).map .js else none
    | .Tuple es _ _ => if es.any starQ then none else (es.mapM (cE n c)).map .tup
    | .List es _ => if es.any starQ then none else (es.mapM (cE n c)).map .lst
    | .ListComp elt [⟨.Name x _, iter, ifs, 0⟩] scope _ => cLc (cE n) c elt x iter ifs scope
    | _ => none
theorem okName_of {x : Str} (h : okName x = true) : (x == ("__debug__" : Str)) = false ∧ (x == ("__classdict__" : Str)) = false ∧ x ≠ "__name__" := by
  unfold okName at h
  simp only [Bool.and_eq_true, bne_iff_ne] at h
  exact ⟨beq_eq_false_iff_ne.mpr h.1.1, beq_eq_false_iff_ne.mpr h.1.2, h.2⟩
/-- what is so where a text runs -/
structure KvsAt (W : Wb) (K : PySem.W.Frag) (w : World) (kvs : List (S × D)) (p : Addr) : Prop where
  ex : ∃ es n, KDict K w p es n
  hit : ∀ s d, kvs.lookup s = some d → ∃ u v, PySem.W.nsIn K p (mkS s) = some (some u) ∧ RelV v u ∧ ∀ H r, RD W H r d v
  miss : ∀ s, kvs.lookup s = none → PySem.W.nsIn K p (mkS s) = some none
/-- how an exception of the class is made -/
def XMk (X : Cx) (C : Addr) (ci : Xci) : Prop := match ci.init with
  | none => ci.fs = [] ∧ PySem.W.excIn X.K C PySem.HandSPX.veTail "ValueError.__new__" = true ∧ PySem.W.keepIn X.K (.ref C) = true ∧ Raises X (.ref C)
  | some _ => OexC X.K C ∧ (ci.fs.Nodup ∧ ci.fs.length ≤ 800) ∧ ∃ fI fd ps, PySem.W.findIn X.K (.ref C) "__init__" = some (some (.ref fI)) ∧ PySem.W.typeIn X.K (.ref fI) = some (.type "function") ∧ FnOk X.prog X.w X.K X.mg X.base CX0 1 fI fd ps (spInit C (ci.fs.map mkS)) ∧ Binds X.K fd ps []
structure XOk (W : Wd) (cf : Nat → List D → M D) (k : Nat) (c : CC) (X : Cx) : Prop where
  cat : ∀ f ∈ c.at_, CAt W.b X.K f
  mth : ∀ n i m ci, c.cl[n]? = some ci → ci.meths.lookup m = some i → ∃ C f fd ps, W.b.C n = some C ∧ Cls X.K C ∧ Meth X.K C m f ∧ Binds X.K fd ps [] ∧ FnG X.prog X.w X.K X.mg X.base k f fd ps (spF W.b (cf i) ps.length) ∧ (∀ ds st, ds.length ≠ ps.length → cf i ds st = .bad)
  mkr : ∀ x n i, c.gl.lookup x = some (.cls n i) → ∃ C f fd ps, X.mg x = some (.ref C) ∧ W.b.C n = some C ∧ Mk X.K C f ∧ Binds X.K fd ps [] ∧ FnG X.prog X.w X.K X.mg X.base k f fd ps (spF W.b (cf i) ps.length) ∧ (∀ ds st, ds.length ≠ ps.length → cf i ds st = .bad)
  hK : X.K = W.b.K
  hw : X.w = W.b.w
  hN : X.N = c.N
  nd : c.N.Nodup
  sc : X.env.scope = c.sc
  kind : c.sc.kind = .function
  calm : c.calm = true → X.calm = true
  room : c.calm = true → Room (k + 1) X.A
  un : X.A.units + 65 < cLine
  k1 : 1 ≤ k
  xE : ∀ n C, W.b.E n = some C → ∃ ci, c.xs[n]? = some ci ∧ XcK X.K C (xats c) ∧ ∀ m cm Cm, c.xs[m]? = some cm → W.b.E m = some Cm → PySem.W.kitOne X.K (.ref C) (.ref Cm) = some (ci.ups.contains m) ∧ PySem.W.exmOne X.K (.ref C) (.ref Cm) = some (ci.ups.contains m)
  xnm : ∀ x n, c.gl.lookup x = some (.xc n) → ∃ C ci, X.mg x = some (.ref C) ∧ W.b.E n = some C ∧ c.xs[n]? = some ci ∧ XMk X C ci
  sx : ∀ y, c.sx = some y → ∃ i a oe cls d X0 pn, X = Cx.suite X0 a ((a, oe) :: pn) ∧ Zc cls d oe ∧ (∃ vs, oe.data = .fields vs) ∧ W.cur = some (i, a, cls, d) ∧ slot c.N y = some i
  cur0 : c.sx = none → W.cur = none
  grd : X.A.guards = some []
  passes : PassesOwn (model X.prog X.w) X.A X.env X.xe
  all : c.all = true → ∀ x, X.fn x = true
  fns : ∀ x i, c.gl.lookup x = some (.fn i) → ∃ f fd ps, X.mg x = some (.ref f) ∧ PySem.W.keepIn X.K (.ref f) = true ∧ Binds X.K fd ps [] ∧ FnG X.prog X.w X.K X.mg X.base k f fd ps (spF W.b (cf i) ps.length) ∧ (∀ ds st, ds.length ≠ ps.length → cf i ds st = .bad) ∧ W.b.F i = some f
  vals : ∀ x d, c.gl.lookup x = some (.val d) → ∃ u v, X.mg x = some u ∧ RelV v u ∧ ∀ H r, RD W.b H r d v
  blt : ∀ x ∈ blts, c.gl.lookup x = none → X.mg x = none
  tk : Takes X fun cls d _ H => W.xk cls d H
  tupv : ∀ x ds a, c.gl.lookup x = some (.val (.tup ds)) → X.mg x = some (.ref a) → ∃ o, W.b.K.lookup a = some o ∧ o.cls = .type "tuple" ∧ o.dict = none
  kfns : ∀ x i n nm, c.gl.lookup x = some (.kfn i n nm) → ∃ f fd ps, X.mg x = some (.ref f) ∧ PySem.W.keepIn X.K (.ref f) = true ∧ KBn X.K fd ps n [nm] (fun us ws => us ++ ws) (fun vs zs => vs ++ zs) ∧ ps.length = n + 1 ∧ FnG X.prog X.w X.K X.mg X.base k f fd ps (spF W.b (cf i) ps.length) ∧ (∀ ds st, ds.length ≠ ps.length → cf i ds st = .bad)
  fnv : ∀ i f, W.b.F i = some f → ∃ fd ps, PySem.W.keepIn X.K (.ref f) = true ∧ Binds X.K fd ps [] ∧ FnG X.prog X.w X.K X.mg X.base k f fd ps (spF W.b (cf i) ps.length) ∧ (∀ ds st, ds.length ≠ ps.length → cf i ds st = .bad)
  dct : ∀ x kvs, c.gl.lookup x = some (.dict kvs) → ∃ p, X.mg x = some (.ref p) ∧ KvsAt W.b X.K X.w kvs p
section
variable {W : Wd} {cf : Nat → List D → M D} {k : Nat} {c : CC} {X : Cx}
theorem XOk.nd' (x : XOk W cf k c X) : X.N.Nodup := by rw [x.hN]; exact x.nd
theorem XOk.gl {y : Str} (x : XOk W cf k c X) (h : glbQ c.sc y = true) : Gl X y := by
  show X.env.scope.names.lookup y = _
  rw [x.sc]
  exact of_decide_eq_true h
theorem XOk.units (x : XOk W cf k c X) : X.A.units + 65 < cLine := x.un
/-- in a comprehension's block -/
theorem XOk.blk (x : XOk W cf k c X) (hcm : c.calm = true) (hsx : c.sx = none) {scope : Scope} (hk : scope.kind = .function) (s : Shared) (H : Hp) (C : Addr) (cl : List (Str × Addr)) (fp : List Addr) : XOk ⟨W.b, fun _ _ _ => False, W.cur⟩ cf k { c with sc := relS scope c.sc, all := false } (X.blk s H scope (compEnvC scope cl C X.env) fp) where
  hK := x.hK
  hw := x.hw
  hN := x.hN
  nd := x.nd
  sc := by
    show relS scope X.env.scope = relS scope c.sc
    rw [x.sc]
  kind := hk
  calm := x.calm
  room := x.room
  un := x.un
  k1 := x.k1
  xE := x.xE
  xnm := x.xnm
  sx := fun y h => by rw [hsx] at h; cases h
  cur0 := x.cur0
  cat := x.cat
  mth := x.mth
  mkr := x.mkr
  grd := x.grd
  passes := PassesOwn.never
  all := fun h => by cases h
  fns := x.fns
  vals := x.vals
  tupv := x.tupv
  kfns := x.kfns
  fnv := x.fnv
  blt := x.blt
  tk := fun _ _ ⟨_, _, _, _, _, _, _, _, _, _, _, _, _, _, _, _, w⟩ => w.elim
  dct := x.dct
theorem dct_pe {e : Expr} {kvs : List (S × D)} (x : XOk W cf k c X) (h : dctQ c e = some kvs) : ∃ p, KvsAt W.b X.K X.w kvs p ∧ PE X e fun _ H Q => Q (.ref p) H := by
  cases e with
  | Name y pos =>
    by_cases hq : (okName y && (!visQ c.sc y && glbQ c.sc y)) = true
    · have h : (match c.gl.lookup y with
        | some (.dict kvs) => some kvs
        | _ => none) = some kvs := by
        unfold dctQ at h
        dsimp only at h
        rw [if_pos hq] at h
        exact h
      simp only [Bool.and_eq_true, Bool.not_eq_true'] at hq
      obtain ⟨ho, hv, hg⟩ := hq
      split at h
      · rename_i k2 hl
        cases h
        obtain ⟨p, h1, h2⟩ := x.dct _ _ hl
        have n1 : (y == ("__debug__" : Str)) = false := (okName_of ho).1
        exact ⟨p, h2, (pe_glob (v := .ref p) (x.gl hg) h1 rfl n1).weak fun s H Q q => q⟩
      · cases h
    · unfold dctQ at h
      dsimp only at h
      rw [if_neg hq] at h
      cases h
  | _ => cases h
theorem w_dix {kvs : List (S × D)} {p : Addr} {m : Env → M D} {s : L2.St} {H : Hp} {Q : VK} (a : KvsAt W.b W.b.K w kvs p) (h : tV W (fun env => bnd (m env) (dixOf kvs)) s H Q) : tOp (rIxD W.b.K w) (fun _ H Q => Q (.ref p) H) (tV W m) s H Q := by
  refine gmono (gbind (R1 := RD W.b) P0.stays h) fun y H1 h1 => ?_
  obtain ⟨r, env, st, b, e, sr, pb, q⟩ := h1
  have hd := pb.2
  have q : Post W (RD W.b) H1 r (dixOf kvs b.2 st) Q := q
  generalize b.2 = d at hd q
  cases hd with
  | str z g1 g2 =>
    have q : Post W (RD W.b) H1 r (ofO (kvs.lookup z) st) Q := q
    cases ed : kvs.lookup z with
    | none => rw [ed] at q; exact q.elim
    | some d =>
    rw [ed] at q
    have q : Post W (RD W.b) H1 r (ret d st) Q := q
    obtain ⟨u, v, k1, k2, k3⟩ := a.hit z d ed
    obtain ⟨es, n, D⟩ := a.ex
    exact ⟨p, _, v, rfl, rfl, ⟨es, n, u, D.at_, D.lit, k1, k2⟩, q.ret sr (k3 _ _)⟩
  | _ => exact q.elim
def rDin (K : PySem.W.Frag) (d : Addr) (neg : Bool) : R2 := fun x y H Q => ∃ (z : Str) (r : Option Value), x = .str z ∧ y = .ref d ∧ PySem.W.nsIn K d z = some r ∧ Q (.bl (r.isSome != neg)) H
theorem op_din {op : CmpOp} {b : Expr} {kvs : List (S × D)} {neg : Bool} (x : XOk W cf k c X) (h : dinQ c op b = some (kvs, neg)) : ∃ p, KvsAt W.b X.K X.w kvs p ∧ (PE X b fun _ H Q => Q (.ref p) H) ∧ OpR X (compareOp op) (rDin X.K p neg) := by
  unfold dinQ at h
  split at h
  · obtain ⟨k2, hk, e⟩ := Option.map_eq_some_iff.mp h
    cases e
    obtain ⟨p, h1, h2⟩ := dct_pe x hk
    obtain ⟨es, n, D⟩ := h1.ex
    refine ⟨p, h1, h2, fun pins s σ H x y v u Q I rx ry ⟨z, r, e1, e2, e3, q⟩ => op_in_kd D pins s σ H x y v u Q I rx ry ⟨z, r, e1, e2, e3, ?_⟩⟩
    have : (r.isSome != false) = r.isSome := by cases r <;> rfl
    rw [this] at q
    exact q
  · obtain ⟨k2, hk, e⟩ := Option.map_eq_some_iff.mp h
    cases e
    obtain ⟨p, h1, h2⟩ := dct_pe x hk
    obtain ⟨es, n, D⟩ := h1.ex
    refine ⟨p, h1, h2, fun pins s σ H x y v u Q I rx ry ⟨z, r, e1, e2, e3, q⟩ => op_notIn_kd D pins s σ H x y v u Q I rx ry ⟨z, r, e1, e2, e3, ?_⟩⟩
    have : (r.isSome != true) = !r.isSome := by cases r <;> rfl
    rw [this] at q
    exact q
  · cases h
theorem din_some {kvs : List (S × D)} {p : Addr} (a : KvsAt W.b W.b.K w kvs p) (z : S) : ∃ r, PySem.W.nsIn W.b.K p (mkS z) = some r ∧ r.isSome = (kvs.lookup z).isSome := by
  cases e : kvs.lookup z with
  | none => exact ⟨none, a.miss z e, rfl⟩
  | some d =>
    obtain ⟨u, v, k1, _⟩ := a.hit z d e
    exact ⟨some u, k1, rfl⟩
theorem w_din {kvs : List (S × D)} {p : Addr} {neg : Bool} {m : Env → M D} {s : L2.St} {H : Hp} {Q : VK} (a : KvsAt W.b W.b.K w kvs p) (h : tV W (fun env => bnd (m env) (dinOf kvs neg)) s H Q) : tOp (rDin W.b.K p neg) (tV W m) (fun _ H Q => Q (.ref p) H) s H Q := by
  refine gmono (gbind (R1 := RD W.b) P0.stays h) fun y H1 h1 => ?_
  obtain ⟨r, env, st, b, e, sr, pb, q⟩ := h1
  have hd := pb.2
  have q : Post W (RD W.b) H1 r (dinOf kvs neg b.2 st) Q := q
  generalize b.2 = d at hd q
  cases hd with
  | str z g1 g2 =>
    obtain ⟨o, k1, k2⟩ := din_some a z
    refine ⟨_, o, rfl, rfl, k1, ?_⟩
    rw [k2]
    exact q.ret sr (.bl _)
  | _ => exact q.elim
theorem w_dinT {kvs : List (S × D)} {p : Addr} {neg : Bool} {m : Env → M D} {s : L2.St} {H : Hp} {Q : Bool → Hp → Prop} (a : KvsAt W.b W.b.K w kvs p) (h : tT W (fun env => bnd (bnd (m env) (dinOf kvs neg)) truth) s H Q) : tTest (tOp (rDin W.b.K p neg) (tV W m) (fun _ H Q => Q (.ref p) H)) s H Q := by
  have h : gG W RB P0 (fun env _ => bnd (m env) fun x => bnd (dinOf kvs neg x) truth) s H Q := by
    refine gmap (fun b => b) h (fun _ _ _ q => q) fun env b => ?_
    try dsimp only
    rw [bnd_bnd]
  refine gmono (gbind (R1 := RD W.b) P0.stays h) fun y H1 h1 => ?_
  obtain ⟨r, env, st, b, e, sr, pb, q⟩ := h1
  have hd := pb.2
  have q : Post W RB H1 r (bnd (dinOf kvs neg b.2) truth st) Q := q
  generalize b.2 = d at hd q
  cases hd with
  | str z g1 g2 =>
    obtain ⟨o, k1, k2⟩ := din_some a z
    refine ⟨_, o, rfl, rfl, k1, _, rfl, ?_⟩
    rw [k2]
    have q : Post W RB H1 r (ret ((kvs.lookup z).isSome != neg) st) Q := q
    exact q H1 r _ (Lt.refl H1 r) sr rfl
  | _ => exact q.elim
end
theorem str_mk (x : Str) : (⟨x.cps.toList.toArray⟩ : Str) = x := by cases x; simp
theorem star_each {env : PySem.Env} : ∀ {es : List Expr}, es.any starQ = false → starEach es env = es.map fun e => (false, eval e env)
  | [], _ => rfl
  | e :: es, h => by
    rw [List.any_cons, Bool.or_eq_false_iff] at h
    have ih := star_each (env := env) h.2
    cases e <;> first | (cases h.1; done) | (rw [List.map_cons, ← ih]; rfl)
theorem star_cons {env : PySem.Env} {e : Expr} {es : List Expr} (h : starQ e = false) : starEach (e :: es) env = (false, eval e env) :: starEach es env := by
  cases e <;> first | (cases h; done) | rfl
theorem star_any {env : PySem.Env} {pos : Pos} {es : List Expr} (h : es.any starQ = false) : (backTo pos (starEach es env)).any (·.1) = false := by
  rw [star_each h]
  unfold backTo
  simp
theorem base_of2 {o : Expr} {f : Str} {env : PySem.Env} {w : Sem Value} (h : baseQ2 o = true) : attributeBase o f env w = w := by
  unfold attributeBase
  split
  · cases h
  · rfl
theorem base_of {o : Expr} {f : Str} {env : PySem.Env} {w : Sem Value} (h : baseQ o = true) : attributeBase o f env w = w := by
  unfold attributeBase
  split
  · cases h
  · rfl
section
variable {W : Wd} {cf : Nat → List D → M D} {k : Nat}
theorem w_neg : ∃ q, UnR X (unaryOp .USub) q ∧ Op1 W q (fun x => match x with | .int i => ret (.int (-i)) | _ => bad) := by
  refine ⟨_, un_neg, ?_⟩
  intro H r st a x Q s ha h
  cases ha with
  | int i => exact ⟨i, rfl, h.ret s (.int _)⟩
  | _ => exact h.elim
/-- what is shown of an expression -/
structure EOk (W : Wd) (cf : Nat → List D → M D) (X : Cx) (e : Expr) (ir : Ex) : Prop where
  v : PE X e (tV W (evE cf ir))
  t : PT X e (tT W fun env => bnd (evE cf ir env) truth)
theorem pt_plain {X : Cx} (hK : X.K = W.b.K) {e : Expr} {m : Env → M D} (h : PE X e (tV W m)) (he : ∀ whole, isTrue e X.env whole = (do let v ← whole; standAt e.pos; holding [v] (truthy v))) : PT X e (tT W fun env => bnd (m env) truth) :=
  (pt_truth h he).weak fun s H Q q => by
    rw [hK]
    exact w_truthT q
theorem pa_of {X : Cx} : ∀ {es : List Expr} {irs : List Ex}, es.any starQ = false → irs.length = es.length → (∀ (i : Nat) (e : Expr) (ir : Ex), es[i]? = some e → irs[i]? = some ir → PE X e (tV W (evE cf ir))) → PA X es (tA W (evEs cf irs))
  | [], [], _, _, _ => pa_nil.weak fun s H Q q => w_nil q
  | [], _ :: _, _, h, _ => by simp at h
  | _ :: _, [], _, h, _ => by simp at h
  | e :: es, ir :: irs, hs, hl, h => by
    rw [List.any_cons, Bool.or_eq_false_iff] at hs
    exact (pa_cons (h 0 e ir rfl rfl) (pa_of hs.2 (by simpa using hl) fun i e' ir' h1 h2 => h (i + 1) e' ir' (by simpa using h1) (by simpa using h2)) (star_cons hs.1)).weak fun s H Q q => w_cons q
theorem evEs_len : ∀ {irs : List Ex} {env : Env} {st : Store} {ds : List D} {st' : Store}, evEs cf irs env st = .ok ds st' → ds.length = irs.length
  | [], env, st, ds, st', h => by cases h; rfl
  | ir :: irs, env, st, ds, st', h => by
    have h : bnd (evE cf ir env) (fun x => bnd (evEs cf irs env) fun xs => ret (x :: xs)) st = .ok ds st' := h
    cases z : evE cf ir env st with
    | ex y s1 => rw [bnd_ex z] at h; cases h
    | bad => rw [bnd_bad z] at h; cases h
    | ok x s1 =>
      rw [bnd_ok z] at h
      cases z2 : evEs cf irs env s1 with
      | ex y s2 => rw [bnd_ex z2] at h; cases h
      | bad => rw [bnd_bad z2] at h; cases h
      | ok xs s2 =>
        rw [bnd_ok z2] at h
        cases h
        rw [List.length_cons, List.length_cons, evEs_len z2]
theorem mapM_ok {c : CC} {n : Nat} {X : Cx} (ih : ∀ e ir, cE n c e = some ir → EOk W cf X e ir) {es : List Expr} {irs : List Ex} (h : es.mapM (cE n c) = some irs) : irs.length = es.length ∧ ∀ (i : Nat) (e : Expr) (ir : Ex), es[i]? = some e → irs[i]? = some ir → EOk W cf X e ir := by
  obtain ⟨h1, h2⟩ := mapM_some h
  refine ⟨h1.symm, fun i e ir e1 e2 => ?_⟩
  obtain ⟨ir', e3, e4⟩ := h2 i e e1
  rw [e2] at e3
  cases e3
  exact ih e ir e4
theorem and_ok {X : Cx} (hK : X.K = W.b.K) {pos : Pos} : ∀ {es : List Expr} {irs : List Ex} {ir : Ex}, irs.length = es.length → (∀ (i : Nat) (e : Expr) (ir : Ex), es[i]? = some e → irs[i]? = some ir → EOk W cf X e ir) → ands irs = some ir →
    PE X (.BoolOp .And es pos) (tV W (evE cf ir)) ∧ PW X (.BoolOp .And es pos) (tT W fun env => bnd (evE cf ir env) truth)
  | [], [], _, _, _, h => by cases h
  | [], _ :: _, _, h, _, _ => by simp at h
  | _ :: _, [], _, h, _, _ => by simp at h
  | [e], [a], ir, _, q, h => by
    cases h
    have q := q 0 e a rfl rfl
    exact ⟨pe_one q.v, pw_and1 q.t⟩
  | [e], _ :: _ :: _, _, h, _, _ => by simp at h
  | _ :: _ :: _, [_], _, h, _, _ => by simp at h
  | e :: e2 :: es, a :: b :: irs, ir, hl, q, h => by
    cases z : ands (b :: irs) with
    | none =>
      have h : (ands (b :: irs)).map (Ex.and a) = some ir := h
      rw [z] at h
      cases h
    | some y =>
      have h : (ands (b :: irs)).map (Ex.and a) = some ir := h
      rw [z] at h
      cases h
      obtain ⟨h1, h2⟩ := and_ok hK (es := e2 :: es) (irs := b :: irs) (pos := pos) (by simpa using hl) (fun i e' ir' f1 f2 => q (i + 1) e' ir' (by simpa using f1) (by simpa using f2)) z
      have q := q 0 e a rfl rfl
      refine ⟨(pe_andT q.v h1).weak fun s H Q z => by rw [hK]; exact w_and z, ?_⟩
      exact ⟨fun wh pins s σ H Q I z => (pw_and q.t h2).run wh pins s σ H Q I (w_andT z)⟩
theorem or_ok {X : Cx} (hK : X.K = W.b.K) {pos : Pos} : ∀ {es : List Expr} {irs : List Ex} {ir : Ex}, irs.length = es.length → (∀ (i : Nat) (e : Expr) (ir : Ex), es[i]? = some e → irs[i]? = some ir → EOk W cf X e ir) → ors irs = some ir →
    PE X (.BoolOp .Or es pos) (tV W (evE cf ir)) ∧ PW X (.BoolOp .Or es pos) (tT W fun env => bnd (evE cf ir env) truth)
  | [], [], _, _, _, h => by cases h
  | [], _ :: _, _, h, _, _ => by simp at h
  | _ :: _, [], _, h, _, _ => by simp at h
  | [e], [a], ir, _, q, h => by
    cases h
    have q := q 0 e a rfl rfl
    exact ⟨pe_one q.v, pw_or1 q.t⟩
  | [e], _ :: _ :: _, _, h, _, _ => by simp at h
  | _ :: _ :: _, [_], _, h, _, _ => by simp at h
  | e :: e2 :: es, a :: b :: irs, ir, hl, q, h => by
    cases z : ors (b :: irs) with
    | none =>
      have h : (ors (b :: irs)).map (Ex.or a) = some ir := h
      rw [z] at h
      cases h
    | some y =>
      have h : (ors (b :: irs)).map (Ex.or a) = some ir := h
      rw [z] at h
      cases h
      obtain ⟨h1, h2⟩ := or_ok hK (es := e2 :: es) (irs := b :: irs) (pos := pos) (by simpa using hl) (fun i e' ir' f1 f2 => q (i + 1) e' ir' (by simpa using f1) (by simpa using f2)) z
      have q := q 0 e a rfl rfl
      refine ⟨(pe_orT q.v h1).weak fun s H Q z => by rw [hK]; exact w_or z, ?_⟩
      exact ⟨fun wh pins s σ H Q I z => (pw_or q.t h2).run wh pins s σ H Q I (w_orT z)⟩
end
end Li
namespace Li
open PySem L2
section
variable {W : Wd} {cf : Nat → List D → M D} {k : Nat}
theorem name_as {x : Str} {t : Ty} (h : tyOf x = some t) : x ∈ blts ∧ bootBuiltins x = some (.type (tyName t)) := by
  unfold tyOf at h
  split at h
  · rename_i e; cases h; subst e; exact ⟨by decide +kernel, by decide +kernel⟩
  split at h
  · rename_i e; cases h; subst e; exact ⟨by decide +kernel, by decide +kernel⟩
  split at h
  · rename_i e; cases h; subst e; exact ⟨by decide +kernel, by decide +kernel⟩
  split at h
  · rename_i e; cases h; subst e; exact ⟨by decide +kernel, by decide +kernel⟩
  split at h
  · rename_i e; cases h; subst e; exact ⟨by decide +kernel, by decide +kernel⟩
  split at h
  · rename_i e; cases h; subst e; exact ⟨by decide +kernel, by decide +kernel⟩
  cases h
theorem built_as {x : Str} {b : Bi} (h : biOf x = some b) : x ∈ blts ∧ bootBuiltins x = some (biVal b) := by
  unfold biOf at h
  split at h
  · rename_i e; cases h; subst e; exact ⟨by decide +kernel, by decide +kernel⟩
  split at h
  · rename_i e; cases h; subst e; exact ⟨by decide +kernel, by decide +kernel⟩
  split at h
  · rename_i e; cases h; subst e; exact ⟨by decide +kernel, by decide +kernel⟩
  split at h
  · rename_i e; cases h; subst e; exact ⟨by decide +kernel, by decide +kernel⟩
  split at h
  · rename_i e; cases h; subst e; exact ⟨by decide +kernel, by decide +kernel⟩
  split at h
  · rename_i e; cases h; subst e; exact ⟨by decide +kernel, by decide +kernel⟩
  split at h
  · rename_i e; cases h; subst e; exact ⟨by decide +kernel, by decide +kernel⟩
  split at h
  · rename_i e; cases h; subst e; exact ⟨by decide +kernel, by decide +kernel⟩
  split at h
  · rename_i e; cases h; subst e; exact ⟨by decide +kernel, by decide +kernel⟩
  split at h
  · rename_i e; cases h; subst e; exact ⟨by decide +kernel, by decide +kernel⟩
  cases h
/-- a built-in called -/
theorem pe_bi {X : Cx} {x : Str} {b : Bi} {q : List V → Hp → VK → Prop} {t : TA} {e : Expr} {es : List Expr} {p pos : Pos} (hc : CallR X (biVal b) q) (hg : Gl X x) (hm : X.mg x = none) (hv : bootBuiltins x = some (biVal b)) (ha : PA X (e :: es) t) (hn : okName x = true) (hs : (e :: es).any starQ = false) :
    PE X (.Call (.Name x p) (e :: es) [] pos) (tCB q t) := by
  obtain ⟨n1, _, n3⟩ := okName_of hn
  rw [List.any_cons, Bool.or_eq_false_iff] at hs
  have s1 := star_cons (env := X.env) (es := es) hs.1
  have s2 := star_any (env := X.env) (pos := pos) hs.2
  cases b with
  | len => exact pe_callB hc hg hm hv ha n3 n1 s1 s2
  | abs => exact pe_callB hc hg hm hv ha n3 n1 s1 s2
  | isi => exact pe_callB hc hg hm hv ha n3 n1 s1 s2
  | repr => exact pe_callB hc hg hm hv ha n3 n1 s1 s2
  | min => exact pe_callB hc hg hm hv ha n3 n1 s1 s2
  | max => exact pe_callB hc hg hm hv ha n3 n1 s1 s2
  | str => exact pe_callTy hc hg hm hv ha n3 n1 s1 s2
  | int => exact pe_callTy hc hg hm hv ha n3 n1 s1 s2
  | list => exact pe_callTy hc hg hm hv ha n3 n1 s1 s2
  | tuple => exact pe_callTy hc hg hm hv ha n3 n1 s1 s2
theorem bind_some {A B : Type} {o : Option A} {f : A → Option B} {b : B} (h : o.bind f = some b) : ∃ a, o = some a ∧ f a = some b := Option.bind_eq_some_iff.mp h
theorem map_some {A B : Type} {o : Option A} {f : A → B} {b : B} (h : o.map f = some b) : ∃ a, o = some a ∧ f a = b := Option.map_eq_some_iff.mp h
theorem eok_of {X : Cx} {e : Expr} {ir : Ex} (hK : X.K = W.b.K) (h : PE X e (tV W (evE cf ir))) (he : ∀ whole, isTrue e X.env whole = (do let v ← whole; standAt e.pos; holding [v] (truthy v))) : EOk W cf X e ir := ⟨h, pt_plain hK h he⟩
theorem set_fold {e : Expr} {env : PySem.Env} (h : setQ e = false) (x : Value) : foldedSetIterable e env x = pure x := by
  cases e <;> first | (cases h; done) | rfl
theorem set_mark {e : Expr} {op : CmpOp} (h : setQ e = false) : behindInMarks op e = false := by
  cases e <;> first | (cases h; done) | rfl
theorem tixQ_inv {c : CC} {e : Expr} {ys : List S} (h : tixQ c e = some ys) : ∃ y py, e = .Name y py ∧ ∃ ds, (okName y && (!visQ c.sc y && glbQ c.sc y)) = true ∧ c.gl.lookup y = some (.val (.tup ds)) ∧ strsOf ds = some ys := by
  cases e with
  | Name y py =>
    have h : (if okName y && (!visQ c.sc y && glbQ c.sc y) then (match c.gl.lookup y with
      | some (.val (.tup ds)) => strsOf ds
      | _ => none) else none) = some ys := h
    split at h
    case isFalse => cases h
    rename_i hq
    split at h
    · rename_i ds hl
      exact ⟨y, py, rfl, ds, hq, hl, h⟩
    · cases h
  | _ => cases h
theorem tix_const {ds : List D} {ys : List S} {v : V} (hds : strsOf ds = some ys) (h : ∀ H r, RD W.b H r (.tup ds) v) : ∃ a, v = .ref a ∧ ∀ H, SqT W.b.K H a ((ys.map mkS).map V.str) := by
  have h0 := h (fun _ => none) []
  cases h0 with
  | tup q1 q2 =>
    rename_i a vs
    refine ⟨a, rfl, ?_⟩
    have e := (strsOf_ok hds q2).1
    subst e
    rcases q1 with (q1 | ⟨o, q1⟩) | q1
    · cases q1
    · cases q1
    · exact fun H => .inr q1
theorem evEs_app {env : Env} : ∀ (a b : List Ex), evEs cf (a ++ b) env = bnd (evEs cf a env) fun xs => bnd (evEs cf b env) fun ys => ret (xs ++ ys)
  | [], b => by
    show evEs cf b env = bnd (ret []) _
    rw [bnd_ret]
    funext st
    simp only [List.nil_append]
    unfold bnd
    cases evEs cf b env st <;> rfl
  | a :: as, b => by
    rw [List.cons_append, evEs, evEs, evEs_app as b, bnd_bnd]
    congr 1
    funext x
    rw [bnd_bnd, bnd_bnd]
    congr 1
    funext xs
    rw [bnd_bnd, bnd_ret]
    rfl
theorem w_callN {Q : VK} {s : L2.St} {H : Hp} {a : List Ex} {b : Ex} {g : List D → M D} {n np : Nat} (hn : np = n + 1) (hl : ∀ ds st, ds.length ≠ np → g ds st = .bad) (h : tV W (fun env => bnd (evEs cf (a ++ [b]) env) g) s H Q) :
    tCallN n 1 (spF W.b g np) (fun vs zs => vs ++ zs) W.xk (tA W (evEs cf a)) (tCons (tV W (evE cf b)) tNil) s H Q := by
  have h : tV W (fun env => bnd (evEs cf a env) fun xs => bnd (evE cf b env) fun y => g (xs ++ [y])) s H Q := by
    obtain ⟨r, env, st, u, e, sr, pb, p⟩ := h
    refine ⟨r, env, st, u, e, sr, pb, ?_⟩
    dsimp only at p ⊢
    rw [evEs_app, bnd_bnd] at p
    have e1 : (fun x => bnd (bnd (evEs cf [b] env) fun ys => ret (x ++ ys)) g) = fun xs => bnd (evE cf b env) fun y => g (xs ++ [y]) := by
      funext xs
      rw [evEs, bnd_bnd, bnd_bnd]
      congr 1
    rw [e1] at p
    exact p
  refine gmono (gbind (R1 := RDs W.b) P0.stays h) fun vs H1 h1 => ?_
  refine gmono (gbind (R1 := RD W.b) (fun _ _ _ _ _ l q => ⟨q.1, q.2.mono l⟩) h1) fun y H2 h2 => ?_
  obtain ⟨r, env, st, u, e, sr, pb, p⟩ := h2
  have p : Post W (RD W.b) H2 r (g (u.1.2 ++ [u.2]) st) Q := p
  have hlen : (u.1.2 ++ [u.2]).length = np := by
    by_cases z : (u.1.2 ++ [u.2]).length = np
    · exact z
    · rw [hl _ _ z] at p
      exact p.elim
  have hv : u.1.2.length = vs.length := RDs.length pb.1.2
  rw [List.length_append, List.length_singleton] at hlen
  refine ⟨by omega, rfl, by simp; omega, r, u.1.2 ++ [u.2], st, sr, pb.1.2.app (.cons pb.2 .nil), p⟩
theorem nosl {b : Expr} (h : sliceQ b = false) : NoSl b := by
  intro o i
  cases b <;> first | (cases h; done) | rfl
theorem plain_ix {b : Expr} (h : sliceQ b = false) : PlainIx b := by
  intro o i
  cases b <;> first | (cases h; done) | rfl
/-- what gives a bool, as a test -/
theorem w_blT {m : Env → M D} {s : L2.St} {H : Hp} {Q : Bool → Hp → Prop} (hb : ∀ env st d st', m env st = .ok d st' → ∃ k, d = .bl k) (h : tT W (fun env => bnd (m env) truth) s H Q) : tV W m s H fun x H' => ∃ k, x = .bl k ∧ Q k H' := by
  obtain ⟨r, env, st, b, e, sr, pb, p⟩ := h
  refine ⟨r, env, st, b, e, sr, pb, ?_⟩
  show Post W (RD W.b) H r (m env st) _
  dsimp only at p
  cases z : m env st with
  | ex y s1 => rw [bnd_ex z] at p; exact p
  | bad => rw [bnd_bad z] at p; exact p
  | ok d s1 =>
    obtain ⟨k, rfl⟩ := hb _ _ _ _ z
    rw [bnd_ok z] at p
    intro H' r' v l s' rd
    cases rd
    exact ⟨k, rfl, p H' r' k l s' rfl⟩
theorem chain_bl {o p : Cop} {a b c : Ex} {env : Env} {st : Store} {d : D} {st' : Store} (h : evE cf (.chain o p a b c) env st = .ok d st') : ∃ k, d = .bl k := by
  have h : bnd (evE cf a env) (fun x => bnd (evE cf b env) fun y => bnd (cmpop o x y) fun k => if k then bnd (evE cf c env) fun z => bnd (cmpop p y z) fun k => ret (.bl k) else ret (.bl false)) st = .ok d st' := h
  cases z : evE cf a env st with
  | ex y s1 => rw [bnd_ex z] at h; cases h
  | bad => rw [bnd_bad z] at h; cases h
  | ok x s1 =>
    rw [bnd_ok z] at h
    cases z : evE cf b env s1 with
    | ex y s1 => rw [bnd_ex z] at h; cases h
    | bad => rw [bnd_bad z] at h; cases h
    | ok y s2 =>
      rw [bnd_ok z] at h
      cases z : cmpop o x y s2 with
      | ex y s1 => rw [bnd_ex z] at h; cases h
      | bad => rw [bnd_bad z] at h; cases h
      | ok k s3 =>
        rw [bnd_ok z] at h
        cases k with
        | false => cases h; exact ⟨_, rfl⟩
        | true =>
          have h : bnd (evE cf c env) (fun z => bnd (cmpop p y z) fun k => ret (.bl k)) s3 = .ok d st' := h
          cases z : evE cf c env s3 with
          | ex y s1 => rw [bnd_ex z] at h; cases h
          | bad => rw [bnd_bad z] at h; cases h
          | ok w s4 =>
            rw [bnd_ok z] at h
            cases z : cmpop p y w s4 with
            | ex y s1 => rw [bnd_ex z] at h; cases h
            | bad => rw [bnd_bad z] at h; cases h
            | ok k s5 =>
              rw [bnd_ok z] at h
              cases h
              exact ⟨_, rfl⟩
theorem dhas_bl {neg : Bool} {x y : D} {st : Store} {d : D} {st' : Store} (h : dhasOf neg y x st = .ok d st') : ∃ k, d = .bl k := by
  cases x with
  | ob n =>
    have h : bnd (ofO (keyD y)) (fun k => bnd (getM n) fun kvs => ret (.bl ((lookM kvs k).isSome != neg))) st = .ok d st' := by cases y <;> exact h
    cases e : keyD y with
    | none => rw [e] at h; cases h
    | some k =>
      rw [e] at h
      have h : bnd (getM n) (fun kvs => ret (.bl ((lookM kvs k).isSome != neg))) st = .ok d st' := h
      cases z : getM n st with
      | ex y s1 => rw [bnd_ex z] at h; cases h
      | bad => rw [bnd_bad z] at h; cases h
      | ok kvs s1 =>
        rw [bnd_ok z] at h
        cases h
        exact ⟨_, rfl⟩
  | _ => cases y <;> cases h
theorem nhas_bl {neg : Bool} {x y : D} {st : Store} {d : D} {st' : Store} (h : nhasOf neg y x st = .ok d st') : ∃ k, d = .bl k := by
  cases x with
  | ob n =>
    have h : bnd (ofO (keyN y)) (fun k => bnd (getN n) fun ks => ret (.bl (decide (k ∈ ks) != neg))) st = .ok d st' := by cases y <;> exact h
    cases e : keyN y with
    | none => rw [e] at h; cases h
    | some k =>
      rw [e] at h
      have h : bnd (getN n) (fun ks => ret (.bl (decide (k ∈ ks) != neg))) st = .ok d st' := h
      cases z : getN n st with
      | ex x s1 => rw [bnd_ex z] at h; cases h
      | bad => rw [bnd_bad z] at h; cases h
      | ok ks s1 => rw [bnd_ok z] at h; cases h; exact ⟨_, rfl⟩
  | _ => cases y <;> cases h
theorem nin_bl {neg : Bool} {a b : Ex} {env : Env} {st : Store} {d : D} {st' : Store} (h : evE cf (.nin neg a b) env st = .ok d st') : ∃ k, d = .bl k := by
  have h : bnd (evE cf a env) (fun y => bnd (evE cf b env) fun x => nhasOf neg y x) st = .ok d st' := h
  cases z : evE cf a env st with
  | ex x s1 => rw [bnd_ex z] at h; cases h
  | bad => rw [bnd_bad z] at h; cases h
  | ok y s1 =>
    rw [bnd_ok z] at h
    cases z2 : evE cf b env s1 with
    | ex x s2 => rw [bnd_ex z2] at h; cases h
    | bad => rw [bnd_bad z2] at h; cases h
    | ok x s2 => rw [bnd_ok z2] at h; exact nhas_bl h
theorem lrev_inv {c : CC} {f : Str} {as : List Expr} {e : Expr} (h : lrevQ c f as = some e) : ∃ pg pp p3, as = [.Call (.Name "reversed" pg) [e] [] pp] ∧ f = "list" ∧ c.gl.lookup ("list" : Str) = none ∧ c.gl.lookup ("reversed" : Str) = none ∧ glbQ c.sc "reversed" = true ∧ starQ e = false ∧ c.calm = true ∧ p3 = () := by
  unfold lrevQ at h
  split at h
  · rename_i g pg e' pp
    split at h
    case isFalse => cases h
    rename_i hq
    cases h
    simp only [Bool.and_eq_true, decide_eq_true_eq, Option.isNone_iff_eq_none, Bool.not_eq_true'] at hq
    obtain ⟨h1, h2, h3, h4, h5, h6, h7⟩ := hq
    subst h2
    exact ⟨pg, pp, (), rfl, h1, h3, h4, h5, h6, h7, rfl⟩
  · cases h
theorem dq_bl {neg : Bool} {a b : Ex} {env : Env} {st : Store} {d : D} {st' : Store} (h : evE cf (.dq neg a b) env st = .ok d st') : ∃ k, d = .bl k := by
  have h : bnd (evE cf a env) (fun y => bnd (evE cf b env) fun x => dhasOf neg y x) st = .ok d st' := h
  cases z : evE cf a env st with
  | ex y s1 => rw [bnd_ex z] at h; cases h
  | bad => rw [bnd_bad z] at h; cases h
  | ok x s1 =>
    rw [bnd_ok z] at h
    cases z : evE cf b env s1 with
    | ex y s1 => rw [bnd_ex z] at h; cases h
    | bad => rw [bnd_bad z] at h; cases h
    | ok y s2 =>
      rw [bnd_ok z] at h
      exact dhas_bl h
theorem tA_mono {m : Env → M (List D)} {s : L2.St} {H : Hp} {Q Q' : List V → Hp → Prop} (h : tA W m s H Q) (q : ∀ u H', Q u H' → Q' u H') : tA W m s H Q' := gmono h q
/-- the pairs of a display -/
theorem dis_ok {X : Cx} {pos : Pos} {f : Expr → Option Ex} (ih : ∀ e ir, f e = some ir → PE X e (tV W (evE cf ir))) : ∀ {ks : List (Option Expr)} {vs : List Expr} {irs : List Ex}, cDis f ks vs = some irs →
    ks.all (·.isSome) = true ∧ ∃ trs, PPs X pos ks vs trs ∧ ∀ s H Q, tA W (evEs cf irs) s H (fun us H' => Q (upairs us) H') → tPairs trs s H Q
  | [], [], irs, h => by
    cases h
    refine ⟨rfl, [], pps_nil, fun s H Q z => ?_⟩
    obtain ⟨r, env, st, b, e, sr, pb, p⟩ := z
    exact p.ret sr .nil
  | some k :: ks, v :: vs, irs, h => by
    unfold cDis at h
    obtain ⟨a, ha, h⟩ := bind_some h
    obtain ⟨b, hb, h⟩ := bind_some h
    obtain ⟨r, hr, rfl⟩ := map_some h
    obtain ⟨h1, trs, h2, h3⟩ := dis_ok ih hr
    refine ⟨by rw [List.all_cons, h1]; rfl, (tV W (evE cf a), tV W (evE cf b)) :: trs, pps_cons (ih _ _ ha) (ih _ _ hb) h2, fun s H Q z => ?_⟩
    have z1 : tCons (tV W (evE cf a)) (tA W (evEs cf (b :: r))) s H (fun us H' => Q (upairs us) H') := w_cons z
    refine gmono z1 fun x H1 z2 => ?_
    have z3 : tCons (tV W (evE cf b)) (tA W (evEs cf r)) s H1 (fun us H' => Q (upairs (x :: us)) H') := w_cons z2
    refine gmono z3 fun y H2 z4 => ?_
    exact h3 _ _ _ z4
  | none :: _, _, _, h => by unfold cDis at h; cases h
  | some _ :: _, [], _, h => by unfold cDis at h; cases h
  | [], _ :: _, _, h => by unfold cDis at h; cases h
theorem po_of {X : Cx} {c : CC} {n : Nat} (ih : ∀ e ir, cE n c e = some ir → EOk W cf X e ir) {o : Option Expr} {i : Option Ex} (h : cO (cE n c) o = some i) : PO X o (tO W (evO cf i)) := by
  cases o with
  | none =>
    cases h
    exact po_none.weak fun s H Q z => w_noPart z
  | some e =>
    obtain ⟨ir, h1, rfl⟩ := map_some h
    exact (po_some (ih _ _ h1).v).weak fun s H Q z => w_part z
theorem range_of {c : CC} {e : Expr} (h : rangeQ c e = true) : ∃ p as pos, e = .Call (.Name "range" p) as [] pos ∧ glbQ c.sc "range" = true ∧ c.gl.lookup ("range" : Str) = none := by
  unfold rangeQ at h
  split at h
  · simp only [Bool.and_eq_true] at h
    have := of_decide_eq_true h.1.1
    subst this
    exact ⟨_, _, _, rfl, h.1.2, by simpa using h.2⟩
  · cases h
theorem ifs_ok {X : Cx} {f : Expr → Option Ex} (ih : ∀ e ir, f e = some ir → PT X e (tT W fun env => bnd (evE cf ir env) truth)) {ifs : List Expr} {t : Option Ex} (h : cIfs f ifs = some t) : PTs X ifs (tT W (evC cf t)) := by
  match ifs, h with
  | [], h =>
    cases h
    exact ⟨fun pins s0 σ H0 Q I z => pts_nil.run pins s0 σ H0 Q I (w_yes z)⟩
  | [e], h =>
    obtain ⟨t', ht', rfl⟩ := map_some h
    exact pts_one (ih _ _ ht')
  | _ :: _ :: _, h => cases h
theorem rng_ok {X : Cx} {f : Expr → Option Ex} {mk : List Ex → Ex} {y : Str} {py pp pos : Pos} {i : Nat} {ml : Env → M D} {mt : Env → M Bool} (hg : Gl X "range") (hm : X.mg "range" = none) (ih : ∀ e ir, f e = some ir → PE X e (tV W (evE cf ir)))
    (hmk : ∀ as, evE cf (mk as) = fun env => bnd (evEs cf as env) fun ds => bnd (rangeOf ds) fun xs => bnd (lcI (fun y => mt (env.set i (some y))) (fun y => ml (env.set i (some y))) [] xs) fun ys => newO (.lst ys))
    {as : List Expr} {ir : Ex} (h : cRng f mk as = some ir) : ∃ mlc, evE cf ir = mlc ∧ LcW W X (.Name y py) (.Call (.Name "range" pp) as [] pos) i mt ml mlc := by
  match as, h with
  | [], h => cases h
  | [a], h =>
    have h : (if starQ a = true then none else (f a).map fun y => mk [y]) = some ir := h
    by_cases hs : starQ a = true
    · rw [if_pos hs] at h; cases h
    · rw [if_neg hs] at h
      obtain ⟨a', ha, rfl⟩ := map_some h
      have hs : starQ a = false := by simpa using hs
      refine ⟨_, hmk [a'], fun s H Q z => ?_⟩
      refine lc_r1 hg hm (pa_of (es := [a]) (irs := [a']) (by simpa using hs) rfl fun j e1 ir1 f1 f2 => ?_) (fun env st ds st' z => evEs_len z) (star_cons hs) z
      match j, f1, f2 with
      | 0, f1, f2 => cases f1; cases f2; exact ih _ _ ha
  | [a, b], h =>
    have h : (if (starQ a || starQ b) = true then none else (f a).bind fun y => (f b).map fun z => mk [y, z]) = some ir := h
    by_cases hs : (starQ a || starQ b) = true
    · rw [if_pos hs] at h; cases h
    · rw [if_neg hs] at h
      obtain ⟨a', ha, h⟩ := bind_some h
      obtain ⟨b', hb', rfl⟩ := map_some h
      simp only [Bool.or_eq_true, not_or, Bool.not_eq_true] at hs
      refine ⟨_, hmk [a', b'], fun s H Q z => ?_⟩
      refine lc_r2 hg hm (pa_of (es := [a, b]) (irs := [a', b']) (by simp [hs.1, hs.2]) rfl fun j e1 ir1 f1 f2 => ?_) (fun env st ds st' z => evEs_len z) (by rw [star_cons hs.1, star_cons hs.2]; rfl) (star_cons hs.2) z
      match j, f1, f2 with
      | 0, f1, f2 => cases f1; cases f2; exact ih _ _ ha
      | 1, f1, f2 => cases f1; cases f2; exact ih _ _ hb'
  | _ :: _ :: _ :: _, h => cases h
/-- a comprehension's parts -/
theorem js_of {c : CC} {n : Nat} {X : Cx} (ih : ∀ e ir, cE n c e = some ir → EOk W cf X e ir) : ∀ {es : List Expr} {irs : List Ex}, es.mapM (cJp (cE n c)) = some irs → PJ X es (irs.map fun a => tV W (evE cf a))
  | [], irs, h => by
    simp at h
    subst h
    exact .nil
  | e :: es, irs, h => by
    rw [List.mapM_cons] at h
    obtain ⟨a, ha, h⟩ := bind_some h
    obtain ⟨as, has, h⟩ := bind_some h
    cases h
    refine .cons ?_ (js_of ih has)
    unfold cJp at ha
    split at ha
    · split at ha
      · rename_i hcv
        subst hcv
        obtain ⟨y, hy, rfl⟩ := map_some ha
        exact (pe_fmt (ih _ _ hy).v).weak fun s H Q z => w_txt z
      · cases ha
    · exact (ih _ _ ha).v
    · cases ha
theorem tV_calm {W : Wd} {xk : XK} {m : Env → M D} {s : L2.St} {H : Hp} {Q : VK} (h : tV W (fun env => calm (m env)) s H Q) : tV ⟨W.b, xk, W.cur⟩ m s H Q := by
  obtain ⟨r, env, st, b, e, sr, pb, q⟩ := h
  refine ⟨r, env, st, b, ⟨e.len, e.at_, e.hid⟩, sr, pb, ?_⟩
  dsimp only at q ⊢
  have q : Post W (RD W.b) H r (calm (m env) st) Q := q
  show Post ⟨W.b, xk, W.cur⟩ (RD W.b) H r (m env st) Q
  unfold calm at q
  cases z : m env st with
  | ok a st' => rw [z] at q; exact q
  | ex x st' => rw [z] at q; exact q.elim
  | bad => rw [z] at q; exact q.elim
theorem tT_calm {W : Wd} {xk : XK} {m : Env → M Bool} {s : L2.St} {H : Hp} {Q : Bool → Hp → Prop} (h : tT W (fun env => calm (m env)) s H Q) : tT ⟨W.b, xk, W.cur⟩ m s H Q := by
  obtain ⟨r, env, st, b, e, sr, pb, q⟩ := h
  refine ⟨r, env, st, b, ⟨e.len, e.at_, e.hid⟩, sr, pb, ?_⟩
  dsimp only at q ⊢
  have q : Post W RB H r (calm (m env) st) Q := q
  show Post ⟨W.b, xk, W.cur⟩ RB H r (m env st) Q
  unfold calm at q
  cases z : m env st with
  | ok a st' => rw [z] at q; exact q
  | ex x st' => rw [z] at q; exact q.elim
  | bad => rw [z] at q; exact q.elim
theorem cLc_ok {n : Nat} {c : CC} {X : Cx} (x : XOk W cf k c X) (ih : ∀ (W : Wd) (c : CC) (X : Cx), XOk W cf k c X → ∀ (e : Expr) (ir : Ex), cE n c e = some ir → EOk W cf X e ir) {elt iter : Expr} {y : Str} {py : Pos} {ifs : List Expr} {scope : Scope} {ir : Ex} (h : cLc (cE n) c elt y iter ifs scope = some ir) :
    ∃ i mt ml mlc, evE cf ir = mlc ∧ c.calm = true ∧ LcOk W X (.Name y py) elt ifs scope y i ml mt ∧ (∀ z, foldedSetIterable iter X.env z = pure z) ∧ LcW W X (.Name y py) iter i mt ml mlc := by
  unfold cLc at h
  split at h
  · cases h
  rename_i hcs
  simp only [Bool.not_eq_true', Bool.and_eq_false_iff, not_or, Bool.not_eq_false, Option.isNone_iff_eq_none] at hcs
  obtain ⟨i, hi, h⟩ := bind_some h
  split at h
  · rename_i hb
    rw [Bool.and_eq_true] at hb
    obtain ⟨e, he, h⟩ := bind_some h
    obtain ⟨t, ht, h⟩ := bind_some h
    have blk : BlkOk X.N X.env.scope scope [(y, i)] := blkOk_by (by rw [x.hN, x.sc]; exact hb.1)
    have x' := fun s H C cl fp => x.blk hcs.1 hcs.2 blk.kind s H C cl fp
    have hl := of_decide_eq_true hb.2
    have ok : LcOk W X (.Name y py) elt ifs scope y i (fun env => calm (evE cf e env)) (fun env => calm (evC cf t env)) := by
      refine ⟨blk, fun s H C cl fp => ?_, fun s H C cl fp => ?_, fun s H C cl fp => (ih _ _ _ (x' s H C cl fp) _ _ he).v.weak fun s H Q q => tV_calm q⟩
      · have hl' : (relS scope X.env.scope).names.lookup y = some .local := by rw [x.sc]; exact hl
        exact pg_name (x' s H C cl fp).nd' (by show X.N[i]? = _; rw [x.hN]; exact slot_get hi) (.inl hl') (.inr hl')
      · exact ⟨fun pins s0 σ H0 Q I z => (ifs_ok (fun t' ir' h' => (ih _ _ _ (x' s H C cl fp) _ _ h').t) ht).run pins s0 σ H0 Q I (tT_calm z)⟩
    split at h
    · rename_i hr
      obtain ⟨p, as, pos, rfl, hg, hn⟩ := range_of hr
      have hm := x.blt "range" (by decide +kernel) hn
      obtain ⟨mlc, h1, h2⟩ := rng_ok (ml := fun env => calm (evE cf e env)) (mt := fun env => calm (evC cf t env)) (mk := fun as => .lcr e i as t) (py := py) (pp := p) (pos := pos) (x.gl hg) hm (fun e ir h => (ih _ _ _ x e ir h).v) (fun _ => rfl) h
      exact ⟨i, _, _, mlc, h1, hcs.1, ok, fun _ => rfl, h2⟩
    · split at h
      · cases h
      · rename_i hs
        obtain ⟨a', ha, rfl⟩ := map_some h
        exact ⟨i, _, _, _, rfl, hcs.1, ok, set_fold (by simpa using hs), fun s H Q z => lc_seq x.hK (ih _ _ _ x _ _ ha).v z⟩
  · cases h
theorem eok_bad {X : Cx} {e : Expr} : EOk W cf X e .bad := by
  refine ⟨⟨fun pins s σ H Q I z => ?_⟩, ⟨fun pins s σ H Q I z => ?_⟩⟩ <;>
  · obtain ⟨r, env, st, b, e, sr, pb, p⟩ := z
    exact (show False from p).elim
theorem form_ok {env : PySem.Env} {pos : Pos} {es : List Expr} (hs : es.any starQ = false) (hn : es.length < 30) : methodCallForm (es.length + ([] : List Keyword).length) (backTo pos (starEach es env)) (backToKw pos (keywordEach [] env)) = true := by
  unfold methodCallForm
  rw [star_each hs]
  have e1 : (backTo pos (es.map fun e => (false, eval e env))).all (fun x => !x.1) = true := by
    unfold backTo
    simp
  rw [e1]
  show (true && true && decide (es.length + 0 + 0 < 30)) = true
  simp
  exact hn
theorem pe_varX {c : CC} {X : Cx} (x : XOk W cf k c X) {y : Str} {i : Nat} {pos : Pos} (hi : slot c.N y = some i) (hv : Vis c.sc y) (n1 : (y == ("__debug__" : Str)) = false) (n2 : (y == ("__classdict__" : Str)) = false) : PE X (.Name y pos) (tV W (evE cf (.v i))) := by
  have hi' : X.N[i]? = some y := by rw [x.hN]; exact slot_get hi
  have h : PE X (.Name y pos) (tVar i) := pe_var hi' (by rw [x.sc]; exact hv) n1 n2
  exact ⟨fun pins z σ H Q I q => h.run pins z σ H Q I (w_var (by rw [I.len]; exact (List.getElem?_eq_some_iff.mp hi').1) q)⟩
theorem xn_inv {c : CC} {e : Expr} {i : Nat} (h : xnQ c e = some i) : ∃ y pos, e = .Name y pos ∧ c.sx = some y ∧ okName y = true ∧ visQ c.sc y = true ∧ slot c.N y = some i := by
  unfold xnQ at h
  split at h
  · split at h
    · rename_i hq
      simp only [Bool.and_eq_true, decide_eq_true_eq] at hq
      exact ⟨_, _, rfl, hq.1, hq.2.1, hq.2.2, h⟩
    · cases h
  · cases h
theorem subs_mem {xs : List Xci} {m n : Nat} {ci : Xci} (h : xs[n]? = some ci) : (subs xs m).contains n = ci.ups.contains m := by
  rw [Bool.eq_iff_iff, List.contains_iff_mem]
  unfold subs
  rw [List.mem_filter, List.mem_range]
  simp only [h]
  exact ⟨fun z => z.2, fun z => ⟨(List.getElem?_eq_some_iff.mp h).1, z⟩⟩
/-- the class that is asked for -/
theorem xsub_ok {c : CC} {X : Cx} (x : XOk W cf k c X) {b : Expr} {ks : List Nat} (h : xsub c b = some ks) : ∃ (v : V) (cv : Value), (∀ u, RelV v u → u = cv) ∧ (∀ n D, W.b.E n = some D → PySem.W.kitOne W.b.K (.ref D) cv = some (ks.contains n)) ∧ PE X b (fun _ H Q => Q v H) := by
  unfold xsub at h
  split at h
  · split at h
    · rename_i z pz hq
      simp only [Bool.and_eq_true, Bool.not_eq_true'] at hq
      obtain ⟨ho, hv, hg⟩ := hq
      obtain ⟨n1, n2, n3⟩ := okName_of ho
      split at h
      · rename_i m hl
        cases h
        obtain ⟨C, ci, h1, h2, h3, _⟩ := x.xnm _ _ hl
        refine ⟨.ref C, .ref C, fun u r => r, fun n D hD => ?_, (pe_glob (v := .ref C) (x.gl hg) h1 rfl n1).weak fun s H Q q => q⟩
        obtain ⟨cn, g1, _, g3⟩ := x.xE n D hD
        rw [subs_mem g1, ← x.hK]
        exact (g3 m ci C h3 h2).1
      · rename_i hl
        split at h
        · rename_i hz
          cases h
          subst hz
          refine ⟨.ty "ValueError", .type "ValueError", fun u r => r, fun n D hD => ?_, (pe_bltn (v := .ty "ValueError") (x.gl hg) (x.blt _ (by decide +kernel) hl) (by decide +kernel) rfl n3 n1).weak fun s H Q q => q⟩
          obtain ⟨cn, g1, g2, _⟩ := x.xE n D hD
          have e : (List.range c.xs.length).contains n = true := by
            rw [List.contains_iff_mem, List.mem_range]
            exact (List.getElem?_eq_some_iff.mp g1).1
          rw [e, ← x.hK]
          exact g2.ve
        · cases h
      · cases h
    · cases h
  · cases h
theorem xi_ok {c : CC} {X : Cx} (x : XOk W cf k c X) {f : Str} {as : List Expr} {ir : Ex} {pf pos : Pos} (ho : okName f = true) (hg : glbQ c.sc f = true) (hs : as.any starQ = false) (h : xiQ c f as = some ir) : EOk W cf X (.Call (.Name f pf) as [] pos) ir := by
  unfold xiQ at h
  split at h
  · rename_i a b
    split at h
    · rename_i hq
      simp only [Bool.and_eq_true, decide_eq_true_eq, Option.isNone_iff_eq_none] at hq
      obtain ⟨rfl, hn⟩ := hq
      obtain ⟨i, hi, h⟩ := Option.bind_eq_some_iff.mp h
      obtain ⟨ks, hks, rfl⟩ := Option.map_eq_some_iff.mp h
      obtain ⟨y, py, rfl, hsx, hoy, hvy, hsl⟩ := xn_inv hi
      obtain ⟨n1, n2, n3⟩ := okName_of ho
      obtain ⟨m1, m2, m3⟩ := okName_of hoy
      obtain ⟨v, cv, k1, k2, k3⟩ := xsub_ok x hks
      obtain ⟨i', ea, oe, cls, d, X0, pn, hX, hz, hf, hc, hsl'⟩ := x.sx y hsx
      rw [hsl] at hsl'
      cases hsl'
      have hyi : X.N[i]? = some y := by rw [x.hN]; exact slot_get hsl
      have hvar : PE X (.Name y py) (tVar i) := pe_var hyi (by rw [x.sc]; exact vis_of hvy) m1 m2
      refine eok_of x.hK ?_ fun _ => rfl
      by_cases hno : ∃ n C, W.b.E n = some C ∧ cls = .ref C
      · obtain ⟨n, D, e1, rfl⟩ := hno
        obtain ⟨cn, g1, g2, _⟩ := x.xE n D e1
        have hK := x.hK
        have hgl := x.gl hg
        have hmg := x.blt "isinstance" (by decide +kernel) hn
        subst hX
        have hcr := call_isX (a := ea) (pn := pn) (X := X0) g2 hz hf
        have hp := pe_bi (b := .isi) hcr hgl hmg (by decide +kernel) (pa_cons hvar (pa_cons k3 pa_nil (star_cons (by simp at hs; exact hs.2))) (star_cons (by simp at hs; exact hs.1))) (p := pf) (pos := pos) ho hs
        refine ⟨fun pins z σ H Q I q => hp.run pins z σ H Q I ?_⟩
        have q := w_xi (W := W) (v := v) (cv := cv) (D := D) (by rw [I.len, ← x.hN]) hc k1 (fun n' hn' => k2 n' D hn') q
        rw [← hK] at q
        exact q
      · exact ⟨fun pins z σ H Q I q => (w_xno (by rw [I.len, x.hN]) hc hno q).elim⟩
    · cases h
  · cases h
theorem xf_ok {c : CC} {X : Cx} (x : XOk W cf k c X) {o : Expr} {f : Str} {i : Nat} {pos : Pos} (h : xnQ c o = some i) (hat : (xats c).contains f = true) : PE X (.Attribute o f pos) (tV W (evE cf (.xf c.N.length i f.cps.toList))) := by
  obtain ⟨y, py, rfl, hsx, hoy, hvy, hsl⟩ := xn_inv h
  obtain ⟨m1, m2, m3⟩ := okName_of hoy
  obtain ⟨i', ea, oe, cls, d, X0, pn, hX, hz, hf, hc, hsl'⟩ := x.sx y hsx
  rw [hsl] at hsl'
  cases hsl'
  have hyi : X.N[i]? = some y := by rw [x.hN]; exact slot_get hsl
  have hvar : PE X (.Name y py) (tVar i) := pe_var hyi (by rw [x.sc]; exact vis_of hvy) m1 m2
  by_cases hno : ∃ n C, W.b.E n = some C ∧ cls = .ref C
  · obtain ⟨n, D, e1, rfl⟩ := hno
    obtain ⟨cn, g1, g2, _⟩ := x.xE n D e1
    have hN := x.hN
    subst hX
    have hp := pe_xf (X := X0) (pn := pn) (pos := pos) g2.toXfC (g2.no f (by simpa using hat)) hz hf hvar (base_of2 rfl)
    refine ⟨fun pins z σ H Q I q => hp.run pins z σ H Q I ?_⟩
    have q := w_xf (W := W) (D := D) (by rw [I.len, hN]) hc q
    have e2 : (⟨(f.cps.toList).toArray⟩ : Str) = f := str_mk f
    rw [e2] at q
    exact q
  · exact ⟨fun pins z σ H Q I q => (w_xno (by rw [I.len, x.hN]) hc hno q).elim⟩
/-- a call of a value that is a def -/
theorem pe_cv {c : CC} {X : Cx} (x : XOk W cf k c X) (hcm : c.calm = true) {fe : Expr} {as : List Expr} {pos : Pos} {mf : Env → M D} {irs : List Ex} (hlen : irs.length = as.length) (hf : PE X fe (tV W mf))
    (hev : eval (.Call fe as [] pos) X.env = (do callWith pos (← eval fe X.env) [] (backTo pos (starEach as X.env)) (backToKw pos (keywordEach [] X.env)))) (hp : PA X as (tA W (evEs cf irs))) (hs : as.any starQ = false) :
    PE X (.Call fe as [] pos) (tV W fun env => bnd (mf env) fun x => bnd (fnOf x) fun i => bnd (evEs cf irs env) fun ds => cf i ds) := by
  refine ⟨fun pins z σ H Q J h => ?_⟩
  rw [hev]
  refine wpAny_bind (thn (hf.run pins z σ H _ J (gbind (R1 := RD W.b) P0.stays h)) fun u s1 ⟨v, H1, J1, r1, q1⟩ => ?_)
  obtain ⟨r, env, st, b, e, sr, pb, p⟩ := q1
  have p : Post W (RD W.b) H1 r (bnd (fnOf b.2) (fun i => bnd (evEs cf irs env) fun ds => cf i ds) st) Q := p
  have pd := pb.2
  generalize b.2 = d at p pd
  cases pd with
  | @fn i a hF =>
    obtain rfl : u = Value.ref a := r1
    have p : Post W (RD W.b) H1 r (bnd (evEs cf irs env) (cf i) st) Q := p
    obtain ⟨fd, ps, hk, hb, G, hl⟩ := x.fnv i a hF
    have q2 : tV W (fun env => bnd (evEs cf irs env) (cf i)) σ H1 Q := ⟨r, env, st, (), e, sr, True.intro, p⟩
    have hr : Room k X.A := (x.room hcm).mono (Nat.le_succ _)
    cases as with
    | nil =>
      have e0 : irs = [] := by simpa using hlen
      subst e0
      have q3 := w_call (W := W) (s := σ) (mas := fun _ => ret []) hl q2
      obtain ⟨r3, env3, st3, b3, e3, sr3, pb3, p3⟩ := q3
      have q4 : spF W.b (cf i) ps.length ([] ++ []) H1 Q W.xk := p3.ret sr3 .nil
      exact PySem.W.callWith_K0 J1.kIn hk (g_run (us := []) G hr x.grd hb (passAt x.tk σ) J1 .nil q4)
    | cons e0 es =>
      have q3 := w_call (W := W) (s := σ) hl q2
      rw [List.any_cons, Bool.or_eq_false_iff] at hs
      refine PySem.W.callWith_K (h₀ := X.base) J1.ok.mod.kin hk (thn (hp.run pos pins s1 σ H1 _ J1 q3) fun us z1 ⟨vs, H2, J2, r, q⟩ => ⟨J2.kIn, ?_⟩) (star_cons hs.1) (star_any hs.2)
      have q : spF W.b (cf i) ps.length (vs ++ []) H2 Q W.xk := q
      rw [List.append_nil] at q
      exact g_run G hr x.grd hb (passAt x.tk σ) J2 r q
  | _ => exact p.elim
theorem cE_ok : ∀ (n : Nat) (W : Wd) (c : CC) (X : Cx), XOk W cf k c X → ∀ e ir, cE n c e = some ir → EOk W cf X e ir := by
  intro n
  induction n with
  | zero => intro W c X x e ir h; unfold cE at h; cases h; exact eok_bad
  | succ n ih =>
    intro W c X x e ir h
    have ih1 := ih W c X x
    unfold cE at h
    have h0 := orBad_inv h
    clear h
    rcases h0 with h | h
    case inr => subst h; exact eok_bad
    split at h
    · -- int
      cases h
      exact eok_of x.hK (pe_int.weak fun s H Q q => w_c (fun _ _ => .int _) q) fun _ => rfl
    · cases h
      exact eok_of x.hK (pe_bl.weak fun s H Q q => w_c (fun _ _ => .bl _) q) fun _ => rfl
    · cases h
      exact eok_of x.hK (pe_non.weak fun s H Q q => w_c (fun _ _ => .non) q) fun _ => rfl
    · -- str
      rename_i y _ _
      split at h
      · rename_i hy
        cases h
        rw [Bool.and_eq_true] at hy
        refine eok_of x.hK (pe_str.weak fun s H Q q => ?_) fun _ => rfl
        refine w_c (d := .str y.cps.toList) (v := .str y) (fun _ _ => ?_) q
        have : RD W.b ‹Hp› ‹List Addr› (.str y.cps.toList) (.str ⟨y.cps.toList.toArray⟩) := .str _ (by have := of_decide_eq_true hy.1; simpa using this) fun c hc => by
          have h2 := hy.2
          rw [← Array.all_toList, List.all_eq_true] at h2
          simpa using h2 c hc
        rw [str_mk] at this
        exact this
      · cases h
    · -- name
      rename_i y _
      split at h
      · rename_i ho
        obtain ⟨n1, n2, n3⟩ := okName_of ho
        split at h
        · rename_i hv
          obtain ⟨i, hi, rfl⟩ := map_some h
          exact eok_of x.hK (pe_varX x hi (vis_of hv) n1 n2) fun _ => rfl
        · split at h
          · rename_i hg
            split at h
            · rename_i d hl
              cases h
              obtain ⟨u, v, h1, h2, h3⟩ := x.vals _ _ hl
              exact eok_of x.hK ((pe_glob (x.gl hg) h1 h2 n1).weak fun s H Q q => w_c h3 q) fun _ => rfl
            · rename_i i hl
              cases h
              obtain ⟨f, fd, ps, h1, h2, h3, h4, h5, h6⟩ := x.fns _ _ hl
              exact eok_of x.hK ((pe_glob (v := .ref f) (x.gl hg) h1 rfl n1).weak fun s H Q q => w_c (fun _ _ => .fn h6) q) fun _ => rfl
            · cases h
            · cases h
            · cases h
            · cases h
            · rename_i hl
              obtain ⟨t, ht, rfl⟩ := map_some h
              obtain ⟨h1, h2⟩ := name_as ht
              exact eok_of x.hK ((pe_bltn (v := .ty (tyName t)) (x.gl hg) (x.blt _ h1 hl) h2 rfl n3 n1).weak fun s H Q q => w_c (fun _ _ => .ty t) q) fun _ => rfl
          · cases h
      · cases h
    · -- bin
      obtain ⟨o, ho, h⟩ := bind_some h
      obtain ⟨a, ha, h⟩ := bind_some h
      obtain ⟨b, hb, rfl⟩ := map_some h
      have := bop_op ho
      subst this
      obtain ⟨q, h1, h2⟩ := ok_bin (W := W) x.hK o
      exact eok_of x.hK ((pe_op h1 (ih1 _ _ ha).v (ih1 _ _ hb).v).weak fun s H Q z => w_bin h2 z) fun _ => rfl
    · -- not
      obtain ⟨a, ha, rfl⟩ := map_some h
      have ha := ih1 _ _ ha
      refine ⟨(pe_notT ha.v).weak fun s H Q z => ?_, (pt_not ha.t).weak fun s H Q z => w_ntT z⟩
      rw [x.hK]
      exact w_nt z
    · -- minus
      obtain ⟨a, ha, rfl⟩ := map_some h
      obtain ⟨q, h1, h2⟩ := w_neg (W := W) (X := X)
      exact eok_of x.hK ((pe_un h1 (ih1 _ _ ha).v).weak fun s H Q z => w_un h2 z) fun _ => rfl
    · -- a op b
      split at h
      · cases h
      · rename_i hs
        split at h
        · rename_i pr hdq
          obtain ⟨a, ha, rfl⟩ := map_some h
          rename_i op _ _ _
          obtain ⟨kvs, neg⟩ := pr
          have hs := set_mark (op := op) (by simpa using hs)
          obtain ⟨p, k1, k2, k3⟩ := op_din x hdq
          refine ⟨(pe_cmpR k3 (ih1 _ _ ha).v k2 hs).weak fun s H Q z => ?_, (pt_cmpR k3 (ih1 _ _ ha).v k2 hs).weak fun s H Q z => ?_⟩
          · rw [x.hK] at k1 ⊢
            exact w_din k1 z
          · rw [x.hK] at k1 ⊢
            exact w_dinT k1 z
        split at h
        · rename_i neg hdq
          obtain ⟨a, ha, h⟩ := bind_some h
          obtain ⟨b, hb, rfl⟩ := map_some h
          rename_i op _ _ _ _ _ _
          have hs := set_mark (op := op) (by simpa using hs)
          have k3 := or_nin (X := X) (by have := x.units; omega) neg
          rw [← nhQ_op hdq] at k3
          refine ⟨(pe_cmpR k3 (ih1 _ _ ha).v (ih1 _ _ hb).v hs).weak fun s H Q z => ?_, (pt_cmpR k3 (ih1 _ _ ha).v (ih1 _ _ hb).v hs).weak fun s H Q z => ?_⟩
          · rw [x.hK, x.hw]
            exact w_bin ok_nin z
          · rw [x.hK, x.hw]
            exact w_bin ok_nin (w_blT (fun env st d st' e => nin_bl e) z)
        split at h
        · rename_i neg hdq
          obtain ⟨a, ha, h⟩ := bind_some h
          obtain ⟨b, hb, rfl⟩ := map_some h
          have hs := set_mark (op := ‹CmpOp›) (by simpa using hs)
          have k3 := op_dhas (X := X) (by have := x.units; omega) neg
          rw [← dhQ_op hdq] at k3
          exact ⟨(pe_cmpR k3 (ih1 _ _ ha).v (ih1 _ _ hb).v hs).weak fun s H Q z => w_bin ok_dhas z, (pt_cmpR k3 (ih1 _ _ ha).v (ih1 _ _ hb).v hs).weak fun s H Q z => w_bin ok_dhas (w_blT (fun env st d st' e => dq_bl e) z)⟩
        obtain ⟨a, ha, h⟩ := bind_some h
        obtain ⟨b, hb, rfl⟩ := map_some h
        have eo := cop_op ‹CmpOp›
        have hs := set_mark (op := ‹CmpOp›) (by simpa using hs)
        obtain ⟨q, h1, h2⟩ := ok_cmp (W := W) x.hK x.units (copTo ‹CmpOp›)
        rw [← eo] at h1
        exact ⟨(pe_cmpR h1 (ih1 _ _ ha).v (ih1 _ _ hb).v hs).weak fun s H Q z => w_bin h2 z, (pt_cmpR h1 (ih1 _ _ ha).v (ih1 _ _ hb).v hs).weak fun s H Q z => w_cmpT h2 z⟩
    · -- a op b op c
      rename_i e0 ea o1 o2 eb ed pos
      split at h
      · cases h
      · rename_i hs
        obtain ⟨a, ha, h⟩ := bind_some h
        obtain ⟨b, hb, h⟩ := bind_some h
        obtain ⟨d, hd, rfl⟩ := map_some h
        have e1 := cop_op o1
        have e2 := cop_op o2
        simp only [Bool.or_eq_true, not_or, Bool.not_eq_true] at hs
        have hm : lastMarks [o1, o2] [eb, ed] = false := set_mark (op := o2) hs.2
        obtain ⟨q, h1, h2⟩ := ok_cmp (W := W) x.hK x.units (copTo o1)
        obtain ⟨q', h3, h4⟩ := ok_cmp (W := W) x.hK x.units (copTo o2)
        rw [← e1] at h1
        rw [← e2] at h3
        exact ⟨(pe_chain h1 h3 (ih1 _ _ ha).v (ih1 _ _ hb).v (ih1 _ _ hd).v hm).weak fun s H Q z => w_chain h2 h4 z,
          (pt_chain h1 h3 (ih1 _ _ ha).v (ih1 _ _ hb).v (ih1 _ _ hd).v hm).weak fun s H Q z => w_chain h2 h4 (w_blT (fun _ _ _ _ z => chain_bl z) z)⟩
    · -- and
      obtain ⟨irs, h1, h2⟩ := bind_some h
      obtain ⟨h3, h4⟩ := mapM_ok ih1 h1
      obtain ⟨q1, q2⟩ := and_ok x.hK (pos := ‹Pos›) h3 h4 h2
      exact ⟨q1, q2.pt⟩
    · -- or
      obtain ⟨irs, h1, h2⟩ := bind_some h
      obtain ⟨h3, h4⟩ := mapM_ok ih1 h1
      obtain ⟨q1, q2⟩ := or_ok x.hK (pos := ‹Pos›) h3 h4 h2
      exact ⟨q1, q2.pt⟩
    · -- a if t else b
      obtain ⟨t, ht, h⟩ := bind_some h
      obtain ⟨a, ha, h⟩ := bind_some h
      obtain ⟨b, hb, rfl⟩ := map_some h
      have ht := ih1 _ _ ht
      have ha := ih1 _ _ ha
      have hb := ih1 _ _ hb
      refine ⟨(pe_ifExp ht.t ha.v hb.v).weak fun s H Q z => w_ite z, ⟨fun pins s σ H Q I z => ?_⟩⟩
      refine PyProof.Rows.isTrue_IfExp (thn (ht.t.run pins s σ H _ I (w_iteT z)) fun d s1 ⟨H1, I1, q1⟩ => ?_)
      cases d with
      | true => exact ha.t.run pins s1 σ H1 Q I1 q1
      | false => exact hb.t.run pins s1 σ H1 Q I1 q1
    · -- f(..)
      rename_i e0 f pf as pos
      split at h
      · rename_i hq
        simp only [Bool.and_eq_true, Bool.not_eq_true'] at hq
        obtain ⟨⟨ho, hg⟩, hs⟩ := hq
        obtain ⟨n1, n2, n3⟩ := okName_of ho
        split at h
        · rename_i e hlr
          obtain ⟨a, ha, rfl⟩ := map_some h
          obtain ⟨pg, pp, _, rfl, rfl, k1, k2, k3, k4, k5, _⟩ := lrev_inv hlr
          refine eok_of x.hK ((pe_lrev (x.calm k5) (x.gl hg) (x.blt _ (by decide) k1) (x.gl k3) (x.blt _ (by decide) k2) (ih1 _ _ ha).v (star_cons k4)).weak fun s H Q z => ?_) fun _ => rfl
          rw [x.hK]
          exact w_lrev z
        split at h
        · rename_i ir hxi
          cases h
          exact xi_ok x ho hg hs hxi
        split at h
        · rename_i i hl
          split at h
          case isFalse => cases h
          rename_i hcm
          obtain ⟨irs, h1, rfl⟩ := map_some h
          obtain ⟨h3, h4⟩ := mapM_ok ih1 h1
          obtain ⟨f, fd, ps, g1, g2, g3, g4, g5, g6⟩ := x.fns _ _ hl
          refine eok_of x.hK ?_ fun _ => rfl
          have hp := pa_of hs h3 fun i e ir e1 e2 => (h4 i e ir e1 e2).v
          cases as with
          | nil =>
            have e0 : irs = [] := by simpa using h3
            subst e0
            exact (pe_callG0 (E := W.xk) g4 ((x.room hcm).mono (Nat.le_succ _)) x.grd (x.gl hg) g1 g2 g3 (passAt x.tk) n1).weak fun s H Q z => by
              have z : tV W (fun env => bnd (ret []) (cf i)) s H Q := z
              obtain ⟨r, env, st, b, e, sr, pb, p⟩ := w_call (mas := fun _ => ret []) g5 z
              exact p.ret sr .nil
          | cons e es =>
            rw [List.any_cons, Bool.or_eq_false_iff] at hs
            exact (pe_callG (E := W.xk) g4 ((x.room hcm).mono (Nat.le_succ _)) x.grd (x.gl hg) g1 g2 g3 (passAt x.tk) hp n1 (star_cons hs.1) (star_any hs.2)).weak fun s H Q z => w_call g5 z
        · cases h
        · cases h
        · cases h
        · cases h
        · rename_i j i hl
          split at h
          case isFalse => cases h
          rename_i hcm
          obtain ⟨irs, h1, rfl⟩ := map_some h
          obtain ⟨h3, h4⟩ := mapM_ok ih1 h1
          obtain ⟨C, f, fd, ps, g1, g2, g3, g4, g5, g6⟩ := x.mkr _ _ _ hl
          refine eok_of x.hK ?_ fun _ => rfl
          have hp := pa_of hs h3 fun i e ir e1 e2 => (h4 i e ir e1 e2).v
          cases as with
          | nil =>
            have e0 : irs = [] := by simpa using h3
            subst e0
            exact (pe_makeG0 (E := W.xk) g3 g5 (x.room hcm) x.grd (x.gl hg) g1 g4 (passAt x.tk) n1).weak fun s H Q z => by
              have z : tMake C (spF W.b (cf i) ps.length) [] W.xk (tA W fun _ => ret []) s H Q := w_mk g2 g6 z
              obtain ⟨r, env, st, b, e, sr, pb, p⟩ := z
              exact p.ret sr .nil
          | cons e es =>
            rw [List.any_cons, Bool.or_eq_false_iff] at hs
            exact (pe_makeG (E := W.xk) g3 g5 (x.room hcm) x.grd (x.gl hg) g1 g4 (passAt x.tk) hp n1 (star_cons hs.1) (star_any hs.2)).weak fun s H Q z => w_mk g2 g6 z
        · rename_i hl
          split at h
          · rename_i hne
            split at h
            case isFalse => cases h
            rename_i hf
            have hf := of_decide_eq_true hf
            subst hf
            cases h
            have e0 : as = [] := List.isEmpty_iff.mp hne
            subst e0
            exact eok_of x.hK ((pe_callTy0 cr_nset (x.gl hg) (x.blt _ (by decide) hl) PyProof.Rows.boot_set).weak fun s H Q z => by rw [x.hw]; exact w_nset z) fun _ => rfl
          · rename_i hne
            obtain ⟨b, hb, h⟩ := bind_some h
            split at h
            · cases h
            rename_i hcb
            simp only [Bool.and_eq_true, Bool.not_eq_true', not_and, Bool.not_eq_false] at hcb
            obtain ⟨irs, h1, rfl⟩ := map_some h
            obtain ⟨h3, h4⟩ := mapM_ok ih1 h1
            obtain ⟨m1, m2⟩ := built_as hb
            obtain ⟨q, q1, q2⟩ := ok_built (W := W) (X := X) x.hK x.grd x.units b fun z => x.calm (hcb z)
            refine eok_of x.hK ?_ fun _ => rfl
            have hp := pa_of hs h3 fun i e ir e1 e2 => (h4 i e ir e1 e2).v
            cases as with
            | nil => exact absurd rfl hne
            | cons e es => exact (pe_bi q1 (x.gl hg) (x.blt _ m1 hl) m2 hp ho hs).weak fun s H Q z => w_cb q2 z
      · split at h
        · rename_i hq
          simp only [Bool.and_eq_true, Bool.not_eq_true'] at hq
          obtain ⟨⟨⟨ho, hv⟩, hs⟩, hcm⟩ := hq
          obtain ⟨n1, n2, n3⟩ := okName_of ho
          obtain ⟨i, hi, h⟩ := bind_some h
          obtain ⟨irs, h1, rfl⟩ := map_some h
          obtain ⟨h3, h4⟩ := mapM_ok ih1 h1
          have hp := pa_of hs h3 fun i e ir e1 e2 => (h4 i e ir e1 e2).v
          exact eok_of x.hK (pe_cv x hcm h3 (pe_varX x hi (vis_of hv) n1 n2) rfl hp hs) fun _ => rfl
        · cases h
    · -- f(.., k = v)
      rename_i e00 f pf e0 as nm v pk pos
      split at h
      case isFalse => cases h
      rename_i hq
      simp only [Bool.and_eq_true, Bool.not_eq_true'] at hq
      obtain ⟨⟨⟨ho, hg⟩, hs⟩, hcm⟩ := hq
      obtain ⟨n1, n2, n3⟩ := okName_of ho
      split at h
      · rename_i i m nm2 hl
        split at h
        case isFalse => cases h
        rename_i hnm
        have hnm := of_decide_eq_true hnm
        subst hnm
        obtain ⟨irs, h1, h⟩ := bind_some h
        obtain ⟨b, hb, rfl⟩ := map_some h
        obtain ⟨h3, h4⟩ := mapM_ok ih1 h1
        obtain ⟨f, fd, ps, g1, g2, g3, g4, g5, g6⟩ := x.kfns _ _ _ _ hl
        refine eok_of x.hK ?_ fun _ => rfl
        have hp := pa_of hs h3 fun i e ir e1 e2 => (h4 i e ir e1 e2).v
        rw [List.any_cons, Bool.or_eq_false_iff] at hs
        have hkw : PK X [⟨some nm, v, pk⟩] (tCons (tV W (evE cf b)) tNil) := pk_cons (ih1 _ _ hb).v pk_nil
        have hal : (backTo pos (starEach (e0 :: as) X.env)).any (·.1) = false := star_any (by rw [List.any_cons, hs.1, hs.2]; rfl)
        exact (pe_callNG (E := W.xk) g5 ((x.room hcm).mono (Nat.le_succ _)) x.grd (x.gl hg) g1 g2 g3 (passAt x.tk) hp hkw rfl rfl n1 (star_cons hs.1) (by rw [hal]; rfl)).weak fun s H Q z => w_callN g4 g6 z
      · cases h
    · -- o.m(..)
      rename_i e0 eo m ap as pos
      split at h
      · rename_i hq
        simp only [Bool.and_eq_true, Bool.not_eq_true', decide_eq_true_eq] at hq
        obtain ⟨⟨⟨hb, hl⟩, hs⟩, h30⟩ := hq
        split at h
        · rename_i p hti
          obtain ⟨a, ha, rfl⟩ := map_some h
          cases as with
          | nil => cases hti
          | cons e es =>
            cases es with
            | cons _ _ => cases hti
            | nil =>
              have hti : (if decide (m = "index") && !starQ e then (tixQ c eo).map fun ys => (ys, e) else none) = some p := hti
              split at hti
              case isFalse => cases hti
              rename_i hm
              simp only [Bool.and_eq_true, decide_eq_true_eq, Bool.not_eq_true'] at hm
              obtain ⟨ys, hy, rfl⟩ := map_some hti
              obtain ⟨rfl, hst⟩ := hm
              obtain ⟨y, py, rfl, ds, hq, hgl, hds⟩ := tixQ_inv hy
              simp only [Bool.and_eq_true, Bool.not_eq_true'] at hq
              obtain ⟨u, v, k1, k2, k3⟩ := x.vals _ _ hgl
              obtain ⟨a0, rfl, hc⟩ := tix_const hds k3
              obtain rfl : u = Value.ref a0 := k2
              have ht : ∀ H, tyV W.b.K "tuple" (.ref a0) H := fun H => .inr (.inl ⟨rfl, x.tupv _ _ _ hgl k1⟩)
              have n1 : (y == ("__debug__" : Str)) = false := (okName_of hq.1).1
              have he0 : PE X (.Name y py) (fun _ H Q => Q (.ref a0) H) := (pe_glob (v := .ref a0) (x.gl hq.2.2) k1 rfl n1).weak fun s H Q q => q
              have hs2 : ([] : List Expr).any starQ = false := rfl
              have hp : PA X [e] (tA W (evEs cf [a])) := pa_of (by rw [List.any_cons, hst]; rfl) rfl fun i e' ir e1 e2 => by
                cases i with
                | zero => cases e1; cases e2; exact (ih1 _ _ ha).v
                | succ i => cases e1
              refine eok_of x.hK ((pe_bm PySem.F.plainAttrs_tuple PySem.F.slot_tuple_index PySem.F.type_tuple_index mt_tup_index he0 hp (base_of hb) (form_ok (by rw [List.any_cons, hst]; rfl) h30) hl (star_cons hst) (star_any hs2)).weak fun s H Q z => ?_) fun _ => rfl
              rw [x.hK]
              exact w_tix hc ht z
        split at h
        · rename_i M hm
          have hm := mtOf_ok hm
          subst hm
          obtain ⟨y, hy, h⟩ := bind_some h
          obtain ⟨irs, h1, rfl⟩ := map_some h
          obtain ⟨h3, h4⟩ := mapM_ok ih1 h1
          have hp := pa_of hs h3 fun i e ir e1 e2 => (h4 i e ir e1 e2).v
          obtain ⟨id, q, f1, f2, f3, f4⟩ := mt_fact (W := W) (X := X) x.hK M
          cases as with
          | nil =>
            have e0 : irs = [] := by simpa using h3
            subst e0
            refine eok_of x.hK ((pe_bm0 (mt_plain M) f1 f2 f3 (ih1 _ _ hy).v (base_of hb) hl).weak fun s H Q z => ?_) fun _ => rfl
            rw [x.hK]
            exact w_bm0 f4 z
          | cons e es =>
            rw [List.any_cons, Bool.or_eq_false_iff] at hs
            refine eok_of x.hK ((pe_bm (mt_plain M) f1 f2 f3 (ih1 _ _ hy).v hp (base_of hb) (form_ok (by rw [List.any_cons, hs.1, hs.2]; rfl) h30) hl (star_cons hs.1) (star_any hs.2)).weak fun s H Q z => ?_) fun _ => rfl
            rw [x.hK]
            exact w_bm f4 z
        · split at h
          · rename_i hget
            simp only [Bool.and_eq_true, decide_eq_true_eq] at hget
            obtain ⟨rfl, _⟩ := hget
            have tr : ∀ es : List Expr, es.any starQ = false → backTo pos (starEach es X.env) = es.map fun e => (false, eval e X.env) := fun es z => by
              rw [star_each z]
              unfold backTo
              simp
            split at h
            · obtain ⟨y, hy, h⟩ := bind_some h
              obtain ⟨z, hz, rfl⟩ := map_some h
              exact eok_of x.hK ((pe_dget1 (by have := x.units; omega) (ih1 _ _ hy).v (ih1 _ _ hz).v ⟨base_of hb, form_ok (by simpa using hs) h30, hl, tr _ hs⟩).weak fun s H Q z => w_dm1 z) fun _ => rfl
            · obtain ⟨y, hy, h⟩ := bind_some h
              obtain ⟨z, hz, h⟩ := bind_some h
              obtain ⟨w, hw, rfl⟩ := map_some h
              exact eok_of x.hK ((pe_dget2 (by have := x.units; omega) (ih1 _ _ hy).v (ih1 _ _ hz).v (ih1 _ _ hw).v ⟨base_of hb, form_ok (by simpa using hs) h30, hl, tr _ hs⟩).weak fun s H Q z => w_dm2 z) fun _ => rfl
            · cases h
          split at h
          · rename_i hadd
            simp only [Bool.and_eq_true, decide_eq_true_eq] at hadd
            obtain ⟨rfl, _⟩ := hadd
            split at h
            · rename_i e2 _
              obtain ⟨y, hy, h⟩ := bind_some h
              obtain ⟨z, hz, rfl⟩ := map_some h
              have hs2 : starQ e2 = false := by simpa using hs
              refine eok_of x.hK ((pe_nadd (by have := x.units; omega) (ih1 _ _ hy).v (ih1 _ _ hz).v (base_of hb) (form_ok hs h30) hl (star_cons hs2)).weak fun s H Q z => ?_) fun _ => rfl
              rw [x.hK, x.hw]
              exact w_nadd z
            · cases h
          split at h
          · rename_i j i hm
            split at h
            · cases h
            rename_i hcm
            simp only [Bool.not_eq_true', Bool.not_eq_false] at hcm
            obtain ⟨y, hy, h⟩ := bind_some h
            obtain ⟨irs, h1, rfl⟩ := map_some h
            obtain ⟨h3, h4⟩ := mapM_ok ih1 h1
            have hp := pa_of hs h3 fun i e ir e1 e2 => (h4 i e ir e1 e2).v
            obtain ⟨ci, k1, _, k3⟩ := methQ_ok hm
            obtain ⟨C, f, fd, ps, g1, g2, g3, g4, g5, g6⟩ := x.mth _ _ _ _ (by simpa using k1) k3
            refine eok_of x.hK ?_ fun _ => rfl
            have e2 : (⟨(m.cps.toList).toArray⟩ : Str) = m := str_mk m
            cases as with
            | nil =>
              have e0 : irs = [] := by simpa using h3
              subst e0
              refine (pe_methG0 (E := W.xk) (ih1 _ _ hy).v g2 g3 g5 ((x.room hcm).mono (Nat.le_succ _)) x.grd g4 (passAt x.tk) (base_of hb) hl).weak fun s H Q z => ?_
              have z := w_me (m := m.cps.toList) (mas := fun _ => ret []) g1 g6 z
              rw [e2] at z
              have en : ∀ s H Q, tA W (fun _ => ret []) s H Q → tNil s H Q := fun s H Q z => by
                obtain ⟨r, env, st, b, e, sr, pb, p⟩ := z
                exact p.ret sr .nil
              exact gmono z fun v H' ⟨a, dx, fs, k1, k2, k3, k4⟩ => ⟨a, dx, fs, k1, k2, k3, en _ _ _ k4⟩
            | cons e es =>
              rw [List.any_cons, Bool.or_eq_false_iff] at hs
              refine (pe_methG (E := W.xk) (ih1 _ _ hy).v g2 g3 g5 ((x.room hcm).mono (Nat.le_succ _)) x.grd g4 (passAt x.tk) hp (star_cons hs.1) (star_any hs.2) (base_of hb) (form_ok (by rw [List.any_cons, hs.1, hs.2]; rfl) h30) hl).weak fun s H Q z => ?_
              have z := w_me (m := m.cps.toList) g1 g6 z
              rw [e2] at z
              exact z
          · cases h
      · cases h
    · -- d[k](..)
      rename_i fa fb fp as pos
      split at h
      case isFalse => cases h
      rename_i hq
      simp only [Bool.and_eq_true, Bool.not_eq_true'] at hq
      obtain ⟨hs, hcm⟩ := hq
      obtain ⟨y, hy, h⟩ := bind_some h
      obtain ⟨irs, h1, rfl⟩ := map_some h
      obtain ⟨h3, h4⟩ := mapM_ok ih1 h1
      have hp := pa_of hs h3 fun i e ir e1 e2 => (h4 i e ir e1 e2).v
      exact eok_of x.hK (pe_cv x hcm h3 (ih1 _ _ hy).v rfl hp hs) fun _ => rfl
    · -- a field
      split at h
      · rename_i i hxn
        split at h
        · rename_i hat
          cases h
          exact eok_of x.hK (xf_ok x hxn hat) fun _ => rfl
        · cases h
      split at h
      · rename_i hq
        rw [Bool.and_eq_true] at hq
        obtain ⟨y, hy, rfl⟩ := map_some h
        rename_i eo f pf _ _
        have e2 : (⟨(f.cps.toList).toArray⟩ : Str) = f := str_mk f
        refine eok_of x.hK ?_ fun _ => rfl
        refine (pe_fld (ih1 _ _ hy).v (base_of2 hq.1)).weak fun s H Q z => ?_
        have z := w_fld (f := f.cps.toList) (by rw [e2]; exact x.cat f (by simpa using hq.2)) z
        rw [e2] at z
        exact z
      · cases h
    · -- a[lo:hi]
      obtain ⟨a, ha, h⟩ := bind_some h
      obtain ⟨l, hl, h⟩ := bind_some h
      obtain ⟨u, hu, rfl⟩ := map_some h
      obtain ⟨q, q1, q2⟩ := ok_slice (W := W) (X := X) x.hK
      exact eok_of x.hK ((pe_slice q1 (ih1 _ _ ha).v (po_of ih1 hl) (po_of ih1 hu)).weak fun s H Q z => w_sl q2 z) fun _ => rfl
    · -- a[b]
      split at h
      · cases h
      · rename_i hb
        split at h
        · rename_i kvs hdq
          obtain ⟨b, hb', rfl⟩ := map_some h
          obtain ⟨p, k1, k2⟩ := dct_pe x hdq
          refine eok_of x.hK ((pe_ix ix_kdict k2 (ih1 _ _ hb').v (plain_ix (by simpa using hb))).weak fun s H Q z => ?_) fun _ => rfl
          rw [x.hK] at k1 ⊢
          exact w_dix k1 z
        split at h
        · obtain ⟨a, ha, h⟩ := bind_some h
          obtain ⟨b, hb', rfl⟩ := map_some h
          exact eok_of x.hK ((pe_dget (by have := x.units; omega) (ih1 _ _ ha).v (ih1 _ _ hb').v (nosl (by simpa using hb))).weak fun s H Q z => w_bin ok_dget z) fun _ => rfl
        obtain ⟨a, ha, h⟩ := bind_some h
        obtain ⟨b, hb', rfl⟩ := map_some h
        obtain ⟨q, q1, q2⟩ := ok_item (W := W) (X := X) x.hK
        exact eok_of x.hK ((pe_ix q1 (ih1 _ _ ha).v (ih1 _ _ hb').v (plain_ix (by simpa using hb))).weak fun s H Q z => w_bin q2 z) fun _ => rfl
    · -- a dict
      rename_i e0 keys values pos
      split at h
      case isFalse => cases h
      rename_i hl
      simp only [Bool.and_eq_true, decide_eq_true_eq] at hl
      obtain ⟨irs, h1, rfl⟩ := map_some h
      obtain ⟨h2, trs, h3, h4⟩ := dis_ok (W := W) (cf := cf) (X := X) (pos := pos) (fun e ir q => (ih1 e ir q).v) h1
      refine eok_of x.hK ?_ fun _ => rfl
      cases keys with
      | nil =>
        have hv : values = [] := List.eq_nil_of_length_eq_zero (by simpa using hl.2.symm)
        subst hv
        cases h1
        exact pe_dnewK.weak fun s H Q z => w_dis0 z
      | cons k ks => exact (pe_disp h3 h2 hl.2 (by simp) hl.1).weak fun s H Q z => w_dis h4 z
    · -- an f-string
      rename_i e0 es pos
      split at h
      · rename_i hl
        obtain ⟨irs, h1, rfl⟩ := map_some h
        have hl := of_decide_eq_true hl
        have hj := js_of ih1 h1
        obtain ⟨e1, e2, es', rfl⟩ : ∃ e1 e2 es', es = e1 :: e2 :: es' := by
          match es, hl with
          | [], hl => simp at hl
          | [_], hl => simp at hl
          | e1 :: e2 :: es', _ => exact ⟨_, _, _, rfl⟩
        refine eok_of x.hK ((pe_joined hj).weak fun s H Q z => ?_) fun _ => rfl
        refine w_js irs [] H (Nat.zero_le _) (fun c hc => by cases hc) ?_
        exact js_str z
      · cases h
    · -- a tuple
      split at h
      · cases h
      · rename_i hs
        obtain ⟨irs, h1, rfl⟩ := map_some h
        obtain ⟨h3, h4⟩ := mapM_ok ih1 h1
        exact eok_of x.hK ((pe_tup (pa_of (by simpa using hs) h3 fun i e ir e1 e2 => (h4 i e ir e1 e2).v)).weak fun s H Q z => w_tup z) fun _ => rfl
    · -- a list
      split at h
      · cases h
      · rename_i hs
        obtain ⟨irs, h1, rfl⟩ := map_some h
        obtain ⟨h3, h4⟩ := mapM_ok ih1 h1
        exact eok_of x.hK ((pe_lst (pa_of (by simpa using hs) h3 fun i e ir e1 e2 => (h4 i e ir e1 e2).v)).weak fun s H Q z => w_lst z) fun _ => rfl
    · -- a comprehension
      rename_i e0 elt y py iter ifs scope pos
      obtain ⟨i, mt, ml, mlc, e, hcm, h1, h2, h3⟩ := cLc_ok (py := py) x ih h
      subst e
      exact eok_of x.hK (pe_lcW (x.calm hcm) x.nd' h1 h2 h3) fun _ => rfl
    · cases h
end
end Li
namespace Li
open PySem L2
def swapQ (c : CC) (y : Str) (py : Pos) (scope : Scope) (lpos : Pos) : Bool := decide (c.sc.names.lookup y = some .local) && (py.line == lpos.line) && !(scope.names.any fun (n, k) => n == y && (k == .local || k == .cell))
def cNms (c : CC) : List Expr → Option (List Nat)
  | [] => some []
  | .Name x _ :: r => if locQ c x then (slot c.N x).bind fun i => (cNms c r).map (i :: ·) else none
  | _ => none
def tupQ : Expr → Bool
  | .Tuple .. => true
  | _ => false
def cTg (n : Nat) (c : CC) : Expr → Option Tg
  | .Tuple es _ _ => if c.calm then (cNms c es).map .nms else none
  | .Name x _ => if locQ c x then (slot c.N x).map .nm else none
  | .Subscript o i _ => if sliceQ i then none else if dQ c o then (cE n c o).bind fun a => (cE n c i).map fun b => .dsub a b else (cE n c o).bind fun a => (cE n c i).map fun b => .sub a b
  | _ => none
def nameQ : Expr → Bool
  | .Name .. => true
  | .Tuple .. => true
  | _ => false
def orBadS : Option Stm → Option Stm
  | some x => some x
  | none => some (.ex .bad)
theorem orBadS_inv {o : Option Stm} {x : Stm} (h : orBadS o = some x) : o = some x ∨ x = .ex .bad := by
  cases o with
  | none => cases h; exact .inr rfl
  | some y => exact .inl h
/-- the exception that a raise makes -/
def raisQ (c : CC) (x : Str) : Option (Nat × Xci) := if okName x && (glbQ c.sc x && (c.calm && c.sx.isNone)) then (match c.gl.lookup x with
  | some (.xc n) => (c.xs[n]?).map fun ci => (n, ci)
  | _ => none) else none
def tryQ (c : CC) (x y : Str) : Option (Nat × Nat) := if okName x && (glbQ c.sc x && (c.calm && (c.sx.isNone && decide (c.sc.names.lookup y = some .local)))) then (match c.gl.lookup x with
  | some (.xc n) => (slot c.N y).map fun i => (n, i)
  | _ => none) else none
def cS : Nat → CC → Stmt → Option Stm
  | 0, _, _ => some (.ex .bad)
  | n + 1, c, st => orBadS <| match st with
    | .Return (some e) _ => (cE n c e).map .ret
    | .Return none _ => some .retN
    | .Assign [.Name y py] (.ListComp elt [⟨.Name x px, iter, ifs, 0⟩] scope lpos) _ => if swapQ c y py scope lpos then (slot c.N y).bind fun j => (cLc (cE n) c elt x iter ifs scope).map fun e => .asg (.nm j) e else if decide (c.sc.names.lookup y = some .cell) && c.all then (slot c.N y).bind fun j => (cE n c (.ListComp elt [⟨.Name x px, iter, ifs, 0⟩] scope lpos)).map fun e => .asg (.nm j) e else none
    | .Assign [.Attribute o f _] e _ => if compQ e || !(c.at_.contains f) then none else (cE n c o).bind fun a => (cE n c e).map fun x => .asg (.fld a f.cps.toList) x
    | .AugAssign (.Name x _) op e _ => if locQ c x then (bopOf op).bind fun o => (slot c.N x).bind fun i => (cE n c e).map fun y => .augN i o y else none
    | .AugAssign (.Attribute a f _) op e _ => if c.at_.contains f then (bopOf op).bind fun o => (cE n c a).bind fun x => (cE n c e).map fun y => .augF x f.cps.toList o y else none
    | .Assign [tg] e _ => if compQ e || tupQ e && tupQ tg then none else (cTg n c tg).bind fun t => (cE n c e).map fun x => .asg t x
    | .Expr e _ => if compQ e then none else (cE n c e).map .ex
    | .If t a b _ => (cE n c t).bind fun x => (a.mapM (cS n c)).bind fun y => (b.mapM (cS n c)).map fun z => .ite x y z
    | .While t b [] _ => (cE n c t).bind fun x => (b.mapM (cS n c)).map fun y => .whl x y
    | .For (.Tuple es kk tp) (.Call (.Name f fp) [a] [] cp) b [] _ => if c.calm && decide (f = "enumerate") && glbQ c.sc "enumerate" && (c.gl.lookup ("enumerate" : Str)).isNone && !starQ a then (cTg n c (.Tuple es kk tp)).bind fun t => (b.mapM (cS n c)).bind fun y => match enrQ c a with
      | some e => (cE n c e).map fun x => .for_ t (.enr x) y
      | none => (cE n c a).map fun x => .for_ t (.enu x) y else none
    | .For (.Tuple es kk tp) (.Call (.Name f fp) [a, a2] [] cp) b [] _ => if c.calm && decide (f = "zip") && glbQ c.sc "zip" && (c.gl.lookup ("zip" : Str)).isNone && !([a, a2].any starQ) then (cTg n c (.Tuple es kk tp)).bind fun t => (b.mapM (cS n c)).bind fun y => ([a, a2].mapM (cE n c)).map fun as => .for_ t (.zip as) y else none
    | .For tg iter b [] _ => if c.calm && nameQ tg then (cTg n c tg).bind fun t => (b.mapM (cS n c)).bind fun y =>
        if rangeQ c iter then (if (callArgs iter).any starQ || !((callArgs iter).length == 1 || (callArgs iter).length == 2 || (callArgs iter).length == 3) then none else ((callArgs iter).mapM (cE n c)).map fun as => .for_ t (.rng as) y)
        else if setQ iter then none else (cE n c iter).map fun x => .for_ t (.seq x) y
      else none
    | .Raise (some (.Call (.Name x _) as [] _)) none _ => (raisQ c x).bind fun p => match p.2.init with
      | none => if as.isEmpty then some (.rais p.1 [] []) else none
      | some _ => if as.isEmpty || as.any starQ then none else (as.mapM (cE n c)).map fun irs => .rais p.1 p.2.fs irs
    | .Try body [.ExceptHandler (some (.Name x _)) (some y) (b0 :: su) _] [] [] _ => (tryQ c x y).bind fun p => (body.mapM (cS n c)).bind fun b => ((b0 :: su).mapM (cS n { c with calm := false, sx := some y })).map fun h => .try_ b c.N.length p.2 (subs c.xs p.1) h
    | .Break _ => some .brk
    | .Continue _ => some .cnt
    | .Pass _ => some .pass
    | _ => none
theorem swap_no {e : Expr} {t : Option Expr} {l : Nat} {env : PySem.Env} (h : compQ e = false) : swapsWith e t l env = pure false := by
  cases e <;> first | (cases h; done) | rfl
theorem swap_sole {e tg : Expr} {l : Nat} {env : PySem.Env} (h : compQ e = false) : swapsWithSole [tg] e l env = pure false := by
  unfold swapsWithSole
  exact swap_no h
theorem sw_cell {elt : Expr} {gs : List Comprehension} {scope : Scope} {pos py : Pos} {y : Str} {l : Nat} {env : PySem.Env} (hy : env.scope.names.lookup y = some .cell) :
    swapsWithSole [.Name y py] (.ListComp elt gs scope pos) l env = pure false := by
  have ky : env.kindOf y = some .cell := hy
  unfold swapsWithSole swapsWith
  simp only [ky]
  have : ((some NameKind.cell : Option NameKind) == some NameKind.local) = false := by decide
  rw [this, Bool.and_false, Bool.false_and, Bool.false_and]
section
variable {W : Wd} {cf : Nat → List D → M D} {k : Nat}
theorem _root_.L2.PS.weak {X : Cx} {st : Stmt} {t t' : TS} (h : PS X st t) (w : ∀ N s H, t' N s H → t N s H) : PS X st t' := ⟨fun pins S s H N I q => h.run pins S s H N I (w _ _ _ q)⟩
theorem _root_.L2.PG.weak {X : Cx} {e : Expr} {t t' : TG} (h : PG X e t) (w : ∀ v s H Q, t' v s H Q → t v s H Q) : PG X e t' := ⟨fun pins S s H v u Q I r q => h.run pins S s H v u Q I r (w _ _ _ _ q)⟩
theorem loc_of {c : CC} {X : Cx} (x : XOk W cf k c X) {y : Str} (h : locQ c y = true) : Loc X.env.scope y ∧ (X.fn y = true ∨ X.env.scope.names.lookup y = some .local) := by
  rw [x.sc]
  unfold locQ at h
  split at h
  · rename_i e
    exact ⟨.inl e, .inr e⟩
  · rename_i e
    exact ⟨.inr e, .inl (x.all h y)⟩
  · cases h
theorem name_tg {c : CC} {X : Cx} (x : XOk W cf k c X) {y : Str} {p : Pos} (h : locQ c y = true) {i : Nat} (hi : slot c.N y = some i) : PG X (.Name y p) (tG W (put cf (.nm i))) := by
  obtain ⟨h1, h2⟩ := loc_of x h
  exact (pg_name x.nd' (by rw [x.hN]; exact slot_get hi) h1 h2).weak fun v s H Q q => g_nm q
theorem nms_ok {c : CC} {X : Cx} (x : XOk W cf k c X) : ∀ {es : List Expr} {is : List Nat}, cNms c es = some is → is.length = es.length ∧ (assignEach es X.env).length = es.length ∧ (assignEach es X.env).findIdx? (·.1) = none ∧
    PGs X es (fun vs σ H Q => vs.length = is.length ∧ Q (List.foldl (fun s (p : Nat × V) => s.set p.1 (some p.2)) σ (is.zip vs)) H)
  | [], is, h => by
    cases h
    refine ⟨rfl, rfl, rfl, ⟨fun pins s σ H vs us Q I r h => pgs_nil.run pins s σ H vs us Q I r ?_⟩⟩
    obtain ⟨h1, h2⟩ := h
    cases vs with
    | nil => exact ⟨rfl, h2⟩
    | cons v vs => simp at h1
  | .Name y p :: es, is, h => by
    unfold cNms at h
    split at h
    · rename_i hl
      obtain ⟨i, hi, h⟩ := bind_some h
      obtain ⟨is', h', rfl⟩ := map_some h
      obtain ⟨g1, g2, g3, g4⟩ := nms_ok x h'
      obtain ⟨h1, h2⟩ := loc_of x hl
      have e1 : assignEach (.Name y p :: es) X.env = (false, assign (.Name y p) X.env) :: assignEach es X.env := rfl
      refine ⟨by simp [g1], by rw [e1]; simp [g2], by rw [e1, List.findIdx?_cons]; simp [g3], ?_⟩
      refine ⟨fun pins s σ H vs us Q I r h => (pgs_cons (pg_name (pos := p) x.nd' (by rw [x.hN]; exact slot_get hi) h1 h2) g4 (by rw [e1]; rfl)).run pins s σ H vs us Q I r ?_⟩
      obtain ⟨h3, h4⟩ := h
      cases vs with
      | nil => simp at h3
      | cons v vs => exact ⟨v, vs, rfl, by simpa using h3, h4⟩
    · cases h
theorem setAll_er {H : Hp} {r : List Addr} : ∀ {is : List Nat} {ds : List D} {vs : List V} {env : Env} {s : L2.St}, RDs W.b H r ds vs → ER W H r env s → ER W H r (setAll is ds env) (List.foldl (fun s (p : Nat × V) => s.set p.1 (some p.2)) s (is.zip vs))
  | [], _, _, _, _, _, e => by
    unfold setAll
    exact e
  | i :: is, _, _, _, _, .nil, e => by
    unfold setAll
    exact e
  | i :: is, _, _, _, _, .cons h1 h2, e => by
    unfold setAll
    exact setAll_er h2 (e.set i h1)
theorem cTg_ok {n : Nat} {c : CC} {X : Cx} (x : XOk W cf k c X) {tg : Expr} {t : Tg} (h : cTg n c tg = some t) : PG X tg (tG W (put cf t)) := by
  unfold cTg at h
  split at h
  · split at h
    case isFalse => cases h
    rename_i hcm
    obtain ⟨is, hi, rfl⟩ := map_some h
    obtain ⟨g1, g2, g3, g4⟩ := nms_ok x hi
    refine (pg_tup (x.calm hcm) g4 g2 g3).weak fun v s H Q q => ?_
    obtain ⟨r, env, st, d, e, sr, rd, p⟩ := q
    replace p : PostE W H r (unpack is d env st) Q := p
    cases rd with
    | @tup _ _ ds h1 h2 =>
      by_cases hc : ds.length = is.length
      · have p : PostE W H r (chk (ds.length = is.length) (ret (setAll is ds env)) st) Q := p
        rw [chk_true hc] at p
        rw [x.hK]
        exact ⟨_, _, rfl, h1, by rw [← h2.length, hc, g1], by rw [← h2.length]; exact hc, p H r _ (Lt.refl _ _) sr (setAll_er h2 e)⟩
      · have p : PostE W H r (chk (ds.length = is.length) (ret (setAll is ds env)) st) Q := p
        rw [chk_false hc] at p
        exact p.elim
    | _ => exact p.elim
  · split at h
    · rename_i hl
      obtain ⟨i, hi, rfl⟩ := map_some h
      exact name_tg x hl hi
    · cases h
  · rename_i o i p
    split at h
    · cases h
    · rename_i hs
      have hs : sliceQ i = false := by simpa using hs
      split at h
      · obtain ⟨a, ha, h⟩ := bind_some h
        obtain ⟨b, hb, rfl⟩ := map_some h
        refine (pg_sub (cE_ok n W c X x _ _ ha).v (cE_ok n W c X x _ _ hb).v (set_dict (by have := x.units; omega)) (fun v => ?_)).weak fun v s H Q q => g_dsub q
        cases i <;> first | (cases hs; done) | rfl
      obtain ⟨a, ha, h⟩ := bind_some h
      obtain ⟨b, hb, rfl⟩ := map_some h
      refine (pg_sub (cE_ok n W c X x _ _ ha).v (cE_ok n W c X x _ _ hb).v set_list (fun v => ?_)).weak fun v s H Q q => g_sub q
      cases i <;> first | (cases hs; done) | rfl
  · cases h
theorem sw_none {tg e : Expr} {env : PySem.Env} (h : tupQ e = false ∨ tupQ tg = false) (hl : ∀ es p, tg ≠ .List es p) : swappedStores [tg] e env = pure none := by
  unfold swappedStores
  rcases h with h | h
  · cases e <;> first | (cases h; done) | (cases tg <;> rfl)
  · cases tg <;> first | (cases h; done) | rfl | exact absurd rfl (hl _ _)
theorem asg_ok {n : Nat} {c : CC} {X : Cx} (x : XOk W cf k c X) {tg e : Expr} {t : Tg} {y : Ex} {pos : Pos} (hc : compQ e = false) (htq : tupQ e = false ∨ tupQ tg = false) (ht : cTg n c tg = some t) (he : cE n c e = some y) : PS X (.Assign [tg] e pos) (tS W (run cf (.asg t y))) := by
  have hg := cTg_ok x ht
  have hv := (cE_ok n W c X x _ _ he).v
  unfold cTg at ht
  split at ht
  · exact (ps_asg hv hg (swap_sole hc) (sw_none htq fun _ _ z => by cases z) (by rfl)).weak fun N s H q => s_asg q
  · exact (ps_asg hv hg (swap_sole hc) (by rfl) (by rfl)).weak fun N s H q => s_asg q
  · exact (ps_asg hv hg (swap_sole hc) (by rfl) (by rfl)).weak fun N s H q => s_asg q
  · cases ht
theorem blk_ok {c : CC} {n : Nat} {X : Cx} (ih : ∀ st ir, cS n c st = some ir → PS X st (tS W (run cf ir))) : ∀ {sts : List Stmt} {irs : List Stm}, sts.mapM (cS n c) = some irs → PSs X sts (tS W (runs cf irs))
  | [], irs, h => by
    simp at h
    subst h
    refine (⟨fun pins S s H N I q => pss_nil.run pins S s H N I ?_⟩ : PSs X [] _)
    obtain ⟨r, env, st, e, sr, q⟩ := q
    exact q H r s (Lt.refl _ _) sr e
  | st :: sts, irs, h => by
    rw [List.mapM_cons] at h
    obtain ⟨a, ha, h⟩ := bind_some h
    obtain ⟨as, has, h⟩ := bind_some h
    cases h
    exact pss_seq (ih _ _ ha) (blk_ok ih has)
theorem or_of {a b : Bool} (h : a = true → b = false) : a = false ∨ b = false := by
  cases a with
  | false => exact .inl rfl
  | true => exact .inr (h rfl)
theorem ps_bad {X : Cx} {st : Stmt} : PS X st (tS W (run cf (.ex .bad))) := by
  refine ⟨fun pins S s H N I q => ?_⟩
  obtain ⟨r, env, st, e, sr, q⟩ := q
  exact (show False from q).elim
/-- within a try -/
theorem XOk.tr {c : CC} {X : Cx} (x : XOk W cf k c X) (hsx : c.sx = none) {xk' : XK} {pn : List (Addr × Obj)} {xe : Value → Shared → Prop} (t : Takes (X.tr pn xe) fun cls d _ H => xk' cls d H) (pass : PassesOwn (model X.prog X.w) X.A X.env xe) : XOk ⟨W.b, xk', none⟩ cf k c (X.tr pn xe) where
  hK := x.hK
  hw := x.hw
  hN := x.hN
  nd := x.nd
  sc := x.sc
  kind := x.kind
  calm := x.calm
  room := x.room
  un := x.un
  k1 := x.k1
  xE := x.xE
  xnm := x.xnm
  sx := fun y h => by rw [hsx] at h; cases h
  cur0 := fun _ => rfl
  cat := x.cat
  mth := x.mth
  mkr := x.mkr
  grd := x.grd
  passes := pass
  all := x.all
  fns := x.fns
  vals := x.vals
  tupv := x.tupv
  kfns := x.kfns
  fnv := x.fnv
  blt := x.blt
  tk := t
  dct := x.dct
/-- within an except suite -/
theorem XOk.suite {c : CC} {X : Cx} (x : XOk W cf k c X) {y : Str} {i : Nat} {a : Addr} {oe : Obj} {cls : Value} {d : Option Addr} {pn : List (Addr × Obj)} (hz : Zc cls d oe) (hf : ∃ vs, oe.data = .fields vs) (hi : slot c.N y = some i) :
    XOk ⟨W.b, fun _ _ _ => False, some (i, a, cls, d)⟩ cf k { c with calm := false, sx := some y } (X.suite a ((a, oe) :: pn)) where
  hK := x.hK
  hw := x.hw
  hN := x.hN
  nd := x.nd
  sc := x.sc
  kind := x.kind
  calm := fun h => by cases h
  room := fun h => by cases h
  un := x.un
  k1 := x.k1
  xE := x.xE
  xnm := x.xnm
  sx := fun y' h => by
    cases h
    exact ⟨i, a, oe, cls, d, X, pn, rfl, hz, hf, rfl, hi⟩
  cur0 := fun h => by cases h
  cat := x.cat
  mth := x.mth
  mkr := x.mkr
  grd := x.grd
  passes := PassesOwn.never
  all := x.all
  fns := x.fns
  vals := x.vals
  tupv := x.tupv
  kfns := x.kfns
  fnv := x.fnv
  blt := x.blt
  tk := takes_never fun _ _ _ _ h => h
  dct := x.dct
theorem Wd.eta (W : Wd) (h : W.cur = none) : W = ⟨W.b, W.xk, none⟩ := by
  obtain ⟨b, xk, cur⟩ := W
  cases h
  rfl
theorem rais_inv {c : CC} {y : Str} {p : Nat × Xci} (h : raisQ c y = some p) : okName y = true ∧ glbQ c.sc y = true ∧ c.calm = true ∧ c.sx = none ∧ c.gl.lookup y = some (.xc p.1) ∧ c.xs[p.1]? = some p.2 := by
  unfold raisQ at h
  split at h
  · rename_i hq
    simp only [Bool.and_eq_true, Option.isNone_iff_eq_none] at hq
    split at h
    · rename_i n hl
      obtain ⟨ci, h1, rfl⟩ := Option.map_eq_some_iff.mp h
      exact ⟨hq.1, hq.2.1, hq.2.2.1, hq.2.2.2, hl, h1⟩
    · cases h
  · cases h
theorem try_inv {c : CC} {y z : Str} {p : Nat × Nat} (h : tryQ c y z = some p) : okName y = true ∧ glbQ c.sc y = true ∧ c.calm = true ∧ c.sx = none ∧ c.sc.names.lookup z = some .local ∧ c.gl.lookup y = some (.xc p.1) ∧ slot c.N z = some p.2 := by
  unfold tryQ at h
  split at h
  · rename_i hq
    simp only [Bool.and_eq_true, Option.isNone_iff_eq_none, decide_eq_true_eq] at hq
    split at h
    · rename_i n hl
      obtain ⟨ci, h1, rfl⟩ := Option.map_eq_some_iff.mp h
      exact ⟨hq.1, hq.2.1, hq.2.2.1, hq.2.2.2.1, hq.2.2.2.2, hl, h1⟩
    · cases h
  · cases h
theorem cS_ok : ∀ (n : Nat) (W : Wd) (c : CC) (X : Cx), XOk W cf k c X → X.stack = X.env :: X.outer → X.env.frame = some X.env.locals → ∀ st ir, cS n c st = some ir → PS X st (tS W (run cf ir)) := by
  intro n
  induction n with
  | zero => intro W c X x hstk hfrm st ir h; unfold cS at h; cases h; exact ps_bad
  | succ n ih =>
    intro W c X x hstk hfrm st ir h
    have ih1 := ih W c X x hstk hfrm
    have ihE := cE_ok (cf := cf) (k := k) n W c X x
    unfold cS at h
    have h0 := orBadS_inv h
    clear h
    rcases h0 with h | h
    case inr => subst h; exact ps_bad
    split at h
    · obtain ⟨a, ha, rfl⟩ := map_some h
      exact (ps_ret (ihE _ _ ha).v).weak fun N s H q => s_ret q
    · cases h
      refine ps_retN.weak fun N s H q => ?_
      obtain ⟨r, env, st, e, sr, q⟩ := q
      exact q H r .non (Lt.refl _ _) sr .non
    · rename_i y py elt z pz iter ifs scope lpos pos
      split at h
      · rename_i hs
        obtain ⟨j, hj, h⟩ := bind_some h
        obtain ⟨e, he, rfl⟩ := map_some h
        unfold swapQ at hs
        simp only [Bool.and_eq_true, Bool.not_eq_true'] at hs
        have hl := of_decide_eq_true hs.1.1
        obtain ⟨i, mt, ml, mlc, e1, hcm, h1, h2, h3⟩ := cLc_ok (py := pz) x (fun W c X x => cE_ok n W c X x) he
        subst e1
        exact ps_lcW (x.calm hcm) x.nd' h1 h2 h3 (by rw [x.hN]; exact slot_get hj) (by rw [x.sc]; exact hl) (sw_true (by rw [x.sc]; exact x.kind) (by rw [x.sc]; exact hl) hs.1.2 hs.2)
      · split at h
        · rename_i hs
          obtain ⟨j, hj, h⟩ := bind_some h
          obtain ⟨e, he, rfl⟩ := map_some h
          rw [Bool.and_eq_true] at hs
          have hl := of_decide_eq_true hs.1
          have hv := (ihE (.ListComp elt [⟨.Name z pz, iter, ifs, 0⟩] scope lpos) e he).v
          have hg := name_tg (p := py) x (y := y) (by unfold locQ; rw [hl]; exact hs.2) hj
          exact (ps_asg hv hg (sw_cell (by rw [x.sc]; exact hl)) (by rfl) (by rfl)).weak fun N s H q => s_asg q
        · cases h
    · rename_i o f pf e pos
      split at h
      · cases h
      · rename_i hc
        simp only [Bool.or_eq_true, not_or, Bool.not_eq_true, Bool.not_eq_true', Bool.not_eq_false] at hc
        obtain ⟨a, ha, h⟩ := bind_some h
        obtain ⟨y, hy, rfl⟩ := map_some h
        have e2 : (⟨(f.cps.toList).toArray⟩ : Str) = f := str_mk f
        refine (ps_fld (ihE _ _ ha).v (ihE _ _ hy).v (swap_no hc.1)).weak fun N s H q => ?_
        have q := s_fld (f := f.cps.toList) (by rw [e2]; exact x.cat f (by simpa using hc.2)) q
        rw [e2] at q
        exact q
    · split at h
      · rename_i hl
        obtain ⟨o, ho, h⟩ := bind_some h
        obtain ⟨i, hi, h⟩ := bind_some h
        obtain ⟨y, hy, rfl⟩ := map_some h
        have := bop_op ho
        subst this
        obtain ⟨h1, h2⟩ := loc_of x hl
        obtain ⟨q, q1, q2⟩ := ok_aug (W := W) (X := X) o
        have hi' := slot_get hi
        rw [← x.hN] at hi'
        exact ⟨fun pins z σ H D I qq => (ps_aug (ti := q) x.nd' hi' h1 (ihE _ _ hy).v q1 h2).run pins z σ H D I (s_augN (by rw [I.len]; exact (List.getElem?_eq_some_iff.mp hi').1) q2 qq)⟩
      · cases h
    · rename_i a f pf op e pos
      split at h
      · rename_i hl
        obtain ⟨o, ho, h⟩ := bind_some h
        obtain ⟨y, hy, h⟩ := bind_some h
        obtain ⟨z, hz, rfl⟩ := map_some h
        have := bop_op ho
        subst this
        obtain ⟨q, q1, q2⟩ := ok_aug (W := W) (X := X) o
        have e2 : (⟨(f.cps.toList).toArray⟩ : Str) = f := str_mk f
        refine (ps_fldaug (rd := q) (ihE _ _ hy).v (ihE _ _ hz).v (fun pins s σ H x y u v Q I rx ry h => q1 pins s σ H x y u v Q I rx ry h)).weak fun N s H q => ?_
        have q := s_augF (f := f.cps.toList) (by rw [e2]; exact x.cat f (by simpa using hl)) q2 q
        rw [e2] at q
        exact q
      · cases h
    · split at h
      · cases h
      · rename_i hc
        simp only [Bool.or_eq_true, Bool.and_eq_true, not_or, not_and, Bool.not_eq_true] at hc
        obtain ⟨t, ht, h⟩ := bind_some h
        obtain ⟨y, he, rfl⟩ := map_some h
        exact asg_ok x hc.1 (or_of hc.2) ht he
    · split at h
      · cases h
      · rename_i hc
        obtain ⟨a, ha, rfl⟩ := map_some h
        exact (ps_expr (ihE _ _ ha).v (swap_no (by simpa using hc))).weak fun N s H q => s_ex q
    · obtain ⟨t, ht, h⟩ := bind_some h
      obtain ⟨a, ha, h⟩ := bind_some h
      obtain ⟨b, hb, rfl⟩ := map_some h
      exact (ps_if (ihE _ _ ht).t (blk_ok ih1 ha) (blk_ok ih1 hb)).weak fun N s H q => s_ite q
    · obtain ⟨t, ht, h⟩ := bind_some h
      obtain ⟨b, hb, rfl⟩ := map_some h
      exact ps_whl x.passes (ihE _ _ ht).t (blk_ok ih1 hb)
    · rename_i es kk tp f fp a cp b pos
      split at h
      · rename_i hq
        simp only [Bool.and_eq_true, decide_eq_true_eq, Bool.not_eq_true', Option.isNone_iff_eq_none] at hq
        obtain ⟨⟨⟨⟨hcm, hf⟩, hgl⟩, hn⟩, hs⟩ := hq
        subst hf
        obtain ⟨t, ht, h⟩ := bind_some h
        obtain ⟨y, hy, h⟩ := bind_some h
        split at h
        · rename_i e1 he1
          obtain ⟨xa, ha, rfl⟩ := map_some h
          unfold enrQ at he1
          split at he1
          case h_2 => cases he1
          rename_i g pg e2 pp
          split at he1
          case isFalse => cases he1
          rename_i hq2
          cases he1
          simp only [Bool.and_eq_true, decide_eq_true_eq, Option.isNone_iff_eq_none, Bool.not_eq_true'] at hq2
          obtain ⟨rfl, k1, k2, k3⟩ := hq2
          exact ps_forEnR x.hK x.passes (x.calm hcm) (x.gl hgl) (x.blt "enumerate" (by decide +kernel) hn) (x.gl k2) (x.blt "reversed" (by decide +kernel) k1) (ihE _ _ ha).v (star_cons k3) (cTg_ok x ht) (blk_ok ih1 hy)
        obtain ⟨xa, ha, rfl⟩ := map_some h
        exact ps_forEnum x.hK x.passes (x.calm hcm) (x.gl hgl) (x.blt "enumerate" (by decide +kernel) hn) (ihE _ _ ha).v (star_cons hs) (cTg_ok x ht) (blk_ok ih1 hy)
      · cases h
    · rename_i es kk tp f fp a a2 cp b pos
      split at h
      · rename_i hq
        simp only [Bool.and_eq_true, decide_eq_true_eq, Bool.not_eq_true', Option.isNone_iff_eq_none] at hq
        obtain ⟨⟨⟨⟨hcm, hf⟩, hgl⟩, hn⟩, hs⟩ := hq
        subst hf
        obtain ⟨t, ht, h⟩ := bind_some h
        obtain ⟨y, hy, h⟩ := bind_some h
        obtain ⟨irs, h1, rfl⟩ := map_some h
        obtain ⟨h3, h4⟩ := mapM_ok ihE h1
        have hp := pa_of hs h3 fun i e ir e1 e2 => (h4 i e ir e1 e2).v
        rw [List.any_cons, Bool.or_eq_false_iff] at hs
        exact ps_forZip x.hK x.passes (x.calm hcm) (x.gl hgl) (x.blt "zip" (by decide +kernel) hn) hp (star_cons hs.1) (star_any hs.2) (cTg_ok x ht) (blk_ok ih1 hy)
      · cases h
    · rename_i tg iter b pos
      split at h
      · rename_i hq
        rw [Bool.and_eq_true] at hq
        have hcm := x.calm hq.1
        obtain ⟨t, ht, h⟩ := bind_some h
        obtain ⟨y, hy, h⟩ := bind_some h
        have hg := cTg_ok x ht
        have hb := blk_ok ih1 hy
        split at h
        · rename_i hr
          obtain ⟨p, as, pos', rfl, hgl, hn⟩ := range_of hr
          have hm := x.blt "range" (by decide +kernel) hn
          split at h
          · cases h
          · rename_i hs
            obtain ⟨irs, h1, rfl⟩ := map_some h
            obtain ⟨h3, h4⟩ := mapM_ok ihE h1
            simp only [Bool.or_eq_true, not_or, Bool.not_eq_true, Bool.not_eq_false'] at hs
            obtain ⟨hs, hlen⟩ := hs
            have hs : as.any starQ = false := hs
            have hp := pa_of hs h3 fun i e ir e1 e2 => (h4 i e ir e1 e2).v
            have hev : ∀ env st ds st', evEs cf irs env st = .ok ds st' → ds.length = as.length := fun env st ds st' z => by rw [evEs_len z]; exact h3
            match as, hlen, hs, hp, hev with
            | [], hlen, _, _, _ => simp [callArgs] at hlen
            | [a], _, hs, hp, hev =>
              have hs : starQ a = false := by simpa using hs
              exact ps_forR1 x.passes hcm (x.gl hgl) hm hp hev (star_cons hs) hg hb
            | [a, b'], _, hs, hp, hev =>
              simp only [List.any_cons, List.any_nil, Bool.or_false, Bool.or_eq_false_iff] at hs
              exact ps_forR2 x.passes hcm (x.gl hgl) hm hp hev (by rw [star_cons hs.1, star_cons hs.2]; rfl) (star_cons hs.2) hg hb
            | [a, b', d], _, hs, hp, hev =>
              rw [List.any_cons, Bool.or_eq_false_iff] at hs
              exact ps_forR3 x.passes hcm (x.gl hgl) hm hp hev (star_cons hs.1) (star_any hs.2) hg hb
            | _ :: _ :: _ :: _ :: _, hlen, _, _, _ => simp [callArgs] at hlen
        · split at h
          · cases h
          · rename_i hs
            obtain ⟨a, ha, rfl⟩ := map_some h
            exact ps_forSeq x.hK x.passes hcm (ihE _ _ ha).v hg hb (set_fold (by simpa using hs))
      · cases h
    · -- raise
      rename_i y px as cp pos
      obtain ⟨⟨m, ci⟩, hq, h⟩ := bind_some h
      obtain ⟨ho, hg, hcm, hsx, hl, hci⟩ := rais_inv hq
      obtain ⟨n1, n2, n3⟩ := okName_of ho
      obtain ⟨C, ci', h1, h2, h3, mk⟩ := x.xnm _ _ hl
      rw [hci] at h3
      cases h3
      unfold XMk at mk
      cases hi : ci.init with
      | none =>
        dsimp only at h
        rw [hi] at h mk
        dsimp only at h mk
        split at h
        · rename_i ha
          cases h
          obtain ⟨g1, g2, g3, g4⟩ := mk
          have ea : as = [] := by simpa using ha
          subst ea
          exact (ps_raise (x.calm hcm) x.tk (pmk_own0 PySem.F.excBase_ValueError g2 h1 g3 g4 (x.gl hg) n1)).weak fun N s H q => s_rais0 h2 q
        · cases h
      | some j =>
        dsimp only at h
        rw [hi] at h mk
        dsimp only at h mk
        split at h
        · cases h
        · rename_i hs
          simp only [Bool.or_eq_true, not_or, Bool.not_eq_true] at hs
          obtain ⟨irs, hirs, rfl⟩ := map_some h
          obtain ⟨g1, g2, fI, fd, ps, g3, g4, g5, g6⟩ := mk
          obtain ⟨q3, q4⟩ := mapM_ok ihE hirs
          have hp := pa_of hs.2 q3 fun i e ir e1 e2 => (q4 i e ir e1 e2).v
          cases as with
          | nil => exact absurd hs.1 (by simp)
          | cons e es =>
            have hs2 := hs.2
            rw [List.any_cons, Bool.or_eq_false_iff] at hs2
            have hr : Room 2 X.A := (x.room hcm).mono (by have := x.k1; omega)
            exact (ps_raise (x.calm hcm) x.tk (pmk_oex g1 g3 g4 g5 hr g6 (.nil) pass0 (x.gl hg) h1 hp n1 (star_cons hs2.1) (star_any hs2.2))).weak fun N s H q => s_rais h2 g2.1 g2.2 q
    · -- try
      rename_i body y py z b0 su p1 pos
      obtain ⟨⟨m, i⟩, hq, h⟩ := bind_some h
      obtain ⟨ho, hg, hcm, hsx, hlz, hl, hi⟩ := try_inv hq
      obtain ⟨n1, n2, n3⟩ := okName_of ho
      obtain ⟨bb, hb, h⟩ := bind_some h
      obtain ⟨hh, hh2, rfl⟩ := map_some h
      obtain ⟨C, ci, h1, h2, h3, _⟩ := x.xnm _ _ hl
      have hcur := x.cur0 hsx
      obtain ⟨wb, wxk, wcur⟩ := W
      dsimp only at hcur
      subst hcur
      have hN := x.hN
      have e1 : run cf (.try_ bb c.N.length i (subs c.xs m) hh) = fun env => tryM (runs cf bb env) (subs c.xs m) fun y => bnd (runs cf hh (hEnv X.N.length y)) fun f => ret (hFl i f) := by
        funext env
        rw [run, hN]
      show PS X _ (tS _ (run cf (.try_ bb c.N.length i (subs c.xs m) hh)))
      rw [e1]
      refine ps_tryX hstk hfrm x.nd' (by rw [hN]; exact slot_get hi) (by show X.env.scope.names.lookup z = _; rw [x.sc]; exact hlz) ⟨x.gl hg, n1, .inl h1⟩ x.tk (fun n' C' hn' => ?_) (fun xk' pn xe t pass => ?_) fun a oe cls d pn hz hf => ?_
      · obtain ⟨cn, k1, _, k3⟩ := x.xE n' C' hn'
        rw [subs_mem k1]
        exact (k3 m ci C h3 h2).2
      · exact blk_ok (ih _ c _ (x.tr hsx t pass) hstk hfrm) hb
      · exact blk_ok (ih _ _ _ (x.suite hz hf hi) hstk hfrm) hh2
    · cases h
      refine ps_break.weak fun N s H q => ?_
      obtain ⟨r, env, st, e, sr, q⟩ := q
      exact q H r s (Lt.refl _ _) sr e
    · cases h
      refine ps_continue.weak fun N s H q => ?_
      obtain ⟨r, env, st, e, sr, q⟩ := q
      exact q H r s (Lt.refl _ _) sr e
    · cases h
      refine ps_pass.weak fun N s H q => ?_
      obtain ⟨r, env, st, e, sr, q⟩ := q
      exact q H r s (Lt.refl _ _) sr e
    · cases h
end
end Li
namespace Li
open PySem PySem.Spec PyProof.Rows L2
/-- one def of the text: its name, statement, parameters, all names -/
structure Df where
  name : Str
  st : Stmt
  ps : List Str
  N : List Str
  cls : Option Str := none
  glb : Option Str := none
  dn : List Str := []
  kw : List Str := []
  sn : List Str := []
def Df.at_ (x : Df) : Str × Option Str := match x.cls with
  | none => (x.glb.getD x.name, none)
  | some C => (C, some x.name)
def Df.qual (x : Df) : Str := match x.cls with
  | none => x.name
  | some C => C ++ (("." : Str) ++ x.name)
def Df.d (x : Df) : He.DefD := ⟨x.at_, x.name, x.qual, defArgs x.st, defBody x.st, defScope x.st, [], []⟩
/-- the text's names, classes, fields -/
structure Gl where
  gl : List (Str × Gr)
  cl : List Ci := []
  at_ : List Str := []
  xs : List Xci := []
def Df.c (gl : Gl) (x : Df) : CC := { N := x.N, sc := defScope x.st, all := true, gl := gl.gl, cl := gl.cl, at_ := gl.at_, xs := gl.xs, dn := x.dn, sn := x.sn }
def clsStmt (s : Stmt) (j : Nat) : Stmt := match s with
  | .ClassDef _ _ _ b _ _ _ _ _ _ _ => b.getD j (.Pass ⟨0, 0, 0, 0⟩)
  | _ => .Pass ⟨0, 0, 0, 0⟩
def one (n : Nat) (gl : Gl) (x : Df) : Option Fn := ((defBody x.st).mapM (cS n (x.c gl))).map fun b => ⟨x.ps.length, x.N.length, b⟩
def compile (n : Nat) (gl : Gl) (L : List Df) : Option (List Fn) := L.mapM (one n gl)
def scopeQ (N ps : List Str) (sc : Scope) : Bool := decide (sc.kind = .function) && (!sc.isCoroutine && (!sc.isGenerator && (decide N.Nodup && (decide (N.take ps.length = ps) &&
  (ps.all (fun x => decide (sc.names.lookup x = some .local) || decide (sc.names.lookup x = some .cell)) && sc.names.all fun y => decide (y.2 ≠ .free))))))
theorem scope_of {N ps : List Str} {sc : Scope} (h : scopeQ N ps sc = true) : FnScope N ps sc := by
  unfold scopeQ at h
  simp only [Bool.and_eq_true, Bool.not_eq_true', decide_eq_true_eq, List.all_eq_true, Bool.or_eq_true] at h
  obtain ⟨h1, h2, h3, h4, h5, h6, h7⟩ := h
  exact ⟨h1, h2, h3, h4, h5, h6, h7⟩
structure Binds1 (x : Df) : Prop where
  pl : x.kw = [] → ∀ (kV doc pm : Value) (an : Option Addr) (cdv ct : Value) (us : List Value), us.length = x.ps.length →
    bindArgs (PySem.W.fnOf x.name x.qual (defArgs x.st) (defBody x.st) (defScope x.st) .none kV doc pm an cdv ct) ⟨us, []⟩ = pure (x.ps.zip us)
  kw : x.kw ≠ [] → ∀ (kV doc pm : Value) (an : Option Addr) (cdv ct : Value) (us ws : List Value), us.length = x.ps.length - x.kw.length → ws.length = x.kw.length →
    bindArgs (PySem.W.fnOf x.name x.qual (defArgs x.st) (defBody x.st) (defScope x.st) .none kV doc pm an cdv ct) ⟨us, x.kw.zip ws⟩ = pure (x.ps.zip (us ++ ws))
mutual
def dB (K : PySem.W.Frag) (F : Nat → Option Addr) : D → Value → Bool
  | .non, .none => true
  | .bl b, .bool c => b == c
  | .int i, .int j _ => decide (i = j)
  | .str s, .str y _ => decide (y.cps = s.toArray) && (decide (s.length ≤ LINE) && s.all fun c => decide (c < 0x110000))
  | .tup ds, .ref a => (match K.lookup a with
    | some ⟨.type c, none, .seq its _, _⟩ => decide (c = "tuple") && (decide (its.size ≤ sizeLine) && dBs K F ds its.toList)
    | _ => false)
  | .ro ds, .ref a => (match K.lookup a with
    | some ⟨.type c, none, .seq its _, _⟩ => decide (c = "list") && (decide (its.size ≤ sizeLine) && dBs K F ds its.toList)
    | _ => false)
  | .fn i, .ref a => decide (F i = some a)
  | _, _ => false
def dBs (K : PySem.W.Frag) (F : Nat → Option Addr) : List D → List Value → Bool
  | [], [] => true
  | d :: ds, u :: us => dB K F d u && dBs K F ds us
  | _, _ => false
end
mutual
theorem dB_ok {W : Wd} : ∀ {d : D} {u : Value}, dB W.b.K W.b.F d u = true → ∃ v, RelV v u ∧ ∀ H r, RD W.b H r d v
  | .non, u, h => by
    cases u with
    | none => exact ⟨.non, rfl, fun H r => .non⟩
    | _ => unfold dB at h; cases h
  | .bl b, u, h => by
    cases u with
    | bool c =>
      unfold dB at h
      have e : b = c := eq_of_beq h
      subst e
      exact ⟨.bl b, rfl, fun H r => .bl b⟩
    | _ => unfold dB at h; cases h
  | .int i, u, h => by
    cases u with
    | int j t =>
      unfold dB at h
      have e : i = j := of_decide_eq_true h
      subst e
      exact ⟨.int i, ⟨t, rfl⟩, fun H r => .int i⟩
    | _ => unfold dB at h; cases h
  | .str s, u, h => by
    cases u with
    | str y t =>
      unfold dB at h
      simp only [Bool.and_eq_true, decide_eq_true_eq, List.all_eq_true] at h
      obtain ⟨h1, h2, h3⟩ := h
      have e : y = ⟨s.toArray⟩ := by cases y; exact congrArg Str.mk h1
      subst e
      exact ⟨.str ⟨s.toArray⟩, ⟨t, rfl⟩, fun H r => .str s h2 h3⟩
    | _ => unfold dB at h; cases h
  | .tup ds, u, h => by
    cases u with
    | ref a =>
      unfold dB at h
      split at h
      · rename_i c its n os q
        simp only [Bool.and_eq_true, decide_eq_true_eq] at h
        obtain ⟨h1, h2, h3⟩ := h
        obtain ⟨vs, h4, h5⟩ := dBs_ok h3
        refine ⟨.ref a, rfl, fun H r => .tup (.inr ⟨_, its, n, q, congrArg Value.type h1, rfl, h2, h4⟩) (h5 H r)⟩
      · cases h
    | _ => unfold dB at h; cases h
  | .ro ds, u, h => by
    cases u with
    | ref a =>
      unfold dB at h
      split at h
      · rename_i c its n os q
        simp only [Bool.and_eq_true, decide_eq_true_eq] at h
        obtain ⟨h1, h2, h3⟩ := h
        obtain ⟨vs, h4, h5⟩ := dBs_ok h3
        refine ⟨.ref a, rfl, fun H r => .ro (.inr ⟨_, its, n, q, congrArg Value.type h1, rfl, rfl, h2, h4⟩) (h5 H r)⟩
      · cases h
    | _ => unfold dB at h; cases h
  | .xn _ _ _, u, h => by cases u <;> (unfold dB at h; cases h)
  | .ob n, u, h => by cases u <;> (unfold dB at h; cases h)
  | .fn n, u, h => by
    cases u with
    | ref a =>
      unfold dB at h
      exact ⟨.ref a, rfl, fun H r => .fn (of_decide_eq_true h)⟩
    | _ => unfold dB at h; cases h
  | .ty n, u, h => by cases u <;> (unfold dB at h; cases h)
theorem dBs_ok {W : Wd} : ∀ {ds : List D} {us : List Value}, dBs W.b.K W.b.F ds us = true → ∃ vs, Vals vs us ∧ ∀ H r, RDs W.b H r ds vs
  | [], us, h => by
    cases us with
    | nil => exact ⟨[], .nil, fun H r => .nil⟩
    | cons _ _ => unfold dBs at h; cases h
  | d :: ds, us, h => by
    cases us with
    | nil => unfold dBs at h; cases h
    | cons u us =>
      unfold dBs at h
      obtain ⟨h1, h2⟩ := He.ba h
      obtain ⟨v, h3, h4⟩ := dB_ok h1
      obtain ⟨vs, h5, h6⟩ := dBs_ok h2
      exact ⟨v :: vs, .cons h3 h5, fun H r => .cons (h4 H r) (h6 H r)⟩
end
theorem dB_tup {K : PySem.W.Frag} {F : Nat → Option Addr} {ds : List D} {a : Addr} (h : dB K F (.tup ds) (.ref a) = true) : ∃ o, K.lookup a = some o ∧ o.cls = .type "tuple" ∧ o.dict = none := by
  unfold dB at h
  split at h
  · rename_i c its n os q
    simp only [Bool.and_eq_true, decide_eq_true_eq] at h
    exact ⟨_, q, congrArg Value.type h.1, rfl⟩
  · cases h
/-- the names and what they stand for -/
def faOf (gl : Gl) : List He.Fa := (gl.gl.filterMap fun p => match p.2 with
  | .fn _ => some (.glo p.1)
  | .cls _ _ => some (.glo p.1)
  | .dict _ => some (.glo p.1)
  | .xc _ => some (.glo p.1)
  | .kfn _ _ _ => some (.glo p.1)
  | .val _ => none) ++ ((blts.filter fun x => (gl.gl.lookup x).isNone).map .free ++
  (gl.cl.flatMap fun c => .cls c.name :: (gl.at_.map (.noat c.name) ++ c.meths.map fun m => .meth c.name m.1)) ++
  gl.gl.filterMap fun p => match p.2 with
  | .cls _ _ => some (.mkr p.1)
  | _ => none)
def kvB (K : PySem.W.Frag) (F : Nat → Option Addr) (a : Addr) (kvs : List (S × D)) : Bool := kvs.all fun q => match PySem.W.nsIn K a (mkS q.1) with
  | some (some u) => dB K F q.2 u
  | _ => false
def glV (K : PySem.W.Frag) (F : Nat → Option Addr) (gl : Gl) : Bool := gl.gl.all fun p => match p.2 with
  | .fn _ => true
  | .cls _ _ => true
  | .xc _ => true
  | .kfn _ _ _ => true
  | .dict kvs => kvB K F (He.ga K p.1) kvs
  | .val d => (match PySem.W.nsIn K mainGlobals p.1 with
    | some (some u) => dB K F d u
    | _ => false)
/-- the defs' places (those without parameters by name alone) -/
def fnL (K : PySem.W.Frag) (L : List Df) : Nat → Option Addr := fun i => (L[i]?).bind fun x => if x.kw.isEmpty then some (He.fAd K x.at_) else none
def glF (L : List Df) (gl : Gl) : Bool := (gl.gl.all fun p => match p.2 with
  | .fn i => (match L[i]? with
    | some x => decide (x.at_ = (p.1, none)) && x.kw.isEmpty
    | none => false)
  | .kfn i k nm => (match L[i]? with
    | some x => decide (x.at_ = (p.1, none)) && (decide (x.kw = [nm]) && decide (x.ps.length = k + 1))
    | none => false)
  | .cls n i => (match gl.cl[n]?, L[i]? with
    | some c, some x => decide (c.name = p.1) && (decide (x.at_ = (p.1, some ("__init__" : Str))) && x.kw.isEmpty)
    | _, _ => false)
  | .dict _ => true
  | .xc n => (match gl.xs[n]? with
    | some ci => decide (ci.name = p.1)
    | none => false)
  | .val _ => true) && gl.cl.all fun c => c.meths.all fun m => (match L[m.2]? with
    | some x => decide (x.at_ = (c.name, some m.1)) && x.kw.isEmpty
    | none => false)
def oexB (K : PySem.W.Frag) (C : Addr) : Bool := match K.lookup C with
  | some ⟨.type "type", _, .cls ⟨_, _, .ref C' :: bm, _, _, true, _, _, _, _, false⟩, sl⟩ => (match sl.toList with
    | [_, _, _, _, some (.builtin n), _] => decide (C' = C) && (decide (n = "ValueError.__new__") && PySem.HandSPX.refsVE bm)
    | _ => false)
  | _ => false
theorem oexB_ok {K : PySem.W.Frag} {C : Addr} (h : oexB K C = true) (h1 : PySem.W.findIn K (.ref C) "__setattr__" = some (some (.builtin "object.__setattr__"))) (h2 : PySem.W.subIn K (.ref C) (.type "BaseException") = some true) (h3 : PySem.W.typeIn K (.ref C) = some (.type "type")) (h4 : PySem.W.keepIn K (.ref C) = true) : OexC K C := by
  refine ⟨?_, h1, h2, h3, h4⟩
  unfold oexB at h
  split at h
  · rename_i dd nm bs C' bm ns qn sn sub ab col sl ho
    split at h
    · rename_i k0 k1 k2 k3 n k5 hs
      simp only [Bool.and_eq_true, decide_eq_true_eq] at h
      obtain ⟨rfl, rfl, hb⟩ := h
      have hsl : sl = #[k0, k1, k2, k3, some (.builtin "ValueError.__new__"), k5] := by
        obtain ⟨l⟩ := sl
        simp only at hs
        rw [hs]
      subst hsl
      exact ⟨nm, qn, ns, bs, bm, sn, sub, ab, col, dd, k0, k1, k2, k3, k5, ho, hb⟩
    · cases h
  · cases h
def glX (gl : Gl) : List Str := gl.xs.flatMap fun x => x.fs.map mkS
/-- what the heap must say of one class -/
def exB1 (K : PySem.W.Frag) (gl : Gl) (L : List Df) (ci : Xci) : Bool := xcB K (He.ga K ci.name) (glX gl) && (((List.range gl.xs.length).all fun m => match gl.xs[m]? with
  | some cm => decide (PySem.W.kitOne K (.ref (He.ga K ci.name)) (.ref (He.ga K cm.name)) = some (ci.ups.contains m)) && decide (PySem.W.exmOne K (.ref (He.ga K ci.name)) (.ref (He.ga K cm.name)) = some (ci.ups.contains m))
  | none => true) && (PySem.W.keepIn K (.ref (He.ga K ci.name)) && (decide (PySem.W.subIn K (.ref (He.ga K ci.name)) (.type "BaseException") = some true) && (decide (PySem.W.typeIn K (.ref (He.ga K ci.name)) = some (.type "type")) && (match ci.init with
    | none => PySem.W.excIn K (He.ga K ci.name) PySem.HandSPX.veTail "ValueError.__new__"
    | some j => oexB K (He.ga K ci.name) && (decide (PySem.W.findIn K (.ref (He.ga K ci.name)) "__setattr__" = some (some (.builtin "object.__setattr__"))) && (match L[j]? with
      | some z => decide (PySem.W.findIn K (.ref (He.ga K ci.name)) "__init__" = some (some (.ref (He.fAd K z.at_)))) && decide (PySem.W.typeIn K (.ref (He.fAd K z.at_)) = some (.type "function"))
      | none => false)))))))
def exB (K : PySem.W.Frag) (gl : Gl) (L : List Df) : Bool := gl.xs.all (exB1 K gl L)
/-- what the text must say of one class -/
def xiB (L : List Df) (ci : Xci) : Bool := match ci.init with
  | none => decide (ci.fs = [])
  | some j => match L[j]? with
    | some z => (match z.ps with
      | self :: p :: ps => z.kw.isEmpty && decide (z.N = z.ps) && (decide (initS self (p :: ps) (defBody z.st) = some (ci.fs.map mkS)) && (decide (ci.fs.length = (p :: ps).length) && (z.ps.all okName && (decide ci.fs.Nodup && decide (ps.length ≤ 700)))))
      | _ => false)
    | none => false
/-- the module's dicts -/
def dcts (gl : Gl) : List (Str × List (S × D)) := gl.gl.filterMap fun p => match p.2 with
  | .dict kvs => some (p.1, kvs)
  | _ => none
abbrev AlL : Type := (He.AlD × Bool) × List (Option (List (Option (Str × Int))))
def obsL (gl : Gl) (L : List Df) (K : PySem.W.Frag) : AlL := ((He.obsD (faOf gl) (L.map Df.d) K, glV K (fnL K L) gl && exB K gl L), (dcts gl).map fun t => He.dicW K (He.ga K t.1))
def valL (w : World) (gl : Gl) (L : List Df) : AlL := ((He.valD (L.map Df.d), true), (dcts gl).map fun t => some (He.keysIn w.params (t.2.map fun q => mkS q.1)))
def SaysL (w : World) (gl : Gl) (L : List Df) (K : PySem.W.Frag) : Prop := obsL gl L K = valL w gl L
def obsLG (n : Nat) (gl : Gl) (L : List Df) (g : Addr → Option Obj) : AlL := obsL gl L (He.frG g (He.asD g n))
def hookL (n : Nat) (gl : Gl) (L : List Df) : PySem.W.Hook where
  α := AlL
  obs := fun s => obsLG n gl L s.heap.get?
  val := fun w => valL w gl L
  says := fun w h => ∃ K : PySem.W.Frag, K.In h ∧ SaysL w gl L K
  of := fun _ _ e => ⟨_, He.frG_in, e⟩
  keeps := fun _ _ _ ⟨K, hK, c⟩ k => ⟨K, PySem.W.Frag.In.keeps hK k, c⟩
theorem obsLG_eq {n : Nat} {gl : Gl} {L : List Df} {g : Addr → Option Obj} {s : Shared} (h : ∀ a, g a = s.heap.get? a) : obsLG n gl L g = (hookL n gl L).obs s := by
  have e : g = s.heap.get? := funext h
  rw [e] <;> rfl
theorem SaysL.d {w : World} {gl : Gl} {L : List Df} {K : PySem.W.Frag} (c : SaysL w gl L K) : He.SaysD (faOf gl) (L.map Df.d) K := congrArg (fun z : AlL => z.1.1) c
theorem SaysL.vx {w : World} {gl : Gl} {L : List Df} {K : PySem.W.Frag} (c : SaysL w gl L K) : (glV K (fnL K L) gl && exB K gl L) = true := congrArg (fun z : AlL => z.1.2) c
theorem SaysL.v {w : World} {gl : Gl} {L : List Df} {K : PySem.W.Frag} (c : SaysL w gl L K) : glV K (fnL K L) gl = true := (He.ba c.vx).1
theorem SaysL.x {w : World} {gl : Gl} {L : List Df} {K : PySem.W.Frag} (c : SaysL w gl L K) : exB K gl L = true := (He.ba c.vx).2
theorem SaysL.k {w : World} {gl : Gl} {L : List Df} {K : PySem.W.Frag} (c : SaysL w gl L K) {x : Str} {kvs : List (S × D)} (h : (x, .dict kvs) ∈ gl.gl) : He.dicW K (He.ga K x) = some (He.keysIn w.params (kvs.map fun q => mkS q.1)) := by
  have e : (dcts gl).map (fun t => He.dicW K (He.ga K t.1)) = (dcts gl).map fun t => some (He.keysIn w.params (t.2.map fun q => mkS q.1)) := congrArg (fun z : AlL => z.2) c
  have hm : (x, kvs) ∈ dcts gl := List.mem_filterMap.mpr ⟨_, h, rfl⟩
  obtain ⟨i, hi⟩ := List.getElem?_of_mem hm
  have e2 : ((dcts gl).map fun t => He.dicW K (He.ga K t.1))[i]? = ((dcts gl).map fun t => some (He.keysIn w.params (t.2.map fun q => mkS q.1)))[i]? := by rw [e]
  rw [List.getElem?_map, List.getElem?_map, hi] at e2
  exact Option.some.inj e2
theorem SaysL.fa {w : World} {gl : Gl} {L : List Df} {K : PySem.W.Frag} (c : SaysL w gl L K) {f : He.Fa} (h : f ∈ faOf gl) : f.ok K = true := by
  obtain ⟨i, hi⟩ := List.getElem?_of_mem h
  exact c.d.fact i hi
theorem mkS_inj {s t : S} (h : mkS s = mkS t) : s = t := by
  have := congrArg (fun z : Str => z.cps.toList) h
  exact this
theorem nsIn_miss {K : PySem.W.Frag} {P : Params} {a : Addr} {ks : List Str} {z : Str} (h : He.dicW K a = some (He.keysIn P ks)) (hz : z ∉ ks) : PySem.W.nsIn K a z = some none := by
  unfold He.dicW at h
  split at h
  · rename_i c es n sl hl
    split at h
    · have e := Option.some.inj h
      have hall : ∀ x ∈ es.toList, ∃ k t, x.key = .str k t ∧ k ∈ ks := by
        intro x hx
        have hm : He.keyOf x ∈ es.toList.map He.keyOf := List.mem_map_of_mem hx
        rw [e] at hm
        obtain ⟨k, hk, e2⟩ := List.mem_map.mp hm
        unfold He.keyOf at e2
        split at e2
        · rename_i x1 t1 hq
          have e3 := Option.some.inj e2
          obtain ⟨e4, _⟩ := Prod.mk.inj e3
          exact ⟨x1, t1, hq, e4 ▸ hk⟩
        · cases e2
      unfold PySem.W.nsIn
      rw [hl]
      have h1 : es.toList.find? (·.key.isStr z) = none := by
        rw [List.find?_eq_none]
        intro x hx hs
        obtain ⟨k, t, ek, hk⟩ := hall x hx
        rw [ek] at hs
        have : k = z := by simpa [Value.isStr] using hs
        exact hz (this ▸ hk)
      have h2 : es.toList.any (·.refKey) = false := by
        rw [List.any_eq_false]
        intro x hx hs
        obtain ⟨k, t, ek, hk⟩ := hall x hx
        unfold DictEntry.refKey at hs
        rw [ek] at hs
        cases hs
      simp only [h1, h2]
      rfl
    · cases h
  · cases h
theorem lookup_mem {α : Type} {x : Str} {v : α} : ∀ {l : List (Str × α)}, l.lookup x = some v → (x, v) ∈ l
  | [], h => by cases h
  | (y, w) :: l, h => by
    by_cases e : x = y
    · subst e
      rw [List.lookup_cons_self] at h
      cases h
      exact List.mem_cons_self ..
    · rw [List.lookup_cons] at h
      have : (x == y) = false := beq_eq_false_iff_ne.mpr e
      rw [this] at h
      exact List.mem_cons_of_mem _ (lookup_mem h)
theorem lookup_memS {α : Type} {x : S} {v : α} : ∀ {l : List (S × α)}, l.lookup x = some v → (x, v) ∈ l
  | [], h => by cases h
  | (y, w) :: l, h => by
    by_cases e : x = y
    · subst e
      rw [List.lookup_cons_self] at h
      cases h
      exact List.mem_cons_self ..
    · rw [List.lookup_cons] at h
      have : (x == y) = false := beq_eq_false_iff_ne.mpr e
      rw [this] at h
      exact List.mem_cons_of_mem _ (lookup_memS h)
theorem lookup_noneS {α : Type} {x : S} : ∀ {l : List (S × α)}, l.lookup x = none → ∀ q ∈ l, q.1 ≠ x
  | [], _, q, hq, _ => by simp at hq
  | (y, w) :: l, h, q, hq, e => by
    rw [List.lookup_cons] at h
    cases hb : (x == y) with
    | true => rw [hb] at h; cases h
    | false =>
      rw [hb] at h
      rcases List.mem_cons.mp hq with z | z
      · subst z
        have := beq_eq_false_iff_ne.mp hb
        exact this e.symm
      · exact lookup_noneS h q z e
def wdOf (w : World) (K : PySem.W.Frag) (L : List Df) (gl : Gl) : Wb := ⟨K, fnL K L, fun n => (gl.cl[n]?).map fun c => He.ga K c.name, fun n => (gl.xs[n]?).map fun c => He.ga K c.name, w⟩
section
variable {P : Program} {w : World} {K : PySem.W.Frag} {mg : Str → Option Value} {base : Heap} {gl : Gl} {L : List Df} {n : Nat} {Q : List Fn}
theorem call_len {Q : List Fn} {L : List Df} {gl : Gl} {n : Nat} (hc : compile n gl L = some Q) {i : Nat} {x : Df} (hi : L[i]? = some x) (k : Nat) (ds : List D) (st : Store) (hl : ds.length ≠ x.ps.length) : call Q k i ds st = .bad := by
  cases k with
  | zero => rfl
  | succ k =>
    obtain ⟨_, h2⟩ := mapM_some hc
    obtain ⟨f, h3, h4⟩ := h2 i x hi
    obtain ⟨b, hb, rfl⟩ := map_some h4
    unfold call
    rw [h3]
    unfold chk
    simp only
    rw [if_neg hl]
theorem exE_ok (h : exB K gl L = true) (n' : Nat) (C' : Addr) (hn : (wdOf w K L gl).E n' = some C') : ∃ ci, gl.xs[n']? = some ci ∧ XcK K C' (glX gl) ∧ ∀ m cm Cm, gl.xs[m]? = some cm → (wdOf w K L gl).E m = some Cm → PySem.W.kitOne K (.ref C') (.ref Cm) = some (ci.ups.contains m) ∧ PySem.W.exmOne K (.ref C') (.ref Cm) = some (ci.ups.contains m) := by
  obtain ⟨ci, h1, h2⟩ := Option.map_eq_some_iff.mp (show (gl.xs[n']?).map (fun c => He.ga K c.name) = some C' from hn)
  subst h2
  have q := List.all_eq_true.mp h _ (List.mem_of_getElem? h1)
  unfold exB1 at q
  simp only [Bool.and_eq_true] at q
  obtain ⟨q1, q2, _⟩ := q
  refine ⟨ci, h1, xcB_ok q1, fun m cm Cm h3 h4 => ?_⟩
  obtain ⟨cm', h5, h6⟩ := Option.map_eq_some_iff.mp (show (gl.xs[m]?).map (fun c => He.ga K c.name) = some Cm from h4)
  rw [h3] at h5
  cases h5
  subst h6
  have q := List.all_eq_true.mp q2 m (List.mem_range.mpr (List.getElem?_eq_some_iff.mp h3).1)
  rw [h3] at q
  simp only [Bool.and_eq_true, decide_eq_true_eq] at q
  exact q
theorem exM_ok {X : Cx} (c : SaysL w gl L K) (hS : ∀ x ∈ L, scopeQ x.N x.ps (defScope x.st) = true) (hB : ∀ x ∈ L, Binds1 x) {ci : Xci} (hm : ci ∈ gl.xs) (h1 : xiB L ci = true) (h2 : exB1 K gl L ci = true) (hK : X.K = K := by rfl) : XMk X (He.ga K ci.name) ci := by
  unfold exB1 at h2
  simp only [Bool.and_eq_true, decide_eq_true_eq] at h2
  obtain ⟨q1, _, q3, q4, q5, q6⟩ := h2
  unfold XMk
  unfold xiB at h1
  rw [hK]
  cases hi : ci.init with
  | none =>
    rw [hi] at h1 q6
    exact ⟨of_decide_eq_true h1, q6, q3, raises_own (by rw [hK]; exact q4) (by rw [hK]; exact q5)⟩
  | some j =>
    rw [hi] at h1 q6
    dsimp only at h1 q6 ⊢
    simp only [Bool.and_eq_true, decide_eq_true_eq] at q6
    obtain ⟨r1, r2, r3⟩ := q6
    cases hz : L[j]? with
    | none => rw [hz] at h1; cases h1
    | some z =>
      rw [hz] at h1 r3
      simp only [Bool.and_eq_true, decide_eq_true_eq] at r3
      dsimp only at h1
      have T : OexC K (He.ga K ci.name) := oexB_ok r1 r2 q4 q5 q3
      split at h1
      · rename_i self p ps hps
        simp only [Bool.and_eq_true, decide_eq_true_eq, List.all_eq_true] at h1
        obtain ⟨⟨t0, t1⟩, t2, t3, t4, t5, t6⟩ := h1
        obtain ⟨fd, F⟩ := c.d.def_ j (d := z.d) (by rw [List.getElem?_map, hz]; rfl)
        have F : FunD K z.name z.qual (defArgs z.st) (defBody z.st) (defScope z.st) [] [] (He.fAd K z.at_) fd := F
        have hzL := List.mem_of_getElem? hz
        have S := scope_of (hS z hzL)
        have hb := F.bindsN ((hB z hzL).pl (List.isEmpty_iff.mp t0))
        rw [t1, hps] at S
        rw [hps] at hb t4
        refine ⟨T, ⟨t5, by rw [t3]; simp; omega⟩, He.fAd K z.at_, fd, self :: p :: ps, r3.1, r3.2, ?_, hb⟩
        refine init_fn F S T t2 (by rw [List.length_map, t3]) (fun p' hp' => ?_) (fun f hf => ?_) (by omega)
        · obtain ⟨n1, n2, _⟩ := okName_of (t4 p' hp')
          exact ⟨(S.par p' hp').imp id .inl, n1, n2⟩
        · refine (xcB_ok q1).no f ?_
          exact List.mem_flatMap.mpr ⟨ci, hm, hf⟩
      · cases h1
/-- THE TEXT: each def does what the small program's does -/
theorem text_ok (h : Heap) (X : K.In h) (G : h.Ns mainGlobals mg) (c : SaysL w gl L K) (hF : glF L gl = true) (hX : gl.xs.all (xiB L) = true) (hS : ∀ x ∈ L, scopeQ x.N x.ps (defScope x.st) = true) (hB : ∀ x ∈ L, Binds1 x) (hc : compile n gl L = some Q) :
    ∀ k i x, L[i]? = some x → ∃ fd, FunD K x.name x.qual (defArgs x.st) (defBody x.st) (defScope x.st) [] [] (He.fAd K x.at_) fd ∧
      FnG P w K mg base (2 * k + 1) (He.fAd K x.at_) fd x.ps (spF (wdOf w K L gl) (call Q k i) x.ps.length) := by
  intro k
  induction k with
  | zero =>
    intro i x hi
    obtain ⟨fd, F⟩ := c.d.def_ i (d := x.d) (by rw [List.getElem?_map, hi]; rfl)
    refine ⟨fd, F, fun _ _ _ _ z => z.1, fun A outer s H args us vs Q' E hr hg e0 hb hv hs => ?_⟩
    obtain ⟨_, r, ds, st, _, _, z⟩ := hs
    exact z.elim
  | succ k ih =>
    intro i x hi
    obtain ⟨fd, F⟩ := c.d.def_ i (d := x.d) (by rw [List.getElem?_map, hi]; rfl)
    have hm := List.mem_of_getElem? hi
    have S := scope_of (hS x hm)
    have F : FunD K x.name x.qual (defArgs x.st) (defBody x.st) (defScope x.st) [] [] (He.fAd K x.at_) fd := F
    have two : 2 * (k + 1) + 1 = 2 * k + 1 + 1 + 1 := by omega
    rw [two]
    refine ⟨fd, F, fn_g F S (fun _ _ _ _ z => z.1) fun cdv A outer s H vs Q' E hr hgd hs => ?_⟩
    obtain ⟨hl, r, ds, st, sr, rd, p⟩ := hs
    obtain ⟨_, h2⟩ := mapM_some hc
    obtain ⟨f, h3, h4⟩ := h2 i x hi
    obtain ⟨b, hb, rfl⟩ := map_some h4
    have ihF : ∀ j z, L[j]? = some z → z.kw.isEmpty = true → ∃ fd ps, Binds K fd ps [] ∧ FnG P w K mg base (2 * k + 1) (He.fAd K z.at_) fd ps (spF (wdOf w K L gl) (call Q k j) ps.length) ∧ ∀ ds st, ds.length ≠ ps.length → call Q k j ds st = .bad := fun j z hz hkw => by
      obtain ⟨fd', F', ok⟩ := ih j z hz
      exact ⟨fd', z.ps, F'.bindsN ((hB z (List.mem_of_getElem? hz)).pl (List.isEmpty_iff.mp hkw)), ok, fun ds st hl => call_len hc hz k ds st hl⟩
    obtain ⟨hF1, hF2⟩ := He.ba hF
    have hXO : XOk ⟨wdOf w K L gl, E, none⟩ (call Q k) (2 * k + 1) (x.c gl) (cxOf (L2.CX P w) P w K mg base x.N x.qual (defScope x.st) (He.fAd K x.at_) cdv A outer s H E) := by
      refine ⟨fun f hf => ⟨fun n C hC => ?_⟩, fun n j m ci h1 h2 => ?_, fun y n j hy => ?_, rfl, rfl, rfl, S.nd, rfl, S.kind, fun _ => rfl, fun _ => hr, ?_, by omega, ?_, ?_, fun y hy => (by cases hy), fun _ => rfl, hgd, passes_of rfl, fun _ _ => rfl, fun y j hy => ?_, fun y d hy => ?_, fun y hy hn => ?_, takes_of rfl rfl rfl rfl, fun y ds a hy ha => ?_, fun y j m nm hy => ?_, fun i f hf => ?_, fun y kvs hy => ?_⟩
      · obtain ⟨ci, h1, h2⟩ := Option.map_eq_some_iff.mp (show (gl.cl[n]?).map (fun c => He.ga K c.name) = some C from hC)
        subst h2
        have hci := List.mem_of_getElem? h1
        refine ⟨He.cls_ok (c.fa (f := .cls ci.name) ?_), He.noat_ok (c.fa (f := .noat ci.name f) ?_)⟩
        · exact List.mem_append_right _ (List.mem_append_left _ (List.mem_append_right _ (List.mem_flatMap.mpr ⟨ci, hci, List.mem_cons_self ..⟩)))
        · exact List.mem_append_right _ (List.mem_append_left _ (List.mem_append_right _ (List.mem_flatMap.mpr ⟨ci, hci, List.mem_cons_of_mem _ (List.mem_append_left _ (List.mem_map_of_mem hf))⟩)))
      · have hci := List.mem_of_getElem? h1
        have hm := lookup_mem h2
        have q := List.all_eq_true.mp (List.all_eq_true.mp hF2 _ hci) _ hm
        dsimp only at q
        split at q
        · rename_i z hz
          rw [Bool.and_eq_true] at q
          obtain ⟨q, qk⟩ := q
          have q := of_decide_eq_true q
          obtain ⟨fd', ps', g1, g2, g3⟩ := ihF j z hz qk
          rw [q] at g2
          refine ⟨He.ga K ci.name, He.ma K (He.ga K ci.name) m, fd', ps', ?_, He.cls_ok (c.fa (f := .cls ci.name) ?_), He.meth_ok (c.fa (f := .meth ci.name m) ?_), g1, g2, g3⟩
          · show (gl.cl[n]?).map (fun c => He.ga K c.name) = _
            have h1 : gl.cl[n]? = some ci := h1
            rw [h1]
            rfl
          · exact List.mem_append_right _ (List.mem_append_left _ (List.mem_append_right _ (List.mem_flatMap.mpr ⟨ci, hci, List.mem_cons_self ..⟩)))
          · exact List.mem_append_right _ (List.mem_append_left _ (List.mem_append_right _ (List.mem_flatMap.mpr ⟨ci, hci, List.mem_cons_of_mem _ (List.mem_append_right _ (List.mem_map.mpr ⟨_, hm, rfl⟩))⟩)))
        · cases q
      · have q := List.all_eq_true.mp hF1 _ (lookup_mem hy)
        dsimp only at q
        split at q
        · rename_i ci z hci hz
          rw [Bool.and_eq_true, Bool.and_eq_true] at q
          have q1 := of_decide_eq_true q.1
          have q2 := of_decide_eq_true q.2.1
          obtain ⟨fd', ps', g1, g2, g3⟩ := ihF j z hz q.2.2
          rw [q2] at g2
          refine ⟨He.ga K y, He.ma K (He.ga K y) "__init__", fd', ps', He.glo_ok X G (c.fa (f := .glo y) ?_), ?_, He.mkr_ok (c.fa (f := .mkr y) ?_), g1, g2, g3⟩
          · exact List.mem_append_left _ (List.mem_filterMap.mpr ⟨_, lookup_mem hy, rfl⟩)
          · show (gl.cl[n]?).map (fun c => He.ga K c.name) = _
            rw [hci]
            show some (He.ga K ci.name) = _
            rw [q1]
          · exact List.mem_append_right _ (List.mem_append_right _ (List.mem_filterMap.mpr ⟨_, lookup_mem hy, rfl⟩))
        · cases q
      · exact Nat.lt_of_le_of_lt (Nat.le_trans (Nat.add_le_add_left (by omega : 65 ≤ 16 * (2 * k + 1 + 1) + 200) _) (Nat.le_of_eq (Nat.add_assoc _ _ _).symm)) hr.un
      · intro n' C' hn'
        exact exE_ok c.x n' C' hn'
      · intro y n' hy
        have q := List.all_eq_true.mp hF1 _ (lookup_mem hy)
        dsimp only at q
        split at q
        · rename_i ci hci
          have q := of_decide_eq_true q
          have fg := c.fa (f := .glo y) (List.mem_append_left _ (List.mem_filterMap.mpr ⟨_, lookup_mem hy, rfl⟩))
          refine ⟨He.ga K y, ci, He.glo_ok X G fg, ?_, hci, ?_⟩
          · show (gl.xs[n']?).map (fun c => He.ga K c.name) = _
            rw [hci]
            show some (He.ga K ci.name) = _
            rw [q]
          · rw [← q]
            exact exM_ok c hS hB (List.mem_of_getElem? hci) (List.all_eq_true.mp hX _ (List.mem_of_getElem? hci)) (List.all_eq_true.mp c.x _ (List.mem_of_getElem? hci))
        · cases q
      · have q := List.all_eq_true.mp hF1 _ (lookup_mem hy)
        dsimp only at q
        split at q
        · rename_i z hz
          rw [Bool.and_eq_true] at q
          obtain ⟨q, qk⟩ := q
          have q := of_decide_eq_true q
          obtain ⟨fd', F', ok⟩ := ih j z hz
          have fg := c.fa (f := .glo y) (by
            refine List.mem_append_left _ (List.mem_filterMap.mpr ⟨_, lookup_mem hy, rfl⟩))
          have hg := He.glo_ok X G fg
          have ea : He.fAd K z.at_ = He.ga K y := by rw [q]; rfl
          rw [← ea] at hg
          refine ⟨_, fd', z.ps, hg, F'.kp, F'.bindsN ((hB z (List.mem_of_getElem? hz)).pl (List.isEmpty_iff.mp qk)), ok, fun ds st hl => call_len hc hz k ds st hl, ?_⟩
          show fnL K L j = _
          unfold fnL
          rw [hz]
          exact if_pos qk
        · cases q
      · have q := List.all_eq_true.mp c.v _ (lookup_mem hy)
        dsimp only at q
        split at q
        · rename_i u hu
          obtain ⟨v, h1, h2⟩ := dB_ok (W := ⟨wdOf w K L gl, fun _ _ _ => False, none⟩) q
          exact ⟨u, v, PySem.W.mg_of X G hu, h1, h2⟩
        · cases q
      · have fg := c.fa (f := .free y) (by
          refine List.mem_append_right _ (List.mem_append_left _ (List.mem_append_left _ (List.mem_map_of_mem (List.mem_filter.mpr ⟨hy, ?_⟩))))
          rw [Option.isNone_iff_eq_none]
          exact hn)
        exact He.free_ok X G fg
      · have q := List.all_eq_true.mp c.v _ (lookup_mem hy)
        dsimp only at q
        split at q
        · rename_i u hu
          have hmu := PySem.W.mg_of X G hu
          obtain rfl : u = Value.ref a := Option.some.inj (hmu.symm.trans ha)
          exact dB_tup q
        · cases q
      · have q := List.all_eq_true.mp hF1 _ (lookup_mem hy)
        dsimp only at q
        split at q
        · rename_i z hz
          rw [Bool.and_eq_true, Bool.and_eq_true] at q
          have q1 := of_decide_eq_true q.1
          have q2 := of_decide_eq_true q.2.1
          have q3 := of_decide_eq_true q.2.2
          obtain ⟨fd', F', ok⟩ := ih j z hz
          have fg := c.fa (f := .glo y) (List.mem_append_left _ (List.mem_filterMap.mpr ⟨_, lookup_mem hy, rfl⟩))
          have hg := He.glo_ok X G fg
          have ea : He.fAd K z.at_ = He.ga K y := by rw [q1]; rfl
          rw [← ea] at hg
          refine ⟨_, fd', z.ps, hg, F'.kp, kbn_of F' fun kV doc pm an cdv ct us ws l1 l2 => ?_, q3, ok, fun ds st hl => call_len hc hz k ds st hl⟩
          have hk := (hB z (List.mem_of_getElem? hz)).kw (by rw [q2]; simp) kV doc pm an cdv ct us ws (by rw [q2, q3, l1]; simp) (by rw [q2]; exact l2)
          rw [q2] at hk
          exact hk
        · cases q
      · have hf : fnL K L i = some f := hf
        unfold fnL at hf
        cases hz : L[i]? with
        | none => rw [hz] at hf; cases hf
        | some z =>
          rw [hz] at hf
          have hf : (if z.kw.isEmpty = true then some (He.fAd K z.at_) else none) = some f := hf
          by_cases qk : z.kw.isEmpty = true
          · rw [if_pos qk] at hf
            cases hf
            obtain ⟨fd', F', ok⟩ := ih i z hz
            exact ⟨fd', z.ps, F'.kp, F'.bindsN ((hB z (List.mem_of_getElem? hz)).pl (List.isEmpty_iff.mp qk)), ok, fun ds st hl => call_len hc hz k ds st hl⟩
          · rw [if_neg qk] at hf
            cases hf
      · have hm := lookup_mem hy
        have hk := c.k hm
        have fg := c.fa (f := .glo y) (List.mem_append_left _ (List.mem_filterMap.mpr ⟨_, hm, rfl⟩))
        refine ⟨He.ga K y, He.glo_ok X G fg, He.dicW_ok hk, fun s d hd => ?_, fun s hs => ?_⟩
        · have q := List.all_eq_true.mp c.v _ hm
          have q := List.all_eq_true.mp (show kvB K (fnL K L) (He.ga K y) kvs = true from q) _ (lookup_memS hd)
          dsimp only at q
          split at q
          · rename_i u hu
            obtain ⟨v, h1, h2⟩ := dB_ok (W := ⟨wdOf w K L gl, fun _ _ _ => False, none⟩) q
            exact ⟨u, v, hu, h1, h2⟩
          · cases q
        · refine nsIn_miss hk fun hz => ?_
          obtain ⟨q, hq, e⟩ := List.mem_map.mp hz
          have e := mkS_inj e
          exact lookup_noneS hs q hq e
    refine ⟨_, blk_ok (cS_ok n _ _ _ hXO rfl rfl) hb, r, start x.N.length ds, st, ?_, sr, ?_⟩
    · refine ⟨?_, fun j d hjs hj => ?_, fun c' fs ds' hj => ?_⟩
      · unfold L2.start Li.start
        simp [rd.length, xtra]
      rotate_left 1
      · exfalso
        have : (start x.N.length ds)[(L2.start x.N vs).length]? = none := by
          rw [List.getElem?_eq_none_iff]
          unfold L2.start Li.start
          simp [rd.length]
        rw [this] at hj
        cases hj
      · unfold Li.start at hj
        unfold L2.start
        by_cases hj2 : j < ds.length
        · rw [List.getElem?_append_left (by simpa using hj2), List.getElem?_map] at hj
          cases e : ds[j]? with
          | none => rw [e] at hj; cases hj
          | some d' =>
            rw [e] at hj
            cases hj
            obtain ⟨v, h5, h6⟩ := rd.get e
            refine ⟨v, ?_, h6⟩
            rw [List.getElem?_append_left (by rw [List.length_map, ← rd.length]; exact hj2), List.getElem?_map, h5]
            rfl
        · rw [List.getElem?_append_right (by simpa using hj2), List.getElem?_replicate] at hj
          split at hj <;> cases hj
    · have p : Post ⟨wdOf w K L gl, E, none⟩ (RD (wdOf w K L gl)) H r (call Q (k + 1) i ds st) Q' := p
      have hdl : ds.length = x.ps.length := by rw [rd.length]; exact hl
      unfold call at p
      rw [h3] at p
      unfold chk at p
      simp only at p
      rw [if_pos hdl] at p
      cases z : runs (call Q k) b (start x.N.length ds) st with
      | ok fl st' =>
        rw [bnd_ok z] at p
        cases fl with
        | next e => exact fun H' r' s' l s2 e2 => p H' r' .non l s2 .non
        | ret d => exact p
        | brk e => exact p.elim
        | cnt e => exact p.elim
      | ex y st' => rw [bnd_ex z] at p; exact p
      | bad => rw [bnd_bad z] at p; exact p.elim
theorem same_fn {x : Str} {qual : Str} {params : Arguments} {body : List Stmt} {scope : Scope} {dvs : List V} {kws : List (Str × V)} {f : Addr} {fd fd' : FuncData} (a : FunD K x qual params body scope dvs kws f fd) (b : FunD K x qual params body scope dvs kws f fd') : fd = fd' := by
  obtain ⟨oc, od, dV, kV, doc, pm, an, cdv, ct, osl, _, lk, _⟩ := a.ex
  obtain ⟨oc', od', dV', kV', doc', pm', an', cdv', ct', osl', _, lk', _⟩ := b.ex
  rw [lk] at lk'
  cases lk'
  rfl
/-- THE LAW'S CALL -/
theorem law_post {i k : Nat} {H : Hp} {a : Addr} {ns : List Int} (hO : Only H) (hS : SqL K H a (ns.map V.int)) (hl : ∃ st, call Q k i [.ro (ns.map .int)] [] = .ok (.bl true) st) :
    spF (wdOf w K L gl) (call Q k i) 1 [.ref a] H (fun v _ => v = .bl true) fun _ _ _ => False := by
  have hF : SqF K H a (ns.map V.int) := by
    rcases hS with (h | ⟨o, h⟩) | h
    · rcases hO a with z | ⟨o, xs, z⟩
      · rw [h] at z; cases z
      · rw [h] at z; cases z
    · exact .inl ⟨o, h⟩
    · exact .inr h
  have hR : ∀ ns : List Int, RDs (wdOf w K L gl) H [] (ns.map .int) (ns.map V.int) := by
    intro ns
    induction ns with
    | nil => exact .nil
    | cons n ns ih => exact .cons (.int n) ih
  obtain ⟨st, e⟩ := hl
  refine ⟨rfl, [], [.ro (ns.map .int)], [], ⟨rfl, List.nodup_nil, fun n a o h1 h2 => by simp at h1⟩, .cons (.ro hF (hR ns)) .nil, ?_⟩
  rw [e]
  intro H' r' u l s rd
  cases rd
  rfl
end
end Li
namespace Li
/-- what is wished where an exception comes out -/
class Exw where
  X : Xn → Store → Prop
/-- none may come out -/
@[reducible] def noX : Exw := ⟨fun _ _ => False⟩
instance (priority := low) instNoX : Exw := noX
/-- it ends well, and so -/
def wpR [Exw] {α : Type} (x : R α) (Q : α → Store → Prop) : Prop := match x with
  | .ok a st' => Q a st'
  | .ex x st' => Exw.X x st'
  | .bad => False
structure wp [Exw] {α : Type} (m : M α) (Q : α → Store → Prop) (st : Store) : Prop where
  val : wpR (m st) Q
section
variable [Exw] {α β : Type} {st st' : Store}
theorem wp_def {m : M α} {Q : α → Store → Prop} : wp m Q st = wpR (m st) Q := propext ⟨fun h => h.val, fun h => ⟨h⟩⟩
theorem wp_fn {m : M α} {Q : α → Store → Prop} : wp m Q st = match m st with
  | .ok a st' => Q a st'
  | .ex x st' => Exw.X x st'
  | .bad => False := wp_def
theorem wp_ok {m : M α} {Q : α → Store → Prop} {a : α} (h : m st = .ok a st') : wp m Q st = Q a st' := by
  rw [wp_fn]
  rw [h]
theorem wp_iff {m : M α} {Q : α → Store → Prop} : @wp noX α m Q st ↔ ∃ a st', m st = .ok a st' ∧ Q a st' := by
  rw [@wp_fn noX]
  cases h : m st with
  | ok a s => exact ⟨fun q => ⟨a, s, rfl, q⟩, fun ⟨_, _, e, q⟩ => by cases e; exact q⟩
  | ex x s => exact ⟨fun q => False.elim q, fun ⟨_, _, e, q⟩ => by cases e⟩
  | bad => exact ⟨fun q => False.elim q, fun ⟨_, _, e, q⟩ => by cases e⟩
theorem wp_out {m : M α} {Q : α → Store → Prop} : @wp noX α m Q st → ∃ a st', m st = .ok a st' ∧ Q a st' := wp_iff.mp
theorem wp_mono {m : M α} {Q Q' : α → Store → Prop} (h : wp m Q st) (q : ∀ a s, Q a s → Q' a s) : wp m Q' st := by
  rw [wp_fn] at h ⊢
  cases e : m st with
  | ok a s => rw [e] at h; exact q a s h
  | ex x s => rw [e] at h; exact h
  | bad => rw [e] at h; exact h
/-- both wishes may be weakened -/
theorem wp_mono2 {E E' : Exw} {m : M α} {Q Q' : α → Store → Prop} (h : @wp E α m Q st) (q : ∀ a s, Q a s → Q' a s) (q2 : ∀ x s, E.X x s → E'.X x s) : @wp E' α m Q' st := by
  rw [@wp_fn E] at h
  rw [@wp_fn E']
  cases e : m st with
  | ok a s => rw [e] at h; exact q a s h
  | ex x s => rw [e] at h; exact q2 x s h
  | bad => rw [e] at h; exact h
theorem wp_noX {E : Exw} {m : M α} {Q : α → Store → Prop} (h : @wp noX α m Q st) : @wp E α m Q st := wp_mono2 h (fun _ _ z => z) fun _ _ z => False.elim z
theorem wp_calm {E : Exw} {m : M α} {Q : α → Store → Prop} : @wp E α (calm m) Q st = @wp noX α m Q st := by
  rw [wp_fn, @wp_fn noX]
  unfold calm
  cases m st <;> rfl
@[simp ↓] theorem wp_calm0 {m : M α} {Q : α → Store → Prop} : @wp noX α (calm m) Q st = @wp noX α m Q st := wp_calm
@[simp ↓] theorem wp_bnd {m : M α} {f : α → M β} {Q : β → Store → Prop} : wp (bnd m f) Q st = wp m (fun a s => wp (f a) Q s) st := by
  rw [wp_fn, wp_fn]; unfold bnd
  cases m st with
  | ok a s => exact wp_fn.symm
  | ex x s => rfl
  | bad => rfl
@[simp ↓] theorem wp_ret {a : α} {Q : α → Store → Prop} : wp (ret a) Q st = Q a st := by rw [wp_fn]; rfl
theorem wp_bad {Q : α → Store → Prop} : wp (bad : M α) Q st = False := by
  rw [wp_fn]
  rfl
theorem wp_in_ret {a : α} {Q : α → Store → Prop} (h : Q a st) : wp (ret a) Q st := by
  rw [wp_ret]
  exact h
@[simp ↓] theorem wp_chk {c : Prop} [Decidable c] {m : M α} {Q : α → Store → Prop} : wp (chk c m) Q st = (c ∧ wp m Q st) := by
  rw [wp_fn, wp_fn]; unfold chk
  by_cases h : c <;> simp [h]
@[simp ↓] theorem wp_ofO {o : Option α} {Q : α → Store → Prop} : wp (ofO o) Q st = (∃ a, o = some a ∧ Q a st) := by
  cases o with
  | none => simp [ofO, wp_fn, bad]
  | some a => simp [ofO, wp_fn, ret]
/-- the list by its number -/
def lk (st : Store) (n : Nat) : Option (List D) := match st[n]? with
  | some (.lst xs) => some xs
  | _ => none
/-- the instance by its number -/
def li (st : Store) (n : Nat) : Option (Nat × List (S × D)) := match st[n]? with
  | some (.ins c fs) => some (c, fs)
  | _ => none
theorem li_lt {n : Nat} {p : Nat × List (S × D)} (h : li st n = some p) : n < st.length := by
  unfold li at h
  split at h
  · rename_i e
    exact (List.getElem?_eq_some_iff.mp e).1
  · cases h
theorem li_of {n c : Nat} {fs : List (S × D)} (h : st[n]? = some (.ins c fs)) : li st n = some (c, fs) := by
  unfold li
  rw [h]
theorem li_at {n c : Nat} {fs : List (S × D)} (h : li st n = some (c, fs)) : st[n]? = some (.ins c fs) := by
  unfold li at h
  split at h
  · rename_i e
    cases h
    exact e
  · cases h
@[simp] theorem li_new {c : Nat} {fs : List (S × D)} : li (st ++ [.ins c fs]) st.length = some (c, fs) := li_of (by simp)
theorem li_old {n : Nat} {p : Nat × List (S × D)} {t : Store} (h : li st n = some p) : li (st ++ t) n = some p := by
  obtain ⟨c, fs⟩ := p
  exact li_of (by
    rw [List.getElem?_append_left (li_lt h)]
    exact li_at h)
theorem li_same {n c : Nat} {fs : List (S × D)} (h : n < st.length) : li (st.set n (.ins c fs)) n = some (c, fs) := li_of (List.getElem?_set_self h)
theorem li_else {n m : Nat} {o : O} (h : n ≠ m) : li (st.set n o) m = li st m := by
  unfold li
  rw [List.getElem?_set_ne h]
theorem li_lk {n : Nat} {p : Nat × List (S × D)} {xs : List D} (h : li st n = some p) (h2 : lk st n = some xs) : False := by
  obtain ⟨c, fs⟩ := p
  have e := li_at h
  unfold lk at h2
  rw [e] at h2
  cases h2
@[simp ↓] theorem wp_getF {n : Nat} {Q : Nat × List (S × D) → Store → Prop} : wp (getF n) Q st = ((li st n).isSome = true ∧ Q ((li st n).getD (0, [])) st) := by
  rw [wp_fn]; unfold getF li
  cases st[n]? with
  | none => simp
  | some o => cases o <;> simp
theorem lk_lt {n : Nat} {xs : List D} (h : lk st n = some xs) : n < st.length := by
  unfold lk at h
  split at h
  · rename_i e
    exact (List.getElem?_eq_some_iff.mp e).1
  · cases h
theorem lk_at {n : Nat} {xs : List D} (h : lk st n = some xs) : st[n]? = some (.lst xs) := by
  unfold lk at h
  split at h
  · rename_i e
    cases h
    exact e
  · cases h
theorem lk_of {n : Nat} {xs : List D} (h : st[n]? = some (.lst xs)) : lk st n = some xs := by
  unfold lk
  rw [h]
@[simp] theorem lk_new {xs : List D} : lk (st ++ [.lst xs]) st.length = some xs := lk_of (by simp)
theorem lk_old {n : Nat} {xs : List D} {t : Store} (h : lk st n = some xs) : lk (st ++ t) n = some xs := lk_of (by
  rw [List.getElem?_append_left (lk_lt h)]
  exact lk_at h)
theorem lk_same {n : Nat} {xs : List D} (h : n < st.length) : lk (st.set n (.lst xs)) n = some xs := lk_of (List.getElem?_set_self h)
theorem lk_else {n m : Nat} {o : O} (h : n ≠ m) : lk (st.set n o) m = lk st m := by
  unfold lk
  rw [List.getElem?_set_ne h]
/-- the dict by its number -/
def dk (st : Store) (n : Nat) : Option (List (K × D)) := match st[n]? with
  | some (.dic kvs) => some kvs
  | _ => none
theorem dk_at {n : Nat} {kvs : List (K × D)} (h : dk st n = some kvs) : st[n]? = some (.dic kvs) := by
  unfold dk at h
  split at h
  · rename_i e
    cases h
    exact e
  · cases h
theorem dk_of {n : Nat} {kvs : List (K × D)} (h : st[n]? = some (.dic kvs)) : dk st n = some kvs := by
  unfold dk
  rw [h]
theorem dk_lt {n : Nat} {kvs : List (K × D)} (h : dk st n = some kvs) : n < st.length := (List.getElem?_eq_some_iff.mp (dk_at h)).1
@[simp] theorem dk_new {kvs : List (K × D)} : dk (st ++ [.dic kvs]) st.length = some kvs := dk_of (by simp)
theorem dk_old {n : Nat} {kvs : List (K × D)} {t : Store} (h : dk st n = some kvs) : dk (st ++ t) n = some kvs := dk_of (by
  rw [List.getElem?_append_left (dk_lt h)]
  exact dk_at h)
theorem dk_same {n : Nat} {kvs : List (K × D)} (h : n < st.length) : dk (st.set n (.dic kvs)) n = some kvs := dk_of (List.getElem?_set_self h)
theorem dk_else {n m : Nat} {o : O} (h : n ≠ m) : dk (st.set n o) m = dk st m := by
  unfold dk
  rw [List.getElem?_set_ne h]
@[simp ↓] theorem wp_getM {n : Nat} {Q : List (K × D) → Store → Prop} : wp (getM n) Q st = ((dk st n).isSome = true ∧ Q ((dk st n).getD []) st) := by
  rw [wp_fn]; unfold getM dk
  cases h : st[n]? with
  | none => simp
  | some o => cases o <;> simp
/-- the set of nested tuples by its number -/
def nk (st : Store) (n : Nat) : Option (List PySem.NestedKey) := match st[n]? with
  | some (.nst ks) => some ks
  | _ => none
theorem nk_at {n : Nat} {ks : List PySem.NestedKey} (h : nk st n = some ks) : st[n]? = some (.nst ks) := by
  unfold nk at h
  split at h
  · rename_i e
    cases h
    exact e
  · cases h
theorem nk_of {n : Nat} {ks : List PySem.NestedKey} (h : st[n]? = some (.nst ks)) : nk st n = some ks := by
  unfold nk
  rw [h]
theorem nk_lt {n : Nat} {ks : List PySem.NestedKey} (h : nk st n = some ks) : n < st.length := (List.getElem?_eq_some_iff.mp (nk_at h)).1
@[simp] theorem nk_new {ks : List PySem.NestedKey} : nk (st ++ [.nst ks]) st.length = some ks := nk_of (by simp)
theorem nk_old {n : Nat} {ks : List PySem.NestedKey} {t : Store} (h : nk st n = some ks) : nk (st ++ t) n = some ks := nk_of (by
  rw [List.getElem?_append_left (nk_lt h)]
  exact nk_at h)
theorem nk_same {n : Nat} {ks : List PySem.NestedKey} (h : n < st.length) : nk (st.set n (.nst ks)) n = some ks := nk_of (List.getElem?_set_self h)
theorem nk_else {n m : Nat} {o : O} (h : n ≠ m) : nk (st.set n o) m = nk st m := by
  unfold nk
  rw [List.getElem?_set_ne h]
@[simp ↓] theorem wp_getN {n : Nat} {Q : List PySem.NestedKey → Store → Prop} : wp (getN n) Q st = ((nk st n).isSome = true ∧ Q ((nk st n).getD []) st) := by
  rw [wp_fn]; unfold getN nk
  cases h : st[n]? with
  | none => simp
  | some o => cases o <;> simp
@[simp ↓] theorem wp_getL {n : Nat} {Q : List D → Store → Prop} : wp (getL n) Q st = ((lk st n).isSome = true ∧ Q ((lk st n).getD []) st) := by
  rw [wp_fn]; unfold getL lk
  cases st[n]? with
  | none => simp
  | some o => cases o <;> simp
theorem wp_getL' {n : Nat} {xs : List D} {Q : List D → Store → Prop} (h : lk st n = some xs) : wp (getL n) Q st = Q xs st := by
  rw [wp_getL, h]
  simp
@[simp ↓] theorem wp_setO {n : Nat} {o : O} {Q : Unit → Store → Prop} : wp (setO n o) Q st = (n < st.length ∧ Q () (st.set n o)) := by
  rw [wp_fn]; unfold setO
  by_cases h : n < st.length <;> simp [h]
@[simp ↓] theorem wp_newO {o : O} {Q : D → Store → Prop} : wp (newO o) Q st = Q (.ob st.length) (st ++ [o]) := by rw [wp_fn]; rfl
@[simp ↓] theorem wp_if {c : Bool} {m m' : M α} {Q : α → Store → Prop} : wp (if c = true then m else m') Q st = if c = true then wp m Q st else wp m' Q st := by
  cases c <;> rfl
@[simp] theorem op_add {i j : Int} : binop .add (.int i) (.int j) = ret (.int (i + j)) := rfl
@[simp] theorem op_adds {s t : S} : binop .add (.str s) (.str t) = chk (s.length + t.length ≤ LINE) (ret (.str (s ++ t))) := rfl
@[simp] theorem op_addt {s t : List D} : binop .add (.tup s) (.tup t) = chk (s.length + t.length ≤ LINE) (ret (.tup (s ++ t))) := rfl
@[simp] theorem op_addl {a b : Nat} : binop .add (.ob a) (.ob b) = bnd (getL a) fun xs => bnd (getL b) fun ys => chk (xs.length + ys.length ≤ LINE) (newO (.lst (xs ++ ys))) := rfl
@[simp] theorem op_sub {i j : Int} : binop .sub (.int i) (.int j) = ret (.int (i - j)) := rfl
@[simp] theorem op_mul {i j : Int} : binop .mul (.int i) (.int j) = chk ((-SMALL < i ∧ i < SMALL) ∨ (-SMALL < j ∧ j < SMALL) ∨ i.natAbs.log2 + j.natAbs.log2 < 1000000) (ret (.int (i * j))) := rfl
theorem op_fdivN {i j : Int} : binop .fdiv (.int i) (.int j) = chk (j ≠ 0 ∧ j.natAbs.log2 < 9000) (ret (.int (i.fdiv j))) := rfl
theorem op_modN {i j : Int} : binop .mod (.int i) (.int j) = chk (j ≠ 0) (ret (.int (i.fmod j))) := rfl
@[simp] theorem op_fdiv {i j : Int} (h : 0 < j) : binop .fdiv (.int i) (.int j) = chk (0 < j ∧ j.natAbs.log2 < 9000) (ret (.int (i / j))) := by
  rw [op_fdivN, Int.fdiv_eq_ediv_of_nonneg i (by omega)]
  have : (j ≠ 0 ∧ j.natAbs.log2 < 9000) = (0 < j ∧ j.natAbs.log2 < 9000) := by
    apply propext
    constructor
    · exact fun q => ⟨h, q.2⟩
    · exact fun q => ⟨by omega, q.2⟩
  unfold chk
  simp only [this]
@[simp] theorem op_mod {i j : Int} (h : 0 < j) : binop .mod (.int i) (.int j) = chk (0 < j) (ret (.int (i % j))) := by
  rw [op_modN, Int.fmod_eq_emod_of_nonneg i (by omega)]
  have : (j ≠ 0) = (0 < j) := propext ⟨fun _ => h, fun _ => by omega⟩
  unfold chk
  simp only [this]
@[simp] theorem op_mult {xs : List D} {n : Int} : binop .mul (.tup xs) (.int n) = chk (-SMALL2 < n ∧ n ≤ 1000 ∧ xs.length ≤ 1000) (ret (.tup (List.replicate n.toNat xs).flatten)) := rfl
@[simp] theorem bi_min {i j : Int} : built .min [.int i, .int j] = ret (.int (if j < i then j else i)) := rfl
@[simp] theorem bi_max {i j : Int} : built .max [.int i, .int j] = ret (.int (if j > i then j else i)) := rfl
@[simp] theorem bi_strb {b : Bool} : built .str [.bl b] = ret (.str (boolS b)) := rfl
@[simp] theorem bi_strs {s : S} : built .str [.str s] = ret (.str s) := rfl
@[simp ↓] theorem bi_str {i : Int} {Q : D → Store → Prop} : wp (built .str [.int i]) Q st = (okS (.int i) = true ∧ Q (.str (shS (.int i))) st) := by
  rw [wp_fn]
  unfold built
  by_cases h : okS (.int i) = true <;> simp [h]
@[simp] theorem ag_add {i j : Int} : augop .add (.int i) (.int j) = ret (.int (i + j)) := rfl
@[simp] theorem ag_adds {s t : S} : augop .add (.str s) (.str t) = chk (s.length + t.length ≤ LINE) (ret (.str (s ++ t))) := rfl
@[simp] theorem ag_sub {i j : Int} : augop .sub (.int i) (.int j) = ret (.int (i - j)) := rfl
@[simp] theorem ag_mul {i j : Int} : augop .mul (.int i) (.int j) = chk ((-SMALL < i ∧ i < SMALL) ∨ (-SMALL < j ∧ j < SMALL)) (ret (.int (i * j))) := rfl
@[simp] theorem fo_ob {n : Nat} {f : S} : fldOf f (.ob n) = bnd (getF n) fun p => ofO (p.2.lookup f) := rfl
@[simp] theorem co_ob {n : Nat} : clsOf (.ob n) = bnd (getF n) fun p => ret p.1 := rfl
@[simp] theorem pf_ob {n : Nat} {f : S} {d : D} : putFld f d (.ob n) = bnd (getF n) fun p => chk (p.2.length < 1000) (setO n (.ins p.1 (putF f d p.2))) := rfl
theorem ic_ob {n c : Nat} {m : S} : isC c m (.ob n) = bnd (getF n) fun p => chk (p.1 = c ∧ p.2.lookup m = none) (ret ()) := rfl
/-- the n-th thing is an instance of the class c, without a field m -/
def isCls (st : Store) (n c : Nat) (m : S) : Prop := ∃ fs, li st n = some (c, fs) ∧ fs.lookup m = none
theorem isCls_of {n c : Nat} {m : S} {fs : List (S × D)} (h : li st n = some (c, fs)) (h2 : fs.lookup m = none) : isCls st n c m := ⟨fs, h, h2⟩
@[simp ↓] theorem wp_isC {n c : Nat} {m : S} {Q : Unit → Store → Prop} : wp (isC c m (.ob n)) Q st = (isCls st n c m ∧ Q () st) := by
  rw [ic_ob]
  simp only [wp_bnd, wp_getF, wp_chk, wp_ret]
  apply propext
  unfold isCls
  constructor
  · rintro ⟨h1, ⟨h2, h3⟩, h4⟩
    obtain ⟨⟨c', fs⟩, e⟩ := Option.isSome_iff_exists.mp h1
    rw [e] at h2 h3
    have h2 : c' = c := h2
    subst h2
    exact ⟨⟨fs, e, h3⟩, h4⟩
  · rintro ⟨⟨fs, h1, h2⟩, h3⟩
    rw [h1]
    exact ⟨rfl, ⟨rfl, h2⟩, h3⟩
@[simp] theorem no_non : nonOnly .non = ret () := rfl
@[simp] theorem un_tup {is : List Nat} {xs : List D} {env : Env} : unpack is (.tup xs) env = chk (xs.length = is.length) (ret (setAll is xs env)) := rfl
@[simp] theorem op_pow {i j : Int} : binop .pow (.int i) (.int j) = chk (0 ≤ j ∧ j ≤ 1000000 ∧ (i.natAbs < 2 ^ 64 ∨ (j ≤ 10 ∧ i.natAbs.log2 < 1000))) (ret (.int (i ^ j.toNat))) := rfl
@[simp] theorem tr_non : truth .non = ret false := rfl
@[simp] theorem tr_bl {b : Bool} : truth (.bl b) = ret b := rfl
@[simp] theorem tr_int {i : Int} : truth (.int i) = ret (i != 0) := rfl
@[simp] theorem tr_str {s : S} : truth (.str s) = ret (!s.isEmpty) := rfl
@[simp] theorem tr_tup {s : List D} : truth (.tup s) = ret (!s.isEmpty) := rfl
@[simp] theorem tr_ro {s : List D} : truth (.ro s) = ret (!s.isEmpty) := rfl
@[simp] theorem tr_ob {n : Nat} : truth (.ob n) = bnd (getL n) fun xs => ret (!xs.isEmpty) := rfl
@[simp] theorem rw_tup {xs : List D} : rowOf (.tup xs) = ret xs := rfl
@[simp] theorem rw_ro {xs : List D} : rowOf (.ro xs) = ret xs := rfl
@[simp] theorem rw_ob {n : Nat} : rowOf (.ob n) = getL n := rfl
@[simp] theorem bi_lens {s : S} : built .len [.str s] = ret (.int s.length) := rfl
@[simp] theorem bi_lent {s : List D} : built .len [.tup s] = ret (.int s.length) := rfl
@[simp] theorem bi_lenr {s : List D} : built .len [.ro s] = ret (.int s.length) := rfl
@[simp] theorem bi_lenl {n : Nat} : built .len [.ob n] = bnd (getL n) fun xs => ret (.int xs.length) := rfl
@[simp] theorem bi_int {i : Int} : built .int [.int i] = ret (.int i) := rfl
@[simp] theorem bi_intb {i : Bool} : built .int [.bl i] = ret (.int (if i then 1 else 0)) := rfl
@[simp] theorem bi_abs {i : Int} : built .abs [.int i] = ret (.int (if i < 0 then -i else i)) := rfl
@[simp] theorem bi_list {d : D} : built .list [d] = bnd (rowOf d) fun xs => newO (.lst xs) := rfl
@[simp] theorem bi_tuple {d : D} : built .tuple [d] = bnd (rowOf d) fun xs => ret (.tup xs) := rfl
@[simp] theorem op_muls {s : S} {n : Int} : binop .mul (.str s) (.int n) = chk (-SMALL2 < n ∧ n < SMALL2 ∧ s.length * n.toNat ≤ LINE) (ret (.str (List.replicate n.toNat s).flatten)) := rfl
@[simp] theorem bi_ints {s : S} : built .int [.str s] = chk (s.length ≤ 640) (bnd (ofO (PySem.intText? ⟨s.toArray⟩)) fun i => ret (.int i)) := rfl
theorem wp_repr {d x : D} {Q : D → Store → Prop} (h : res st DEEP d = some x) (ho : okS x = true) : wp (built .repr [d]) Q st = Q (.str (shS x)) st := by
  have e : built .repr [d] st = R.ok (D.str (shS x)) st := by
    show (match res st DEEP d with
      | some x => if okS x = true then R.ok (D.str (shS x)) st else R.bad
      | none => R.bad) = _
    rw [h]
    simp [ho]
  exact wp_ok e
@[simp ↓] theorem bi_isi {d : D} {t : Ty} {Q : D → Store → Prop} : wp (built .isi [d, .ty t]) Q st = (kinded st d = true ∧ Q (.bl (isTy st d t)) st) := by
  rw [wp_fn]; unfold built
  by_cases h : kinded st d = true <;> simp [h]
@[simp] theorem mt_app {n : Nat} {d : D} : meth .append (.ob n) [d] = bnd (getL n) fun xs => chk (xs.length < LINE) (bnd (setO n (.lst (xs ++ [d]))) fun _ => ret .non) := rfl
@[simp] theorem mt_pop {n : Nat} : meth .pop (.ob n) [] = bnd (getL n) fun xs => bnd (ofO (xs[xs.length - 1]?)) fun d => bnd (setO n (.lst xs.dropLast)) fun _ => ret d := rfl
@[simp] theorem mt_popi {n : Nat} {i : Int} : meth .pop (.ob n) [.int i] = chk (inBig i) (bnd (getL n) fun xs => bnd (ofO (ixN xs.length i)) fun j => bnd (ofO (xs[j]?)) fun d => bnd (setO n (.lst (xs.eraseIdx j))) fun _ => ret d) := rfl
@[simp] theorem km_app {n : Nat} : kindM .append (.ob n) = bnd (getL n) fun _ => ret () := rfl
@[simp] theorem km_pop {n : Nat} : kindM .pop (.ob n) = bnd (getL n) fun _ => ret () := rfl
@[simp] theorem km_extend {n : Nat} : kindM .extend (.ob n) = bnd (getL n) fun _ => ret () := rfl
@[simp] theorem km_reverse {n : Nat} : kindM .reverse (.ob n) = bnd (getL n) fun _ => ret () := rfl
@[simp] theorem km_insert {n : Nat} : kindM .insert (.ob n) = bnd (getL n) fun _ => ret () := rfl
@[simp] theorem km_clear {n : Nat} : kindM .clear (.ob n) = bnd (getL n) fun _ => ret () := rfl
@[simp] theorem km_split {s : S} : kindM .split (.str s) = ret () := rfl
@[simp] theorem km_join {s : S} : kindM .join (.str s) = ret () := rfl
@[simp] theorem km_startswith {s : S} : kindM .startswith (.str s) = ret () := rfl
@[simp] theorem km_endswith {s : S} : kindM .endswith (.str s) = ret () := rfl
@[simp] theorem km_find {s : S} : kindM .find (.str s) = ret () := rfl
@[simp] theorem km_isdigit {s : S} : kindM .isdigit (.str s) = ret () := rfl
@[simp] theorem km_upper {s : S} : kindM .upper (.str s) = ret () := rfl
@[simp] theorem km_lower {s : S} : kindM .lower (.str s) = ret () := rfl
@[simp] theorem km_strip {s : S} : kindM .strip (.str s) = ret () := rfl
@[simp] theorem mt_ext {n m : Nat} : meth .extend (.ob n) [.ob m] = bnd (getL n) fun xs => bnd (getL m) fun ys => chk (xs.length + ys.length ≤ LINE) (bnd (setO n (.lst (xs ++ ys))) fun _ => ret .non) := rfl
@[simp] theorem mt_rev {n : Nat} : meth .reverse (.ob n) [] = bnd (getL n) fun xs => bnd (setO n (.lst xs.reverse)) fun _ => ret .non := rfl
@[simp] theorem mt_clr {n : Nat} : meth .clear (.ob n) [] = bnd (getL n) fun _ => bnd (setO n (.lst [])) fun _ => ret .non := rfl
@[simp] theorem mt_ins {n : Nat} {i : Int} {d : D} : meth .insert (.ob n) [.int i, d] = chk (0 ≤ i ∧ inBig i) (bnd (getL n) fun xs => chk (xs.length < LINE) (bnd (setO n (.lst (xs.take i.toNat ++ [d] ++ xs.drop i.toNat))) fun _ => ret .non)) := rfl
@[simp] theorem mt_words {s : S} : meth .split (.str s) [] = chk (s.length + 2 ≤ LINE ∧ (wordsS s).all okC = true) (newO (.lst ((wordsS s).map .str))) := rfl
@[simp] theorem mt_split1 {s t : S} : meth .split (.str s) [.str t] = chk (t ≠ [] ∧ s.length + 2 ≤ LINE ∧ (splitS s t).all okC = true) (newO (.lst ((splitS s t).map .str))) := rfl
@[simp] theorem mt_join1 {s : S} {d : D} : meth .join (.str s) [d] = bnd (rowOf d) fun xs => bnd (ofO (strsOf xs)) fun ys => chk ((ys.map (·.length)).sum + ys.length * s.length ≤ LINE) (ret (.str (joinS s ys))) := rfl
@[simp] theorem mt_sw {s t : S} : meth .startswith (.str s) [.str t] = ret (.bl (PySem.Txt.startswith (mkS s) (mkS t))) := rfl
@[simp] theorem mt_ew {s t : S} : meth .endswith (.str s) [.str t] = ret (.bl (PySem.Txt.endswith (mkS s) (mkS t))) := rfl
@[simp] theorem mt_fnd {s t : S} : meth .find (.str s) [.str t] = ret (.int (PySem.Txt.find (mkS s) (mkS t))) := rfl
@[simp] theorem mt_isd {s : S} : meth .isdigit (.str s) [] = ret (.bl (PySem.Txt.isdigit (mkS s))) := rfl
@[simp] theorem mt_up {s : S} : meth .upper (.str s) [] = chg PySem.Txt.upper s := rfl
@[simp] theorem mt_lo {s : S} : meth .lower (.str s) [] = chg PySem.Txt.lower s := rfl
@[simp] theorem mt_st {s : S} : meth .strip (.str s) [] = chg PySem.Txt.strip s := rfl
@[simp] theorem km_index {s : S} : kindM .index (.str s) = ret () := rfl
@[simp] theorem mt_index1 {s t : S} : meth .index (.str s) [.str t] = bnd (ofO (idxS s t)) fun i => ret (.int (i : Nat)) := rfl
@[simp] theorem tix_str {ys : List S} {z : S} : tixOf ys (.str z) = bnd (ofO (idxL ys z)) fun j => ret (.int (j : Nat)) := rfl
@[simp] theorem dx_str {kvs : List (S × D)} {s : S} : dixOf kvs (.str s) = ofO (kvs.lookup s) := rfl
@[simp] theorem dn_str {kvs : List (S × D)} {b : Bool} {s : S} : dinOf kvs b (.str s) = ret (.bl ((kvs.lookup s).isSome != b)) := rfl
@[simp] theorem kd_str {s : S} : keyD (.str s) = some (.str s) := rfl
@[simp] theorem kd_int {i : Int} : keyD (.int i) = some (.int i) := rfl
@[simp] theorem dget_ob {n : Nat} {y : D} : dgetOf (.ob n) y = bnd (ofO (keyD y)) fun k => bnd (getM n) fun kvs => ofO (lookM kvs k) := rfl
@[simp] theorem dhas_str {neg : Bool} {n : Nat} {s : S} : dhasOf neg (.str s) (.ob n) = bnd (getM n) fun kvs => ret (.bl ((lookM kvs (.str s)).isSome != neg)) := rfl
@[simp] theorem dhas_int {neg : Bool} {n : Nat} {i : Int} : dhasOf neg (.int i) (.ob n) = bnd (getM n) fun kvs => ret (.bl ((lookM kvs (.int i)).isSome != neg)) := rfl
@[simp] theorem isM_ob {n : Nat} : isM (.ob n) = bnd (getM n) fun _ => ret () := rfl
@[simp] theorem dgetD_ob {n : Nat} {y z : D} : dgetD (.ob n) y z = bnd (ofO (keyD y)) fun k => bnd (getM n) fun kvs => ret ((lookM kvs k).getD z) := rfl
@[simp] theorem dput_ob {n : Nat} {y d : D} : dputOf (.ob n) y d = bnd (ofO (keyD y)) fun k => bnd (getM n) fun kvs => chk (kvs.length < LINE) (setO n (.dic (putM kvs k d))) := rfl
@[simp] theorem it_str {s : S} {i : Int} : item (.str s) (.int i) = bnd (ofO (atI s i)) fun c => ret (.str [c]) := rfl
@[simp] theorem it_tup {s : List D} {i : Int} : item (.tup s) (.int i) = ofO (atI s i) := rfl
@[simp] theorem it_ro {s : List D} {i : Int} : item (.ro s) (.int i) = ofO (atI s i) := rfl
@[simp] theorem it_ob {n : Nat} {i : Int} : item (.ob n) (.int i) = bnd (getL n) fun xs => ofO (atI xs i) := rfl
@[simp] theorem sl_str {s : S} {l h : Option Int} : slice (.str s) l h = ret (.str (cut s l h)) := rfl
@[simp] theorem sl_tup {s : List D} {l h : Option Int} : slice (.tup s) l h = ret (.tup (cut s l h)) := rfl
@[simp] theorem sl_ro {s : List D} {l h : Option Int} : slice (.ro s) l h = newO (.lst (cut s l h)) := rfl
@[simp] theorem sl_ob {n : Nat} {l h : Option Int} : slice (.ob n) l h = bnd (getL n) fun xs => newO (.lst (cut xs l h)) := rfl
@[simp] theorem put_nms {cf : Nat → List D → M D} {is : List Nat} {d : D} {env : Env} : put cf (.nms is) d env = unpack is d env := rfl
@[simp] theorem src_tup {xs : List D} : srcL (.tup xs) st = .ok xs st := rfl
@[simp] theorem src_str {xs : S} : srcL (.str xs) st = .ok (charsOf xs) st := rfl
@[simp] theorem bd_int {i : Int} : bound (.int i) = ret (some i) := rfl
@[simp] theorem pi_ob {n : Nat} {i : Int} {d : D} : putItem (.ob n) (.int i) d = bnd (getL n) fun xs => bnd (ofO (ixN xs.length i)) fun j => setO n (.lst (xs.set j d)) := rfl
@[simp] theorem cm_lt {i j : Int} : cmpop .lt (.int i) (.int j) = ret (decide (i < j)) := rfl
@[simp] theorem cm_le {i j : Int} : cmpop .le (.int i) (.int j) = ret (decide (i ≤ j)) := rfl
@[simp] theorem cm_gt {i j : Int} : cmpop .gt (.int i) (.int j) = ret (decide (j < i)) := rfl
@[simp] theorem cm_ge {i j : Int} : cmpop .ge (.int i) (.int j) = ret (decide (j ≤ i)) := rfl
@[simp] theorem cm_isn {a : D} : cmpop .is a .non = ret (isNon a) := by cases a <;> rfl
@[simp] theorem cm_isnn {a : D} : cmpop .isn a .non = ret (!isNon a) := by cases a <;> rfl
@[simp] theorem cm_isb {a b : Bool} : cmpop .is (.bl a) (.bl b) = ret (a == b) := rfl
@[simp] theorem cm_isnb {a b : Bool} : cmpop .isn (.bl a) (.bl b) = ret (!(a == b)) := rfl
/-- == of data -/
theorem wp_eq {a b x y : D} {Q : Bool → Store → Prop} (ha : res st DEEP a = some x) (hb : res st DEEP b = some y) : wp (cmpop .eq a b) Q st = Q (eqv x y) st := by
  have e : cmpop .eq a b = bnd (data2 a b) fun p => ret (eqv p.1 p.2) := by cases a <;> rfl
  rw [e, wp_bnd]
  rw [wp_fn]; unfold data2
  rw [ha, hb]
  exact wp_ret
theorem wp_ne {a b x y : D} {Q : Bool → Store → Prop} (ha : res st DEEP a = some x) (hb : res st DEEP b = some y) : wp (cmpop .ne a b) Q st = Q (!eqv x y) st := by
  have e : cmpop .ne a b = bnd (data2 a b) fun p => ret (!eqv p.1 p.2) := by cases a <;> rfl
  rw [e, wp_bnd]
  rw [wp_fn]; unfold data2
  rw [ha, hb]
  exact wp_ret
theorem beqd {α : Type} [DecidableEq α] {i j : α} : (i == j) = decide (i = j) := by by_cases h : i = j <;> simp [h]
theorem beqs {i j : S} : (i == j) = decide (i = j) := by by_cases h : i = j <;> simp [h]
@[simp ↓] theorem cm_eqi {i j : Int} {Q : Bool → Store → Prop} : wp (cmpop .eq (.int i) (.int j)) Q st = Q (decide (i = j)) st := by
  rw [wp_eq (x := .int i) (y := .int j) rfl rfl, ← beqd]
  rfl
@[simp ↓] theorem cm_nei {i j : Int} {Q : Bool → Store → Prop} : wp (cmpop .ne (.int i) (.int j)) Q st = Q (!decide (i = j)) st := by
  rw [wp_ne (x := .int i) (y := .int j) rfl rfl, ← beqd]
  rfl
@[simp ↓] theorem cm_eqs {i j : S} {Q : Bool → Store → Prop} : wp (cmpop .eq (.str i) (.str j)) Q st = Q (decide (i = j)) st := by
  rw [wp_eq (x := .str i) (y := .str j) rfl rfl, ← beqs]
  rfl
@[simp ↓] theorem cm_nes {i j : S} {Q : Bool → Store → Prop} : wp (cmpop .ne (.str i) (.str j)) Q st = Q (!decide (i = j)) st := by
  rw [wp_ne (x := .str i) (y := .str j) rfl rfl, ← beqs]
  rfl
mutual
/-- data without objects -/
def flat : Nat → D → Bool
  | _, .non | _, .bl _ | _, .int _ | _, .str _ => true
  | n + 1, .tup xs => flats n xs
  | n + 1, .ro xs => flats n xs
  | _, _ => false
def flats : Nat → List D → Bool
  | _, [] => true
  | n, x :: xs => flat n x && flats n xs
end
mutual
theorem res_flat : ∀ {n : Nat} {d : D}, flat n d = true → res st n d = some d
  | _, .non, _ => by unfold res; rfl
  | _, .bl _, _ => by unfold res; rfl
  | _, .int _, _ => by unfold res; rfl
  | _, .str _, _ => by unfold res; rfl
  | 0, .tup xs, h => by unfold flat at h; cases h
  | n + 1, .tup xs, h => by
    unfold flat at h
    unfold res
    rw [res_flats h]
    rfl
  | 0, .ro xs, h => by unfold flat at h; cases h
  | n + 1, .ro xs, h => by
    unfold flat at h
    unfold res
    rw [res_flats h]
    rfl
  | 0, .ob xs, h => by unfold flat at h; cases h
  | n + 1, .ob xs, h => by unfold flat at h; cases h
  | 0, .fn xs, h => by unfold flat at h; cases h
  | n + 1, .fn xs, h => by unfold flat at h; cases h
  | 0, .ty xs, h => by unfold flat at h; cases h
  | n + 1, .ty xs, h => by unfold flat at h; cases h
  | 0, .xn _ _ _, h => by unfold flat at h; cases h
  | n + 1, .xn _ _ _, h => by unfold flat at h; cases h
theorem res_flats : ∀ {n : Nat} {ds : List D}, flats n ds = true → ds.mapM (res st n) = some ds
  | n, [], _ => rfl
  | n, d :: ds, h => by
    unfold flats at h
    rw [Bool.and_eq_true] at h
    rw [List.mapM_cons, res_flat h.1, res_flats h.2]
    rfl
end
mutual
theorem flat_mono : ∀ {n m : Nat} {d : D}, n ≤ m → flat n d = true → flat m d = true
  | _, _, .non, _, _ => by unfold flat; rfl
  | _, _, .bl _, _, _ => by unfold flat; rfl
  | _, _, .int _, _, _ => by unfold flat; rfl
  | _, _, .str _, _, _ => by unfold flat; rfl
  | 0, _, .tup xs, _, h => by unfold flat at h; cases h
  | n + 1, m + 1, .tup xs, l, h => by
    unfold flat at h ⊢
    exact flats_mono (by omega) h
  | 0, _, .ro xs, _, h => by unfold flat at h; cases h
  | n + 1, m + 1, .ro xs, l, h => by
    unfold flat at h ⊢
    exact flats_mono (by omega) h
  | 0, _, .ob xs, _, h => by unfold flat at h; cases h
  | n + 1, _, .ob xs, _, h => by unfold flat at h; cases h
  | 0, _, .fn xs, _, h => by unfold flat at h; cases h
  | n + 1, _, .fn xs, _, h => by unfold flat at h; cases h
  | 0, _, .ty xs, _, h => by unfold flat at h; cases h
  | n + 1, _, .ty xs, _, h => by unfold flat at h; cases h
  | 0, _, .xn _ _ _, _, h => by unfold flat at h; cases h
  | n + 1, _, .xn _ _ _, _, h => by unfold flat at h; cases h
theorem flats_mono : ∀ {n m : Nat} {ds : List D}, n ≤ m → flats n ds = true → flats m ds = true
  | _, _, [], _, _ => by unfold flats; rfl
  | n, m, d :: ds, l, h => by
    unfold flats at h ⊢
    rw [Bool.and_eq_true] at h ⊢
    exact ⟨flat_mono l h.1, flats_mono l h.2⟩
end
theorem flats_all {n : Nat} : ∀ {ds : List D}, flats n ds = true ↔ ∀ d ∈ ds, flat n d = true
  | [] => by simp [flats]
  | d :: ds => by
    unfold flats
    rw [Bool.and_eq_true, flats_all]
    simp
mutual
theorem eqv_refl : ∀ {n : Nat} {d : D}, flat n d = true → eqv d d = true
  | _, .non, _ => by unfold eqv; rfl
  | _, .bl _, _ => by unfold eqv; simp
  | _, .int _, _ => by unfold eqv; simp
  | _, .str _, _ => by unfold eqv; simp
  | 0, .tup xs, h => by unfold flat at h; cases h
  | n + 1, .tup xs, h => by
    unfold flat at h
    unfold eqv
    exact eqvs_refl h
  | 0, .ro xs, h => by unfold flat at h; cases h
  | n + 1, .ro xs, h => by
    unfold flat at h
    unfold eqv
    exact eqvs_refl h
  | 0, .ob xs, h => by unfold flat at h; cases h
  | n + 1, .ob xs, h => by unfold flat at h; cases h
  | 0, .fn xs, h => by unfold flat at h; cases h
  | n + 1, .fn xs, h => by unfold flat at h; cases h
  | 0, .ty xs, h => by unfold flat at h; cases h
  | n + 1, .ty xs, h => by unfold flat at h; cases h
  | 0, .xn _ _ _, h => by unfold flat at h; cases h
  | n + 1, .xn _ _ _, h => by unfold flat at h; cases h
theorem eqvs_refl : ∀ {n : Nat} {ds : List D}, flats n ds = true → eqvs ds ds = true
  | n, [], _ => by unfold eqvs; rfl
  | n, d :: ds, h => by
    unfold flats at h
    rw [Bool.and_eq_true] at h
    unfold eqvs
    rw [eqv_refl h.1, eqvs_refl h.2]
    rfl
end
/-- in -/
theorem wp_in {a b x : D} {ys : List D} {Q : Bool → Store → Prop} (ns : ∀ s t, a = .str s → b ≠ .str t) (ha : res st DEEP a = some x) (hb : res st DEEP b = some (.tup ys) ∨ res st DEEP b = some (.ro ys)) :
    wp (cmpop .isin a b) Q st = Q (ys.any fun y => eqv y x) st := by
  have e0 : cmpop .isin a b = isIn a b := by cases a <;> rfl
  have e : isIn a b = isInD a b := by
    cases a with
    | str s => cases b with
      | str t => exact absurd rfl (ns s t rfl)
      | _ => rfl
    | _ => rfl
  rw [e0, e]
  unfold isInD
  rw [wp_bnd]
  rcases hb with hb | hb
  · have : data2 a b st = .ok (x, .tup ys) st := by unfold data2; rw [ha, hb]
    rw [wp_ok this]
    exact wp_ret
  · have : data2 a b st = .ok (x, .ro ys) st := by unfold data2; rw [ha, hb]
    rw [wp_ok this]
    exact wp_ret
end
section
variable [Exw] {cf : Nat → List D → M D} {env : Env} {st : Store} {Q : D → Store → Prop} {Qb : Bool → Store → Prop} {Ql : List D → Store → Prop} {Qf : Fl → Store → Prop}
def wE [Exw] (cf : Nat → List D → M D) (e : Ex) (env : Env) (Q : D → Store → Prop) (st : Store) : Prop := wp (evE cf e env) Q st
def wEs [Exw] (cf : Nat → List D → M D) (es : List Ex) (env : Env) (Q : List D → Store → Prop) (st : Store) : Prop := wp (evEs cf es env) Q st
def wO [Exw] (cf : Nat → List D → M D) (e : Option Ex) (env : Env) (Q : Option Int → Store → Prop) (st : Store) : Prop := wp (evO cf e env) Q st
def wT [Exw] (cf : Nat → List D → M D) (e : Ex) (env : Env) (Q : Bool → Store → Prop) (st : Store) : Prop := wp (evT cf e env) Q st
def wS [Exw] (cf : Nat → List D → M D) (ss : List Stm) (env : Env) (Q : Fl → Store → Prop) (st : Store) : Prop := wp (runs cf ss env) Q st
def has (env : Env) (i : Nat) : Bool := match env[i]? with
  | some (some _) => true
  | _ => false
def get (env : Env) (i : Nat) : D := match env[i]? with
  | some (some d) => d
  | _ => .non
@[simp] theorem has_0 {d : D} {env : Env} : has (some d :: env) 0 = true := rfl
@[simp] theorem has_s {o : Option D} {env : Env} {n : Nat} : has (o :: env) (n + 1) = has env n := rfl
@[simp] theorem get_0 {d : D} {env : Env} : get (some d :: env) 0 = d := rfl
@[simp] theorem get_s {o : Option D} {env : Env} {n : Nat} : get (o :: env) (n + 1) = get env n := rfl
@[simp ↓] theorem wE_v {i : Nat} : wE cf (.v i) env Q st = (has env i = true ∧ Q (get env i) st) := by
  unfold wE evE has get
  cases env[i]? with
  | none => simp [wp_fn, bad]
  | some o => cases o <;> simp [wp_fn, bad, ret]
@[simp ↓] theorem wE_c {d : D} : wE cf (.c d) env Q st = Q d st := by unfold wE evE; exact wp_ret
@[simp ↓] theorem wE_bin {o : Bop} {a b : Ex} : wE cf (.bin o a b) env Q st = wE cf a env (fun x s => wE cf b env (fun y s => wp (binop o x y) Q s) s) st := by
  unfold wE; rw [evE]; simp only [wp_bnd]
@[simp ↓] theorem wE_neg {a : Ex} : wE cf (.neg a) env Q st = wE cf a env (fun x s => match x with
    | .int i => Q (.int (-i)) s
    | _ => False) st := by
  unfold wE; rw [evE]; simp only [wp_bnd]
  congr
  funext x s
  cases x <;> first | exact wp_ret | (simp only [wp_fn]; rfl)
@[simp ↓] theorem wE_nt {a : Ex} : wE cf (.nt a) env Q st = wE cf a env (fun x s => wp (truth x) (fun k s => Q (.bl (!k)) s) s) st := by
  unfold wE; rw [evE]; simp only [wp_bnd, wp_ret]
@[simp ↓] theorem wE_cmp {o : Cop} {a b : Ex} : wE cf (.cmp o a b) env Q st = wE cf a env (fun x s => wE cf b env (fun y s => wp (cmpop o x y) (fun k s => Q (.bl k) s) s) s) st := by
  unfold wE; rw [evE]; simp only [wp_bnd, wp_ret]
@[simp ↓] theorem wE_chain {o p : Cop} {a b c : Ex} : wE cf (.chain o p a b c) env Q st = wE cf a env (fun x s => wE cf b env (fun y s => wp (cmpop o x y) (fun k s =>
    if k = true then wE cf c env (fun z s => wp (cmpop p y z) (fun k s => Q (.bl k) s) s) s else Q (.bl false) s) s) s) st := by
  unfold wE; rw [evE]; simp only [wp_bnd, wp_if, wp_ret]
@[simp ↓] theorem wE_and {a b : Ex} : wE cf (.and a b) env Q st = wE cf a env (fun x s => wp (truth x) (fun k s => if k = true then wE cf b env Q s else Q x s) s) st := by
  unfold wE; rw [evE]; simp only [wp_bnd, wp_if, wp_ret]
@[simp ↓] theorem wE_or {a b : Ex} : wE cf (.or a b) env Q st = wE cf a env (fun x s => wp (truth x) (fun k s => if k = true then Q x s else wE cf b env Q s) s) st := by
  unfold wE; rw [evE]; simp only [wp_bnd, wp_if, wp_ret]
@[simp ↓] theorem wE_call {f : Nat} {as : List Ex} : wE cf (.call f as) env Q st = wEs cf as env (fun ds s => wp (cf f ds) Q s) st := by
  unfold wE wEs; rw [evE]; simp only [wp_bnd]
@[simp ↓] theorem wE_bi {f : Bi} {as : List Ex} : wE cf (.bi f as) env Q st = wEs cf as env (fun ds s => wp (built f ds) Q s) st := by
  unfold wE wEs; rw [evE]; simp only [wp_bnd]
@[simp ↓] theorem wE_dix {kvs : List (S × D)} {e : Ex} : wE cf (.dix kvs e) env Q st = wE cf e env (fun x s => wp (dixOf kvs x) Q s) st := by
  unfold wE; rw [evE]; simp only [wp_bnd]
@[simp ↓] theorem wE_din {kvs : List (S × D)} {b : Bool} {e : Ex} : wE cf (.din kvs b e) env Q st = wE cf e env (fun x s => wp (dinOf kvs b x) Q s) st := by
  unfold wE; rw [evE]; simp only [wp_bnd]
@[simp ↓] theorem wE_tix {ys : List S} {e : Ex} : wE cf (.tix ys e) env Q st = wE cf e env (fun x s => wp (tixOf ys x) Q s) st := by
  unfold wE; rw [evE]; simp only [wp_bnd]
@[simp ↓] theorem wE_dis {as : List Ex} : wE cf (.dis as) env Q st = wEs cf as env (fun ds s => ∃ kvs, pairsOf ds = some kvs ∧ kvs.length ≤ 15 ∧ Q (.ob s.length) (s ++ [.dic (mergeM [] kvs)])) st := by
  unfold wE wEs; rw [evE]; simp only [wp_bnd, wp_chk, wp_ofO, wp_newO]
@[simp ↓] theorem wE_dg {a b : Ex} : wE cf (.dg a b) env Q st = wE cf a env (fun x s => wE cf b env (fun y s => wp (dgetOf x y) Q s) s) st := by
  unfold wE; rw [evE]; simp only [wp_bnd]
@[simp ↓] theorem wE_dq {neg : Bool} {a b : Ex} : wE cf (.dq neg a b) env Q st = wE cf a env (fun x s => wE cf b env (fun y s => wp (dhasOf neg x y) Q s) s) st := by
  unfold wE; rw [evE]; simp only [wp_bnd]
@[simp ↓] theorem wE_dm1 {a b : Ex} : wE cf (.dm1 a b) env Q st = wE cf a env (fun x s => wp (isM x) (fun _ s => wE cf b env (fun y s => wp (dgetD x y .non) Q s) s) s) st := by
  unfold wE; rw [evE]; simp only [wp_bnd]
@[simp ↓] theorem wE_dm2 {a b c : Ex} : wE cf (.dm2 a b c) env Q st = wE cf a env (fun x s => wp (isM x) (fun _ s => wE cf b env (fun y s => wE cf c env (fun z s => wp (dgetD x y z) Q s) s) s) s) st := by
  unfold wE; rw [evE]; simp only [wp_bnd]
@[simp ↓] theorem wE_nset : wE cf .nset env Q st = Q (.ob st.length) (st ++ [.nst []]) := by
  unfold wE; rw [evE]; exact wp_newO
@[simp ↓] theorem wE_nadd {a b : Ex} : wE cf (.nadd a b) env Q st = wE cf a env (fun x s => wp (isNs x) (fun _ s => wE cf b env (fun y s => wp (naddOf x y) Q s) s) s) st := by
  unfold wE; rw [evE]; simp only [wp_bnd]
@[simp ↓] theorem wE_nin {neg : Bool} {a b : Ex} : wE cf (.nin neg a b) env Q st = wE cf a env (fun x s => wE cf b env (fun y s => wp (nhasOf neg x y) Q s) s) st := by
  unfold wE; rw [evE]; simp only [wp_bnd]
@[simp] theorem fnOf_fn {i : Nat} : fnOf (.fn i) = ret i := rfl
@[simp ↓] theorem wE_cv {f : Ex} {as : List Ex} : wE cf (.cv f as) env Q st = wE cf f env (fun x s => wp (fnOf x) (fun i s => wEs cf as env (fun ds s => wp (cf i ds) Q s) s) s) st := by
  unfold wE wEs; rw [evE]; simp only [wp_bnd]
@[simp ↓] theorem wE_lrev {a : Ex} : wE cf (.lrev a) env Q st = wE cf a env (fun x s => wp (revOf x) Q s) st := by
  unfold wE; rw [evE]; simp only [wp_bnd]
theorem revOf_def {d : D} : revOf d = bnd (rowOf d) fun xs => newO (.lst xs.reverse) := rfl
@[simp] theorem rev_tup {xs : List D} : revOf (.tup xs) = newO (.lst xs.reverse) := rfl
@[simp] theorem rev_ob {n : Nat} : revOf (.ob n) = bnd (getL n) fun xs => newO (.lst xs.reverse) := rfl
@[simp] theorem isNs_ob {n : Nat} : isNs (.ob n) = bnd (getN n) fun _ => ret () := rfl
theorem naddOf_ob {n : Nat} {y : D} : naddOf (.ob n) y = bnd (ofO (keyN y)) fun k => bnd (getN n) fun ks => chk (ks.length + 1 < 64) (bnd (setO n (.nst (if k ∈ ks then ks else k :: ks))) fun _ => ret .non) := by cases y <;> rfl
theorem nhasOf_ob {neg : Bool} {n : Nat} {y : D} : nhasOf neg y (.ob n) = bnd (ofO (keyN y)) fun k => bnd (getN n) fun ks => ret (.bl (decide (k ∈ ks) != neg)) := by cases y <;> rfl
@[simp ↓] theorem wE_mt {m : Mt} {o : Ex} {as : List Ex} : wE cf (.mt m o as) env Q st = wE cf o env (fun x s => wp (kindM m x) (fun _ s => wEs cf as env (fun ds s => wp (meth m x ds) Q s) s) s) st := by
  unfold wE wEs; rw [evE]; simp only [wp_bnd]
@[simp ↓] theorem wE_ix {a b : Ex} : wE cf (.ix a b) env Q st = wE cf a env (fun x s => wE cf b env (fun y s => wp (item x y) Q s) s) st := by
  unfold wE; rw [evE]; simp only [wp_bnd]
@[simp ↓] theorem wE_sl {a : Ex} {l h : Option Ex} : wE cf (.sl a l h) env Q st = wE cf a env (fun x s => wO cf l env (fun l s => wO cf h env (fun h s => wp (slice x l h) Q s) s) s) st := by
  unfold wE wO; rw [evE]; simp only [wp_bnd]
@[simp ↓] theorem wE_tup {as : List Ex} : wE cf (.tup as) env Q st = wEs cf as env (fun ds s => ds.length ≤ LINE ∧ Q (.tup ds) s) st := by
  unfold wE wEs; rw [evE]; simp only [wp_bnd, wp_chk, wp_ret]
@[simp ↓] theorem wE_lst {as : List Ex} : wE cf (.lst as) env Q st = wEs cf as env (fun ds s => ds.length ≤ LINE ∧ Q (.ob s.length) (s ++ [.lst ds])) st := by
  unfold wE wEs; rw [evE]; simp only [wp_bnd, wp_chk, wp_newO]
@[simp] theorem tx_str {s : S} : txtOf (.str s) = ret (.str s) := rfl
@[simp ↓] theorem tx_int {i : Int} {Q : D → Store → Prop} {st : Store} : wp (txtOf (.int i)) Q st = (okS (.int i) = true ∧ Q (.str (shS (.int i))) st) := by
  rw [wp_fn]
  unfold txtOf
  by_cases h : okS (.int i) = true <;> simp [h]
@[simp ↓] theorem wE_txt {a : Ex} : wE cf (.txt a) env Q st = wE cf a env (fun x s => wp (txtOf x) Q s) st := by
  unfold wE; rw [evE]; simp only [wp_bnd]
def wJ [Exw] (cf : Nat → List D → M D) (es : List Ex) (acc : S) (env : Env) (Q : D → Store → Prop) (st : Store) : Prop := wp (evJ cf es acc env) Q st
@[simp ↓] theorem wE_js {as : List Ex} : wE cf (.js as) env Q st = wJ cf as [] env Q st := by
  unfold wE wJ; rw [evE]
@[simp ↓] theorem wJ_nil {acc : S} : wJ cf [] acc env Q st = Q (.str acc) st := by unfold wJ; rw [evJ]; exact wp_ret
@[simp ↓] theorem wJ_cons {e : Ex} {es : List Ex} {acc : S} : wJ cf (e :: es) acc env Q st = wE cf e env (fun x s => wp (glue acc (fun u => evJ cf es u env) x) Q s) st := by
  unfold wJ wE; rw [evJ]; simp only [wp_bnd]
@[simp ↓] theorem gl_str {acc s : S} {es : List Ex} {Q : D → Store → Prop} {st : Store} : wp (glue acc (fun u => evJ cf es u env) (.str s)) Q st = (acc.length + s.length ≤ LINE ∧ wJ cf es (acc ++ s) env Q st) := by
  have e : glue acc (fun u => evJ cf es u env) (.str s) = chk (acc.length + s.length ≤ LINE) (evJ cf es (acc ++ s) env) := rfl
  rw [e, wp_chk]
  rfl
@[simp ↓] theorem wE_fld {o : Ex} {f : S} : wE cf (.fld o f) env Q st = wE cf o env (fun x s => wp (fldOf f x) Q s) st := by
  unfold wE; rw [evE]; simp only [wp_bnd]
@[simp ↓] theorem wE_me {c f : Nat} {m : S} {o : Ex} {as : List Ex} : wE cf (.me c f m o as) env Q st = wE cf o env (fun x s => wp (isC c m x) (fun _ s => wEs cf as env (fun ds s => wp (cf f (x :: ds)) Q s) s) s) st := by
  unfold wE wEs; rw [evE]; simp only [wp_bnd]
@[simp ↓] theorem wE_mk {c f : Nat} {as : List Ex} : wE cf (.mk c f as) env Q st = wEs cf as env (fun ds s => wp (cf f (.ob s.length :: ds)) (fun y s' => wp (nonOnly y) (fun _ s' => Q (.ob s.length) s') s') (s ++ [.ins c []])) st := by
  unfold wE wEs; rw [evE]; simp only [wp_bnd, wp_newO, wp_ret]
@[simp ↓] theorem wEs_nil : wEs cf [] env Ql st = Ql [] st := by unfold wEs; rw [evEs]; exact wp_ret
@[simp ↓] theorem wEs_cons {e : Ex} {es : List Ex} : wEs cf (e :: es) env Ql st = wE cf e env (fun x s => wEs cf es env (fun xs s => Ql (x :: xs) s) s) st := by
  unfold wEs wE; rw [evEs]; simp only [wp_bnd, wp_ret]
@[simp ↓] theorem wO_none {Qo : Option Int → Store → Prop} : wO cf none env Qo st = Qo none st := by unfold wO; rw [evO]; exact wp_ret
@[simp ↓] theorem wO_some {Qo : Option Int → Store → Prop} {e : Ex} : wO cf (some e) env Qo st = wE cf e env (fun x s => wp (bound x) Qo s) st := by unfold wO wE; rw [evO]; simp only [wp_bnd]
theorem truth_st {d : D} {st st' : Store} {k : Bool} (h : truth d st = .ok k st') : st' = st := by
  cases d <;> first | (cases h; rfl) | (cases h; done) | skip
  rename_i n
  have h : bnd (getL n) (fun xs => ret (!xs.isEmpty)) st = .ok k st' := h
  unfold bnd getL at h
  split at h <;> rename_i e
  · split at e
    · cases e
      cases h
      rfl
    · cases e
  · cases h
  · cases h
theorem wp_truth2 {d : D} {P : Bool → Bool → Store → Prop} : wp (truth d) (fun k s => wp (truth d) (P k) s) st = wp (truth d) (fun k s => P k k s) st := by
  cases h : truth d st with
  | ok k s =>
    have e := truth_st h
    subst e
    rw [wp_ok h, wp_ok h, wp_ok h]
  | ex x s => simp only [wp_fn, h]
  | bad => simp only [wp_fn, h]
/-- tests -/
@[simp ↓] theorem wT_v {i : Nat} : wT cf (.v i) env Qb st = (has env i = true ∧ wp (truth (get env i)) Qb st) := by
  have e : wT cf (.v i) env Qb st = wE cf (.v i) env (fun x s => wp (truth x) Qb s) st := by unfold wT evT wE; simp only [wp_bnd]
  rw [e, wE_v]
theorem wT_def {e : Ex} : wT cf e env Qb st = wE cf e env (fun x s => wp (truth x) Qb s) st := by unfold wT evT wE; simp only [wp_bnd]
@[simp ↓] theorem wT_c {d : D} : wT cf (.c d) env Qb st = wp (truth d) Qb st := by rw [wT_def, wE_c]
@[simp ↓] theorem wT_call {f : Nat} {as : List Ex} : wT cf (.call f as) env Qb st = wEs cf as env (fun ds s => wp (cf f ds) (fun x s => wp (truth x) Qb s) s) st := by rw [wT_def, wE_call]
@[simp ↓] theorem wT_bi {f : Bi} {as : List Ex} : wT cf (.bi f as) env Qb st = wEs cf as env (fun ds s => wp (built f ds) (fun x s => wp (truth x) Qb s) s) st := by rw [wT_def, wE_bi]
@[simp ↓] theorem wT_dix {kvs : List (S × D)} {e : Ex} : wT cf (.dix kvs e) env Qb st = wE cf e env (fun x s => wp (dixOf kvs x) (fun x s => wp (truth x) Qb s) s) st := by rw [wT_def, wE_dix]
@[simp ↓] theorem wT_dg {a b : Ex} : wT cf (.dg a b) env Qb st = wE cf a env (fun x s => wE cf b env (fun y s => wp (dgetOf x y) (fun x s => wp (truth x) Qb s) s) s) st := by rw [wT_def, wE_dg]
@[simp ↓] theorem wT_dq {neg : Bool} {a b : Ex} : wT cf (.dq neg a b) env Qb st = wE cf a env (fun x s => wE cf b env (fun y s => wp (dhasOf neg x y) (fun x s => wp (truth x) Qb s) s) s) st := by rw [wT_def, wE_dq]
@[simp ↓] theorem wT_nin {neg : Bool} {a b : Ex} : wT cf (.nin neg a b) env Qb st = wE cf a env (fun x s => wE cf b env (fun y s => wp (nhasOf neg x y) (fun x s => wp (truth x) Qb s) s) s) st := by rw [wT_def, wE_nin]
@[simp ↓] theorem wT_din {kvs : List (S × D)} {b : Bool} {e : Ex} : wT cf (.din kvs b e) env Qb st = wE cf e env (fun x s => wp (dinOf kvs b x) (fun x s => wp (truth x) Qb s) s) st := by rw [wT_def, wE_din]
@[simp ↓] theorem wT_ix {a b : Ex} : wT cf (.ix a b) env Qb st = wE cf a env (fun x s => wE cf b env (fun y s => wp (item x y) (fun x s => wp (truth x) Qb s) s) s) st := by rw [wT_def, wE_ix]
@[simp ↓] theorem wT_cmp {o : Cop} {a b : Ex} : wT cf (.cmp o a b) env Qb st = wE cf a env (fun x s => wE cf b env (fun y s => wp (cmpop o x y) Qb s) s) st := by
  rw [wT_def, wE_cmp]; simp only [tr_bl, wp_ret]
@[simp ↓] theorem wT_chain {o p : Cop} {a b c : Ex} : wT cf (.chain o p a b c) env Qb st = wE cf a env (fun x s => wE cf b env (fun y s => wp (cmpop o x y) (fun k s =>
    if k = true then wE cf c env (fun z s => wp (cmpop p y z) Qb s) s else Qb false s) s) s) st := by
  rw [wT_def, wE_chain]; simp only [tr_bl, wp_ret]
@[simp ↓] theorem wT_nt {a : Ex} : wT cf (.nt a) env Qb st = wT cf a env (fun k s => Qb (!k) s) st := by
  rw [wT_def, wE_nt, wT_def]; simp only [tr_bl, wp_ret]
theorem wE_mono {e : Ex} {Q Q' : D → Store → Prop} (h : wE cf e env Q st) (q : ∀ a s, Q a s → Q' a s) : wE cf e env Q' st := wp_mono h q
@[simp ↓] theorem wT_and {a b : Ex} : wT cf (.and a b) env Qb st = wT cf a env (fun k s => if k = true then wT cf b env Qb s else Qb false s) st := by
  have e : wT cf (.and a b) env Qb st = wE cf a env (fun x s => wp (truth x) (fun k s => if k = true then wE cf b env (fun x s => wp (truth x) Qb s) s else wp (truth x) Qb s) s) st := by
    rw [wT_def, wE_and]
  rw [e, wT_def]
  congr
  funext x s
  cases h : truth x s with
  | ok k s' =>
    have e := truth_st h
    subst e
    cases k <;> simp only [wp_ok h, wT_def, if_true, if_false, Bool.false_eq_true]
  | ex x s => simp only [wp_fn, h]
  | bad => simp only [wp_fn, h]
@[simp ↓] theorem wT_or {a b : Ex} : wT cf (.or a b) env Qb st = wT cf a env (fun k s => if k = true then Qb true s else wT cf b env Qb s) st := by
  have e : wT cf (.or a b) env Qb st = wE cf a env (fun x s => wp (truth x) (fun k s => if k = true then wp (truth x) Qb s else wE cf b env (fun x s => wp (truth x) Qb s) s) s) st := by
    rw [wT_def, wE_or]
  rw [e, wT_def]
  congr
  funext x s
  cases h : truth x s with
  | ok k s' =>
    have e := truth_st h
    subst e
    cases k <;> simp only [wp_ok h, wT_def, if_true, if_false, Bool.false_eq_true]
  | ex x s => simp only [wp_fn, h]
  | bad => simp only [wp_fn, h]
@[simp ↓] theorem wE_ite {t a b : Ex} : wE cf (.ite t a b) env Q st = wT cf t env (fun k s => if k = true then wE cf a env Q s else wE cf b env Q s) st := by
  unfold wE wT evT; rw [evE]; simp only [wp_bnd, wp_if]
theorem runs_app {a b : List Stm} : runs cf (a ++ b) env = bnd (runs cf a env) fun r => match r with
    | .next e => runs cf b e
    | r => ret r := by
  induction a generalizing env with
  | nil => simp only [List.nil_append, runs, bnd_ret]
  | cons s ss ih =>
    simp only [List.cons_append, runs]
    rw [bnd_bnd]
    congr
    funext r
    cases r with
    | next e => exact ih
    | _ => rfl
theorem wS_mono {ss : List Stm} {Q Q' : Fl → Store → Prop} (h : wS cf ss env Q st) (q : ∀ a s, Q a s → Q' a s) : wS cf ss env Q' st := wp_mono h q
theorem wS_nil : wS cf [] env Qf st = Qf (.next env) st := by unfold wS; rw [runs]; exact wp_ret
theorem wS_asg {i : Nat} {e : Ex} {ss : List Stm} : wS cf (.asg (.nm i) e :: ss) env Qf st = wE cf e env (fun d s => wS cf ss (env.set i (some d)) Qf s) st := by
  unfold wS wE; rw [runs, run]; simp only [put, wp_bnd, wp_ret]
theorem wS_put {o i e : Ex} {ss : List Stm} : wS cf (.asg (.sub o i) e :: ss) env Qf st = wE cf e env (fun d s => wE cf o env (fun x s => wE cf i env (fun y s => wp (putItem x y d) (fun _ s => wS cf ss env Qf s) s) s) s) st := by
  unfold wS wE; rw [runs, run]; simp only [put, wp_bnd, wp_ret]
theorem wS_dput {o i e : Ex} {ss : List Stm} : wS cf (.asg (.dsub o i) e :: ss) env Qf st = wE cf e env (fun d s => wE cf o env (fun x s => wE cf i env (fun y s => wp (dputOf x y d) (fun _ s => wS cf ss env Qf s) s) s) s) st := by
  unfold wS wE; rw [runs, run]; simp only [put, wp_bnd, wp_ret]
theorem wS_fld {o e : Ex} {f : S} {ss : List Stm} : wS cf (.asg (.fld o f) e :: ss) env Qf st = wE cf e env (fun d s => wE cf o env (fun x s => wp (putFld f d x) (fun _ s => wS cf ss env Qf s) s) s) st := by
  unfold wS wE; rw [runs, run]; simp only [put, wp_bnd, wp_ret]
theorem wS_nms {is : List Nat} {e : Ex} {ss : List Stm} : wS cf (.asg (.nms is) e :: ss) env Qf st = wE cf e env (fun d s => wp (unpack is d env) (fun env s => wS cf ss env Qf s) s) st := by
  unfold wS wE; rw [runs, run]; simp only [put, wp_bnd, wp_ret]
theorem wS_augN {i : Nat} {o : Bop} {e : Ex} {ss : List Stm} : wS cf (.augN i o e :: ss) env Qf st = wE cf (.v i) env (fun x s => wE cf e env (fun y s => wp (augop o x y) (fun z s => wS cf ss (env.set i (some z)) Qf s) s) s) st := by
  unfold wS wE; rw [runs, run]; simp only [wp_bnd, wp_ret]
theorem wS_augF {a e : Ex} {f : S} {o : Bop} {ss : List Stm} : wS cf (.augF a f o e :: ss) env Qf st = wE cf a env (fun x s => wp (clsOf x) (fun cn s => wp (fldOf f x) (fun u s => wE cf e env (fun y s => wp (augop o u y) (fun z s => wp (clsOf x) (fun cm s => cm = cn ∧ wp (putFld f z x) (fun _ s => wS cf ss env Qf s) s) s) s) s) s) s) st := by
  unfold wS wE; rw [runs, run]; simp only [wp_bnd, wp_chk, wp_ret]
theorem wS_ex {e : Ex} {ss : List Stm} : wS cf (.ex e :: ss) env Qf st = wE cf e env (fun _ s => wS cf ss env Qf s) st := by
  unfold wS wE; rw [runs, run]; simp only [wp_bnd, wp_ret]
theorem wS_ret {e : Ex} {ss : List Stm} : wS cf (.ret e :: ss) env Qf st = wE cf e env (fun d s => Qf (.ret d) s) st := by
  unfold wS wE; rw [runs, run]; simp only [wp_bnd, wp_ret]
theorem wS_retN {ss : List Stm} : wS cf (.retN :: ss) env Qf st = Qf (.ret .non) st := by
  unfold wS; rw [runs, run]; simp only [wp_bnd, wp_ret]
theorem wS_brk {ss : List Stm} : wS cf (.brk :: ss) env Qf st = Qf (.brk env) st := by
  unfold wS; rw [runs, run]; simp only [wp_bnd, wp_ret]
theorem wS_cnt {ss : List Stm} : wS cf (.cnt :: ss) env Qf st = Qf (.cnt env) st := by
  unfold wS; rw [runs, run]; simp only [wp_bnd, wp_ret]
theorem wS_pass {ss : List Stm} : wS cf (.pass :: ss) env Qf st = wS cf ss env Qf st := by
  unfold wS; rw [runs, run]; simp only [wp_bnd, wp_ret]
theorem wS_ite {t : Ex} {a b ss : List Stm} : wS cf (.ite t a b :: ss) env Qf st = wT cf t env (fun c s => if c = true then wS cf (a ++ ss) env Qf s else wS cf (b ++ ss) env Qf s) st := by
  unfold wS wT; rw [runs, run]; simp only [wp_bnd, wp_if, runs_app] <;> rfl
/-- statements one behind another, what lies between told -/
theorem wS_cut {a b : List Stm} {R : Fl → Store → Prop} (h : wS cf a env R st) (q : ∀ e s, R (.next e) s → wS cf b e Qf s) (q2 : ∀ r s, R r s → (∀ e, r ≠ .next e) → Qf r s) : wS cf (a ++ b) env Qf st := by
  unfold wS at h ⊢
  rw [runs_app, wp_bnd]
  refine wp_mono h fun r s z => ?_
  cases r with
  | next e => exact q e s z
  | brk e => exact wp_in_ret (q2 _ s z (fun e h => by cases h))
  | cnt e => exact wp_in_ret (q2 _ s z (fun e h => by cases h))
  | ret e => exact wp_in_ret (q2 _ s z (fun e h => by cases h))
theorem wS_cut1 {a : Stm} {b : List Stm} {R : Fl → Store → Prop} (h : wS cf [a] env R st) (q : ∀ e s, R (.next e) s → wS cf b e Qf s) (q2 : ∀ r s, R r s → (∀ e, r ≠ .next e) → Qf r s) : wS cf (a :: b) env Qf st := wS_cut (a := [a]) h q q2
/-- behind a loop -/
def Aft [Exw] (cf : Nat → List D → M D) (ss : List Stm) (Qf : Fl → Store → Prop) : Fl → Store → Prop
  | .next e, s => wS cf ss e Qf s
  | r, s => Qf r s
/-- behind a turn of a loop: go on by g, or behind it by h -/
def Trn (g h : Env → Store → Prop) (Qf : Fl → Store → Prop) : Fl → Store → Prop
  | .next e, s => g e s
  | .cnt e, s => g e s
  | .brk e, s => h e s
  | .ret d, s => Qf (.ret d) s
section
variable {g h : Env → Store → Prop}
@[simp] theorem trn_next {e : Env} : Trn g h Qf (.next e) st = g e st := rfl
@[simp] theorem trn_cnt {e : Env} : Trn g h Qf (.cnt e) st = g e st := rfl
@[simp] theorem trn_brk {e : Env} : Trn g h Qf (.brk e) st = h e st := rfl
@[simp] theorem trn_ret {d : D} : Trn g h Qf (.ret d) st = Qf (.ret d) st := rfl
end
/-- a loop over things: of name i, body b, what follows ss -/
def wF [Exw] (cf : Nat → List D → M D) (i : Nat) (b ss : List Stm) (xs : List D) (env : Env) (Qf : Fl → Store → Prop) (st : Store) : Prop :=
  wp (forI (fun x env => bnd (put cf (.nm i) x env) fun env => runs cf b env) xs env) (Aft cf ss Qf) st
theorem wF_nil {i : Nat} {b ss : List Stm} : wF cf i b ss [] env Qf st = wS cf ss env Qf st := wp_ret
theorem wF_cons {i : Nat} {b ss : List Stm} {x : D} {xs : List D} : wF cf i b ss (x :: xs) env Qf st = wS cf b (env.set i (some x)) (Trn (fun e s => wF cf i b ss xs e Qf s) (fun e s => wS cf ss e Qf s) Qf) st := by
  unfold wF wS
  rw [forI]
  simp only [wp_bnd, put, bnd_ret]
  congr
  funext r s
  cases r <;> first | rfl | exact wp_ret
theorem wS_rng {i : Nat} {as : List Ex} {b ss : List Stm} : wS cf (.for_ (.nm i) (.rng as) b :: ss) env Qf st = wEs cf as env (fun ds s => wp (rangeOf ds) (fun xs s => wF cf i b ss xs env Qf s) s) st := by
  unfold wS wEs wF; rw [runs, run]; simp only [wp_bnd]
  congr
  funext ds s
  congr
  funext xs s
  congr
  funext r s
  cases r <;> first | rfl | exact wp_ret
/-- .. over what -/
def wFd [Exw] (cf : Nat → List D → M D) (i : Nat) (b ss : List Stm) (d : D) (env : Env) (Qf : Fl → Store → Prop) (st : Store) : Prop :=
  wp (forRun (fun x env => bnd (put cf (.nm i) x env) fun env => runs cf b env) d env) (Aft cf ss Qf) st
theorem wS_for {i : Nat} {e : Ex} {b ss : List Stm} : wS cf (.for_ (.nm i) (.seq e) b :: ss) env Qf st = wE cf e env (fun d s => wFd cf i b ss d env Qf s) st := by
  unfold wS wE wFd; rw [runs, run]; simp only [wp_bnd]
  congr
  funext ds s
  congr
  funext r s
  cases r <;> first | rfl | exact wp_ret
@[simp] theorem wFd_tup {i : Nat} {b ss : List Stm} {xs : List D} : wFd cf i b ss (.tup xs) env Qf st = wF cf i b ss xs env Qf st := rfl
@[simp] theorem wFd_ro {i : Nat} {b ss : List Stm} {xs : List D} : wFd cf i b ss (.ro xs) env Qf st = wF cf i b ss xs env Qf st := rfl
@[simp] theorem wFd_str {i : Nat} {b ss : List Stm} {xs : S} : wFd cf i b ss (.str xs) env Qf st = wF cf i b ss (charsOf xs) env Qf st := rfl
/-- the invariant: what is left -/
theorem wF_inv {i : Nat} {b ss : List Stm} (I : List D → Env → Store → Prop) : ∀ {xs : List D} {env : Env} {st : Store}, I xs env st →
    (∀ x r e s, I (x :: r) e s → wS cf b (e.set i (some x)) (Trn (I r) (fun e s => wS cf ss e Qf s) Qf) s) → (∀ e s, I [] e s → wS cf ss e Qf s) → wF cf i b ss xs env Qf st
  | [], env, st, h, h1, h2 => by
    rw [wF_nil]
    exact h2 _ _ h
  | x :: xs, env, st, h, h1, h2 => by
    rw [wF_cons]
    refine wS_mono (h1 x xs env st h) fun r s z => ?_
    cases r with
    | next e => exact wF_inv I z h1 h2
    | cnt e => exact wF_inv I z h1 h2
    | brk e => exact z
    | ret d => exact z
theorem rangeD_s {lo : Int} {n : Nat} : rangeD lo (n + 1) = .int lo :: rangeD (lo + 1) n := by
  unfold rangeD
  rw [List.range_succ_eq_map, List.map_cons, List.map_map]
  congr 1
  · simp
  · apply List.map_congr_left
    intro j _
    show D.int (lo + ((j + 1 : Nat) : Int)) = _
    congr 1
    push_cast
    omega
/-- the invariant by the turn's number: j turns are done of n -/
theorem wF_range {i : Nat} {b ss : List Stm} {lo : Int} {n : Nat} (I : Nat → Env → Store → Prop) (h : I 0 env st)
    (h1 : ∀ j e s, j < n → I j e s → wS cf b (e.set i (some (.int (lo + (j : Nat))))) (Trn (I (j + 1)) (fun e s => wS cf ss e Qf s) Qf) s) (h2 : ∀ e s, I n e s → wS cf ss e Qf s) : wF cf i b ss (rangeD lo n) env Qf st := by
  refine wF_inv (fun xs e s => ∃ j, j ≤ n ∧ xs = rangeD (lo + (j : Nat)) (n - j) ∧ I j e s) ⟨0, by omega, by simp, h⟩ (fun x r e s z => ?_) fun e s z => ?_
  · obtain ⟨j, hj, e1, z⟩ := z
    have hn : j < n := by
      rcases Nat.lt_or_ge j n with q | q
      · exact q
      · have : n - j = 0 := by omega
        rw [this] at e1
        cases e1
    have hs : n - j = (n - (j + 1)) + 1 := by omega
    rw [hs, rangeD_s] at e1
    cases e1
    refine wS_mono (h1 j e s hn z) fun r s z => ?_
    have hc : (lo + (j : Int) + 1) = lo + ((j + 1 : Nat) : Int) := by push_cast; omega
    cases r with
    | next e => exact ⟨j + 1, by omega, by rw [hc], z⟩
    | cnt e => exact ⟨j + 1, by omega, by rw [hc], z⟩
    | brk e => exact z
    | ret d => exact z
  · obtain ⟨j, hj, e1, z⟩ := z
    have hn : j = n := by
      rcases Nat.lt_or_ge j n with q | q
      · have hs : n - j = (n - (j + 1)) + 1 := by omega
        rw [hs, rangeD_s] at e1
        cases e1
      · omega
    subst hn
    exact h2 e s z
@[simp ↓] theorem rg_1 {j : Int} {Q : List D → Store → Prop} : wp (rangeOf [.int j]) Q st = (inBig j ∧ Q (rangeD 0 j.toNat) st) := by
  have e : rangeOf [.int j] = chk (inBig j) (ret (rangeD 0 j.toNat)) := rfl
  rw [e, wp_chk, wp_ret]
@[simp ↓] theorem rg_2 {i j : Int} {Q : List D → Store → Prop} : wp (rangeOf [.int i, .int j]) Q st = ((inBig i ∧ inBig j) ∧ Q (rangeD i (j - i).toNat) st) := by
  have e : rangeOf [.int i, .int j] = chk (inBig i ∧ inBig j) (ret (rangeD i (j - i).toNat)) := rfl
  rw [e, wp_chk, wp_ret]
@[simp ↓] theorem rg_3 {i j c : Int} {Q : List D → Store → Prop} : wp (rangeOf [.int i, .int j, .int c]) Q st = ((c = -1 ∧ inBig i ∧ inBig j) ∧ Q ((List.range (i - j).toNat).map fun k => .int (i + (k : Nat) * (-1))) st) := by
  have e : rangeOf [.int i, .int j, .int c] = chk (c = -1 ∧ inBig i ∧ inBig j) (ret ((List.range (i - j).toNat).map fun k => .int (i + (k : Nat) * (-1)))) := rfl
  rw [e, wp_chk, wp_ret]
/-- a loop over a list that stays as it is -/
theorem forO_const {f : D → Env → M Fl} {n : Nat} {xs : List D} {Q : Fl → Store → Prop} (I : List D → Env → Store → Prop) (hl : ∀ r e s, I r e s → lk s n = some xs)
    (h1 : ∀ x r e s, I (x :: r) e s → wp (f x e) (Trn (I r) (fun e s => Q (.next e) s) Q) s) (h2 : ∀ e s, I [] e s → Q (.next e) s) :
    ∀ (m k j : Nat) (env : Env) (st : Store), xs.length - j < m → I (xs.drop j) env st → wp (forO f n m j env) Q st
  | 0, _, _, _, _, h, _ => by omega
  | m + 1, k, j, env, st, hm, h => by
    rw [forO, wp_bnd, wp_getL' (hl _ _ _ h)]
    cases e : xs[j]? with
    | none =>
      have hj : xs.length ≤ j := by simpa using e
      rw [List.drop_eq_nil_of_le hj] at h
      exact wp_in_ret (h2 _ _ h)
    | some x =>
      obtain ⟨hj, rfl⟩ := List.getElem?_eq_some_iff.mp e
      rw [List.drop_eq_getElem_cons hj] at h
      simp only [wp_bnd]
      refine wp_mono (h1 _ _ _ _ h) fun r s z => ?_
      cases r with
      | next e => exact forO_const I hl h1 h2 m k (j + 1) _ _ (by omega) z
      | cnt e => exact forO_const I hl h1 h2 m k (j + 1) _ _ (by omega) z
      | brk e => exact wp_in_ret z
      | ret d => exact wp_in_ret z
theorem wFd_ob {i n : Nat} {b ss : List Stm} {xs : List D} (hx : xs.length < FUEL) (I : List D → Env → Store → Prop) (hl : ∀ r e s, I r e s → lk s n = some xs) (h : I xs env st)
    (h1 : ∀ x r e s, I (x :: r) e s → wS cf b (e.set i (some x)) (Trn (I r) (fun e s => wS cf ss e Qf s) Qf) s) (h2 : ∀ e s, I [] e s → wS cf ss e Qf s) : wFd cf i b ss (.ob n) env Qf st := by
  unfold wFd
  simp only [forRun]
  refine forO_const (f := fun x env => bnd (put cf (.nm i) x env) fun env => runs cf b env) I hl (fun x r e s z => ?_) h2 FUEL 0 0 env st (by omega) (by simpa using h)
  have q := h1 x r e s z
  unfold wS at q
  simp only [put, wp_bnd, wp_ret]
  refine wp_mono q fun r s z => ?_
  cases r <;> exact z
/-- a loop by a test: m tells how far it is -/
def wW [Exw] (cf : Nat → List D → M D) (t : Ex) (b ss : List Stm) (m : Nat) (env : Env) (Qf : Fl → Store → Prop) (st : Store) : Prop := wp (whlN (evT cf t) (runs cf b) m env) (Aft cf ss Qf) st
theorem wS_whl {t : Ex} {b ss : List Stm} : wS cf (.whl t b :: ss) env Qf st = wW cf t b ss FUEL env Qf st := by
  unfold wS wW; rw [runs, run]; simp only [wp_bnd]
  congr
  funext r s
  cases r <;> first | rfl | exact wp_ret
theorem wW_inv {t : Ex} {b ss : List Stm} (I : Nat → Env → Store → Prop)
    (h1 : ∀ m e s, I m e s → wT cf t e (fun c s => if c = true then wS cf b e (Trn (fun e s => ∃ m', m' < m ∧ I m' e s) (fun e s => wS cf ss e Qf s) Qf) s else wS cf ss e Qf s) s) :
    ∀ (k m : Nat) (env : Env) (st : Store), m < k → I m env st → wW cf t b ss k env Qf st
  | 0, _, _, _, h, _ => by omega
  | k + 1, m, env, st, hm, h => by
    unfold wW
    rw [whlN, wp_bnd]
    refine wp_mono (h1 m env st h) fun c s z => ?_
    cases c with
    | false => exact wp_in_ret z
    | true =>
      simp only [if_true, wp_bnd] at z ⊢
      refine wp_mono z fun r s z => ?_
      cases r with
      | next e => obtain ⟨m', h3, h4⟩ := z; exact wW_inv I h1 k m' _ _ (by omega) h4
      | cnt e => obtain ⟨m', h3, h4⟩ := z; exact wW_inv I h1 k m' _ _ (by omega) h4
      | brk e => exact wp_in_ret z
      | ret d => exact wp_in_ret z
/-- for i, x in enumerate(..) -/
def wFe [Exw] (cf : Nat → List D → M D) (i1 i2 : Nat) (b ss : List Stm) (d : D) (env : Env) (Qf : Fl → Store → Prop) (st : Store) : Prop :=
  wp (enuRun (fun x env => bnd (put cf (.nms [i1, i2]) x env) fun env => runs cf b env) d env) (Aft cf ss Qf) st
theorem wS_enu {i1 i2 : Nat} {e : Ex} {b ss : List Stm} : wS cf (.for_ (.nms [i1, i2]) (.enu e) b :: ss) env Qf st = wE cf e env (fun d s => wFe cf i1 i2 b ss d env Qf s) st := by
  unfold wS wE wFe; rw [runs, run]; simp only [wp_bnd]
  congr
  funext ds s
  congr
  funext r s
  cases r <;> first | rfl | exact wp_ret
theorem forE_const {f : D → Env → M Fl} {n : Nat} {xs : List D} {Q : Fl → Store → Prop} (I : Nat → Env → Store → Prop) (hl : ∀ j e s, I j e s → lk s n = some xs)
    (h1 : ∀ j x e s, xs[j]? = some x → I j e s → wp (f (.tup [.int (j : Nat), x]) e) (Trn (I (j + 1)) (fun e s => Q (.next e) s) Q) s) (h2 : ∀ e s, I xs.length e s → Q (.next e) s) :
    ∀ (m j : Nat) (env : Env) (st : Store), xs.length - j < m → j ≤ xs.length → I j env st → wp (forE f n m j env) Q st
  | 0, _, _, _, h, _, _ => by omega
  | m + 1, j, env, st, hm, hj0, h => by
    rw [forE, wp_bnd, wp_getL' (hl _ _ _ h)]
    cases e : xs[j]? with
    | none =>
      have hj : xs.length ≤ j := by simpa using e
      have : j = xs.length := by omega
      subst this
      exact wp_in_ret (h2 _ _ h)
    | some x =>
      obtain ⟨hj, _⟩ := List.getElem?_eq_some_iff.mp e
      simp only [wp_bnd]
      refine wp_mono (h1 _ _ _ _ e h) fun r s z => ?_
      cases r with
      | next e => exact forE_const I hl h1 h2 m (j + 1) _ _ (by omega) (by omega) z
      | cnt e => exact forE_const I hl h1 h2 m (j + 1) _ _ (by omega) (by omega) z
      | brk e => exact wp_in_ret z
      | ret d => exact wp_in_ret z
theorem wFe_ob {i1 i2 n : Nat} {b ss : List Stm} {xs : List D} (hx : xs.length < FUEL) (I : Nat → Env → Store → Prop) (hl : ∀ j e s, I j e s → lk s n = some xs) (h : I 0 env st)
    (h1 : ∀ j x e s, xs[j]? = some x → I j e s → wS cf b ((e.set i1 (some (.int (j : Nat)))).set i2 (some x)) (Trn (I (j + 1)) (fun e s => wS cf ss e Qf s) Qf) s) (h2 : ∀ e s, I xs.length e s → wS cf ss e Qf s) : wFe cf i1 i2 b ss (.ob n) env Qf st := by
  unfold wFe
  simp only [enuRun]
  refine forE_const (f := fun x env => bnd (put cf (.nms [i1, i2]) x env) fun env => runs cf b env) I hl (fun j x e s hj z => ?_) h2 FUEL 0 env st (by omega) (Nat.zero_le _) h
  have q := h1 j x e s hj z
  unfold wS at q
  simp only [put, unpack, wp_bnd, wp_chk, wp_ret, setAll]
  refine ⟨rfl, ?_⟩
  refine wp_mono q fun r s z => ?_
  cases r with
  | next e => exact z
  | cnt e => exact z
  | brk e => exact z
  | ret d => exact z
/-- over the rows of an enumerate -/
theorem forI_enu {f : D → Env → M Fl} {Q : Fl → Store → Prop} {xs : List D} (I : Nat → Env → Store → Prop)
    (h1 : ∀ j x e s, xs[j]? = some x → I j e s → wp (f (.tup [.int (j : Nat), x]) e) (Trn (I (j + 1)) (fun e s => Q (.next e) s) Q) s) (h2 : ∀ e s, I xs.length e s → Q (.next e) s) :
    ∀ (k j : Nat) (env : Env) (st : Store), xs.length - j = k → j ≤ xs.length → I j env st → wp (forI f ((enuL 0 xs).drop j) env) Q st
  | 0, j, env, st, hk, hj, h => by
    have : j = xs.length := by omega
    subst this
    rw [List.drop_eq_nil_of_le (by rw [enuL_len]; exact Nat.le_refl _), forI]
    exact wp_in_ret (h2 _ _ h)
  | k + 1, j, env, st, hk, hj, h => by
    have hlt : j < xs.length := by omega
    have hx : xs[j]? = some xs[j] := List.getElem?_eq_getElem hlt
    have hl : j < (enuL 0 xs).length := by rw [enuL_len]; exact hlt
    have hg : (enuL 0 xs)[j] = .tup [.int (j : Nat), xs[j]] := by
      have := enuL_get xs 0 j
      rw [List.getElem?_eq_getElem hl, hx, Nat.zero_add] at this
      exact Option.some.inj this
    rw [List.drop_eq_getElem_cons hl, hg, forI, wp_bnd]
    refine wp_mono (h1 _ _ _ _ hx h) fun r s z => ?_
    cases r with
    | next e => exact forI_enu I h1 h2 k (j + 1) _ _ (by omega) (by omega) z
    | cnt e => exact forI_enu I h1 h2 k (j + 1) _ _ (by omega) (by omega) z
    | brk e => exact wp_in_ret z
    | ret d => exact wp_in_ret z
theorem turn_of {i1 i2 : Nat} {b : List Stm} {j : Nat} {x : D} {e : Env} {g h : Env → Store → Prop} {s : Store} (q : wS cf b ((e.set i1 (some (.int (j : Nat)))).set i2 (some x)) (Trn g h Qf) s) :
    wp ((fun x env => bnd (put cf (.nms [i1, i2]) x env) fun env => runs cf b env) (.tup [.int (j : Nat), x]) e) (Trn g h Qf) s := by
  unfold wS at q
  simp only [put, unpack, wp_bnd, wp_chk, wp_ret, setAll]
  exact ⟨rfl, q⟩
theorem wFe_row {i1 i2 : Nat} {b ss : List Stm} {xs : List D} {env : Env} {st : Store} {d : D} (hd : d = .tup xs ∨ d = .ro xs) (I : Nat → Env → Store → Prop) (h : I 0 env st)
    (h1 : ∀ j x e s, xs[j]? = some x → I j e s → wS cf b ((e.set i1 (some (.int (j : Nat)))).set i2 (some x)) (Trn (I (j + 1)) (fun e s => wS cf ss e Qf s) Qf) s) (h2 : ∀ e s, I xs.length e s → wS cf ss e Qf s) : wFe cf i1 i2 b ss d env Qf st := by
  have e : wFe cf i1 i2 b ss d env Qf st = wp (forI (fun x env => bnd (put cf (.nms [i1, i2]) x env) fun env => runs cf b env) (enuL 0 xs) env) (Aft cf ss Qf) st := by rcases hd with rfl | rfl <;> rfl
  rw [e]
  have q := forI_enu (f := fun x env => bnd (put cf (.nms [i1, i2]) x env) fun env => runs cf b env) (Q := Aft cf ss Qf) (xs := xs) I (fun j x e s hj z => ?_) h2 xs.length 0 env st (by omega) (Nat.zero_le _) h
  · exact q
  · refine wp_mono (turn_of (h1 j x e s hj z)) fun r s z => ?_
    cases r <;> exact z
/-- for i, x in enumerate(reversed(..)) -/
def wFr [Exw] (cf : Nat → List D → M D) (i1 i2 : Nat) (b ss : List Stm) (d : D) (env : Env) (Qf : Fl → Store → Prop) (st : Store) : Prop :=
  wp (enrRun (fun x env => bnd (put cf (.nms [i1, i2]) x env) fun env => runs cf b env) d env) (Aft cf ss Qf) st
theorem wS_enr {i1 i2 : Nat} {e : Ex} {b ss : List Stm} : wS cf (.for_ (.nms [i1, i2]) (.enr e) b :: ss) env Qf st = wE cf e env (fun d s => wFr cf i1 i2 b ss d env Qf s) st := by
  unfold wS wE wFr; rw [runs, run]; simp only [wp_bnd]
  congr
  funext ds s
  congr
  funext r s
  cases r <;> first | rfl | exact wp_ret
theorem wFr_tup {i1 i2 : Nat} {b ss : List Stm} {xs : List D} {env : Env} {st : Store} (I : Nat → Env → Store → Prop) (h : I 0 env st)
    (h1 : ∀ j x e s, xs.reverse[j]? = some x → I j e s → wS cf b ((e.set i1 (some (.int (j : Nat)))).set i2 (some x)) (Trn (I (j + 1)) (fun e s => wS cf ss e Qf s) Qf) s) (h2 : ∀ e s, I xs.length e s → wS cf ss e Qf s) : wFr cf i1 i2 b ss (.tup xs) env Qf st := by
  have e : wFr cf i1 i2 b ss (.tup xs) env Qf st = wFe cf i1 i2 b ss (.tup xs.reverse) env Qf st := rfl
  rw [e]
  exact wFe_row (.inl rfl) I h h1 (by rw [List.length_reverse]; exact h2)
/-- a loop with any target, over what -/
def wFt [Exw] (cf : Nat → List D → M D) (t : Tg) (b ss : List Stm) (xs : List D) (env : Env) (Qf : Fl → Store → Prop) (st : Store) : Prop :=
  wp (forI (fun x env => bnd (put cf t x env) fun env => runs cf b env) xs env) (Aft cf ss Qf) st
def wFdt [Exw] (cf : Nat → List D → M D) (t : Tg) (b ss : List Stm) (d : D) (env : Env) (Qf : Fl → Store → Prop) (st : Store) : Prop :=
  wp (forRun (fun x env => bnd (put cf t x env) fun env => runs cf b env) d env) (Aft cf ss Qf) st
theorem wS_forT {t : Tg} {e : Ex} {b ss : List Stm} : wS cf (.for_ t (.seq e) b :: ss) env Qf st = wE cf e env (fun d s => wFdt cf t b ss d env Qf s) st := by
  unfold wS wE wFdt; rw [runs, run]; simp only [wp_bnd]
  congr
  funext ds s
  congr
  funext r s
  cases r <;> first | rfl | exact wp_ret
@[simp] theorem wFdt_tup {t : Tg} {b ss : List Stm} {xs : List D} : wFdt cf t b ss (.tup xs) env Qf st = wFt cf t b ss xs env Qf st := rfl
@[simp] theorem wFdt_ro {t : Tg} {b ss : List Stm} {xs : List D} : wFdt cf t b ss (.ro xs) env Qf st = wFt cf t b ss xs env Qf st := rfl
theorem wFt_inv {t : Tg} {b ss : List Stm} (I : List D → Env → Store → Prop) : ∀ {xs : List D} {env : Env} {st : Store}, I xs env st →
    (∀ x r e s, I (x :: r) e s → wp (put cf t x e) (fun e s => wS cf b e (Trn (I r) (fun e s => wS cf ss e Qf s) Qf) s) s) → (∀ e s, I [] e s → wS cf ss e Qf s) → wFt cf t b ss xs env Qf st
  | [], env, st, h, h1, h2 => by
    unfold wFt
    rw [forI]
    exact wp_in_ret (h2 _ _ h)
  | x :: xs, env, st, h, h1, h2 => by
    unfold wFt
    rw [forI]
    simp only [wp_bnd]
    refine wp_mono (h1 x xs env st h) fun e s z => ?_
    refine wS_mono z fun r s z => ?_
    cases r with
    | next e => exact wFt_inv I z h1 h2
    | cnt e => exact wFt_inv I z h1 h2
    | brk e => exact wp_in_ret z
    | ret d => exact wp_in_ret z
/-- zip -/
def wZ [Exw] (cf : Nat → List D → M D) (t : Tg) (b ss : List Stm) (ds : List D) (env : Env) (Qf : Fl → Store → Prop) (st : Store) : Prop :=
  wp (zipRun (fun x env => bnd (put cf t x env) fun env => runs cf b env) ds env) (Aft cf ss Qf) st
theorem wS_zip {t : Tg} {as : List Ex} {b ss : List Stm} : wS cf (.for_ t (.zip as) b :: ss) env Qf st = wEs cf as env (fun ds s => wZ cf t b ss ds env Qf s) st := by
  unfold wS wEs wZ; rw [runs, run]; simp only [wp_bnd]
  congr
  funext ds s
  congr
  funext r s
  cases r <;> first | rfl | exact wp_ret
theorem forZ_inv {f : D → Env → M Fl} {Q : Fl → Store → Prop} {d1 d2 : D} {xs ys : List D} (I : Nat → Env → Store → Prop) (s1 : ∀ j e s, I j e s → srcL d1 s = .ok xs s) (s2 : ∀ j e s, I j e s → srcL d2 s = .ok ys s)
    (h1 : ∀ j x y e s, xs[j]? = some x → ys[j]? = some y → I j e s → wp (f (.tup [x, y]) e) (Trn (I (j + 1)) (fun e s => Q (.next e) s) Q) s) (h2 : ∀ j e s, (j = xs.length ∨ j = ys.length) → I j e s → Q (.next e) s) :
    ∀ (k j : Nat) (env : Env) (st : Store), xs.length < j + k → j ≤ xs.length → j ≤ ys.length → I j env st → wp (forZ f d1 d2 k j env) Q st
  | 0, j, env, st, hk, l1, l2, h => by omega
  | k + 1, j, env, st, hk, l1, l2, h => by
    rw [forZ, wp_fn, bnd_ok (s1 _ _ _ h), bnd_ok (s2 _ _ _ h), ← wp_fn, wp_chk]
    refine ⟨⟨l1, l2⟩, ?_⟩
    cases zx : xs[j]? with
    | none => exact wp_in_ret (h2 _ _ _ (.inl (by have := List.getElem?_eq_none_iff.mp zx; omega)) h)
    | some x =>
      cases zy : ys[j]? with
      | none => exact wp_in_ret (h2 _ _ _ (.inr (by have := List.getElem?_eq_none_iff.mp zy; omega)) h)
      | some y =>
        have a1 := (List.getElem?_eq_some_iff.mp zx).1
        have a2 := (List.getElem?_eq_some_iff.mp zy).1
        show wp (bnd (f (.tup [x, y]) env) _) Q st
        rw [wp_bnd]
        refine wp_mono (h1 _ _ _ _ _ zx zy h) fun r s z => ?_
        cases r with
        | next e => exact forZ_inv I s1 s2 h1 h2 k (j + 1) _ _ (by omega) (by omega) (by omega) z
        | cnt e => exact forZ_inv I s1 s2 h1 h2 k (j + 1) _ _ (by omega) (by omega) (by omega) z
        | brk e => exact wp_in_ret z
        | ret d => exact wp_in_ret z
theorem wZ_inv {t : Tg} {b ss : List Stm} {d1 d2 : D} {xs ys : List D} (hx : xs.length < FUEL) (I : Nat → Env → Store → Prop) (s1 : ∀ j e s, I j e s → srcL d1 s = .ok xs s) (s2 : ∀ j e s, I j e s → srcL d2 s = .ok ys s) (h : I 0 env st)
    (h1 : ∀ j x y e s, xs[j]? = some x → ys[j]? = some y → I j e s → wp (put cf t (.tup [x, y]) e) (fun e s => wS cf b e (Trn (I (j + 1)) (fun e s => wS cf ss e Qf s) Qf) s) s)
    (h2 : ∀ j e s, (j = xs.length ∨ j = ys.length) → I j e s → wS cf ss e Qf s) : wZ cf t b ss [d1, d2] env Qf st := by
  unfold wZ zipRun
  refine forZ_inv I s1 s2 (fun j x y e s zx zy z => ?_) h2 FUEL 0 env st (by omega) (by omega) (by omega) h
  rw [wp_bnd]
  refine wp_mono (h1 _ _ _ _ _ zx zy z) fun e s z => ?_
  refine wp_mono z fun r s z => ?_
  cases r <;> exact z
/-- for a, b in a row of pairs -/
theorem forI_inv {f : D → Env → M Fl} {Q : Fl → Store → Prop} (I : List D → Env → Store → Prop)
    (h1 : ∀ x r e s, I (x :: r) e s → wp (f x e) (Trn (I r) (fun e s => Q (.next e) s) Q) s) (h2 : ∀ e s, I [] e s → Q (.next e) s) :
    ∀ (xs : List D) (env : Env) (st : Store), I xs env st → wp (forI f xs env) Q st
  | [], env, st, h => by
    rw [forI]
    exact wp_in_ret (h2 _ _ h)
  | x :: xs, env, st, h => by
    rw [forI, wp_bnd]
    refine wp_mono (h1 _ _ _ _ h) fun r s z => ?_
    cases r with
    | next e => exact forI_inv I h1 h2 xs _ _ z
    | cnt e => exact forI_inv I h1 h2 xs _ _ z
    | brk e => exact wp_in_ret z
    | ret d => exact wp_in_ret z
theorem wS_while {t : Ex} {b ss : List Stm} (I : Nat → Env → Store → Prop) (m : Nat) (hm : m < FUEL) (h : I m env st)
    (h1 : ∀ m e s, I m e s → wT cf t e (fun c s => if c = true then wS cf b e (Trn (fun e s => ∃ m', m' < m ∧ I m' e s) (fun e s => wS cf ss e Qf s) Qf) s else wS cf ss e Qf s) s) : wS cf (.whl t b :: ss) env Qf st := by
  rw [wS_whl]
  exact wW_inv I h1 FUEL m env st hm h
theorem lcI_inv {t : D → M Bool} {f : D → M D} {Q : List D → Store → Prop} (I : List D → List D → Store → Prop)
    (h1 : ∀ acc x r s, I acc (x :: r) s → wp (t x) (fun k s => if k = true then wp (f x) (fun y s => acc.length < LINE ∧ I (acc ++ [y]) r s) s else I acc r s) s) (h2 : ∀ acc s, I acc [] s → Q acc s) :
    ∀ (xs acc : List D) (st : Store), I acc xs st → wp (lcI t f acc xs) Q st
  | [], acc, st, h => by
    rw [lcI]
    exact wp_in_ret (h2 _ _ h)
  | x :: xs, acc, st, h => by
    rw [lcI, wp_bnd]
    refine wp_mono (h1 _ _ _ _ h) fun k s z => ?_
    cases k with
    | false => exact lcI_inv I h1 h2 xs acc s z
    | true =>
      simp only [if_true, wp_bnd, wp_chk] at z ⊢
      exact wp_mono z fun y s z => ⟨z.1, lcI_inv I h1 h2 xs _ s z.2⟩
theorem lcO_const {t : D → M Bool} {f : D → M D} {n : Nat} {xs : List D} {Q : List D → Store → Prop} (I : List D → List D → Store → Prop) (hl : ∀ acc r s, I acc r s → lk s n = some xs)
    (h1 : ∀ acc x r s, I acc (x :: r) s → wp (t x) (fun k s => if k = true then wp (f x) (fun y s => acc.length < LINE ∧ I (acc ++ [y]) r s) s else I acc r s) s) (h2 : ∀ acc s, I acc [] s → Q acc s) :
    ∀ (m j : Nat) (acc : List D) (st : Store), xs.length - j < m → I acc (xs.drop j) st → wp (lcO t f n m j acc) Q st
  | 0, _, _, _, h, _ => by omega
  | m + 1, j, acc, st, hm, h => by
    rw [lcO, wp_bnd, wp_getL' (hl _ _ _ h)]
    cases e : xs[j]? with
    | none =>
      have hj : xs.length ≤ j := by simpa using e
      rw [List.drop_eq_nil_of_le hj] at h
      exact wp_in_ret (h2 _ _ h)
    | some x =>
      obtain ⟨hj, rfl⟩ := List.getElem?_eq_some_iff.mp e
      rw [List.drop_eq_getElem_cons hj] at h
      simp only [wp_bnd]
      refine wp_mono (h1 _ _ _ _ h) fun k s z => ?_
      cases k with
      | false => exact lcO_const I hl h1 h2 m (j + 1) _ _ (by omega) z
      | true =>
        simp only [if_true, wp_bnd, wp_chk] at z ⊢
        exact wp_mono z fun y s z => ⟨z.1, lcO_const I hl h1 h2 m (j + 1) _ _ (by omega) z.2⟩
theorem wp_lcRun_ob {t : D → M Bool} {f : D → M D} {n : Nat} {xs : List D} {Q : List D → Store → Prop} {st : Store} (hx : xs.length < FUEL) (I : List D → List D → Store → Prop) (hl : ∀ acc r s, I acc r s → lk s n = some xs) (h : I [] xs st)
    (h1 : ∀ acc x r s, I acc (x :: r) s → wp (t x) (fun k s => if k = true then wp (f x) (fun y s => acc.length < LINE ∧ I (acc ++ [y]) r s) s else I acc r s) s) (h2 : ∀ acc s, I acc [] s → Q acc s) : wp (lcRun t f (.ob n)) Q st := by
  simp only [lcRun]
  exact lcO_const I hl h1 h2 FUEL 0 [] st (by omega) (by simpa using h)
/-- a comprehension over things, no test -/
theorem lcI_calm {E : Exw} {t : D → M Bool} {f : D → M D} : ∀ (xs acc : List D) (st : Store) (Q : List D → Store → Prop), @wp E _ (lcI (fun y => calm (t y)) (fun y => calm (f y)) acc xs) Q st = @wp noX _ (lcI t f acc xs) Q st
  | [], acc, st, Q => by rw [lcI, lcI, @wp_ret E, @wp_ret noX]
  | x :: xs, acc, st, Q => by
    rw [lcI, lcI, @wp_bnd E, @wp_bnd noX, wp_calm]
    congr
    funext k s
    cases k with
    | false => exact lcI_calm xs acc s Q
    | true =>
      simp only [if_true]
      rw [@wp_bnd E, @wp_bnd noX, wp_calm]
      congr
      funext y s
      rw [@wp_chk E, @wp_chk noX, lcI_calm xs _ s Q]
theorem lcO_calm {E : Exw} {t : D → M Bool} {f : D → M D} {n : Nat} : ∀ (k i : Nat) (acc : List D) (st : Store) (Q : List D → Store → Prop), @wp E _ (lcO (fun y => calm (t y)) (fun y => calm (f y)) n k i acc) Q st = @wp noX _ (lcO t f n k i acc) Q st
  | 0, i, acc, st, Q => by rw [lcO, lcO, @wp_bad E, @wp_bad noX]
  | k + 1, i, acc, st, Q => by
    rw [lcO, lcO, @wp_bnd E, @wp_bnd noX, @wp_getL E, @wp_getL noX]
    have key : ∀ o : Option D, @wp E _ (match o with
      | none => ret acc
      | some x => bnd (calm (t x)) fun c => if c then bnd (calm (f x)) fun y => chk (acc.length < LINE) (lcO (fun y => calm (t y)) (fun y => calm (f y)) n k (i + 1) (acc ++ [y])) else lcO (fun y => calm (t y)) (fun y => calm (f y)) n k (i + 1) acc) Q st = @wp noX _ (match o with
      | none => ret acc
      | some x => bnd (t x) fun c => if c then bnd (f x) fun y => chk (acc.length < LINE) (lcO t f n k (i + 1) (acc ++ [y])) else lcO t f n k (i + 1) acc) Q st := by
      intro o
      cases o with
      | none => exact (@wp_ret E ..).trans (@wp_ret noX ..).symm
      | some x =>
        show @wp E _ (bnd (calm (t x)) _) Q st = @wp noX _ (bnd (t x) _) Q st
        rw [@wp_bnd E, @wp_bnd noX, wp_calm]
        congr
        funext k' s
        cases k' with
        | false => exact lcO_calm k (i + 1) acc s Q
        | true =>
          simp only [if_true]
          rw [@wp_bnd E, @wp_bnd noX, wp_calm]
          congr
          funext y s
          rw [@wp_chk E, @wp_chk noX, lcO_calm k (i + 1) _ s Q]
    exact congrArg (fun z => (lk st n).isSome = true ∧ z) (key _)
theorem lcRun_calm {E : Exw} {t : D → M Bool} {f : D → M D} {d : D} {st : Store} {Q : List D → Store → Prop} : @wp E _ (lcRun (fun y => calm (t y)) (fun y => calm (f y)) d) Q st = @wp noX _ (lcRun t f d) Q st := by
  cases d with
  | tup xs => exact lcI_calm xs [] st Q
  | ro xs => exact lcI_calm xs [] st Q
  | str s => exact lcI_calm (charsOf s) [] st Q
  | ob n => exact lcO_calm FUEL 0 [] st Q
  | _ =>
    show @wp E _ bad Q st = @wp noX _ bad Q st
    rw [@wp_bad E, @wp_bad noX]
theorem wE_lcr {e : Ex} {i : Nat} {as : List Ex} {c : Option Ex} : wE cf (.lcr e i as c) env Q st = wEs cf as env (fun ds s => wp (rangeOf ds) (fun xs s =>
    @wp noX _ (lcI (fun y => evC cf c (env.set i (some y))) (fun y => evE cf e (env.set i (some y))) [] xs) (fun ys s => Q (.ob s.length) (s ++ [.lst ys])) s) s) st := by
  unfold wE wEs; rw [evE]; simp only [wp_bnd, wp_newO, lcI_calm]
theorem wE_lc {e it : Ex} {i : Nat} {c : Option Ex} : wE cf (.lc e i it c) env Q st = wE cf it env (fun x s =>
    @wp noX _ (lcRun (fun y => evC cf c (env.set i (some y))) (fun y => evE cf e (env.set i (some y))) x) (fun ys s => Q (.ob s.length) (s ++ [.lst ys])) s) st := by
  unfold wE; rw [evE]; simp only [wp_bnd, wp_newO, lcRun_calm]
theorem wC_none {Qb : Bool → Store → Prop} : wp (evC cf none env) Qb st = Qb true st := by rw [evC]; first | exact wp_ret | rfl
theorem wC_some {e : Ex} {Qb : Bool → Store → Prop} : wp (evC cf (some e) env) Qb st = wT cf e env Qb st := by rw [evC]; first | exact wp_ret | rfl
def Rt (Q : D → Store → Prop) : Fl → Store → Prop
  | .next _, s => Q .non s
  | .ret d, s => Q d s
  | _, _ => False
@[simp] theorem rt_next {e : Env} : Rt Q (.next e) st = Q .non st := rfl
@[simp] theorem rt_ret {d : D} : Rt Q (.ret d) st = Q d st := rfl
theorem wp_call {P : List Fn} {k i : Nat} {f : Fn} {ds : List D} (h : P[i]? = some f) (hl : ds.length = f.np) : wp (call P (k + 1) i ds) Q st = wS (call P k) f.body (start f.nv ds) (Rt Q) st := by
  rw [call, h]
  simp only [wp_chk, wp_bnd, hl, true_and]
  unfold wS
  congr
  funext r s
  cases r <;> first | rfl | exact wp_ret | exact wp_bad
theorem call_ok {P : List Fn} {k i : Nat} {ds : List D} {d : D} {st' : Store} (h : @wp noX _ (call P k i ds) (fun x s => x = d ∧ s = st') st) : call P k i ds st = .ok d st' := by
  obtain ⟨a, s, e, rfl, rfl⟩ := wp_iff.mp h
  exact e
theorem wp_throw {c : Nat} {fs : List S} {ds : List D} : wp (throw c fs ds) Qf st = ((ds.length = fs.length ∧ ds.all atom = true) ∧ Exw.X ⟨c, fs, ds⟩ st) := by
  rw [wp_fn]
  unfold throw
  by_cases h : ds.length = fs.length ∧ ds.all atom = true
  · rw [if_pos h]
    exact propext ⟨fun z => ⟨h, z⟩, fun z => z.2⟩
  · rw [if_neg h]
    exact propext ⟨fun z => z.elim, fun z => (h z.1).elim⟩
theorem wS_rais {c : Nat} {fs : List S} {as : List Ex} {ss : List Stm} : wS cf (.rais c fs as :: ss) env Qf st = wEs cf as env (fun ds s => (ds.length = fs.length ∧ ds.all atom = true) ∧ Exw.X ⟨c, fs, ds⟩ s) st := by
  unfold wS wEs
  rw [runs, run]
  simp only [wp_bnd]
  congr
  funext ds s
  rw [wp_throw]
/-- within a try: what comes out goes to the suite -/
@[reducible] def tryX (E : Exw) (ks : List Nat) (h : Xn → Store → Prop) : Exw := ⟨fun x s => if ks.contains x.c = true then h x s else E.X x s⟩
theorem wS_try {E : Exw} {b ss h : List Stm} {n i : Nat} {ks : List Nat} : @wS E cf (.try_ b n i ks h :: ss) env Qf st = @wS (tryX E ks fun x s => @wS noX cf h (hEnv n x) (fun f s => @Aft E cf ss Qf (hFl i f) s) s) cf b env (fun f s => @Aft E cf ss Qf f s) st := by
  have key : ∀ f s, @wp E _ (match f with | .next e => runs cf ss e | r => ret r) Qf s = @Aft E cf ss Qf f s := by
    intro f s
    cases f <;> first | rfl | exact @wp_ret E ..
  unfold wS
  rw [runs, @wp_bnd E, run, @wp_fn E, @wp_fn (tryX E ks _)]
  unfold tryM
  cases runs cf b env st with
  | ok f s => exact key f s
  | bad => rfl
  | ex x s =>
    dsimp only
    change _ = (if ks.contains x.c = true then @wS noX cf h (hEnv n x) (fun f s => @Aft E cf ss Qf (hFl i f) s) s else E.X x s)
    by_cases hk : ks.contains x.c = true
    · simp only [if_pos hk]
      unfold wS
      rw [@wp_fn noX]
      unfold calm bnd
      cases runs cf h (hEnv n x) s with
      | ok f s => exact key _ s
      | bad => rfl
      | ex x s => rfl
    · simp only [if_neg hk]
theorem curX_wp {n i : Nat} {k : Xn → M D} {c : Nat} {fs : List S} {ds : List D} (h1 : env[n]? = some (some (.xn c fs ds))) (h2 : env[i]? = some none) : wp (curX n i env k) Q st = wp (k ⟨c, fs, ds⟩) Q st := by
  unfold curX
  rw [h1, h2]
theorem wE_xf {n i : Nat} {f : S} {c : Nat} {fs : List S} {ds : List D} (h1 : env[n]? = some (some (.xn c fs ds))) (h2 : env[i]? = some none) : wE cf (.xf n i f) env Q st = (∃ u, (fs.zip ds).lookup f = some u ∧ Q u st) := by
  unfold wE
  rw [evE, curX_wp h1 h2, wp_ofO]
theorem wE_xi {n i : Nat} {ks : List Nat} {c : Nat} {fs : List S} {ds : List D} (h1 : env[n]? = some (some (.xn c fs ds))) (h2 : env[i]? = some none) : wE cf (.xi n i ks) env Q st = Q (.bl (ks.contains c)) st := by
  unfold wE
  rw [evE, curX_wp h1 h2, wp_ret]
theorem wT_xi {n i : Nat} {ks : List Nat} {c : Nat} {fs : List S} {ds : List D} (h1 : env[n]? = some (some (.xn c fs ds))) (h2 : env[i]? = some none) : wT cf (.xi n i ks) env Qb st = Qb (ks.contains c) st := by
  rw [wT_def, wE_xi h1 h2]
  simp only [tr_bl, wp_ret]
end
end Li
namespace Li
theorem atI_nat {α : Type} {xs : List α} {j : Nat} : atI xs (j : Int) = xs[j]? := by
  unfold atI ixN
  by_cases h : (j : Int) < xs.length
  · have h2 : j < xs.length := by omega
    simp [h2]
  · have h2 : xs.length ≤ j := by omega
    simp [h, h2]
theorem ixN_nat {n j : Nat} (h : j < n) : ixN n (j : Int) = some j := by
  unfold ixN
  have h1 : (0 : Int) ≤ j := by omega
  have h2 : (j : Int) < n := by omega
  simp [h1, h2]
theorem cut_take {α : Type} {xs : List α} {j : Nat} : cut xs none (some (j : Int)) = xs.take j := by
  unfold cut ixs
  have h1 : ¬ (j : Int) < 0 := by omega
  simp [h1]
theorem cut_drop {α : Type} {xs : List α} {j : Nat} (h : j ≤ xs.length) : cut xs (some (j : Int)) none = xs.drop j := by
  unfold cut ixs
  have h1 : ¬ (j : Int) < 0 := by omega
  have h2 : min j xs.length = j := by omega
  simp [h1, h2]
  exact List.take_of_length_le (by simp)
theorem cut_drop1 {α : Type} {xs : List α} {j : Nat} (h : j + 1 ≤ xs.length) : cut xs (some ((j : Int) + 1)) none = xs.drop (j + 1) := by
  have e : (j : Int) + 1 = ((j + 1 : Nat) : Int) := by omega
  rw [e]
  exact cut_drop h
@[simp] theorem atI_0 {α : Type} {x : α} {xs : List α} : atI (x :: xs) 0 = some x := by
  have := atI_nat (xs := x :: xs) (j := 0)
  simpa using this
@[simp] theorem atI_1 {α : Type} {x y : α} {xs : List α} : atI (x :: y :: xs) 1 = some y := by
  have := atI_nat (xs := x :: y :: xs) (j := 1)
  simpa using this
@[simp] theorem atI_2 {α : Type} {x y z : α} {xs : List α} : atI (x :: y :: z :: xs) 2 = some z := by
  have := atI_nat (xs := x :: y :: z :: xs) (j := 2)
  simpa using this
@[simp] theorem atI_3 {α : Type} {x y z u : α} {xs : List α} : atI (x :: y :: z :: u :: xs) 3 = some u := by
  have := atI_nat (xs := x :: y :: z :: u :: xs) (j := 3)
  simpa using this
@[simp] theorem atI_4 {α : Type} {x y z u v : α} {xs : List α} : atI (x :: y :: z :: u :: v :: xs) 4 = some v := by
  have := atI_nat (xs := x :: y :: z :: u :: v :: xs) (j := 4)
  simpa using this
@[simp] theorem atI_5 {α : Type} {x y z u v w : α} {xs : List α} : atI (x :: y :: z :: u :: v :: w :: xs) 5 = some w := by
  have := atI_nat (xs := x :: y :: z :: u :: v :: w :: xs) (j := 5)
  simpa using this
theorem line_big : (100000 : Nat) ≤ LINE := by decide
def fCell : Fn := ⟨2, 2, [
  .ite (.cmp .lt (.v 1) (.bi .len [(.v 0)])) [.ret (.ix (.v 0) (.v 1))] [],
  .ret (.c (.int 0))]⟩
theorem cell_ok {P : List Fn} {k i : Nat} (h : P[i]? = some fCell) (ns : List Int) (j : Nat) (st : Store) : call P (k + 1) i [.ro (ns.map .int), .int j] st = .ok (.int (ns.getD j 0)) st := by
  refine call_ok ?_
  rw [wp_call h rfl]
  unfold fCell
  rw [wS_ite]
  simp [start]
  by_cases hj : j < ns.length
  · rw [if_pos hj, wS_ret]
    simp [atI_nat, hj]
  · rw [if_neg hj, wS_ret]
    simp [List.getElem?_eq_none (Nat.le_of_not_lt hj)]
def fDigits (c : Nat) : Fn := ⟨3, 8, [
  .asg (.nm 3) (.lst []),
  .for_ (.nm 4) (.rng [(.v 1), (.v 2)]) [.asg (.nm 5) (.call c [(.v 0), (.v 4)]), .ite (.cmp .lt (.v 5) (.c (.int 0))) [.asg (.nm 5) (.bin .sub (.c (.int 1)) (.bin .mul (.c (.int 2)) (.v 5)))] [], .ite (.cmp .ge (.v 5) (.bin .pow (.c (.int 10)) (.c (.int 18)))) [.for_ (.nm 6) (.rng [(.c (.int 60))]) [.ite (.cmp .gt (.v 5) (.c (.int 0))) [.ex (.mt .append (.v 3) [(.bin .mod (.bi .int [(.v 5)]) (.c (.int 1000)))]), .asg (.nm 5) (.bin .fdiv (.v 5) (.c (.int 1000)))] []]] [.asg (.nm 7) (.bin .mod (.bi .int [(.bin .add (.bin .add (.bin .mul (.v 5) (.c (.int 48271))) (.bin .mul (.v 4) (.c (.int 69621)))) (.c (.int 11)))]) (.c (.int 2147483647))), .for_ (.nm 6) (.rng [(.c (.int 12))]) [.asg (.nm 7) (.bin .mod (.bi .int [(.bin .add (.bin .add (.bin .mul (.v 7) (.c (.int 16807))) (.bin .mul (.c (.int 7)) (.v 6))) (.c (.int 1)))]) (.c (.int 2147483647))), .ex (.mt .append (.v 3) [(.bin .mod (.bi .int [(.bin .fdiv (.v 7) (.c (.int 997)))]) (.c (.int 1000)))])]]],
  .ret (.v 3)]⟩
theorem lk_upd_new {st : Store} {o : O} {xs : List D} : (st ++ [o]).set st.length (.lst xs) = st ++ [.lst xs] := by
  rw [List.set_append_right _ _ (Nat.le_refl _)]
  simp
theorem digits_ok {P : List Fn} {k i c : Nat} (h : P[i]? = some (fDigits c)) (hc : P[c]? = some fCell) (ns : List Int) (n : Nat) (hn : n ≤ 63) (st : Store) :
    ∃ ds : List Int, ds.length ≤ 60 * n ∧ call P (k + 2) i [.ro (ns.map .int), .int 0, .int n] st = .ok (.ob st.length) (st ++ [.lst (ds.map .int)]) := by
  suffices q : ∀ Q : D → Store → Prop, (∀ ds : List Int, ds.length ≤ 60 * n → Q (.ob st.length) (st ++ [.lst (ds.map .int)])) → wp (call P (k + 2) i [.ro (ns.map .int), .int 0, .int n]) Q st by
    obtain ⟨d, s, e, ds, hl, rfl, rfl⟩ := wp_out (q (fun d s => ∃ ds : List Int, ds.length ≤ 60 * n ∧ d = .ob st.length ∧ s = st ++ [.lst (ds.map .int)]) fun ds hl => ⟨ds, hl, rfl, rfl⟩)
    exact ⟨ds, hl, e⟩
  intro Q hQ
  rw [wp_call h rfl]
  unfold fDigits
  rw [wS_asg]
  simp [start]
  rw [wS_rng]
  simp
  refine ⟨⟨by decide, by unfold inBig BIG; omega⟩, ?_⟩
  obtain ⟨I, hI⟩ : ∃ I : Nat → Env → Store → Prop, I = fun j e s => ∃ (ds : List Int) (a b c d : Option D), ds.length ≤ 60 * j ∧ e = [some (.ro (ns.map .int)), some (.int 0), some (.int n), some (.ob st.length), a, b, c, d] ∧ s = st ++ [.lst (ds.map .int)] := ⟨_, rfl⟩
  refine wF_range I (by rw [hI]; exact ⟨[], _, _, _, _, by simp, rfl, rfl⟩) (fun j e s hj z => ?_) fun e s z => ?_
  · rw [hI] at z
    obtain ⟨ds, a, b, c', d, hl, rfl, rfl⟩ := z
    simp only [List.set_cons_succ, List.set_cons_zero]
    rw [wS_asg]
    have e0 : ((0 : Int) + (j : Nat)) = (j : Int) := by omega
    rw [e0]
    simp
    rw [wp_ok (cell_ok hc ns j _)]
    generalize ns.getD j 0 = x
    rw [wS_ite]
    simp
    generalize hb : Stm.ite (.cmp .ge (.v 5) _) _ _ = body
    suffices hs : ∀ y : Int, wS (call P (k + 1)) [body] [some (.ro (ns.map .int)), some (.int 0), some (.int n), some (.ob st.length), some (.int j), some (.int y), c', d] (Trn (I (j + 1)) (fun e s => wS (call P (k + 1)) [.ret (.v 3)] e (Rt Q) s) (Rt Q)) (st ++ [.lst (ds.map .int)]) by
      by_cases hx : x < 0
      · rw [if_pos hx, wS_asg]
        simp
        exact ⟨.inl (by decide), hs _⟩
      · rw [if_neg hx]
        exact hs _
    intro y
    rw [← hb]
    rw [wS_ite]
    simp
    split
    · rw [wS_rng]
      simp
      refine ⟨by decide, ?_⟩
      obtain ⟨J, hJ⟩ : ∃ I : Nat → Env → Store → Prop, I = fun m e s => ∃ (ds' : List Int) (y : Int) (c d : Option D), ds'.length ≤ ds.length + m ∧ e = [some (.ro (ns.map .int)), some (.int 0), some (.int n), some (.ob st.length), some (.int j), some (.int y), c, d] ∧ s = st ++ [.lst (ds'.map .int)] := ⟨_, rfl⟩
      refine wF_range J (by rw [hJ]; exact ⟨ds, _, _, _, by omega, rfl, rfl⟩) (fun m e s hm z => ?_) fun e s z => ?_
      · rw [hJ] at z
        obtain ⟨ds', y, c', d, hl', rfl, rfl⟩ := z
        simp only [List.set_cons_succ, List.set_cons_zero]
        rw [wS_ite]
        simp
        have hm : m < 60 := hm
        split
        · rw [wS_ex]
          simp
          refine ⟨Nat.lt_of_lt_of_le (by omega) line_big, ?_⟩
          rw [wS_asg]
          simp
          refine ⟨by decide, ?_⟩
          rw [wS_nil, hJ]
          exact ⟨ds' ++ [y % 1000], _, _, _, by simp; omega, rfl, by simp⟩
        · rw [wS_nil, hJ]
          exact ⟨ds', _, _, _, by omega, rfl, rfl⟩
      · rw [hJ] at z
        obtain ⟨ds', y, c', d, hl', rfl, rfl⟩ := z
        rw [wS_nil, hI]
        have hl' : ds'.length ≤ ds.length + 60 := hl'
        exact ⟨ds', _, _, _, _, by omega, rfl, rfl⟩
    · rw [wS_asg]
      simp
      refine ⟨.inr (.inl (by decide)), .inr (.inl (by decide)), ?_⟩
      rw [wS_rng]
      simp
      refine ⟨by decide, ?_⟩
      obtain ⟨J, hJ⟩ : ∃ I : Nat → Env → Store → Prop, I = fun m e s => ∃ (ds' : List Int) (y z : Int) (c : Option D), ds'.length ≤ ds.length + m ∧ e = [some (.ro (ns.map .int)), some (.int 0), some (.int n), some (.ob st.length), some (.int j), some (.int y), c, some (.int z)] ∧ s = st ++ [.lst (ds'.map .int)] := ⟨_, rfl⟩
      refine wF_range J (by rw [hJ]; exact ⟨ds, _, _, _, by omega, rfl, rfl⟩) (fun m e s hm z => ?_) fun e s z => ?_
      · rw [hJ] at z
        obtain ⟨ds', y, z, c', hl', rfl, rfl⟩ := z
        simp only [List.set_cons_succ, List.set_cons_zero]
        have hm : m < 12 := hm
        rw [wS_asg]
        simp
        refine ⟨.inr (.inl (by decide)), .inl (by decide), ?_⟩
        rw [wS_ex]
        simp
        refine ⟨by decide, Nat.lt_of_lt_of_le (by omega) line_big, ?_⟩
        rw [wS_nil, hJ]
        exact ⟨ds' ++ [_], _, _, _, by simp; omega, rfl, by rw [List.map_append]; rfl⟩
      · rw [hJ] at z
        obtain ⟨ds', y, z, c', hl', rfl, rfl⟩ := z
        rw [wS_nil, hI]
        have hl' : ds'.length ≤ ds.length + 12 := hl'
        exact ⟨ds', _, _, _, _, by omega, rfl, rfl⟩
  · rw [hI] at z
    obtain ⟨ds, a, b, c, d, hl, rfl, rfl⟩ := z
    rw [wS_ret]
    simp
    exact hQ ds hl
/-- what stands in the box -/
def bx (a n : Nat) : List D := [.ob a, .int n]
/-- the draws: b the box, a the digits, n of them drawn -/
structure Box (st : Store) (b a n : Nat) (ds : List Int) : Prop where
  box : lk st b = some (bx a n)
  dig : lk st a = some (ds.map .int)
  ne : b ≠ a
theorem Box.next {st : Store} {b a n : Nat} {ds : List Int} (x : Box st b a n ds) : Box (st.set b (.lst (bx a (n + 1)))) b a (n + 1) ds :=
  ⟨lk_same (lk_lt x.box), by rw [lk_else x.ne]; exact x.dig, x.ne⟩
theorem Box.set {st : Store} {b a n m : Nat} {ds : List Int} {o : O} (x : Box st b a n ds) (h1 : m ≠ b) (h2 : m ≠ a) : Box (st.set m o) b a n ds := ⟨by rw [lk_else h1]; exact x.box, by rw [lk_else h2]; exact x.dig, x.ne⟩
theorem Box.app {st t : Store} {b a n : Nat} {ds : List Int} (x : Box st b a n ds) : Box (st ++ t) b a n ds := ⟨lk_old x.box, lk_old x.dig, x.ne⟩
def fDraw (e : Ex) : Fn := ⟨2, 3, [
  .asg (.nm 2) (.ix (.v 0) (.c (.int 1))),
  .asg (.sub (.v 0) (.c (.int 1))) (.bin .add (.v 2) (.c (.int 1))),
  .ite (.cmp .lt (.v 2) (.bi .len [(.ix (.v 0) (.c (.int 0)))])) [.ret (.bin .mod (.bi .int [(.ix (.ix (.v 0) (.c (.int 0))) (.v 2))]) (.v 1))] [],
  .ret e]⟩
def eZero : Ex := .c (.int 0)
def eSeven : Ex := .bin .mod (.bi .int [(.bin .add (.bin .mul (.v 2) (.c (.int 7))) (.c (.int 3)))]) (.v 1)
/-- what is told of the last row: it gives a number below -/
def Low (cf : Nat → List D → M D) (e : Ex) : Prop := ∀ (m : Int) (x y : D) (n : Nat) (st : Store), 0 < m → ∃ r : Nat, (r : Int) < m ∧ evE cf e [some x, some (.int m), some (.int n)] st = .ok (.int r) st
theorem low_zero {cf : Nat → List D → M D} : Low cf eZero := fun m x y n st hm => ⟨0, hm, rfl⟩
theorem mod_nat (a : Int) {m : Int} (hm : 0 < m) : ∃ r : Nat, (r : Int) < m ∧ a % m = r := by
  have h1 := Int.emod_nonneg a (Int.ne_of_gt hm)
  have h2 := Int.emod_lt_of_pos a hm
  exact ⟨(a % m).toNat, by omega, by omega⟩
theorem low_seven {cf : Nat → List D → M D} : Low cf eSeven := by
  intro m x y n st hm
  obtain ⟨r, h1, h2⟩ := mod_nat ((n : Int) * 7 + 3) hm
  refine ⟨r, h1, ?_⟩
  have q : wE cf eSeven [some x, some (.int m), some (.int n)] (fun d s => d = .int r ∧ s = st) st := by
    unfold eSeven
    simp [hm]
    exact ⟨.inr (.inl (by decide)), h2⟩
  unfold wE at q
  have q1 := wp_out q
  obtain ⟨a, s, e, h3, h4⟩ := q1
  rw [e, h3, h4]
theorem draw_ok {P : List Fn} {k i : Nat} {e : Ex} (h : P[i]? = some (fDraw e)) (he : Low (call P k) e) {st : Store} {b a n : Nat} {ds : List Int} (B : Box st b a n ds) {m : Int} (hm : 0 < m) :
    ∃ r : Nat, (r : Int) < m ∧ call P (k + 1) i [.ob b, .int m] st = .ok (.int r) (st.set b (.lst (bx a (n + 1)))) := by
  suffices q : ∀ Q : D → Store → Prop, (∀ r : Nat, (r : Int) < m → Q (.int r) (st.set b (.lst (bx a (n + 1))))) → wp (call P (k + 1) i [.ob b, .int m]) Q st by
    obtain ⟨d, s, e, r, hl, rfl, rfl⟩ := wp_out (q (fun d s => ∃ r : Nat, (r : Int) < m ∧ d = .int r ∧ s = st.set b (.lst (bx a (n + 1)))) fun ds hl => ⟨ds, hl, rfl, rfl⟩)
    exact ⟨r, hl, e⟩
  intro Q hQ
  have B' := B.next
  have hb := B.box
  have hd := B.dig
  have hb' := B'.box
  have hd' := B'.dig
  have e1 : bx a (n + 1) = [.ob a, .int ((n : Int) + 1)] := by
    unfold bx
    have : ((n + 1 : Nat) : Int) = (n : Int) + 1 := by omega
    rw [this]
  have e2 : bx a n = [.ob a, .int n] := rfl
  rw [e1] at hb' hd' hQ
  rw [e2] at hb
  rw [wp_call h rfl]
  unfold fDraw
  rw [wS_asg]
  simp [start, hb]
  rw [wS_put]
  simp [hb]
  refine ⟨1, rfl, lk_lt hb, ?_⟩
  simp
  rw [wS_ite]
  simp [hb', hd']
  by_cases hj : n < ds.length
  · rw [if_pos hj, wS_ret]
    simp [hb', hd', atI_nat, hj, hm]
    obtain ⟨r, h1, h2⟩ := mod_nat ds[n] hm
    rw [h2]
    exact hQ r h1
  · rw [if_neg hj, wS_ret]
    obtain ⟨r, h1, h2⟩ := he m (.ob b) .non n (st.set b (.lst [.ob a, .int ((n : Int) + 1)])) hm
    show wp (evE _ e _) _ _
    rw [wp_ok h2]
    exact hQ r h1
theorem box_app {st t : Store} {b a n n' : Nat} {ds : List Int} (B : Box st b a n ds) : Box (st.set b (.lst (bx a n')) ++ t) b a n' ds :=
  ⟨lk_old (lk_same (lk_lt B.box)), lk_old (by rw [lk_else B.ne]; exact B.dig), B.ne⟩
section
variable {s t : Store} {L : Nat} {xs : List D} {x y z : O}
theorem lk_r {i : Nat} (h : s.length = L) : lk (s ++ t) (L + i) = lk t i := by
  unfold lk
  rw [List.getElem?_append_right (by omega)]
  have : L + i - s.length = i := by omega
  rw [this]
theorem lk_a0 (h : s.length = L) : lk (s ++ .lst xs :: t) L = some xs := by
  have := lk_r (t := .lst xs :: t) (i := 0) h
  exact this
theorem lk_a1 (h : s.length = L) : lk (s ++ x :: .lst xs :: t) (L + 1) = some xs := lk_r (t := x :: .lst xs :: t) (i := 1) h
theorem lk_a2 (h : s.length = L) : lk (s ++ x :: y :: .lst xs :: t) (L + 1 + 1) = some xs := lk_r (t := x :: y :: .lst xs :: t) (i := 2) h
theorem set_a0 (h : s.length = L) : (s ++ x :: t).set L z = s ++ z :: t := by
  rw [List.set_append_right _ _ (by omega)]
  have : L - s.length = 0 := by omega
  rw [this]
  rfl
theorem set_a1 (h : s.length = L) : (s ++ x :: y :: t).set (L + 1) z = s ++ x :: z :: t := by
  rw [List.set_append_right _ _ (by omega)]
  have : L + 1 - s.length = 1 := by omega
  rw [this]
  rfl
theorem set_a2 {w : O} (h : s.length = L) : (s ++ x :: y :: w :: t).set (L + 1 + 1) z = s ++ x :: y :: z :: t := by
  rw [List.set_append_right _ _ (by omega)]
  have : L + 1 + 1 - s.length = 2 := by omega
  rw [this]
  rfl
theorem set_old {b : Nat} (h : b < s.length) : (s ++ t).set b z = s.set b z ++ t := List.set_append_left _ _ h
end
theorem set_app {st t : Store} {b : Nat} {o o' : O} (h : b < st.length) : (st.set b o ++ t).set b o' = st.set b o' ++ t := by
  rw [set_old (by simpa using h), List.set_set]
theorem cut_len {α : Type} {xs : List α} {lo hi : Option Int} : (cut xs lo hi).length ≤ xs.length := by
  unfold cut
  rw [List.length_take, List.length_drop]
  omega
theorem res_ob {st : Store} {n : Nat} {xs : List D} (h : lk st n = some xs) (hf : flats 59 xs = true) : res st DEEP (.ob n) = some (.ro xs) := by
  unfold DEEP res
  rw [lk_at h]
  simp only
  rw [res_flats hf]
  rfl
end Li
namespace Li
open PySem
def CV (x : Str) : Prop := ∀ c ∈ x.cps.toList, c < 0x110000
theorem chr_lt (c : Char) : c.toNat < 0x110000 := by
  have h := c.valid
  rcases h with h | ⟨_, h⟩
  · exact Nat.lt_trans h (by decide)
  · exact h
theorem cv_of (s : String) : CV (Str.ofString s) := by
  intro c hc
  rw [Str.ofString_eq_toList] at hc
  simp at hc
  obtain ⟨a, _, rfl⟩ := hc
  exact chr_lt a
theorem cv_app {x y : Str} (hx : CV x) (hy : CV y) : CV (x ++ y) := by
  intro c hc
  have e : (x ++ y).cps.toList = x.cps.toList ++ y.cps.toList := by
    show (x.cps ++ y.cps).toList = _
    simp
  rw [e] at hc
  exact (List.mem_append.mp hc).elim (hx c) (hy c)
theorem cv_from : ∀ (ts : List Str) (k : Nat) (acc : Str), CV acc → (∀ t ∈ ts, CV t) → CV (textFrom k acc ts)
  | [], _, acc, h, _ => h
  | t :: ts, k, acc, h, ht => by
    unfold textFrom
    refine cv_from ts (k + 1) _ (cv_app (cv_app h (cv_of _)) (ht t (List.mem_cons_self ..))) fun t' h' => ht t' (List.mem_cons_of_mem _ h')
theorem cv_join {sep : Str} (hs : CV sep) : ∀ (ts : List Str), (∀ t ∈ ts, CV t) → CV (Str.join sep ts)
  | [], _ => by
    intro c hc
    simp [Str.join, Str.empty] at hc
  | [x], h => h x (List.mem_cons_self ..)
  | x :: y :: r, h => by
    unfold Str.join
    exact cv_app (cv_app (h x (List.mem_cons_self ..)) hs) (cv_join hs (y :: r) fun t ht => h t (List.mem_cons_of_mem _ ht))
theorem cv_hex (w c : Nat) : ∀ x ∈ (List.replicate (w - ((Nat.toDigits 16 c).map Char.toNat).length) 48 ++ (Nat.toDigits 16 c).map Char.toNat), x < 0x110000 := by
  intro x hx
  rcases List.mem_append.mp hx with h | h
  · rw [List.eq_of_mem_replicate h]
    decide
  · obtain ⟨a, _, rfl⟩ := List.mem_map.mp h
    exact chr_lt a
theorem cv_char {q c : Nat} (hc : c < 0x110000) : ∀ x ∈ Builtin.Str.reprChar q c, x < 0x110000 := by
  intro x hx
  unfold Builtin.Str.reprChar at hx
  simp only at hx
  have lit : ∀ {a b : Nat} {l : List Nat}, a < 0x110000 → b < 0x110000 → (∀ y ∈ l, y < 0x110000) → x ∈ [a, b] ++ l → x < 0x110000 := fun h1 h2 h3 h => by
    rcases List.mem_append.mp h with h | h
    · simp at h
      rcases h with h | h <;> subst h <;> assumption
    · exact h3 x h
  split at hx
  · simp at hx
    omega
  split at hx
  · simp at hx
    omega
  split at hx
  · simp at hx
    omega
  split at hx
  · simp at hx
    omega
  split at hx
  · simp at hx
    omega
  split at hx
  · exact lit (by decide) (by decide) (cv_hex 2 c) hx
  split at hx
  · exact lit (by decide) (by decide) (cv_hex 4 c) hx
  · exact lit (by decide) (by decide) (cv_hex 8 c) hx
theorem cv_fold {q : Nat} : ∀ (l : List Nat) (acc : Array Nat), (∀ c ∈ l, c < 0x110000) → (∀ c ∈ acc.toList, c < 0x110000) → ∀ c ∈ (l.foldl (fun out c => out ++ (Builtin.Str.reprChar q c).toArray) acc).toList, c < 0x110000
  | [], acc, _, h => h
  | a :: l, acc, hl, h => by
    rw [List.foldl_cons]
    refine cv_fold l _ (fun c hc => hl c (List.mem_cons_of_mem _ hc)) fun c hc => ?_
    rw [Array.toList_append] at hc
    rcases List.mem_append.mp hc with hc | hc
    · exact h c hc
    · exact cv_char (hl a (List.mem_cons_self ..)) c (by simpa using hc)
theorem cv_repr {x : Str} (hx : CV x) : CV (reprText x) := by
  intro c hc
  unfold reprText at hc
  have hq : reprQuote x < 0x110000 := by
    unfold reprQuote
    split <;> decide
  rw [Array.toList_push, ← Array.foldl_toList] at hc
  rcases List.mem_append.mp hc with hc | hc
  · exact cv_fold _ _ hx (fun c h => by simp at h; omega) c hc
  · simp at hc
    omega
mutual
/-- texts of real characters, ints not too long, n levels -/
def plain : D → Bool
  | .non => true
  | .bl _ => true
  | .int i => decide (i.natAbs.log2 < 1920)
  | .str s => s.all fun c => decide (c < 0x110000)
  | .tup xs => plains xs
  | .ro xs => plains xs
  | _ => false
def plains : List D → Bool
  | [] => true
  | x :: xs => plain x && plains xs
end
mutual
/-- how long repr may be -/
def cost : D → Nat
  | .int _ => 2000
  | .str s => 10 * s.length + 2
  | .tup xs => costs xs + 3
  | .ro xs => costs xs + 3
  | _ => 5
def costs : List D → Nat
  | [] => 0
  | x :: xs => cost x + 2 + costs xs
end
mutual
theorem pl_show : ∀ {d : D}, plain d = true → PyData.showable (pd d) = true
  | .non, _ | .bl _, _ | .str _, _ => rfl
  | .int i, h => h
  | .tup xs, h => pls_show (ds := xs) h
  | .ro xs, h => pls_show (ds := xs) h
  | .ob _, h | .fn _, h | .ty _, h => by cases h
theorem pls_show : ∀ {ds : List D}, plains ds = true → PyData.showableAll (pds ds) = true
  | [], _ => rfl
  | d :: ds, h => by
    unfold plains at h
    rw [Bool.and_eq_true] at h
    show (PyData.showable (pd d) && PyData.showableAll (pds ds)) = true
    rw [pl_show h.1, pls_show h.2]
    rfl
end
mutual
theorem pl_cv : ∀ {d : D}, plain d = true → CV (PyData.shown (pd d))
  | .non, _ => cv_of _
  | .bl b, _ => by cases b <;> exact cv_of _
  | .int i, _ => cv_of _
  | .str s, h => by
    unfold plain at h
    refine cv_repr fun c hc => ?_
    have := List.all_eq_true.mp h c (by simpa using hc)
    exact of_decide_eq_true this
  | .tup xs, h => by
    unfold plain at h
    show CV (tupleText (PyData.shownAll (pds xs)))
    unfold tupleText
    exact cv_app (cv_app (cv_of _) (cv_join (cv_of _) _ (pls_cv h))) (cv_of _)
  | .ro xs, h => by
    unfold plain at h
    show CV (listText (PyData.shownAll (pds xs)))
    unfold listText
    exact cv_app (cv_from _ _ _ (cv_of _) (pls_cv h)) (cv_of _)
  | .ob _, h | .fn _, h | .ty _, h => by cases h
theorem pls_cv : ∀ {ds : List D}, plains ds = true → ∀ t ∈ PyData.shownAll (pds ds), CV t
  | [], _, t, ht => by cases ht
  | d :: ds, h, t, ht => by
    unfold plains at h
    rw [Bool.and_eq_true] at h
    rcases List.mem_cons.mp (show t ∈ PyData.shown (pd d) :: PyData.shownAll (pds ds) from ht) with e | ht
    · rw [e]
      exact pl_cv h.1
    · exact pls_cv h.2 t ht
end
mutual
theorem pl_len : ∀ {d : D}, plain d = true → (PyData.shown (pd d)).length ≤ cost d
  | .non, _ => by
    show (PyData.shown .none).length ≤ 5
    decide
  | .bl b, _ => by cases b <;> (show (PyData.shown (.bool _)).length ≤ 5; decide)
  | .int i, h => by
    unfold plain at h
    have e := int_text_length_le (k := 1920) (by decide) (of_decide_eq_true h)
    show (Str.ofString (toString i)).length ≤ 2000
    rw [ofString_length]
    omega
  | .str s, h => by
    unfold plain at h
    have e := StrLaws.reprText_len ⟨s.toArray⟩ fun c hc => Nat.lt_trans (of_decide_eq_true (List.all_eq_true.mp h c (by simpa using hc))) (by decide)
    have e2 : (⟨s.toArray⟩ : Str).length = s.length := by
      show s.toArray.size = _
      simp
    rw [e2] at e
    exact e
  | .tup xs, h => by
    unfold plain at h
    have h1 := pls_len h
    have h2 := tupleText_len_le (PyData.shownAll (pds xs))
    show (tupleText (PyData.shownAll (pds xs))).length ≤ costs xs + 3
    omega
  | .ro xs, h => by
    unfold plain at h
    have h1 := pls_len h
    have h2 := listText_len_le (PyData.shownAll (pds xs))
    show (listText (PyData.shownAll (pds xs))).length ≤ costs xs + 3
    omega
  | .ob _, h | .fn _, h | .ty _, h => by cases h
theorem pls_len : ∀ {ds : List D}, plains ds = true → ((PyData.shownAll (pds ds)).map (·.length)).sum + 2 * (PyData.shownAll (pds ds)).length ≤ costs ds
  | [], _ => Nat.le_refl _
  | d :: ds, h => by
    unfold plains at h
    rw [Bool.and_eq_true] at h
    have h1 := pl_len h.1
    have h2 := pls_len h.2
    have e : PyData.shownAll (pds (d :: ds)) = PyData.shown (pd d) :: PyData.shownAll (pds ds) := rfl
    rw [e]
    simp only [List.map_cons, List.sum_cons, List.length_cons]
    unfold costs
    omega
end
/-- repr may be asked of it -/
theorem okS_of {d : D} (h : plain d = true) (hw : cost d ≤ LINE) : okS d = true := by
  unfold okS
  have h1 := pl_len h
  have h3 : (shS d).length = (PyData.shown (pd d)).length := by
    unfold shS
    show (PyData.shown (pd d)).cps.toList.length = (PyData.shown (pd d)).cps.size
    simp
  have h5 : (shS d).length ≤ LINE := by
    rw [h3]
    omega
  rw [pl_show h, Bool.true_and, decide_eq_true h5, Bool.true_and]
  exact List.all_eq_true.mpr fun c hc => decide_eq_true (pl_cv h c hc)
end Li
namespace Li
section
variable [Exw] {cf : Nat → List D → M D} {env : Env} {st : Store} {Qf : Fl → Store → Prop}
@[simp ↓] theorem zS_nil : wS cf [] env Qf st = Qf (.next env) st := wS_nil
@[simp ↓] theorem zS_asg {i : Nat} {e : Ex} {ss : List Stm} : wS cf (.asg (.nm i) e :: ss) env Qf st = wE cf e env (fun d s => wS cf ss (env.set i (some d)) Qf s) st := wS_asg
@[simp ↓] theorem zS_dput {o i e : Ex} {ss : List Stm} : wS cf (.asg (.dsub o i) e :: ss) env Qf st = wE cf e env (fun d s => wE cf o env (fun x s => wE cf i env (fun y s => wp (dputOf x y d) (fun _ s => wS cf ss env Qf s) s) s) s) st := wS_dput
@[simp ↓] theorem zS_put {o i e : Ex} {ss : List Stm} : wS cf (.asg (.sub o i) e :: ss) env Qf st = wE cf e env (fun d s => wE cf o env (fun x s => wE cf i env (fun y s => wp (putItem x y d) (fun _ s => wS cf ss env Qf s) s) s) s) st := wS_put
@[simp ↓] theorem zS_fld {o e : Ex} {f : S} {ss : List Stm} : wS cf (.asg (.fld o f) e :: ss) env Qf st = wE cf e env (fun d s => wE cf o env (fun x s => wp (putFld f d x) (fun _ s => wS cf ss env Qf s) s) s) st := wS_fld
@[simp ↓] theorem zS_nms {is : List Nat} {e : Ex} {ss : List Stm} : wS cf (.asg (.nms is) e :: ss) env Qf st = wE cf e env (fun d s => wp (unpack is d env) (fun env s => wS cf ss env Qf s) s) st := wS_nms
@[simp ↓] theorem zS_augN {i : Nat} {o : Bop} {e : Ex} {ss : List Stm} : wS cf (.augN i o e :: ss) env Qf st = wE cf (.v i) env (fun x s => wE cf e env (fun y s => wp (augop o x y) (fun z s => wS cf ss (env.set i (some z)) Qf s) s) s) st := wS_augN
@[simp ↓] theorem zS_augF {a e : Ex} {f : S} {o : Bop} {ss : List Stm} : wS cf (.augF a f o e :: ss) env Qf st = wE cf a env (fun x s => wp (clsOf x) (fun cn s => wp (fldOf f x) (fun u s => wE cf e env (fun y s => wp (augop o u y) (fun z s => wp (clsOf x) (fun cm s => cm = cn ∧ wp (putFld f z x) (fun _ s => wS cf ss env Qf s) s) s) s) s) s) s) st := wS_augF
@[simp ↓] theorem zS_ex {e : Ex} {ss : List Stm} : wS cf (.ex e :: ss) env Qf st = wE cf e env (fun _ s => wS cf ss env Qf s) st := wS_ex
@[simp ↓] theorem zS_ret {e : Ex} {ss : List Stm} : wS cf (.ret e :: ss) env Qf st = wE cf e env (fun d s => Qf (.ret d) s) st := wS_ret
@[simp ↓] theorem zS_retN {ss : List Stm} : wS cf (.retN :: ss) env Qf st = Qf (.ret .non) st := wS_retN
@[simp ↓] theorem zS_brk {ss : List Stm} : wS cf (.brk :: ss) env Qf st = Qf (.brk env) st := wS_brk
@[simp ↓] theorem zS_cnt {ss : List Stm} : wS cf (.cnt :: ss) env Qf st = Qf (.cnt env) st := wS_cnt
@[simp] theorem at_non : atom .non = true := rfl
@[simp] theorem at_bl {b : Bool} : atom (.bl b) = true := rfl
@[simp] theorem at_int {i : Int} : atom (.int i) = true := rfl
@[simp] theorem at_str {s : S} : atom (.str s) = true := rfl
@[simp ↓] theorem zS_rais {c : Nat} {fs : List S} {as : List Ex} {ss : List Stm} : wS cf (.rais c fs as :: ss) env Qf st = wEs cf as env (fun ds s => (ds.length = fs.length ∧ ds.all atom = true) ∧ Exw.X ⟨c, fs, ds⟩ s) st := wS_rais
@[simp ↓] theorem zS_pass {ss : List Stm} : wS cf (.pass :: ss) env Qf st = wS cf ss env Qf st := wS_pass
@[simp] theorem wE_fun {e : Ex} {Q : D → Store → Prop} : (wE cf e env fun d s => Q d s) = wE cf e env Q := rfl
/-- what a def gives, as a rewriting -/
theorem wpc {P : List Fn} {k i : Nat} {ds : List D} {d : D} {s' : Store} {Q : D → Store → Prop} (h : call P k i ds st = .ok d s') : wp (call P k i ds) Q st = Q d s' := wp_ok h
/-- a def is shown for every wish -/
theorem spec_of {P : List Fn} {k i : Nat} {ds : List D} {d : D} {s' : Store} (h : ∀ Q : D → Store → Prop, Q d s' → @wp noX _ (call P k i ds) Q st) : call P k i ds st = .ok d s' := by
  obtain ⟨a, s, e, rfl, rfl⟩ := wp_out (h (fun x s => x = d ∧ s = s') ⟨rfl, rfl⟩)
  exact e
/-- .. with things at the store's end -/
theorem spec_ex {P : List Fn} {k i : Nat} {ds : List D} {R : D → Store → Prop} (h : ∀ Q : D → Store → Prop, (∀ d s, R d s → Q d s) → @wp noX _ (call P k i ds) Q st) : ∃ d s', R d s' ∧ call P k i ds st = .ok d s' := by
  obtain ⟨a, s, e, q⟩ := wp_out (h R fun _ _ z => z)
  exact ⟨a, s, q, e⟩
@[simp] theorem lk_0 {xs : List D} {s : Store} : lk (.lst xs :: s) 0 = some xs := rfl
@[simp] theorem lk_1 {a : O} {xs : List D} {s : Store} : lk (a :: .lst xs :: s) 1 = some xs := rfl
@[simp] theorem lk_2 {a b : O} {xs : List D} {s : Store} : lk (a :: b :: .lst xs :: s) 2 = some xs := rfl
@[simp] theorem lk_3 {a b c : O} {xs : List D} {s : Store} : lk (a :: b :: c :: .lst xs :: s) 3 = some xs := rfl
@[simp] theorem lk_4 {a b c d : O} {xs : List D} {s : Store} : lk (a :: b :: c :: d :: .lst xs :: s) 4 = some xs := rfl
@[simp] theorem lk_5 {a b c d e : O} {xs : List D} {s : Store} : lk (a :: b :: c :: d :: e :: .lst xs :: s) 5 = some xs := rfl
@[simp] theorem lk_6 {a b c d e f : O} {xs : List D} {s : Store} : lk (a :: b :: c :: d :: e :: f :: .lst xs :: s) 6 = some xs := rfl
@[simp] theorem lk_7 {a b c d e f g : O} {xs : List D} {s : Store} : lk (a :: b :: c :: d :: e :: f :: g :: .lst xs :: s) 7 = some xs := rfl
@[simp] theorem lk_8 {a b c d e f g h : O} {xs : List D} {s : Store} : lk (a :: b :: c :: d :: e :: f :: g :: h :: .lst xs :: s) 8 = some xs := rfl
@[simp] theorem lk_9 {a b c d e f g h i : O} {xs : List D} {s : Store} : lk (a :: b :: c :: d :: e :: f :: g :: h :: i :: .lst xs :: s) 9 = some xs := rfl
@[simp] theorem line_1 : (1 ≤ LINE) = True := eq_true (by decide)
@[simp] theorem line_2 : (2 ≤ LINE) = True := eq_true (by decide)
@[simp] theorem line_3 : (3 ≤ LINE) = True := eq_true (by decide)
@[simp] theorem line_4 : (4 ≤ LINE) = True := eq_true (by decide)
@[simp] theorem line_5 : (5 ≤ LINE) = True := eq_true (by decide)
@[simp] theorem line_6 : (6 ≤ LINE) = True := eq_true (by decide)
@[simp] theorem line_7 : (7 ≤ LINE) = True := eq_true (by decide)
@[simp] theorem line_8 : (8 ≤ LINE) = True := eq_true (by decide)
@[simp] theorem line_9 : (9 ≤ LINE) = True := eq_true (by decide)
@[simp] theorem line_10 : (10 ≤ LINE) = True := eq_true (by decide)
@[simp] theorem line_11 : (11 ≤ LINE) = True := eq_true (by decide)
@[simp] theorem line_12 : (12 ≤ LINE) = True := eq_true (by decide)
@[simp] theorem linel_1 : (1 < LINE) = True := eq_true (by decide)
@[simp] theorem linel_0 : (0 < LINE) = True := eq_true (by decide)
theorem set_same {n : Nat} {o : O} (h : st[n]? = some o) : st.set n o = st := by
  obtain ⟨h1, h2⟩ := List.getElem?_eq_some_iff.mp h
  rw [← h2]
  exact List.set_getElem_self h1
end
end Li
namespace Li
/-- the box at b, the digits at a -/
def Bx (st : Store) (b a : Nat) : Prop := ∃ n ds, Box st b a n ds
/-- from st to s: the box still stands, nothing else has changed -/
structure Go (b a : Nat) (st s : Store) : Prop where
  bx : Bx s b a
  pr : ∀ h o, h ≠ b → st[h]? = some o → s[h]? = some o
  len : st.length ≤ s.length
section
variable {b a : Nat} {st s u : Store}
theorem Go.refl (h : Bx st b a) : Go b a st st := ⟨h, fun _ _ _ e => e, Nat.le_refl _⟩
theorem Go.trans (g : Go b a st s) (g' : Go b a s u) : Go b a st u := ⟨g'.bx, fun h o n e => g'.pr h o n (g.pr h o n e), Nat.le_trans g.len g'.len⟩
theorem Go.lk (g : Go b a st s) {h : Nat} {xs : List D} (n : h ≠ b) (e : lk st h = some xs) : lk s h = some xs := lk_of (g.pr _ _ n (lk_at e))
theorem Go.li (g : Go b a st s) {h : Nat} {p : Nat × List (S × D)} (n : h ≠ b) (e : li st h = some p) : li s h = some p := by
  obtain ⟨c, fs⟩ := p
  exact li_of (g.pr _ _ n (li_at e))
theorem Bx.app (h : Bx st b a) (t : Store) : Bx (st ++ t) b a := let ⟨n, ds, B⟩ := h; ⟨n, ds, B.app⟩
theorem Bx.lt (h : Bx st b a) : b < st.length := let ⟨n, ds, B⟩ := h; lk_lt B.box
theorem Bx.ne (h : Bx st b a) : b ≠ a := let ⟨n, ds, B⟩ := h; B.ne
theorem Go.app (h : Bx st b a) (t : Store) : Go b a st (st ++ t) := ⟨h.app t, fun m o _ e => by rw [List.getElem?_append_left (List.getElem?_eq_some_iff.mp e).1]; exact e, by simp⟩
theorem Bx.set (h : Bx st b a) {m : Nat} {o : O} (h1 : m ≠ b) (h2 : m ≠ a) : Bx (st.set m o) b a := let ⟨n, ds, B⟩ := h; ⟨n, ds, B.set h1 h2⟩
theorem Bx.ge {m : Nat} (h : Bx st b a) (hm : st.length ≤ m) : m ≠ b ∧ m ≠ a := by
  obtain ⟨n, ds, B⟩ := h
  have h1 := lk_lt B.box
  have h2 := lk_lt B.dig
  constructor <;> omega
theorem Go.setN (g : Go b a st s) {h : Nat} {o : O} (hh : st.length ≤ h) (h1 : h ≠ b) (h2 : h ≠ a) : Go b a st (s.set h o) :=
  ⟨g.bx.set h1 h2, fun m o' n e => by
    rw [List.getElem?_set_ne (by have := (List.getElem?_eq_some_iff.mp e).1; omega)]
    exact g.pr m o' n e, by rw [List.length_set]; exact g.len⟩
theorem Go.appR (g : Go b a st s) (t : Store) : Go b a st (s ++ t) := g.trans (Go.app g.bx t)
theorem draw_wp {P : List Fn} {k i : Nat} {e : Ex} (h : P[i]? = some (fDraw e)) (he : Low (call P k) e) (B : Bx st b a) {m : Int} (hm : 0 < m) {Q : D → Store → Prop}
    (hQ : ∀ (r : Nat) (s : Store), (r : Int) < m → Go b a st s → s.length = st.length → Q (.int r) s) : wp (call P (k + 1) i [.ob b, .int m]) Q st := by
  obtain ⟨n, ds, B⟩ := B
  obtain ⟨r, hr, e⟩ := draw_ok h he B hm
  rw [wpc e]
  refine hQ r _ hr ⟨⟨n + 1, ds, B.next⟩, fun h o ne e => ?_, by simp⟩ (by simp)
  rw [List.getElem?_set_ne (Ne.symm ne)]
  exact e
theorem digits_wp {P : List Fn} {k i c : Nat} (h : P[i]? = some (fDigits c)) (hc : P[c]? = some fCell) (ns : List Int) {Q : D → Store → Prop}
    (hQ : ∀ ds : List Int, Q (.ob st.length) (st ++ [.lst (ds.map .int)])) : wp (call P (k + 2) i [.ro (ns.map .int), .int 0, .int 63]) Q st := by
  obtain ⟨ds, _, e⟩ := digits_ok (k := k) h hc ns 63 (Nat.le_refl _) st
  have e : call P (k + 2) i [.ro (ns.map .int), .int 0, .int 63] st = .ok (.ob st.length) (st ++ [.lst (ds.map .int)]) := e
  rw [wpc e]
  exact hQ ds
/-- behind the first row of a law -/
theorem bx_new (ds : List Int) : Bx (st ++ [.lst (ds.map .int)] ++ [.lst [.ob st.length, .int 0]]) (st.length + 1) st.length :=
  ⟨0, ds, ⟨by
    have e : (st ++ [O.lst (ds.map .int)]).length = st.length + 1 := by simp
    rw [← e]
    exact lk_new, lk_old lk_new, by omega⟩⟩
end
def cTxt (s : String) : D := .str (s.toList.map Char.toNat)
def LCls : List D := [.str [69, 120, 99, 101, 112, 116, 105, 111, 110], .str [65, 114, 105, 116, 104, 109, 101, 116, 105, 99, 69, 114, 114, 111, 114], .str [90, 101, 114, 111, 68, 105, 118, 105, 115, 105, 111, 110, 69, 114, 114, 111, 114], .str [79, 118, 101, 114, 102, 108, 111, 119, 69, 114, 114, 111, 114], .str [76, 111, 111, 107, 117, 112, 69, 114, 114, 111, 114], .str [73, 110, 100, 101, 120, 69, 114, 114, 111, 114], .str [75, 101, 121, 69, 114, 114, 111, 114], .str [78, 97, 109, 101, 69, 114, 114, 111, 114], .str [65, 116, 116, 114, 105, 98, 117, 116, 101, 69, 114, 114, 111, 114], .str [84, 121, 112, 101, 69, 114, 114, 111, 114], .str [86, 97, 108, 117, 101, 69, 114, 114, 111, 114], .str [83, 116, 111, 112, 73, 116, 101, 114, 97, 116, 105, 111, 110], .str [82, 117, 110, 116, 105, 109, 101, 69, 114, 114, 111, 114], .str [82, 101, 99, 117, 114, 115, 105, 111, 110, 69, 114, 114, 111, 114], .str [77, 101, 109, 111, 114, 121, 69, 114, 114, 111, 114], .str [72, 111, 115, 116, 69, 114, 114, 111, 114]]
def LBas : List D := [.int (-1), .int 1, .int 2, .int 2, .int 1, .int 5, .int 5, .int 1, .int 1, .int 1, .int 1, .int 1, .int 1, .int 13, .int 1, .int 1]
def LBlt : List D := [.str [112, 114, 105, 110, 116], .str [108, 101, 110], .str [114, 97, 110, 103, 101], .str [114, 101, 112, 114], .str [115, 116, 114], .str [105, 110, 116], .str [108, 105, 115, 116], .str [116, 117, 112, 108, 101], .str [100, 105, 99, 116], .str [105, 116, 101, 114], .str [110, 101, 120, 116], .str [105, 115, 105, 110, 115, 116, 97, 110, 99, 101], .str [97, 98, 115]]
def fStart : Fn := ⟨1, 5, [
  .asg (.nm 1) (.lcr (.tup [(.ix (.c (.tup LCls)) (.v 4)), (.tup [(.c (.str [114, 101, 102])), (.bin .add (.v 4) (.c (.int 1)))])]) 4 [(.bi .len [(.c (.tup LCls))])] none),
  .for_ (.nm 2) (.seq (.c (.tup LBlt))) [.ex (.mt .append (.v 1) [(.tup [(.v 2), (.tup [(.c (.str [98, 117, 105, 108, 116])), (.v 2)])])])],
  .for_ (.nm 2) (.seq (.v 0)) [.ex (.mt .append (.v 1) [(.tup [(.v 2), (.tup [(.c (.str [104, 111, 115, 116])), (.v 2)])])])],
  .asg (.nm 3) (.lst [(.tup [(.c (.str [115, 99, 111, 112, 101])), (.bi .tuple [(.v 1)]), (.tup []), (.tup []), (.neg (.c (.int 1))), (.c (.bl false))])]),
  .for_ (.nm 4) (.rng [(.bi .len [(.c (.tup LCls))])]) [.ex (.mt .append (.v 3) [(.tup [(.c (.str [99, 108, 97, 115, 115])), (.ix (.c (.tup LCls)) (.v 4)), (.ix (.c (.tup LBas)) (.v 4)), (.tup [])])])],
  .ret (.v 3)]⟩
/-- the names of the module -/
def vEnt (k : Nat) : D := .tup [LCls.getD k .non, .tup [.str [114, 101, 102], .int (k + 1 : Nat)]]
def bEnt (x : D) : D := .tup [x, .tup [.str [98, 117, 105, 108, 116], x]]
def cEnt (k : Nat) : D := .tup [.str [99, 108, 97, 115, 115], LCls.getD k .non, LBas.getD k .non, .tup []]
def V0 : List D := (List.range 16).map vEnt ++ LBlt.map bEnt
def sEnt : D := .tup [.str [115, 99, 111, 112, 101], .tup V0, .tup [], .tup [], .int (-1), .bl false]
def H0 : List D := sEnt :: (List.range 16).map cEnt
theorem getD_at {xs : List D} {j : Nat} (h : j < xs.length) : ∃ c, xs[j]? = some c ∧ xs.getD j .non = c := ⟨xs[j], List.getElem?_eq_getElem h, by rw [List.getD_eq_getElem?_getD, List.getElem?_eq_getElem h]; rfl⟩
theorem start_ok {P : List Fn} {k i : Nat} (h : P[i]? = some fStart) (st : Store) : call P (k + 1) i [.tup []] st = .ok (.ob (st.length + 1)) (st ++ [.lst V0, .lst H0]) := by
  refine spec_of fun Q hQ => ?_
  rw [wp_call h rfl]
  unfold fStart
  simp [start]
  rw [wE_lcr]
  simp
  refine ⟨by decide, ?_⟩
  obtain ⟨I, hI⟩ : ∃ I : List D → List D → Store → Prop, I = fun acc r s => s = st ∧ ∃ j, j ≤ 16 ∧ r = rangeD (j : Nat) (16 - j) ∧ acc = (List.range j).map vEnt := ⟨_, rfl⟩
  refine lcI_inv I (fun acc x r s z => ?_) (fun acc s z => ?_) _ _ _ (by rw [hI]; exact ⟨rfl, 0, by omega, rfl, rfl⟩)
  · rw [hI] at z
    obtain ⟨rfl, j, hj, hr, rfl⟩ := z
    rw [wC_none]
    have hj2 : j < 16 := by
      rcases Nat.lt_or_ge j 16 with q | q
      · exact q
      · have : 16 - j = 0 := by omega
        rw [this] at hr
        cases hr
    have hs : 16 - j = (16 - (j + 1)) + 1 := by omega
    rw [hs, rangeD_s] at hr
    cases hr
    obtain ⟨c, hc, hd⟩ := getD_at (xs := LCls) hj2
    simp only [if_true]
    show wE _ _ _ _ _
    simp [atI_nat, hc]
    refine ⟨Nat.lt_of_lt_of_le hj2 (by decide), ?_⟩
    rw [hI]
    exact ⟨rfl, j + 1, by omega, by push_cast; rfl, by rw [List.range_succ, List.map_append, List.map_cons, List.map_nil, vEnt, hd]; simp⟩
  · rw [hI] at z
    obtain ⟨rfl, j, hj, hr, rfl⟩ := z
    have hj2 : j = 16 := by
      rcases Nat.lt_or_ge j 16 with q | q
      · have hs : 16 - j = (16 - (j + 1)) + 1 := by omega
        rw [hs, rangeD_s] at hr
        cases hr
      · omega
    subst hj2
    generalize hV : (List.map vEnt (List.range 16)) = V
    have hl : V.length = 16 := by rw [← hV]; simp
    rw [wS_for]
    simp
    obtain ⟨J, hJ⟩ : ∃ I : List D → Env → Store → Prop, I = fun r e s' => ∃ (pre : List D) (c : Option D), pre ++ r = LBlt ∧ e = [some (.tup []), some (.ob s.length), c, none, none] ∧ s' = s ++ [.lst (V ++ pre.map bEnt)] := ⟨_, rfl⟩
    refine wF_inv J (by rw [hJ]; exact ⟨[], _, rfl, rfl, by simp⟩) (fun x r e s' z => ?_) fun e s' z => ?_
    · rw [hJ] at z
      obtain ⟨pre, c, hp, rfl, rfl⟩ := z
      have hp2 := congrArg List.length hp
      have hb : LBlt.length = 13 := rfl
      simp [hb] at hp2
      simp [lk_upd_new]
      refine ⟨Nat.lt_of_lt_of_le (by omega : _ < 1000) (by decide), ?_⟩
      rw [hJ]
      exact ⟨pre ++ [x], _, by simpa using hp, rfl, by simp [bEnt]⟩
    · rw [hJ] at z
      obtain ⟨pre, c, hp, rfl, rfl⟩ := z
      rw [List.append_nil] at hp
      subst hp
      have hV0 : V ++ List.map bEnt LBlt = V0 := by rw [← hV]; rfl
      rw [hV0, wS_for]
      simp
      rw [wF_nil]
      simp
      rw [wS_rng]
      simp
      refine ⟨by decide, ?_⟩
      obtain ⟨L, hL⟩ : ∃ I : Nat → Env → Store → Prop, I = fun j e s' => ∃ (c d : Option D), e = [some (.tup []), some (.ob s.length), c, some (.ob (s.length + 1)), d] ∧ s' = s ++ [.lst V0, .lst (sEnt :: (List.range j).map cEnt)] := ⟨_, rfl⟩
      refine wF_range L (by rw [hL]; exact ⟨_, _, rfl, by simp [sEnt]⟩) (fun j e s' hj z => ?_) fun e s' z => ?_
      · rw [hL] at z
        obtain ⟨c, d, rfl, rfl⟩ := z
        have hj2 : j < 16 := hj
        obtain ⟨x, hc, hcd⟩ := getD_at (xs := LCls) hj2
        obtain ⟨y, hb, hbd⟩ := getD_at (xs := LBas) hj2
        have e0 : ((0 : Int) + (j : Nat)) = (j : Int) := by omega
        simp [lk_a1, set_a1, atI_nat, hc, hb]
        refine ⟨Nat.lt_of_lt_of_le (by omega : _ < 1000) (by decide), ?_⟩
        rw [hL]
        exact ⟨_, _, rfl, by rw [List.range_succ, List.map_append, List.map_cons, List.map_nil, cEnt, hcd, hbd]⟩
      · rw [hL] at z
        obtain ⟨c, d, rfl, rfl⟩ := z
        simp
        exact hQ
theorem okT {d : D} {c : Nat} (h : plain d = true) (hc : cost d ≤ c) (h2 : c ≤ 10000000) : okS d = true := okS_of h (Nat.le_trans hc (Nat.le_trans h2 (by decide)))
/-- a thing that may be told by repr -/
structure Tell (d : D) (c : Nat) : Prop where
  fl : flat 40 d = true
  pl : plain d = true
  co : cost d ≤ c
theorem Tell.ok {d : D} {c : Nat} (t : Tell d c) (h : c ≤ 10000000) : okS d = true := okT t.pl t.co h
theorem Tell.res {d : D} {c : Nat} (t : Tell d c) (st : Store) : res st DEEP d = some d := res_flat (flat_mono (by decide) t.fl)
structure Tells (xs : List D) (c : Nat) : Prop where
  fl : flats 39 xs = true
  pl : plains xs = true
  co : costs xs ≤ c
theorem plains_app : ∀ {xs ys : List D}, plains (xs ++ ys) = (plains xs && plains ys)
  | [], ys => by simp [plains]
  | x :: xs, ys => by
    rw [List.cons_append, plains, plains, plains_app, Bool.and_assoc]
theorem flats_app {n : Nat} : ∀ {xs ys : List D}, flats n (xs ++ ys) = (flats n xs && flats n ys)
  | [], ys => by simp [flats]
  | x :: xs, ys => by
    rw [List.cons_append, flats, flats, flats_app, Bool.and_assoc]
theorem costs_app : ∀ {xs ys : List D}, costs (xs ++ ys) = costs xs + costs ys
  | [], ys => by simp [costs]
  | x :: xs, ys => by
    rw [List.cons_append, costs, costs, costs_app]
    omega
theorem Tells.app {xs ys : List D} {c c' : Nat} (t : Tells xs c) (u : Tells ys c') : Tells (xs ++ ys) (c + c') :=
  ⟨by rw [flats_app, t.fl, u.fl]; rfl, by rw [plains_app, t.pl, u.pl]; rfl, by rw [costs_app]; have := t.co; have := u.co; omega⟩
theorem Tells.ro {xs : List D} {c : Nat} (t : Tells xs c) : Tell (.ro xs) (c + 3) := ⟨by unfold flat; exact t.fl, by unfold plain; exact t.pl, by unfold cost; have := t.co; omega⟩
theorem Tells.tup {xs : List D} {c : Nat} (t : Tells xs c) : Tell (.tup xs) (c + 3) := ⟨by unfold flat; exact t.fl, by unfold plain; exact t.pl, by unfold cost; have := t.co; omega⟩
theorem Tells.mono {xs : List D} {c c' : Nat} (t : Tells xs c) (h : c ≤ c') : Tells xs c' := ⟨t.fl, t.pl, Nat.le_trans t.co h⟩
theorem Tells.res {xs : List D} {c : Nat} (t : Tells xs c) {st : Store} {h : Nat} (e : lk st h = some xs) : res st DEEP (.ob h) = some (.ro xs) := res_ob e (flats_mono (by decide) t.fl)
theorem tells_one {d : D} {c : Nat} (h1 : flat 39 d = true) (h2 : plain d = true) (h3 : cost d ≤ c) : Tells [d] (c + 2) :=
  ⟨by simp [flats, h1], by simp [plains, h2], by simp [costs]; omega⟩
theorem small_log {i : Int} (h : i.natAbs < 2 ^ 64) : i.natAbs.log2 < 1920 := by
  by_cases h0 : i.natAbs = 0
  · rw [h0]
    decide
  · have := (Nat.log2_lt h0).mpr h
    omega
end Li
namespace K19
open Li
def f0 : Fn := ⟨2, 3, [
  .for_ (.nm 2) (.seq (.v 1)) [.ite (.cmp .eq (.ix (.v 2) (.c (.int 0))) (.v 0)) [.ret (.ix (.v 2) (.c (.int 1)))] []],
  .ret (.tup [])]⟩
def f1 : Fn := ⟨2, 2, [
  .ite (.cmp .eq (.ix (.v 1) (.c (.int 0))) (.c (.str [114, 101, 102]))) [.ret (.ix (.ix (.v 0) (.ix (.v 1) (.c (.int 1)))) (.c (.int 0)))] [],
  .ret (.ix (.v 1) (.c (.int 0)))]⟩
def f2 : Fn := ⟨2, 3, [
  .asg (.nm 2) (.lst []),
  .whl (.and (.cmp .ge (.v 1) (.c (.int 0))) (.cmp .lt (.bi .len [(.v 2)]) (.c (.int 60)))) [.ex (.mt .append (.v 2) [(.v 1)]), .asg (.nm 1) (.ix (.ix (.v 0) (.v 1)) (.c (.int 2)))],
  .ret (.bi .tuple [(.v 2)])]⟩
def f3 : Fn := ⟨3, 5, [
  .for_ (.nm 3) (.seq (.call 2 [(.v 0), (.v 1)])) [.asg (.nm 4) (.call 0 [(.v 2), (.ix (.ix (.v 0) (.v 3)) (.c (.int 3)))]), .ite (.cmp .ne (.v 4) (.tup [])) [.ret (.v 4)] []],
  .ret (.tup [])]⟩
def f4 : Fn := ⟨3, 4, [
  .asg (.nm 3) (.call 3 [(.v 0), (.v 1), (.v 2)]),
  .ite (.and (.cmp .ne (.v 3) (.tup [])) (.cmp .eq (.call 1 [(.v 0), (.v 3)]) (.c (.str [102, 117, 110, 99])))) [.ret (.v 3)] [],
  .ret (.tup [])]⟩
def f5 : Fn := ⟨3, 3, [
  .ite (.cmp .ne (.call 1 [(.v 0), (.v 1)]) (.c (.str [105, 110, 115, 116]))) [.ret (.tup [])] [],
  .ret (.call 4 [(.v 0), (.ix (.ix (.v 0) (.ix (.v 1) (.c (.int 1)))) (.c (.int 1))), (.v 2)])]⟩
def f6 : Fn := ⟨5, 6, [
  .asg (.nm 5) (.call 5 [(.fld (.v 0) [104, 101, 97, 112]), (.v 1), (.v 2)]),
  .ite (.cmp .eq (.v 5) (.tup [])) [.ret (.c (.bl false))] [],
  .ite (.v 4) [.ex (.mt .insert (.fld (.v 0) [102, 114, 97, 109, 101, 115]) [(.c (.int 0)), (.tup [(.c (.str [119, 97, 110, 116])), (.v 4)])])] [],
  .asg (.fld (.v 0) [99, 111, 110, 116, 114, 111, 108]) (.tup [(.c (.str [99, 97, 108, 108])), (.v 5), (.bin .add (.tup [(.v 1)]) (.v 3)), (.tup [])]),
  .ret (.c (.bl true))]⟩
def f7 : Fn := ⟨4, 4, [
  .ret (.call 6 [(.v 0), (.v 2), (.dix [([43], (.str [111, 112, 95, 97, 100, 100])), ([45], (.str [111, 112, 95, 115, 117, 98])), ([42], (.str [111, 112, 95, 109, 117, 108])), ([47, 47], (.str [111, 112, 95, 100, 105, 118])), ([109, 111, 100], (.str [111, 112, 95, 109, 111, 100]))] (.v 1)), (.tup [(.v 3)]), (.c (.str []))])]⟩
def f8 : Fn := ⟨2, 2, [
  .ret (.call 6 [(.v 0), (.v 1), (.c (.str [111, 112, 95, 110, 101, 103])), (.tup []), (.c (.str []))])]⟩
def f9 : Fn := ⟨4, 5, [
  .ite (.or (.cmp .eq (.v 1) (.c (.str [61, 61]))) (.cmp .eq (.v 1) (.c (.str [33, 61])))) [.asg (.nm 4) (.ite (.cmp .eq (.v 1) (.c (.str [61, 61]))) (.c (.str [98, 111, 111, 108])) (.c (.str [110, 111, 116, 98, 111, 111, 108]))), .ret (.or (.call 6 [(.v 0), (.v 2), (.c (.str [111, 112, 95, 101, 113])), (.tup [(.v 3)]), (.v 4)]) (.call 6 [(.v 0), (.v 3), (.c (.str [111, 112, 95, 101, 113])), (.tup [(.v 2)]), (.v 4)]))] [],
  .ite (.din [([60], (.str [111, 112, 95, 108, 116])), ([60, 61], (.str [111, 112, 95, 108, 101])), ([62], (.str [111, 112, 95, 103, 116])), ([62, 61], (.str [111, 112, 95, 103, 101]))] false (.v 1)) [.ret (.call 6 [(.v 0), (.v 2), (.dix [([60], (.str [111, 112, 95, 108, 116])), ([60, 61], (.str [111, 112, 95, 108, 101])), ([62], (.str [111, 112, 95, 103, 116])), ([62, 61], (.str [111, 112, 95, 103, 101]))] (.v 1)), (.tup [(.v 3)]), (.c (.str [98, 111, 111, 108]))])] [],
  .ite (.or (.cmp .eq (.v 1) (.c (.str [105, 110]))) (.cmp .eq (.v 1) (.c (.str [110, 111, 116, 105, 110])))) [.ret (.call 6 [(.v 0), (.v 3), (.c (.str [111, 112, 95, 105, 110])), (.tup [(.v 2)]), (.ite (.cmp .eq (.v 1) (.c (.str [105, 110]))) (.c (.str [98, 111, 111, 108])) (.c (.str [110, 111, 116, 98, 111, 111, 108])))])] [],
  .ret (.c (.bl false))]⟩
def f10 : Fn := ⟨3, 3, [
  .ret (.call 6 [(.v 0), (.v 1), (.c (.str [111, 112, 95, 105, 116, 101, 109])), (.tup [(.v 2)]), (.c (.str []))])]⟩
def f11 : Fn := ⟨4, 4, [
  .ret (.call 6 [(.v 0), (.v 1), (.c (.str [111, 112, 95, 112, 117, 116])), (.tup [(.v 2), (.v 3)]), (.c (.str [110, 111, 116, 104, 105, 110, 103]))])]⟩
def f12 : Fn := ⟨3, 3, [
  .ret (.call 6 [(.v 0), (.v 1), (.c (.str [111, 112, 95, 100, 114, 111, 112])), (.tup [(.v 2)]), (.c (.str [110, 111, 116, 104, 105, 110, 103]))])]⟩
def f13 : Fn := ⟨2, 2, [
  .ret (.call 6 [(.v 0), (.v 1), (.c (.str [111, 112, 95, 108, 101, 110])), (.tup []), (.c (.str [99, 111, 117, 110, 116]))])]⟩
def f14 : Fn := ⟨3, 3, [
  .ite (.and (.v 2) (.call 6 [(.v 0), (.v 1), (.c (.str [111, 112, 95, 115, 116, 114])), (.tup []), (.c (.str [116, 101, 120, 116]))])) [.ret (.c (.bl true))] [],
  .ret (.call 6 [(.v 0), (.v 1), (.c (.str [111, 112, 95, 114, 101, 112, 114])), (.tup []), (.c (.str [116, 101, 120, 116]))])]⟩
def f15 : Fn := ⟨2, 2, [
  .ret (.call 6 [(.v 0), (.v 1), (.c (.str [111, 112, 95, 105, 116, 101, 114])), (.tup []), (.c (.str [105, 116, 101, 114, 97, 116, 111, 114]))])]⟩
def f16 : Fn := ⟨2, 2, [
  .ite (.cmp .lt (.v 1) (.bi .len [(.v 0)])) [.ret (.ix (.v 0) (.v 1))] [],
  .ret (.c (.int 0))]⟩
def f17 : Fn := ⟨3, 8, [
  .asg (.nm 3) (.lst []),
  .for_ (.nm 4) (.rng [(.v 1), (.v 2)]) [.asg (.nm 5) (.call 16 [(.v 0), (.v 4)]), .ite (.cmp .lt (.v 5) (.c (.int 0))) [.asg (.nm 5) (.bin .sub (.c (.int 1)) (.bin .mul (.c (.int 2)) (.v 5)))] [], .ite (.cmp .ge (.v 5) (.bin .pow (.c (.int 10)) (.c (.int 18)))) [.for_ (.nm 6) (.rng [(.c (.int 60))]) [.ite (.cmp .gt (.v 5) (.c (.int 0))) [.ex (.mt .append (.v 3) [(.bin .mod (.bi .int [(.v 5)]) (.c (.int 1000)))]), .asg (.nm 5) (.bin .fdiv (.v 5) (.c (.int 1000)))] []]] [.asg (.nm 7) (.bin .mod (.bi .int [(.bin .add (.bin .add (.bin .mul (.v 5) (.c (.int 48271))) (.bin .mul (.v 4) (.c (.int 69621)))) (.c (.int 11)))]) (.c (.int 2147483647))), .for_ (.nm 6) (.rng [(.c (.int 12))]) [.asg (.nm 7) (.bin .mod (.bi .int [(.bin .add (.bin .add (.bin .mul (.v 7) (.c (.int 16807))) (.bin .mul (.c (.int 7)) (.v 6))) (.c (.int 1)))]) (.c (.int 2147483647))), .ex (.mt .append (.v 3) [(.bin .mod (.bi .int [(.bin .fdiv (.v 7) (.c (.int 997)))]) (.c (.int 1000)))])]]],
  .ret (.v 3)]⟩
def f18 : Fn := ⟨2, 3, [
  .asg (.nm 2) (.ix (.v 0) (.c (.int 1))),
  .asg (.sub (.v 0) (.c (.int 1))) (.bin .add (.v 2) (.c (.int 1))),
  .ite (.cmp .lt (.v 2) (.bi .len [(.ix (.v 0) (.c (.int 0)))])) [.ret (.bin .mod (.bi .int [(.ix (.ix (.v 0) (.c (.int 0))) (.v 2))]) (.v 1))] [],
  .ret (.bin .mod (.bi .int [(.bin .add (.bin .mul (.v 2) (.c (.int 7))) (.c (.int 3)))]) (.v 1))]⟩
def f19 : Fn := ⟨2, 2, [
  .ret (.cmp .eq (.bi .repr [(.v 0)]) (.bi .repr [(.v 1)]))]⟩
def f20 : Fn := ⟨0, 4, [
  .asg (.nm 0) (.lst [(.neg (.c (.int 1))), (.c (.int 1)), (.c (.int 2)), (.c (.int 2)), (.c (.int 1)), (.c (.int 5)), (.c (.int 5)), (.c (.int 1)), (.c (.int 1)), (.c (.int 1)), (.c (.int 1)), (.c (.int 1)), (.c (.int 1)), (.c (.int 13)), (.c (.int 1)), (.c (.int 1))]),
  .asg (.nm 1) (.c (.str [69, 120, 99, 101, 112, 116, 105, 111, 110, 32, 65, 114, 105, 116, 104, 109, 101, 116, 105, 99, 69, 114, 114, 111, 114, 32, 90, 101, 114, 111, 68, 105, 118, 105, 115, 105, 111, 110, 69, 114, 114, 111, 114, 32, 79, 118, 101, 114, 102, 108, 111, 119, 69, 114, 114, 111, 114, 32, 76, 111, 111, 107, 117, 112, 69, 114, 114, 111, 114, 32, 73, 110, 100, 101, 120, 69, 114, 114, 111, 114, 32, 75, 101, 121, 69, 114, 114, 111, 114, 32, 78, 97, 109, 101, 69, 114, 114, 111, 114, 32])),
  .asg (.nm 1) (.bin .add (.v 1) (.c (.str [65, 116, 116, 114, 105, 98, 117, 116, 101, 69, 114, 114, 111, 114, 32, 84, 121, 112, 101, 69, 114, 114, 111, 114, 32, 86, 97, 108, 117, 101, 69, 114, 114, 111, 114, 32, 83, 116, 111, 112, 73, 116, 101, 114, 97, 116, 105, 111, 110, 32, 82, 117, 110, 116, 105, 109, 101, 69, 114, 114, 111, 114, 32, 82, 101, 99, 117, 114, 115, 105, 111, 110, 69, 114, 114, 111, 114, 32, 77, 101, 109, 111, 114, 121, 69, 114, 114, 111, 114, 32, 72, 111, 115, 116, 69, 114, 114, 111, 114]))),
  .asg (.nm 2) (.lst [(.tup [(.c (.str [115, 99, 111, 112, 101])), (.tup []), (.tup []), (.tup []), (.neg (.c (.int 1))), (.c (.bl false))])]),
  .for_ (.nm 3) (.rng [(.c (.int 16))]) [.ex (.mt .append (.v 2) [(.tup [(.c (.str [99, 108, 97, 115, 115])), (.ix (.mt .split (.v 1) []) (.v 3)), (.ix (.v 0) (.v 3)), (.tup [])])])],
  .ex (.mt .append (.v 2) [(.tup [(.c (.str [102, 117, 110, 99])), (.c (.str [102])), (.tup [(.c (.str [97])), (.c (.str [98]))]), (.tup []), (.tup [(.tup [(.c (.str [112, 97, 115, 115])), (.c (.int 1))])]), (.tup [(.tup [(.c (.str [97])), (.c (.str [98]))]), (.tup []), (.c (.bl false))]), (.c (.int 0))])]),
  .ex (.mt .append (.v 2) [(.tup [(.c (.str [102, 117, 110, 99])), (.c (.str [103])), (.tup [(.c (.str [97]))]), (.tup []), (.tup [(.tup [(.c (.str [114, 101, 116, 117, 114, 110])), (.c (.int 1)), (.tup [(.c (.str [110, 97, 109, 101])), (.c (.str [97]))])])]), (.tup [(.tup [(.c (.str [97]))]), (.tup []), (.c (.bl false))]), (.c (.int 0))])]),
  .ex (.mt .append (.v 2) [(.tup [(.c (.str [98, 111, 117, 110, 100])), (.tup [(.c (.str [116, 101, 120, 116])), (.c (.str [120]))]), (.tup [(.c (.str [114, 101, 102])), (.c (.int 17))])])]),
  .ex (.mt .append (.v 2) [(.tup [(.c (.str [108, 105, 115, 116])), (.tup [(.tup [(.c (.str [105, 110, 116])), (.c (.int 1))])])])]),
  .ret (.v 2)]⟩
def f21 : Fn := ⟨1, 2, [
  .asg (.nm 1) (.call 18 [(.v 0), (.c (.int 7))]),
  .ite (.cmp .lt (.v 1) (.c (.int 4))) [.ret (.tup [(.c (.str [114, 101, 102])), (.bin .add (.c (.int 17)) (.bi .int [(.cmp .gt (.v 1) (.c (.int 1)))]))])] [],
  .ite (.cmp .eq (.v 1) (.c (.int 4))) [.ret (.tup [(.c (.str [114, 101, 102])), (.c (.int 19))])] [],
  .ite (.cmp .eq (.v 1) (.c (.int 5))) [.ret (.tup [(.c (.str [98, 117, 105, 108, 116])), (.c (.str [108, 101, 110]))])] [],
  .ret (.ix (.lst [(.tup [(.c (.str [105, 110, 116])), (.c (.int 5))]), (.tup [(.c (.str [110, 111, 110, 101]))]), (.tup [(.c (.str [114, 101, 102])), (.c (.int 9))]), (.tup [(.c (.str [104, 111, 115, 116])), (.c (.str [102]))])]) (.call 18 [(.v 0), (.c (.int 4))]))]⟩
def f22 : Fn := ⟨3, 5, [
  .asg (.nm 3) (.lst []),
  .for_ (.nm 4) (.seq (.v 1)) [.ite (.cmp .eq (.call 18 [(.v 0), (.v 2)]) (.c (.int 0))) [.ex (.mt .append (.v 3) [(.tup [(.v 4), (.call 21 [(.v 0)])])])] []],
  .ite (.cmp .eq (.call 18 [(.v 0), (.c (.int 2))]) (.c (.int 1))) [.ex (.mt .reverse (.v 3) [])] [],
  .ret (.bi .tuple [(.v 3)])]⟩
def f23 : Fn := ⟨3, 9, [
  .asg (.nm 3) (.cmp .eq (.call 18 [(.v 0), (.c (.int 3))]) (.c (.int 0))),
  .asg (.nm 4) (.bin .add (.c (.int 1)) (.call 18 [(.v 0), (.bin .add (.c (.int 8)) (.bin .mul (.c (.int 51)) (.bi .int [(.v 3)])))])),
  .for_ (.nm 5) (.rng [(.v 4)]) [.asg (.nm 6) (.call 18 [(.v 0), (.bin .add (.c (.int 3)) (.bin .mul (.v 5) (.bi .int [(.nt (.v 3))])))]), .asg (.nm 7) (.bin .add (.c (.int 18)) (.v 6)), .ite (.cmp .lt (.v 6) (.c (.int 3))) [.asg (.nm 7) (.ix (.lst [(.neg (.c (.int 1))), (.c (.int 1)), (.c (.int 14))]) (.v 6))] [], .ite (.v 3) [.asg (.nm 7) (.bin .add (.c (.int 20)) (.v 5))] [], .ite (.and (.v 3) (.cmp .eq (.v 5) (.c (.int 0)))) [.asg (.nm 7) (.ix (.lst [(.neg (.c (.int 1))), (.c (.int 1))]) (.bin .fdiv (.v 6) (.c (.int 2))))] [], .asg (.nm 8) (.tup []), .ite (.or (.nt (.v 3)) (.cmp .eq (.call 18 [(.v 0), (.c (.int 6))]) (.c (.int 0)))) [.asg (.nm 8) (.call 22 [(.v 0), (.v 2), (.bin .add (.c (.int 2)) (.bin .mul (.c (.int 3)) (.bi .int [(.cmp .gt (.v 5) (.c (.int 0)))])))])] [], .ex (.mt .append (.v 1) [(.tup [(.c (.str [99, 108, 97, 115, 115])), (.bin .add (.c (.str [67])) (.bi .str [(.v 5)])), (.v 7), (.v 8)])])],
  .ret (.v 4)]⟩
def f24 : Fn := ⟨0, 2, [
  .asg (.nm 0) (.c (.str [97, 100, 100, 32, 115, 117, 98, 32, 109, 117, 108, 32, 100, 105, 118, 32, 109, 111, 100, 32, 110, 101, 103, 32, 101, 113, 32, 108, 116, 32, 108, 101, 32, 103, 116, 32, 103, 101, 32, 105, 110, 32, 105, 116, 101, 109, 32, 112, 117, 116, 32, 100, 114, 111, 112, 32, 108, 101, 110, 32, 115, 116, 114, 32, 114, 101, 112, 114, 32, 105, 116, 101, 114, 32, 110, 101, 120, 116, 32, 99, 97, 108, 108])),
  .ret (.lc (.bin .add (.c (.str [111, 112, 95])) (.v 1)) 1 (.mt .split (.v 0) []) none)]⟩
def f25 : Fn := ⟨1, 2, [
  .asg (.nm 1) (.call 18 [(.v 0), (.c (.int 8))]),
  .ite (.cmp .lt (.v 1) (.c (.int 3))) [.ret (.tup [(.c (.str [105, 110, 116])), (.bin .sub (.call 18 [(.v 0), (.c (.int 1000))]) (.c (.int 500)))])] [],
  .ite (.cmp .eq (.v 1) (.c (.int 3))) [.ret (.tup [(.c (.str [114, 101, 102])), (.bin .add (.c (.int 17)) (.call 18 [(.v 0), (.c (.int 4))]))])] [],
  .ite (.cmp .eq (.v 1) (.c (.int 4))) [.ret (.tup [(.c (.str [114, 101, 102])), (.call 18 [(.v 0), (.c (.int 17))])])] [],
  .ret (.ix (.lst [(.tup [(.c (.str [110, 111, 110, 101]))]), (.tup [(.c (.str [116, 101, 120, 116])), (.c (.str [111, 112, 95, 97, 100, 100]))]), (.tup [(.c (.str [98, 117, 105, 108, 116])), (.c (.str [108, 101, 110]))]), (.tup [(.c (.str [115, 112, 97, 110])), (.c (.int 0)), (.c (.int 3))])]) (.call 18 [(.v 0), (.c (.int 4))]))]⟩
def f26 : Fn := ⟨4, 4, [
  .ite (.cmp .gt (.call 18 [(.v 0), (.c (.int 4))]) (.c (.int 0))) [.ret (.tup [(.c (.str [114, 101, 102])), (.bin .add (.v 1) (.call 18 [(.v 0), (.v 3)]))])] [],
  .ite (.cmp .eq (.call 18 [(.v 0), (.c (.int 2))]) (.c (.int 0))) [.ret (.tup [(.c (.str [114, 101, 102])), (.bin .sub (.bin .sub (.v 1) (.c (.int 1))) (.call 18 [(.v 0), (.v 2)]))])] [],
  .ret (.call 25 [(.v 0)])]⟩
def f27 : Fn := ⟨3, 6, [
  .ite (.or (.cmp .ne (.ix (.v 1) (.c (.int 0))) (.c (.str [114, 101, 102]))) (.cmp .ne (.ix (.ix (.v 0) (.ix (.v 1) (.c (.int 1)))) (.c (.int 0))) (.c (.str [105, 110, 115, 116])))) [.ret (.tup [])] [],
  .asg (.nm 3) (.ix (.ix (.v 0) (.ix (.v 1) (.c (.int 1)))) (.c (.int 1))),
  .for_ (.nm 4) (.rng [(.c (.int 60))]) [.ite (.cmp .ge (.v 3) (.c (.int 0))) [.for_ (.nm 5) (.seq (.ix (.ix (.v 0) (.v 3)) (.c (.int 3)))) [.ite (.and (.cmp .eq (.ix (.v 5) (.c (.int 0))) (.v 2)) (.and (.cmp .eq (.ix (.ix (.v 5) (.c (.int 1))) (.c (.int 0))) (.c (.str [114, 101, 102]))) (.cmp .eq (.ix (.ix (.v 0) (.ix (.ix (.v 5) (.c (.int 1))) (.c (.int 1)))) (.c (.int 0))) (.c (.str [102, 117, 110, 99]))))) [.ret (.ix (.v 5) (.c (.int 1)))] [], .ite (.cmp .eq (.ix (.v 5) (.c (.int 0))) (.v 2)) [.ret (.tup [])] []], .asg (.nm 3) (.ix (.ix (.v 0) (.v 3)) (.c (.int 2)))] []],
  .ret (.tup [])]⟩
def f28 : Fn := ⟨5, 8, [
  .ite (.cmp .eq (.v 0) (.c (.str [98, 105, 110, 97, 114, 121]))) [.asg (.nm 6) (.dis [(.c (.str [43])), (.c (.str [111, 112, 95, 97, 100, 100])), (.c (.str [45])), (.c (.str [111, 112, 95, 115, 117, 98])), (.c (.str [42])), (.c (.str [111, 112, 95, 109, 117, 108])), (.c (.str [47, 47])), (.c (.str [111, 112, 95, 100, 105, 118])), (.c (.str [109, 111, 100])), (.c (.str [111, 112, 95, 109, 111, 100]))]), .ret (.lst [(.lst [(.v 2), (.dg (.v 6) (.v 1)), (.tup [(.v 3)]), (.c (.str []))])])] [],
  .ite (.cmp .eq (.v 0) (.c (.str [99, 111, 109, 112, 97, 114, 101]))) [.ite (.or (.cmp .eq (.v 1) (.c (.str [61, 61]))) (.cmp .eq (.v 1) (.c (.str [33, 61])))) [.asg (.nm 7) (.ix (.lst [(.c (.str [98, 111, 111, 108])), (.c (.str [110, 111, 116, 98, 111, 111, 108]))]) (.bi .int [(.cmp .eq (.v 1) (.c (.str [33, 61])))])), .ret (.lst [(.lst [(.v 2), (.c (.str [111, 112, 95, 101, 113])), (.tup [(.v 3)]), (.v 7)]), (.lst [(.v 3), (.c (.str [111, 112, 95, 101, 113])), (.tup [(.v 2)]), (.v 7)])])] [], .ite (.or (.cmp .eq (.v 1) (.c (.str [105, 110]))) (.cmp .eq (.v 1) (.c (.str [110, 111, 116, 105, 110])))) [.ret (.lst [(.lst [(.v 3), (.c (.str [111, 112, 95, 105, 110])), (.tup [(.v 2)]), (.ix (.lst [(.c (.str [98, 111, 111, 108])), (.c (.str [110, 111, 116, 98, 111, 111, 108]))]) (.bi .int [(.cmp .eq (.v 1) (.c (.str [110, 111, 116, 105, 110])))]))])])] [], .asg (.nm 6) (.dis [(.c (.str [60])), (.c (.str [111, 112, 95, 108, 116])), (.c (.str [60, 61])), (.c (.str [111, 112, 95, 108, 101])), (.c (.str [62])), (.c (.str [111, 112, 95, 103, 116])), (.c (.str [62, 61])), (.c (.str [111, 112, 95, 103, 101]))]), .ite (.dq false (.v 1) (.v 6)) [.ret (.lst [(.lst [(.v 2), (.dg (.v 6) (.v 1)), (.tup [(.v 3)]), (.c (.str [98, 111, 111, 108]))])])] [], .ret (.lst [])] [],
  .ite (.cmp .eq (.v 0) (.c (.str [116, 101, 120, 116]))) [.ret (.lst [(.lst [(.v 2), (.c (.str [111, 112, 95, 115, 116, 114])), (.tup []), (.c (.str [116, 101, 120, 116]))]), (.lst [(.v 2), (.c (.str [111, 112, 95, 114, 101, 112, 114])), (.tup []), (.c (.str [116, 101, 120, 116]))])])] [],
  .asg (.nm 5) (.dis [(.c (.str [109, 105, 110, 117, 115])), (.lst [(.c (.str [111, 112, 95, 110, 101, 103])), (.tup []), (.c (.str []))]), (.c (.str [105, 116, 101, 109])), (.lst [(.c (.str [111, 112, 95, 105, 116, 101, 109])), (.tup [(.v 3)]), (.c (.str []))]), (.c (.str [112, 117, 116])), (.lst [(.c (.str [111, 112, 95, 112, 117, 116])), (.tup [(.v 3), (.v 4)]), (.c (.str [110, 111, 116, 104, 105, 110, 103]))])]),
  .asg (.dsub (.v 5) (.c (.str [100, 114, 111, 112]))) (.lst [(.c (.str [111, 112, 95, 100, 114, 111, 112])), (.tup [(.v 3)]), (.c (.str [110, 111, 116, 104, 105, 110, 103]))]),
  .asg (.dsub (.v 5) (.c (.str [108, 101, 110]))) (.lst [(.c (.str [111, 112, 95, 108, 101, 110])), (.tup []), (.c (.str [99, 111, 117, 110, 116]))]),
  .asg (.dsub (.v 5) (.c (.str [114, 101, 112, 114]))) (.lst [(.c (.str [111, 112, 95, 114, 101, 112, 114])), (.tup []), (.c (.str [116, 101, 120, 116]))]),
  .asg (.dsub (.v 5) (.c (.str [105, 116, 101, 114]))) (.lst [(.c (.str [111, 112, 95, 105, 116, 101, 114])), (.tup []), (.c (.str [105, 116, 101, 114, 97, 116, 111, 114]))]),
  .ret (.lst [(.bin .add (.lst [(.v 2)]) (.dg (.v 5) (.v 0)))])]⟩
def f29 : Fn := ⟨6, 6, [
  .ite (.cmp .eq (.v 1) (.c (.str [98, 105, 110, 97, 114, 121]))) [.ret (.call 7 [(.v 0), (.v 2), (.v 3), (.v 4)])] [],
  .ite (.cmp .eq (.v 1) (.c (.str [99, 111, 109, 112, 97, 114, 101]))) [.ret (.call 9 [(.v 0), (.v 2), (.v 3), (.v 4)])] [],
  .ite (.cmp .eq (.v 1) (.c (.str [109, 105, 110, 117, 115]))) [.ret (.call 8 [(.v 0), (.v 3)])] [],
  .ite (.cmp .eq (.v 1) (.c (.str [105, 116, 101, 109]))) [.ret (.call 10 [(.v 0), (.v 3), (.v 4)])] [],
  .ite (.cmp .eq (.v 1) (.c (.str [112, 117, 116]))) [.ret (.call 11 [(.v 0), (.v 3), (.v 4), (.v 5)])] [],
  .ite (.cmp .eq (.v 1) (.c (.str [100, 114, 111, 112]))) [.ret (.call 12 [(.v 0), (.v 3), (.v 4)])] [],
  .ite (.cmp .eq (.v 1) (.c (.str [108, 101, 110]))) [.ret (.call 13 [(.v 0), (.v 3)])] [],
  .ite (.cmp .eq (.v 1) (.c (.str [105, 116, 101, 114]))) [.ret (.call 15 [(.v 0), (.v 3)])] [],
  .ret (.call 14 [(.v 0), (.v 3), (.cmp .eq (.v 1) (.c (.str [116, 101, 120, 116])))])]⟩
def f30 : Fn := ⟨1, 3, [
  .asg (.nm 1) (.lst [(.tup [(.c (.str [100, 114, 111, 112]))]), (.tup [(.c (.str [110, 111, 116]))]), (.tup [(.c (.str [97, 116, 116, 114])), (.c (.str [110]))]), (.tup [(.c (.str [105, 110, 105, 116])), (.tup [(.c (.str [110, 111, 110, 101]))])]), (.tup [(.c (.str [119, 97, 110, 116])), (.c (.str [99, 111, 117, 110, 116]))]), (.tup [(.c (.str [100, 101, 102, 97, 117, 108, 116])), (.tup [(.c (.str [105, 110, 116])), (.c (.int 3))])])]),
  .ret (.lcr (.ix (.v 1) (.call 18 [(.v 0), (.c (.int 6))])) 2 [(.call 18 [(.v 0), (.c (.int 4))])] none)]⟩
def f31 : Fn := ⟨1, 2, [
  .asg (.nm 1) (.lst [(.fld (.v 0) [111, 117, 116]), (.fld (.v 0) [97, 99, 116, 105, 118, 101]), (.fld (.v 0) [104, 101, 114, 101]), (.fld (.v 0) [108, 105, 110, 101]), (.fld (.v 0) [115, 116, 101, 112, 115])]),
  .ret (.bin .add (.lst [(.fld (.v 0) [99, 111, 110, 116, 114, 111, 108]), (.fld (.v 0) [102, 114, 97, 109, 101, 115]), (.fld (.v 0) [104, 101, 97, 112])]) (.v 1))]⟩
def f32 : Fn := ⟨1, 21, [
  .asg (.nm 1) (.lst [(.call 17 [(.v 0), (.c (.int 0)), (.c (.int 63))]), (.c (.int 0))]),
  .asg (.nm 2) (.call 20 []),
  .asg (.nm 3) (.call 23 [(.v 1), (.v 2), (.call 24 [])]),
  .asg (.nm 4) (.bi .len [(.v 2)]),
  .asg (.nm 5) (.bin .add (.c (.int 1)) (.call 18 [(.v 1), (.c (.int 4))])),
  .for_ (.nm 6) (.rng [(.v 5)]) [.ex (.mt .append (.v 2) [(.tup [(.c (.str [105, 110, 115, 116])), (.bin .sub (.bin .sub (.v 4) (.c (.int 1))) (.call 18 [(.v 1), (.v 3)])), (.call 22 [(.v 1), (.call 24 []), (.c (.int 4))])])])],
  .asg (.nm 7) (.ix (.lst [(.tup [(.c (.str [118, 97, 108, 117, 101])), (.tup [(.c (.str [105, 110, 116])), (.c (.int 7))])]), (.tup [(.c (.str [100, 111, 110, 101]))])]) (.call 18 [(.v 1), (.c (.int 2))])),
  .asg (.nm 8) (.call 30 [(.v 1)]),
  .asg (.nm 9) (.lst [(.sl (.c (.str [97, 98])) none (some (.call 18 [(.v 1), (.c (.int 3))]))), (.call 18 [(.v 1), (.c (.int 61))]), (.c (.str [102])), (.bin .add (.c (.int 1)) (.call 18 [(.v 1), (.c (.int 90))])), (.call 18 [(.v 1), (.c (.int 900))])]),
  .asg (.nm 10) (.mk 0 33 [(.v 7), (.bi .list [(.v 8)]), (.bi .list [(.v 2)]), (.ix (.v 9) (.c (.int 0))), (.ix (.v 9) (.c (.int 1))), (.ix (.v 9) (.c (.int 2))), (.ix (.v 9) (.c (.int 3))), (.ix (.v 9) (.c (.int 4)))]),
  .asg (.nm 11) (.mt .split (.c (.str [98, 105, 110, 97, 114, 121, 32, 98, 105, 110, 97, 114, 121, 32, 99, 111, 109, 112, 97, 114, 101, 32, 99, 111, 109, 112, 97, 114, 101, 32, 99, 111, 109, 112, 97, 114, 101, 32, 109, 105, 110, 117, 115, 32, 105, 116, 101, 109, 32, 112, 117, 116, 32, 100, 114, 111, 112, 32, 108, 101, 110, 32, 116, 101, 120, 116, 32, 114, 101, 112, 114, 32, 105, 116, 101, 114])) []),
  .for_ (.nm 12) (.rng [(.c (.int 18))]) [.asg (.nm 13) (.ix (.v 11) (.call 18 [(.v 1), (.c (.int 13))])), .asg (.nm 14) (.ix (.lst [(.c (.str [43])), (.c (.str [45])), (.c (.str [42])), (.c (.str [47, 47])), (.c (.str [109, 111, 100]))]) (.call 18 [(.v 1), (.c (.int 5))])), .ite (.cmp .eq (.v 13) (.c (.str [99, 111, 109, 112, 97, 114, 101]))) [.asg (.nm 14) (.ix (.lst [(.c (.str [61, 61])), (.c (.str [33, 61])), (.c (.str [60])), (.c (.str [60, 61])), (.c (.str [62])), (.c (.str [62, 61])), (.c (.str [105, 110])), (.c (.str [110, 111, 116, 105, 110])), (.c (.str [105, 115])), (.c (.str [105, 115, 110, 111, 116]))]) (.call 18 [(.v 1), (.c (.int 10))]))] [], .asg (.nm 15) (.call 26 [(.v 1), (.v 4), (.v 3), (.v 5)]), .asg (.nm 16) (.call 26 [(.v 1), (.v 4), (.v 3), (.v 5)]), .asg (.nm 17) (.call 25 [(.v 1)]), .asg (.nm 18) (.c (.bl false)), .for_ (.nm 19) (.seq (.call 28 [(.v 13), (.v 14), (.v 15), (.v 16), (.v 17)])) [.asg (.nm 20) (.call 27 [(.v 2), (.ix (.v 19) (.c (.int 0))), (.ix (.v 19) (.c (.int 1)))]), .ite (.and (.cmp .ne (.v 20) (.tup [])) (.nt (.v 18))) [.asg (.nm 18) (.c (.bl true)), .asg (.nm 7) (.tup [(.c (.str [99, 97, 108, 108])), (.v 20), (.bin .add (.tup [(.ix (.v 19) (.c (.int 0)))]) (.ix (.v 19) (.c (.int 2)))), (.tup [])]), .ite (.cmp .ne (.ix (.v 19) (.c (.int 3))) (.c (.str []))) [.asg (.nm 8) (.bin .add (.lst [(.tup [(.c (.str [119, 97, 110, 116])), (.ix (.v 19) (.c (.int 3)))])]) (.v 8))] []] []], .ite (.nt (.call 19 [(.call 29 [(.v 10), (.v 13), (.v 14), (.v 15), (.v 16), (.v 17)]), (.v 18)])) [.ret (.c (.bl false))] [], .ite (.nt (.call 19 [(.call 31 [(.v 10)]), (.bin .add (.lst [(.v 7), (.v 8), (.v 2)]) (.v 9))])) [.ret (.c (.bl false))] []],
  .ret (.c (.bl true))]⟩
def f33 : Fn := ⟨9, 9, [
  .asg (.fld (.v 0) [99, 111, 110, 116, 114, 111, 108]) (.v 1),
  .asg (.fld (.v 0) [102, 114, 97, 109, 101, 115]) (.v 2),
  .asg (.fld (.v 0) [104, 101, 97, 112]) (.v 3),
  .asg (.fld (.v 0) [111, 117, 116]) (.v 4),
  .asg (.fld (.v 0) [97, 99, 116, 105, 118, 101]) (.v 5),
  .asg (.fld (.v 0) [104, 101, 114, 101]) (.v 6),
  .asg (.fld (.v 0) [108, 105, 110, 101]) (.v 7),
  .asg (.fld (.v 0) [115, 116, 101, 112, 115]) (.v 8)]⟩
def prg : List Fn := [f0, f1, f2, f3, f4, f5, f6, f7, f8, f9, f10, f11, f12, f13, f14, f15, f16, f17, f18, f19, f20, f21, f22, f23, f24, f25, f26, f27, f28, f29, f30, f31, f32, f33]
end K19
namespace K19
open PySem PySem.Spec PyProof.Rows L2 Li
def top (i : Nat) : Stmt := PySem.Challenge.pw_pyhold_k19_own_methods_are_called.main.body.getD i (.Pass ⟨0, 0, 0, 0⟩)
def defs : List Df := ([⟨"paired", top 1, ["name", "pairs"], ["name", "pairs", "pair"], none, none, [], [], []⟩, ⟨"shape", top 4, ["heap", "value"], ["heap", "value"], none, none, [], [], []⟩, ⟨"class_line", top 5, ["heap", "k"], ["heap", "k", "line"], none, none, [], [], []⟩, ⟨"member", top 6, ["heap", "k", "x"], ["heap", "k", "x", "n", "value"], none, none, [], [], []⟩, ⟨"function_member", top 7, ["heap", "k", "x"], ["heap", "k", "x", "found"], none, none, [], [], []⟩, ⟨"method", top 8, ["heap", "value", "x"], ["heap", "value", "x"], none, none, [], [], []⟩, ⟨"asked", top 12, ["machine", "value", "x", "args", "what"], ["machine", "value", "x", "args", "what", "found"], none, none, [], [], []⟩, ⟨"own_binary", top 13, ["machine", "op", "a", "b"], ["machine", "op", "a", "b"], none, none, [], [], []⟩, ⟨"own_minus", top 14, ["machine", "a"], ["machine", "a"], none, none, [], [], []⟩, ⟨"own_compare", top 15, ["machine", "op", "a", "b"], ["machine", "op", "a", "b", "what"], none, none, [], [], []⟩, ⟨"own_item", top 16, ["machine", "a", "i"], ["machine", "a", "i"], none, none, [], [], []⟩, ⟨"own_put_item", top 17, ["machine", "a", "i", "v"], ["machine", "a", "i", "v"], none, none, [], [], []⟩, ⟨"own_drop_item", top 18, ["machine", "a", "i"], ["machine", "a", "i"], none, none, [], [], []⟩, ⟨"own_length", top 19, ["machine", "a"], ["machine", "a"], none, none, [], [], []⟩, ⟨"own_text", top 20, ["machine", "a", "plain"], ["machine", "a", "plain"], none, none, [], [], []⟩, ⟨"own_iter", top 21, ["machine", "a"], ["machine", "a"], none, none, [], [], []⟩, ⟨"_law_cell", top 25, ["script", "k"], ["script", "k"], none, none, [], [], []⟩, ⟨"_law_digits", top 26, ["script", "first", "last"], ["script", "first", "last", "digits", "k", "cell", "turn", "seed"], none, none, [], [], []⟩, ⟨"_law_draw", top 27, ["box", "many"], ["box", "many", "at"], none, none, [], [], []⟩, ⟨"_law_same", top 28, ["actual", "due"], ["actual", "due"], none, none, [], [], []⟩, ⟨"_law_start", top 29, [], ["bases", "names", "heap", "k"], none, none, [], [], []⟩, ⟨"_law_given", top 30, ["box"], ["box", "kind"], none, none, [], [], []⟩, ⟨"_law_members", top 31, ["box", "names", "many"], ["box", "names", "many", "rows", "name"], none, none, [], [], []⟩, ⟨"_law_classes", top 32, ["box", "heap", "names"], ["box", "heap", "names", "long", "many", "k", "pick", "base", "members"], none, none, [], [], []⟩, ⟨"_law_names", top 33, [], ["words", "word"], none, none, [], [], []⟩] : List Df) ++ ([⟨"_law_plain", top 34, ["box"], ["box", "kind"], none, none, [], [], []⟩, ⟨"_law_operand", top 35, ["box", "first", "classes", "many"], ["box", "first", "classes", "many"], none, none, [], [], []⟩, ⟨"_law_found", top 36, ["heap", "value", "name"], ["heap", "value", "name", "at", "turn", "pair"], none, none, [], [], []⟩, ⟨"_law_rows", top 37, ["kind", "op", "a", "b", "c"], ["kind", "op", "a", "b", "c", "rows", "names", "what"], none, none, ["names", "rows"], [], []⟩, ⟨"_law_ask", top 38, ["machine", "kind", "op", "a", "b", "c"], ["machine", "kind", "op", "a", "b", "c"], none, none, [], [], []⟩, ⟨"_law_frames", top 39, ["box"], ["box", "menu", "k"], none, none, [], [], []⟩, ⟨"_law_told", top 40, ["machine"], ["machine", "rest"], none, none, [], [], []⟩, ⟨"law", top 41, ["script"], ["script", "box", "heap", "classes", "first", "many", "k", "control", "frames", "rest", "machine", "kinds", "turn", "kind", "op", "a", "b", "c", "asked_v", "row", "found"], none, none, [], [], []⟩, ⟨"__init__", clsStmt (top 23) 0, ["self", "control", "frames", "heap", "out", "active", "here", "line", "steps"], ["self", "control", "frames", "heap", "out", "active", "here", "line", "steps"], some "Machine", none, [], [], []⟩] : List Df)
def glob : Gl := ⟨([("paired", .fn 0), ("shape", .fn 1), ("class_line", .fn 2), ("member", .fn 3), ("function_member", .fn 4), ("method", .fn 5), ("asked", .fn 6), ("own_binary", .fn 7), ("own_minus", .fn 8), ("own_compare", .fn 9), ("own_item", .fn 10), ("own_put_item", .fn 11), ("own_drop_item", .fn 12), ("own_length", .fn 13), ("own_text", .fn 14), ("own_iter", .fn 15), ("_law_cell", .fn 16), ("_law_digits", .fn 17), ("_law_draw", .fn 18), ("_law_same", .fn 19), ("_law_start", .fn 20), ("_law_given", .fn 21), ("_law_members", .fn 22), ("_law_classes", .fn 23), ("_law_names", .fn 24)] : List (Str × Gr)) ++ ([("_law_plain", .fn 25), ("_law_operand", .fn 26), ("_law_found", .fn 27), ("_law_rows", .fn 28), ("_law_ask", .fn 29), ("_law_frames", .fn 30), ("_law_told", .fn 31), ("law", .fn 32), ("LINE_MOST", .val (.int (60))), ("BINARY", .dict [([43], (.str [111, 112, 95, 97, 100, 100])), ([45], (.str [111, 112, 95, 115, 117, 98])), ([42], (.str [111, 112, 95, 109, 117, 108])), ([47, 47], (.str [111, 112, 95, 100, 105, 118])), ([109, 111, 100], (.str [111, 112, 95, 109, 111, 100]))]), ("ORDER", .dict [([60], (.str [111, 112, 95, 108, 116])), ([60, 61], (.str [111, 112, 95, 108, 101])), ([62], (.str [111, 112, 95, 103, 116])), ([62, 61], (.str [111, 112, 95, 103, 101]))]), ("Machine", .cls 0 33)] : List (Str × Gr)), [⟨"Machine", []⟩], ["control", "frames", "heap", "out", "active", "here", "line", "steps"], []⟩
def iLaw : Nat := 32
def lawDf : Df := ⟨"law", top 41, ["script"], ["script", "box", "heap", "classes", "first", "many", "k", "control", "frames", "rest", "machine", "kinds", "turn", "kind", "op", "a", "b", "c", "asked_v", "row", "found"], none, none, [], [], []⟩
def pLaw : Nat := 41
def loose : List Str := ([("__name__" : Str), ("paired" : Str), ("LINE_MOST" : Str), ("shape" : Str), ("class_line" : Str), ("member" : Str), ("function_member" : Str), ("method" : Str), ("BINARY" : Str), ("ORDER" : Str), ("asked" : Str), ("own_binary" : Str), ("own_minus" : Str), ("own_compare" : Str), ("own_item" : Str), ("own_put_item" : Str), ("own_drop_item" : Str), ("own_length" : Str), ("own_text" : Str), ("own_iter" : Str), ("Machine" : Str), ("_law_cell" : Str), ("_law_digits" : Str), ("_law_draw" : Str), ("_law_same" : Str)] : List Str) ++ ([("_law_start" : Str), ("_law_given" : Str), ("_law_members" : Str), ("_law_classes" : Str), ("_law_names" : Str), ("_law_plain" : Str), ("_law_operand" : Str), ("_law_found" : Str), ("_law_rows" : Str), ("_law_ask" : Str), ("_law_frames" : Str), ("_law_told" : Str)] : List Str)
def ar : List Nat := [2, 2, 2, 3, 3, 3, 5, 4, 2, 4, 3, 4, 3, 2, 3, 2, 2, 3, 2, 2, 0, 1, 3, 3, 0, 1, 4, 3, 5, 6, 1, 1, 1, 9]
def kwn : List Nat := [0, 0, 0, 0, 0, 0, 0, 0, 0, 0, 0, 0, 0, 0, 0, 0, 0, 0, 0, 0, 0, 0, 0, 0, 0, 0, 0, 0, 0, 0, 0, 0, 0, 0]
theorem cmp_ok : compile 60 glob defs = some prg := by kernel_rfl
theorem glF_ok : glF defs glob = true := by kernel_rfl
theorem xi_ok : glob.xs.all (xiB defs) = true := by kernel_rfl
theorem scp_ok : ∀ x ∈ defs, scopeQ x.N x.ps (defScope x.st) = true := by
  have h : (defs.all fun x => scopeQ x.N x.ps (defScope x.st)) = true := by kernel_rfl
  exact List.all_eq_true.mp h
theorem bnd_ok : ∀ x ∈ defs, Binds1 x := by
  intro x hx
  simp only [defs, List.mem_cons, List.cons_append, List.nil_append, List.not_mem_nil, or_false] at hx
  rcases hx with rfl | rfl | rfl | rfl | rfl | rfl | rfl | rfl | rfl | rfl | rfl | rfl | rfl | rfl | rfl | rfl | rfl | rfl | rfl | rfl | rfl | rfl | rfl | rfl | rfl | rfl | rfl | rfl | rfl | rfl | rfl | rfl | rfl | rfl
  · exact ⟨fun _ _ _ _ _ _ _ us hl => match us, hl with | [_, _], _ => rfl, fun h => absurd rfl h⟩
  · exact ⟨fun _ _ _ _ _ _ _ us hl => match us, hl with | [_, _], _ => rfl, fun h => absurd rfl h⟩
  · exact ⟨fun _ _ _ _ _ _ _ us hl => match us, hl with | [_, _], _ => rfl, fun h => absurd rfl h⟩
  · exact ⟨fun _ _ _ _ _ _ _ us hl => match us, hl with | [_, _, _], _ => rfl, fun h => absurd rfl h⟩
  · exact ⟨fun _ _ _ _ _ _ _ us hl => match us, hl with | [_, _, _], _ => rfl, fun h => absurd rfl h⟩
  · exact ⟨fun _ _ _ _ _ _ _ us hl => match us, hl with | [_, _, _], _ => rfl, fun h => absurd rfl h⟩
  · exact ⟨fun _ _ _ _ _ _ _ us hl => match us, hl with | [_, _, _, _, _], _ => rfl, fun h => absurd rfl h⟩
  · exact ⟨fun _ _ _ _ _ _ _ us hl => match us, hl with | [_, _, _, _], _ => rfl, fun h => absurd rfl h⟩
  · exact ⟨fun _ _ _ _ _ _ _ us hl => match us, hl with | [_, _], _ => rfl, fun h => absurd rfl h⟩
  · exact ⟨fun _ _ _ _ _ _ _ us hl => match us, hl with | [_, _, _, _], _ => rfl, fun h => absurd rfl h⟩
  · exact ⟨fun _ _ _ _ _ _ _ us hl => match us, hl with | [_, _, _], _ => rfl, fun h => absurd rfl h⟩
  · exact ⟨fun _ _ _ _ _ _ _ us hl => match us, hl with | [_, _, _, _], _ => rfl, fun h => absurd rfl h⟩
  · exact ⟨fun _ _ _ _ _ _ _ us hl => match us, hl with | [_, _, _], _ => rfl, fun h => absurd rfl h⟩
  · exact ⟨fun _ _ _ _ _ _ _ us hl => match us, hl with | [_, _], _ => rfl, fun h => absurd rfl h⟩
  · exact ⟨fun _ _ _ _ _ _ _ us hl => match us, hl with | [_, _, _], _ => rfl, fun h => absurd rfl h⟩
  · exact ⟨fun _ _ _ _ _ _ _ us hl => match us, hl with | [_, _], _ => rfl, fun h => absurd rfl h⟩
  · exact ⟨fun _ _ _ _ _ _ _ us hl => match us, hl with | [_, _], _ => rfl, fun h => absurd rfl h⟩
  · exact ⟨fun _ _ _ _ _ _ _ us hl => match us, hl with | [_, _, _], _ => rfl, fun h => absurd rfl h⟩
  · exact ⟨fun _ _ _ _ _ _ _ us hl => match us, hl with | [_, _], _ => rfl, fun h => absurd rfl h⟩
  · exact ⟨fun _ _ _ _ _ _ _ us hl => match us, hl with | [_, _], _ => rfl, fun h => absurd rfl h⟩
  · exact ⟨fun _ _ _ _ _ _ _ us hl => match us, hl with | [], _ => rfl, fun h => absurd rfl h⟩
  · exact ⟨fun _ _ _ _ _ _ _ us hl => match us, hl with | [_], _ => rfl, fun h => absurd rfl h⟩
  · exact ⟨fun _ _ _ _ _ _ _ us hl => match us, hl with | [_, _, _], _ => rfl, fun h => absurd rfl h⟩
  · exact ⟨fun _ _ _ _ _ _ _ us hl => match us, hl with | [_, _, _], _ => rfl, fun h => absurd rfl h⟩
  · exact ⟨fun _ _ _ _ _ _ _ us hl => match us, hl with | [], _ => rfl, fun h => absurd rfl h⟩
  · exact ⟨fun _ _ _ _ _ _ _ us hl => match us, hl with | [_], _ => rfl, fun h => absurd rfl h⟩
  · exact ⟨fun _ _ _ _ _ _ _ us hl => match us, hl with | [_, _, _, _], _ => rfl, fun h => absurd rfl h⟩
  · exact ⟨fun _ _ _ _ _ _ _ us hl => match us, hl with | [_, _, _], _ => rfl, fun h => absurd rfl h⟩
  · exact ⟨fun _ _ _ _ _ _ _ us hl => match us, hl with | [_, _, _, _, _], _ => rfl, fun h => absurd rfl h⟩
  · exact ⟨fun _ _ _ _ _ _ _ us hl => match us, hl with | [_, _, _, _, _, _], _ => rfl, fun h => absurd rfl h⟩
  · exact ⟨fun _ _ _ _ _ _ _ us hl => match us, hl with | [_], _ => rfl, fun h => absurd rfl h⟩
  · exact ⟨fun _ _ _ _ _ _ _ us hl => match us, hl with | [_], _ => rfl, fun h => absurd rfl h⟩
  · exact ⟨fun _ _ _ _ _ _ _ us hl => match us, hl with | [_], _ => rfl, fun h => absurd rfl h⟩
  · exact ⟨fun _ _ _ _ _ _ _ us hl => match us, hl with | [_, _, _, _, _, _, _, _, _], _ => rfl, fun h => absurd rfl h⟩
abbrev Rw : PySem.W.OpenRow := PySem.W.OpenLaw.row PySem.Challenge.rw_pyhold_k19_own_methods_are_called
abbrev hkl : PySem.W.Hook := hookL 5 glob defs
def ob (s : PySem.W.SharedT) : AlL := obsLG 5 glob defs (HandSHeadRun.getT s)
theorem ob_eq (s : PySem.W.SharedT) : ob s = hkl.obs s.abs := obsLG_eq (HandSHeadRun.getT_eq s)
theorem head_run2 (b : Bool) (w : World) : HandSHeadRun.RunEq Rw (PySem.W.view Rw.prog [pLaw]) hkl ob 4000 loose (w.withFollow "special-get-raises" b) := by
  intro os
  cases b <;> kernel_rfl
theorem head_run (w : World) : HandSHeadRun.RunEq Rw (PySem.W.view Rw.prog [pLaw]) hkl ob 4000 loose w := by
  have h := head_run2 (w.params.followText "special-get-raises") w
  rwa [World.withFollow_self] at h
/-- the law, from what its small program does -/
theorem of_pure (hp : ∀ ns : List Int, ns.length ≤ 63 → ∃ st, call prg 30 iLaw [.ro (ns.map .int)] [] = .ok (.bl true) st) : PySem.Challenge.rw_pyhold_k19_own_methods_are_called.Holds := by
  w_on; o_law
  refine HandSHeadRun.head_any (r := PySem.W.OpenLaw.row PySem.Challenge.rw_pyhold_k19_own_methods_are_called) (q := PySem.W.view (PySem.W.OpenLaw.row PySem.Challenge.rw_pyhold_k19_own_methods_are_called).prog [pLaw]) (H := hkl) (ob := ob) (M := 4000) (loose := ([("__name__" : Str), ("paired" : Str), ("LINE_MOST" : Str), ("shape" : Str), ("class_line" : Str), ("member" : Str), ("function_member" : Str), ("method" : Str), ("BINARY" : Str), ("ORDER" : Str), ("asked" : Str), ("own_binary" : Str), ("own_minus" : Str), ("own_compare" : Str), ("own_item" : Str), ("own_put_item" : Str), ("own_drop_item" : Str), ("own_length" : Str), ("own_text" : Str), ("own_iter" : Str), ("Machine" : Str), ("_law_cell" : Str), ("_law_digits" : Str), ("_law_draw" : Str), ("_law_same" : Str)] : List Str) ++ ([("_law_start" : Str), ("_law_given" : Str), ("_law_members" : Str), ("_law_classes" : Str), ("_law_names" : Str), ("_law_plain" : Str), ("_law_operand" : Str), ("_law_found" : Str), ("_law_rows" : Str), ("_law_ask" : Str), ("_law_frames" : Str), ("_law_told" : Str)] : List Str)) (d := HandSHeadRun.topDef (PySem.W.OpenLaw.row PySem.Challenge.rw_pyhold_k19_own_methods_are_called).prog pLaw) (kwd := []) ob_eq
    (by kernel_rfl) (fun s => by kernel_rfl) head_run (by kernel_rfl) (by kernel_rfl) (by kernel_rfl) (by rfl) (by first | assumption | decide +kernel) (by decide +kernel) ⟨rfl, rfl, rfl, rfl, rfl, by decide +kernel⟩ ?hw ?hc
  case hw => w_witness2
  case hc =>
    refine Li.walk_ofG (l := PySem.Challenge.rw_pyhold_k19_own_methods_are_called) (n := 63) (k := 2 * 30 + 1) (x := "script") rfl (by decide) (by kernel_rfl) ⟨rfl, by decide, by decide⟩ ?F
    intro w mg fa h Y G hmg0
    obtain ⟨K, KX, c⟩ := Y
    have hmg : mg ("law" : PySem.Str) = some (.ref fa) := by
      have e : (HandSHeadRun.topDef (PySem.W.OpenLaw.row PySem.Challenge.rw_pyhold_k19_own_methods_are_called).prog pLaw).name = ("law" : PySem.Str) := by kernel_rfl
      rw [← e]
      exact hmg0
    have ei : defs[iLaw]? = some (lawDf) := by kernel_rfl
    obtain ⟨fd, F, ok⟩ := text_ok (P := (PySem.Challenge.rw_pyhold_k19_own_methods_are_called).prog) (w := w) (base := h) h KX G c glF_ok xi_ok scp_ok bnd_ok cmp_ok 30 iLaw lawDf ei
    have fg := c.fa (f := .glo "law") (List.mem_append_left _ (List.mem_filterMap.mpr ⟨("law", .fn iLaw), List.mem_of_getElem? (i := iLaw) rfl, rfl⟩))
    have e := hmg.symm.trans (He.glo_ok KX G fg)
    cases e
    refine ⟨K, fd, spF (wdOf w K defs glob) (call prg 30 iLaw) 1, KX, fun s v => FunD.bindsA (ps := ["script"]) F ((bnd_ok _ (List.mem_of_getElem? ei)).pl rfl) s [v] rfl, fun H a ns hl hO hS => law_post (L := defs) (K := K) hO hS (hp ns hl), fun base _ _ => ?_⟩
    obtain ⟨fd', F', ok'⟩ := text_ok (P := (PySem.Challenge.rw_pyhold_k19_own_methods_are_called).prog) (w := w) (base := base) h KX G c glF_ok xi_ok scp_ok bnd_ok cmp_ok 30 iLaw lawDf ei
    have : fd' = fd := same_fn F' F
    rw [← this]
    exact ok'
end K19
namespace K19
open Li
theorem at0 : prg[0]? = some f0 := rfl
theorem at1 : prg[1]? = some f1 := rfl
theorem at2 : prg[2]? = some f2 := rfl
theorem at3 : prg[3]? = some f3 := rfl
theorem at4 : prg[4]? = some f4 := rfl
theorem at5 : prg[5]? = some f5 := rfl
theorem at16 : prg[16]? = some fCell := rfl
theorem at17 : prg[17]? = some (fDigits 16) := rfl
theorem at18 : prg[18]? = some (fDraw eSeven) := rfl
theorem at19 : prg[19]? = some f19 := rfl
abbrev Ms : Type := List (S × D)
/-- members: names with values -/
def mD (ms : Ms) : List D := ms.map fun q => .tup [.str q.1, q.2]
def cE (nm : D) (b : Int) (ms : Ms) : D := .tup [.str [99, 108, 97, 115, 115], nm, .int b, .tup (mD ms)]
def iE (n : Int) (ms : Ms) : D := .tup [.str [105, 110, 115, 116], .int n, .tup (mD ms)]
/-- the classes of a heap: their bases, their members -/
structure HOk (xs : List D) (bs : Nat → Int) (ms : Nat → Ms) (C : Nat → Prop) : Prop where
  at_ : ∀ i, C i → ∃ nm, xs[i]? = some (cE nm (bs i) (ms i))
  lo : ∀ i, C i → bs i = -1 ∨ (0 ≤ bs i ∧ C (bs i).toNat)
def okK (C : Nat → Prop) (k : Int) : Prop := k = -1 ∨ (0 ≤ k ∧ C k.toNat)
def chain (bs : Nat → Int) : Nat → Int → List Int
  | 0, _ => []
  | n + 1, k => if 0 ≤ k then k :: chain bs n (bs k.toNat) else []
/-- the first member of this name on a line -/
def memb (ms : Nat → Ms) (x : S) : List Int → Option D
  | [] => none
  | i :: r => match (ms i.toNat).lookup x with
    | some v => some v
    | none => memb ms x r
/-- a thing with a kind; a function, by a number -/
inductive VK (xs : List D) : D → S → Prop
  | plain (c : S) (r : List D) : c ≠ [114, 101, 102] → c ≠ [102, 117, 110, 99] → VK xs (.tup (.str c :: r)) c
  | ref (j : Nat) (t : S) (r : List D) : xs[j]? = some (.tup (.str t :: r)) → VK xs (.tup [.str [114, 101, 102], .int j]) t
section
variable {xs : List D} {bs : Nat → Int} {ms : Nat → Ms} {C : Nat → Prop} {st : Store} {h : Nat}
theorem shape_ok (k : Nat) (hh : lk st h = some xs) {v : D} {t : S} (hv : VK xs v t) : call prg (k + 1) 1 [.ob h, v] st = .ok (.str t) st := by
  refine spec_of fun Q hQ => ?_
  rw [wp_call at1 rfl]
  unfold f1
  rw [wS_ite]
  cases hv with
  | plain _ r h1 h2 =>
    simp [start, h1]
    exact hQ
  | ref j t r hx =>
    simp [start, hh, atI_nat, hx]
    exact hQ
theorem paired_ok (k : Nat) (x : S) (m : Ms) : call prg (k + 1) 0 [.str x, .tup (mD m)] st = .ok ((m.lookup x).getD (.tup [])) st := by
  refine spec_of fun Q hQ => ?_
  rw [wp_call at0 rfl]
  unfold f0
  simp [start]
  rw [wS_for]
  simp
  obtain ⟨I, hI⟩ : ∃ I : List D → Env → Store → Prop, I = fun r e s => ∃ (c : Option D) (m' : Ms), r = mD m' ∧ m'.lookup x = m.lookup x ∧ e = [some (.str x), some (.tup (mD m)), c] ∧ s = st := ⟨_, rfl⟩
  refine wF_inv I (by rw [hI]; exact ⟨_, m, rfl, rfl, rfl, rfl⟩) (fun y r e s z => ?_) fun e s z => ?_
  · rw [hI] at z
    obtain ⟨c, m', hr, hl, rfl, rfl⟩ := z
    cases m' with
    | nil => cases hr
    | cons q m' =>
      obtain ⟨n, v⟩ := q
      cases hr
      simp only [List.set_cons_succ, List.set_cons_zero]
      rw [wS_ite]
      simp
      by_cases e : n = x
      · subst e
        simp
        rw [List.lookup_cons_self] at hl
        rw [← hl] at hQ
        exact hQ
      · simp [e]
        rw [hI]
        refine ⟨_, m', rfl, ?_, rfl, rfl⟩
        rw [← hl, List.lookup_cons, beq_eq_false_iff_ne.mpr (Ne.symm e)]
  · rw [hI] at z
    obtain ⟨c, m', hr, hl, rfl, rfl⟩ := z
    cases m' with
    | cons q m' => cases hr
    | nil =>
      simp
      rw [← hl] at hQ
      exact hQ
theorem HOk.next (H : HOk xs bs ms C) {k : Int} (h2 : C k.toNat) : okK C (bs k.toNat) := by
  rcases H.lo k.toNat h2 with q | q
  · exact .inl q
  · exact .inr q
theorem HOk.get (H : HOk xs bs ms C) {k : Int} (h0 : 0 ≤ k) (h2 : C k.toNat) : ∃ nm, atI xs k = some (cE nm (bs k.toNat) (ms k.toNat)) := by
  obtain ⟨nm, hx⟩ := H.at_ k.toNat h2
  refine ⟨nm, ?_⟩
  have e := atI_nat (xs := xs) (j := k.toNat)
  rw [Int.toNat_of_nonneg h0] at e
  rw [e]
  exact hx
theorem chain_neg {n : Nat} {k : Int} (h : ¬ 0 ≤ k) : chain bs n k = [] := by
  cases n with
  | zero => rfl
  | succ n => rw [chain, if_neg h]
theorem line_ok (k : Nat) (hh : lk st h = some xs) (H : HOk xs bs ms C) {n : Int} (hn : okK C n) :
    call prg (k + 1) 2 [.ob h, .int n] st = .ok (.tup ((chain bs 60 n).map .int)) (st ++ [.lst ((chain bs 60 n).map .int)]) := by
  refine spec_of fun Q hQ => ?_
  rw [wp_call at2 rfl]
  unfold f2
  simp [start]
  obtain ⟨I, hI⟩ : ∃ I : Nat → Env → Store → Prop, I = fun m e s => ∃ (n' : Int) (acc : List Int), m + acc.length = 60 ∧ okK C n' ∧ acc ++ chain bs m n' = chain bs 60 n ∧ e = [some (.ob h), some (.int n'), some (.ob st.length)] ∧ s = st ++ [.lst (acc.map .int)] := ⟨_, rfl⟩
  refine wS_while I 60 (by decide) (by rw [hI]; exact ⟨n, [], rfl, hn, rfl, rfl, rfl⟩) fun m e s z => ?_
  rw [hI] at z
  obtain ⟨n', acc, hm, hk, hc, rfl, rfl⟩ := z
  simp
  by_cases h0 : 0 ≤ n'
  · rcases hk with hk | ⟨k1, k2⟩
    · omega
    obtain ⟨nm, hx2⟩ := H.get h0 k2
    have hl : lk (st ++ [O.lst (acc.map .int)]) h = some xs := lk_old hh
    have hl2 : ∀ ys, lk (st ++ [O.lst ys]) h = some xs := fun ys => lk_old hh
    rw [if_pos h0]
    split
    · rename_i h6
      obtain ⟨m', rfl⟩ : ∃ m', m = m' + 1 := ⟨m - 1, by omega⟩
      simp [lk_upd_new, hl2, hx2, cE]
      refine ⟨Nat.lt_of_lt_of_le (by omega : _ < 1000) (by decide), ?_⟩
      rw [hI]
      refine ⟨m', by omega, bs n'.toNat, acc ++ [n'], by simp; omega, H.next k2, ?_, rfl, by simp⟩
      rw [← hc, chain, if_pos h0]
      simp
    · rename_i h6
      have : m = 0 := by omega
      subst this
      rw [chain, List.append_nil] at hc
      subst hc
      exact hQ
  · rw [if_neg h0]
    rw [chain_neg h0, List.append_nil] at hc
    subst hc
    exact hQ
/-- each number of a line is a class -/
theorem chain_ok (H : HOk xs bs ms C) : ∀ {m : Nat} {n : Int}, okK C n → ∀ i ∈ chain bs m n, 0 ≤ i ∧ C i.toNat
  | 0, n, _, i, hi => by cases hi
  | m + 1, n, hn, i, hi => by
    unfold chain at hi
    by_cases h0 : 0 ≤ n
    · rw [if_pos h0] at hi
      rcases hn with q | q
      · omega
      rcases List.mem_cons.mp hi with e | e
      · subst e
        exact q
      · exact chain_ok H (H.next q.2) i e
    · rw [if_neg h0] at hi
      cases hi
/-- values as members have them -/
structure Vg (v : D) : Prop where
  fl : flat 20 v = true
  ne : ∃ c r, v = .tup (.str c :: r)
theorem Vg.ne_nil {v : D} (h : Vg v) {Q : Bool → Store → Prop} {st : Store} : wp (cmpop .ne v (.tup [])) Q st = Q true st := by
  obtain ⟨c, r, e⟩ := h.ne
  rw [wp_ne (x := v) (y := .tup []) (res_flat (flat_mono (by decide) h.fl)) (res_flat rfl), e]
  simp [eqv, eqvs]
theorem nil_ne {Q : Bool → Store → Prop} {st : Store} : wp (cmpop .ne (.tup []) (.tup [])) Q st = Q false st := by
  rw [wp_ne (x := .tup []) (y := .tup []) (res_flat rfl) (res_flat rfl)]
  simp [eqv, eqvs]
def MOk (ms : Nat → Ms) (C : Nat → Prop) : Prop := ∀ i, C i → ∀ q ∈ ms i, Vg q.2
theorem lookup_in {m : Ms} {x : S} {v : D} (h : m.lookup x = some v) : (x, v) ∈ m := by
  induction m with
  | nil => cases h
  | cons q m ih =>
    obtain ⟨n, w⟩ := q
    rw [List.lookup_cons] at h
    cases hb : (x == n) with
    | true =>
      rw [hb] at h
      cases h
      rw [eq_of_beq hb]
      exact List.mem_cons_self ..
    | false =>
      rw [hb] at h
      exact List.mem_cons_of_mem _ (ih h)
theorem member_ok (k : Nat) (hh : lk st h = some xs) (H : HOk xs bs ms C) (M : MOk ms C) {n : Int} (hn : okK C n) (x : S) :
    call prg (k + 2) 3 [.ob h, .int n, .str x] st = .ok ((memb ms x (chain bs 60 n)).getD (.tup [])) (st ++ [.lst ((chain bs 60 n).map .int)]) := by
  refine spec_of fun Q hQ => ?_
  rw [wp_call at3 rfl]
  unfold f3
  simp [start]
  rw [wS_for]
  simp
  rw [wpc (line_ok k hh H hn)]
  simp
  have hch := chain_ok H (m := 60) hn
  have hh2 : lk (st ++ [O.lst ((chain bs 60 n).map .int)]) h = some xs := lk_old hh
  generalize hst : st ++ [O.lst ((chain bs 60 n).map .int)] = s0 at hQ hh2 ⊢
  generalize chain bs 60 n = ch at hch hQ ⊢
  obtain ⟨I, hI⟩ : ∃ I : List D → Env → Store → Prop, I = fun r e s => ∃ (c d : Option D) (l : List Int), r = l.map .int ∧ (∀ i ∈ l, 0 ≤ i ∧ C i.toNat) ∧ memb ms x l = memb ms x ch ∧ e = [some (.ob h), some (.int n), some (.str x), c, d] ∧ s = s0 := ⟨_, rfl⟩
  refine wF_inv I (by rw [hI]; exact ⟨_, _, ch, rfl, hch, rfl, rfl, rfl⟩) (fun y r e s z => ?_) fun e s z => ?_
  · rw [hI] at z
    obtain ⟨c, d, l, hr, hl, hm, rfl, rfl⟩ := z
    cases l with
    | nil => cases hr
    | cons i l =>
      cases hr
      obtain ⟨i0, i1⟩ := hl i (List.mem_cons_self ..)
      obtain ⟨nm, hx⟩ := H.get i0 i1
      simp [hh2, hx, cE]
      rw [wpc (paired_ok k x (ms i.toNat))]
      rw [wS_ite]
      simp
      have hm : (match (ms i.toNat).lookup x with
        | some v => some v
        | none => memb ms x l) = memb ms x ch := hm
      cases e : (ms i.toNat).lookup x with
      | some v =>
        rw [e] at hm
        simp only [Option.getD_some]
        rw [(M _ i1 _ (lookup_in e)).ne_nil]
        simp
        rw [← hm] at hQ
        exact hQ
      | none =>
        rw [e] at hm
        simp only [Option.getD_none]
        rw [nil_ne]
        simp
        rw [hI]
        exact ⟨_, _, l, rfl, fun j hj => hl j (List.mem_cons_of_mem _ hj), hm, rfl, rfl⟩
  · rw [hI] at z
    obtain ⟨c, d, l, hr, hl, hm, rfl, rfl⟩ := z
    cases l with
    | cons i l => cases hr
    | nil =>
      simp
      rw [← hm] at hQ
      exact hQ
/-- is it a function -/
def isFn (xs : List D) : D → Bool
  | .tup [.str c, .int j] => decide (c = [114, 101, 102]) && match xs[j.toNat]? with
    | some (.tup (.str t :: _)) => decide (t = [102, 117, 110, 99])
    | _ => false
  | _ => false
theorem isFn_of {v : D} {t : S} (h : VK xs v t) : isFn xs v = decide (t = [102, 117, 110, 99]) := by
  cases h with
  | plain _ r h1 h2 =>
    unfold isFn
    split
    · rename_i c j e
      cases e
      simp [h1, h2]
    · simp [h2]
  | ref j t r hx =>
    simp [isFn, hx]
def fres (xs : List D) : Option D → D
  | none => .tup []
  | some v => if isFn xs v then v else .tup []
def KOk (xs : List D) (ms : Nat → Ms) (C : Nat → Prop) : Prop := ∀ i, C i → ∀ q ∈ ms i, ∃ t, VK xs q.2 t
theorem memb_in (H : HOk xs bs ms C) {x : S} {v : D} : ∀ {l : List Int}, (∀ i ∈ l, 0 ≤ i ∧ C i.toNat) → memb ms x l = some v → ∃ i, C i ∧ (x, v) ∈ ms i
  | [], _, h => by cases h
  | i :: l, hl, h => by
    unfold memb at h
    cases e : (ms i.toNat).lookup x with
    | some w =>
      rw [e] at h
      cases h
      exact ⟨_, (hl i (List.mem_cons_self ..)).2, lookup_in e⟩
    | none =>
      rw [e] at h
      exact memb_in H (fun j hj => hl j (List.mem_cons_of_mem _ hj)) h
theorem fmember_ok (k : Nat) (hh : lk st h = some xs) (H : HOk xs bs ms C) (M : MOk ms C) (K : KOk xs ms C) {n : Int} (hn : okK C n) (x : S) :
    call prg (k + 3) 4 [.ob h, .int n, .str x] st = .ok (fres xs (memb ms x (chain bs 60 n))) (st ++ [.lst ((chain bs 60 n).map .int)]) := by
  refine spec_of fun Q hQ => ?_
  rw [wp_call at4 rfl]
  unfold f4
  simp [start]
  rw [wpc (member_ok k hh H M hn x)]
  have hch := chain_ok H (m := 60) hn
  have hh2 : lk (st ++ [O.lst ((chain bs 60 n).map .int)]) h = some xs := lk_old hh
  have hmi := @memb_in xs bs ms C H x
  generalize hst : st ++ [O.lst ((chain bs 60 n).map .int)] = s0 at hQ hh2 ⊢
  rw [wS_ite]
  simp
  cases e : memb ms x (chain bs 60 n) with
  | none =>
    rw [e] at hQ
    simp only [Option.getD_none]
    rw [nil_ne]
    simp
    exact hQ
  | some v =>
    rw [e] at hQ
    obtain ⟨i, i1, i2⟩ := hmi hch e
    simp only [Option.getD_some]
    rw [(M _ i1 _ i2).ne_nil]
    obtain ⟨t, ht⟩ := K _ i1 _ i2
    simp
    rw [wpc (shape_ok (k + 1) hh2 ht)]
    simp only [fres, isFn_of ht] at hQ
    simp
    by_cases q : t = [102, 117, 110, 99]
    · simp [q] at hQ ⊢
      exact hQ
    · simp [q] at hQ ⊢
      exact hQ
theorem method_ok (k : Nat) (hh : lk st h = some xs) (H : HOk xs bs ms C) (M : MOk ms C) (K : KOk xs ms C) {j : Nat} {n : Int} {mm : Ms} (hj : xs[j]? = some (iE n mm)) (hn : okK C n) (x : S) :
    call prg (k + 4) 5 [.ob h, .tup [.str [114, 101, 102], .int j], .str x] st = .ok (fres xs (memb ms x (chain bs 60 n))) (st ++ [.lst ((chain bs 60 n).map .int)]) := by
  refine spec_of fun Q hQ => ?_
  rw [wp_call at5 rfl]
  unfold f5
  rw [wS_ite]
  simp [start]
  rw [wpc (shape_ok (k + 2) hh (.ref j _ _ hj))]
  simp [hh, atI_nat, hj, iE]
  rw [wpc (fmember_ok k hh H M K hn x)]
  exact hQ
theorem method_no (k : Nat) (hh : lk st h = some xs) {v : D} {t : S} (hv : VK xs v t) (ht : t ≠ [105, 110, 115, 116]) (x : S) :
    call prg (k + 2) 5 [.ob h, v, .str x] st = .ok (.tup []) st := by
  refine spec_of fun Q hQ => ?_
  rw [wp_call at5 rfl]
  unfold f5
  rw [wS_ite]
  simp [start]
  rw [wpc (shape_ok k hh hv)]
  simp [ht]
  exact hQ
end
end K19
namespace K19
open Li
theorem at20 : prg[20]? = some f20 := rfl
theorem at21 : prg[21]? = some f21 := rfl
theorem at22 : prg[22]? = some f22 := rfl
theorem at23 : prg[23]? = some f23 := rfl
theorem at24 : prg[24]? = some f24 := rfl
theorem at25 : prg[25]? = some f25 := rfl
theorem at26 : prg[26]? = some f26 := rfl
theorem at27 : prg[27]? = some f27 := rfl
theorem at28 : prg[28]? = some f28 := rfl
theorem at29 : prg[29]? = some f29 := rfl
theorem at30 : prg[30]? = some f30 := rfl
theorem at31 : prg[31]? = some f31 := rfl
theorem at32 : prg[32]? = some f32 := rfl
/-- a name -/
structure Nw (w : S) : Prop where
  len : w.length ≤ 10
  low : ∀ c ∈ w, c < 128
/-- a drawn value -/
structure Mv (v : D) : Prop where
  fl : flat 3 v = true
  pl : plain v = true
  co : cost v ≤ 2200
  kd : (∃ c r, v = .tup (.str c :: r) ∧ c ≠ [114, 101, 102] ∧ c ≠ [102, 117, 110, 99]) ∨ ∃ j : Nat, v = .tup [.str [114, 101, 102], .int j] ∧ (j = 9 ∨ j = 17 ∨ j = 18 ∨ j = 19)
theorem Mv.vg {v : D} (h : Mv v) : Vg v := ⟨flat_mono (by decide) h.fl, by
  rcases h.kd with ⟨c, r, e, _⟩ | ⟨j, e, _⟩
  · exact ⟨c, r, e⟩
  · exact ⟨_, _, e⟩⟩
structure MsOk (ms : Ms) : Prop where
  len : ms.length ≤ 21
  all : ∀ q ∈ ms, Nw q.1 ∧ Mv q.2
section
variable {st : Store} {b a : Nat}
theorem draw18 (k : Nat) (B : Bx st b a) {m : Int} (hm : 0 < m) {Q : D → Store → Prop} (hQ : ∀ (r : Nat) (s : Store), (r : Int) < m → Go b a st s → Q (.int r) s) : wp (call prg (k + 1) 18 [.ob b, .int m]) Q st :=
  draw_wp at18 low_seven B hm fun r s h1 h2 _ => hQ r s h1 h2
theorem given_wp (k : Nat) (B : Bx st b a) {Q : D → Store → Prop} (hQ : ∀ v s, Mv v → Go b a st s → Q v s) : wp (call prg (k + 2) 21 [.ob b]) Q st := by
  rw [wp_call at21 rfl]
  unfold f21
  simp [start]
  refine draw18 k B (by decide) fun r0 s0 h0 g0 => ?_
  rw [wS_ite]
  simp
  split
  · rename_i q
    have : r0 = 0 ∨ r0 = 1 ∨ r0 = 2 ∨ r0 = 3 := by omega
    rcases this with rfl | rfl | rfl | rfl
    · exact hQ _ _ ⟨rfl, rfl, by decide, .inr ⟨17, rfl, by decide⟩⟩ g0
    · exact hQ _ _ ⟨rfl, rfl, by decide, .inr ⟨17, rfl, by decide⟩⟩ g0
    · exact hQ _ _ ⟨rfl, rfl, by decide, .inr ⟨18, rfl, by decide⟩⟩ g0
    · exact hQ _ _ ⟨rfl, rfl, by decide, .inr ⟨18, rfl, by decide⟩⟩ g0
  rw [wS_ite]
  simp
  split
  · exact hQ _ _ ⟨rfl, rfl, by decide, .inr ⟨19, rfl, by decide⟩⟩ g0
  rw [wS_ite]
  simp
  split
  · exact hQ _ _ ⟨rfl, rfl, by decide, .inl ⟨_, _, rfl, by decide, by decide⟩⟩ g0
  · refine draw18 k (g0.bx.app _) (by decide) fun r1 s1 h1 g1 => ?_
    have hn : s0.length ≠ b := fun e => by
      have := g0.bx.lt
      omega
    have hl := g1.lk hn lk_new
    have : r1 = 0 ∨ r1 = 1 ∨ r1 = 2 ∨ r1 = 3 := by omega
    rcases this with rfl | rfl | rfl | rfl
    · simp [hl]
      exact hQ _ _ ⟨rfl, rfl, by decide, .inl ⟨_, _, rfl, by decide, by decide⟩⟩ (g0.trans ((Go.app g0.bx _).trans g1))
    · simp [hl]
      exact hQ _ _ ⟨rfl, rfl, by decide, .inl ⟨_, _, rfl, by decide, by decide⟩⟩ (g0.trans ((Go.app g0.bx _).trans g1))
    · simp [hl]
      exact hQ _ _ ⟨rfl, rfl, by decide, .inr ⟨9, rfl, by decide⟩⟩ (g0.trans ((Go.app g0.bx _).trans g1))
    · simp [hl]
      exact hQ _ _ ⟨rfl, rfl, by decide, .inl ⟨_, _, rfl, by decide, by decide⟩⟩ (g0.trans ((Go.app g0.bx _).trans g1))
theorem mD_app (ms : Ms) (q : S × D) : mD ms ++ [.tup [.str q.1, q.2]] = mD (ms ++ [q]) := by simp [mD]
theorem mD_len (ms : Ms) : (mD ms).length = ms.length := by simp [mD]
theorem mD_rev (ms : Ms) : (mD ms).reverse = mD ms.reverse := by simp [mD]
theorem gmembers_wp (k : Nat) (B : Bx st b a) {nn : Nat} {nm : List S} (hn : lk st nn = some (nm.map .str)) (hnb : nn ≠ b) (hn8 : nm.length = 21) (hnw : ∀ w ∈ nm, Nw w) {m : Int} (hm : 0 < m) {Q : D → Store → Prop}
    (hQ : ∀ ms s, MsOk ms → Go b a st s → Q (.tup (mD ms)) s) : wp (call prg (k + 3) 22 [.ob b, .ob nn, .int m]) Q st := by
  rw [wp_call at22 rfl]
  unfold f22
  simp [start]
  have B0 : Bx (st ++ [O.lst []]) b a := B.app _
  have G0 : Go b a st (st ++ [O.lst []]) := Go.app B _
  have hr0 : lk (st ++ [O.lst []]) st.length = some (mD []) := lk_new
  have hge := B.ge (Nat.le_refl st.length)
  have hlt0 : st.length < (st ++ [O.lst []]).length := by simp
  generalize hS : st ++ [O.lst []] = s0 at B0 G0 hr0 hlt0 ⊢
  rw [wS_for]
  simp
  obtain ⟨I, hI⟩ : ∃ I : List D → Env → Store → Prop, I = fun r e s => ∃ (ms : Ms) (d1 : Option D) (l : List S), r = l.map .str ∧ (∀ w ∈ l, Nw w) ∧ ms.length + l.length ≤ 21 ∧ MsOk ms ∧ e = [some (.ob b), some (.ob nn), some (.int m), some (.ob st.length), d1] ∧ lk s st.length = some (mD ms) ∧ Go b a st s ∧ st.length < s.length := ⟨_, rfl⟩
  refine wFd_ob (xs := nm.map .str) (Nat.lt_of_lt_of_le (by rw [List.length_map]; omega : _ < 1000) (by decide)) I (fun r e s z => by rw [hI] at z; obtain ⟨_, _, _, _, _, _, _, _, _, g, _⟩ := z; exact g.lk hnb hn) (by rw [hI]; exact ⟨[], _, nm, rfl, hnw, by simp [hn8], ⟨by decide, by simp⟩, rfl, hr0, G0, hlt0⟩) (fun y r e s z => ?_) fun e s z => ?_
  · rw [hI] at z
    obtain ⟨ms, d1, l, hrr, hl, hlen, hms, rfl, hr, g, hlt⟩ := z
    cases l with
    | nil => cases hrr
    | cons w l =>
      cases hrr
      simp only [List.set_cons_succ, List.set_cons_zero]
      rw [wS_ite]
      simp
      refine draw18 _ g.bx hm fun r2 s2 h2 g2 => ?_
      have g' := g.trans g2
      have hr2 := g2.lk hge.1 hr
      have hlt2 : st.length < s2.length := Nat.lt_of_lt_of_le hlt g2.len
      have hlen : ms.length + (l.length + 1) ≤ 21 := hlen
      simp
      split
      · refine ⟨by rw [hr2]; rfl, given_wp _ g'.bx fun v s4 hv g4 => ?_⟩
        have hr4 := g4.lk hge.1 hr2
        simp [hr4]
        have hlt4 : st.length < s4.length := Nat.lt_of_lt_of_le hlt2 g4.len
        refine ⟨Nat.lt_of_lt_of_le (by rw [mD_len]; omega : _ < 1000) (by decide), hlt4, ?_⟩
        rw [hI]
        refine ⟨ms ++ [(w, v)], _, l, rfl, fun u hu => hl u (List.mem_cons_of_mem _ hu), by simp; omega, ⟨by simp; omega, fun q hq => ?_⟩, rfl, ?_, (g'.trans g4).setN (Nat.le_refl _) hge.1 hge.2, by simpa using hlt4⟩
        · rcases List.mem_append.mp hq with q1 | q1
          · exact hms.all q q1
          · rw [List.mem_singleton.mp q1]
            exact ⟨hl w (List.mem_cons_self ..), hv⟩
        · rw [lk_same hlt4, ← mD_app]
      · rw [hI]
        exact ⟨ms, _, l, rfl, fun u hu => hl u (List.mem_cons_of_mem _ hu), by omega, hms, rfl, hr2, g', hlt2⟩
  · rw [hI] at z
    obtain ⟨ms, d1, l, hrr, hl, hlen, hms, rfl, hr, g, hlt⟩ := z
    rw [wS_ite]
    simp
    refine draw18 _ g.bx (by decide) fun r2 s2 h2 g2 => ?_
    have hr2 := g2.lk hge.1 hr
    have hlt2 : st.length < s2.length := Nat.lt_of_lt_of_le hlt g2.len
    have g' := g.trans g2
    simp
    split
    · simp [hr2, hlt2, lk_same hlt2]
      rw [mD_rev]
      refine hQ _ _ ⟨by simp; exact hms.len, fun q hq => hms.all q (List.mem_reverse.mp hq)⟩ (g'.setN (Nat.le_refl _) hge.1 hge.2)
    · simp [hr2]
      exact hQ ms _ hms g'
end
def T0 : S := [69, 120, 99, 101, 112, 116, 105, 111, 110, 32, 65, 114, 105, 116, 104, 109, 101, 116, 105, 99, 69, 114, 114, 111, 114, 32, 90, 101, 114, 111, 68, 105, 118, 105, 115, 105, 111, 110, 69, 114, 114, 111, 114, 32, 79, 118, 101, 114, 102, 108, 111, 119, 69, 114, 114, 111, 114, 32, 76, 111, 111, 107, 117, 112, 69, 114, 114, 111, 114, 32, 73, 110, 100, 101, 120, 69, 114, 114, 111, 114, 32, 75, 101, 121, 69, 114, 114, 111, 114, 32, 78, 97, 109, 101, 69, 114, 114, 111, 114, 32]
def T1 : S := [65, 116, 116, 114, 105, 98, 117, 116, 101, 69, 114, 114, 111, 114, 32, 84, 121, 112, 101, 69, 114, 114, 111, 114, 32, 86, 97, 108, 117, 101, 69, 114, 114, 111, 114, 32, 83, 116, 111, 112, 73, 116, 101, 114, 97, 116, 105, 111, 110, 32, 82, 117, 110, 116, 105, 109, 101, 69, 114, 114, 111, 114, 32, 82, 101, 99, 117, 114, 115, 105, 111, 110, 69, 114, 114, 111, 114, 32, 77, 101, 109, 111, 114, 121, 69, 114, 114, 111, 114, 32, 72, 111, 115, 116, 69, 114, 114, 111, 114]
def WS : List S := LCls.map fun d => match d with
  | .str s => s
  | _ => []
theorem words_ok : wordsS (T0 ++ T1) = WS := by decide +kernel
theorem ws_len : WS.length = 16 := by decide
theorem ws_okC : WS.all okC = true := by decide +kernel
def LB : List Int := [-1, 1, 2, 2, 1, 5, 5, 1, 1, 1, 1, 1, 1, 13, 1, 1]
def sE : D := .tup [.str [115, 99, 111, 112, 101], .tup [], .tup [], .tup [], .int (-1), .bl false]
def cS (k : Nat) : D := cE (.str (WS.getD k [])) (LB.getD k 0) []
def tE : List D := [.tup [.str [102, 117, 110, 99], .str [102], .tup [.str [97], .str [98]], .tup [], .tup [.tup [.str [112, 97, 115, 115], .int 1]], .tup [.tup [.str [97], .str [98]], .tup [], .bl false], .int 0],
  .tup [.str [102, 117, 110, 99], .str [103], .tup [.str [97]], .tup [], .tup [.tup [.str [114, 101, 116, 117, 114, 110], .int 1, .tup [.str [110, 97, 109, 101], .str [97]]]], .tup [.tup [.str [97]], .tup [], .bl false], .int 0],
  .tup [.str [98, 111, 117, 110, 100], .tup [.str [116, 101, 120, 116], .str [120]], .tup [.str [114, 101, 102], .int 17]],
  .tup [.str [108, 105, 115, 116], .tup [.tup [.str [105, 110, 116], .int 1]]]]
def HS : List D := sE :: (List.range 16).map cS ++ tE
section
variable {st : Store} {b a : Nat}
theorem start_wp (k : Nat) (B : Bx st b a) {Q : D → Store → Prop} (hQ : ∀ s n, lk s n = some HS → st.length ≤ n → Go b a st s → Q (.ob n) s) : wp (call prg (k + 1) 20 []) Q st := by
  rw [wp_call at20 rfl]
  unfold f20
  simp [start]
  refine ⟨Nat.le_trans (by decide : _ ≤ 1000) (by decide), Nat.le_trans (by decide : _ ≤ 1000) (by decide), ?_⟩
  generalize hB : ([D.int (-1), .int 1, .int 2, .int 2, .int 1, .int 5, .int 5, .int 1, .int 1, .int 1, .int 1, .int 1, .int 1, .int 13, .int 1, .int 1] : List D) = lb
  have hlb : ∀ j, j < 16 → lb[j]? = some (.int (LB.getD j 0)) := by
    intro j hj
    have hB2 : lb = LB.map .int := by rw [← hB]; rfl
    rw [hB2, List.getElem?_map, List.getD_eq_getElem?_getD, List.getElem?_eq_getElem (show j < LB.length from hj)]
    rfl
  show wS _ (_ :: _) [some (.ob st.length), some (.str (T0 ++ T1)), some (.ob (st.length + 1)), none] _ _
  have hw := words_ok
  have hl : (T0 ++ T1).length + 2 ≤ LINE := Nat.le_trans (by decide : _ ≤ 1000) (by decide)
  generalize hT : T0 ++ T1 = tt at hw hl ⊢
  have hg0 : Go b a st (st ++ [O.lst lb, O.lst [sE]]) := Go.app B _
  have hr0 : lk (st ++ [O.lst lb, O.lst [sE]]) st.length = some lb := lk_a0 rfl
  have hr1 : lk (st ++ [O.lst lb, O.lst [sE]]) (st.length + 1) = some [sE] := lk_a1 rfl
  have hge := B.ge (Nat.le_succ st.length)
  have hge0 := B.ge (Nat.le_refl st.length)
  have hS : ([D.tup [D.str [115, 99, 111, 112, 101], D.tup [], D.tup [], D.tup [], D.int (-1), D.bl false]] : List D) = [sE] := rfl
  rw [hS]
  generalize st ++ [O.lst lb, O.lst [sE]] = s0 at hg0 hr0 hr1 ⊢
  rw [wS_rng]
  simp
  refine ⟨by decide, ?_⟩
  obtain ⟨I, hI⟩ : ∃ I : Nat → Env → Store → Prop, I = fun j e s => ∃ d, e = [some (.ob st.length), some (.str tt), some (.ob (st.length + 1)), d] ∧ lk s st.length = some lb ∧ lk s (st.length + 1) = some (sE :: (List.range j).map cS) ∧ Go b a st s := ⟨_, rfl⟩
  refine wF_range I (by rw [hI]; exact ⟨_, rfl, hr0, hr1, hg0⟩) (fun j e s hj z => ?_) fun e s z => ?_
  · rw [hI] at z
    obtain ⟨d, rfl, h0, h1, g⟩ := z
    have hj : j < 16 := hj
    have hws : (WS.map D.str)[j]? = some (.str (WS.getD j [])) := by
      rw [List.getElem?_map, List.getD_eq_getElem?_getD, List.getElem?_eq_getElem (by rw [ws_len]; exact hj)]
      rfl
    have h0' : ∀ z, lk (s ++ [O.lst z]) st.length = some lb := fun z => lk_old h0
    have h1' : ∀ z, lk (s ++ [O.lst z]) (st.length + 1) = some (sE :: (List.range j).map cS) := fun z => lk_old h1
    have hlt := lk_lt h1
    simp [h1, hw, hl, ws_okC, atI_nat, hws, h0', h1', hlb j hj]
    refine ⟨Nat.lt_of_lt_of_le (by omega : _ < 1000) (by decide), by omega, ?_⟩
    rw [hI]
    refine ⟨_, rfl, ?_, ?_, (g.appR _).setN (Nat.le_succ _) hge.1 hge.2⟩
    · rw [lk_else (by omega)]
      exact h0' _
    · rw [lk_same (by simp; omega), List.range_succ, List.map_append]
      rfl
  · rw [hI] at z
    obtain ⟨d, rfl, h0, h1, g⟩ := z
    have hlt := lk_lt h1
    have hh : ∀ ys : List D, lk (s.set (st.length + 1) (.lst ys)) (st.length + 1) = some ys := fun ys => lk_same hlt
    simp [h1, hlt, hh]
    refine ⟨Nat.lt_of_lt_of_le (by decide : _ < 1000) (by decide), Nat.lt_of_lt_of_le (by decide : _ < 1000) (by decide), Nat.lt_of_lt_of_le (by decide : _ < 1000) (by decide), Nat.lt_of_lt_of_le (by decide : _ < 1000) (by decide), ?_⟩
    refine hQ _ _ ?_ (Nat.le_succ _) (g.setN (Nat.le_succ _) hge.1 hge.2)
    rw [hh]
    rfl
end
end K19
namespace K19
open Li
def Cj (j : Nat) (i : Nat) : Prop := (1 ≤ i ∧ i ≤ 16) ∨ (21 ≤ i ∧ i < 21 + j)
/-- a heap with j classes of a program -/
structure Kp (xs : List D) (j : Nat) : Prop where
  len : xs.length = 21 + j
  pre : ∃ t, xs = HS ++ t
  tell : Tells xs (200000 + 80000 * j)
  ok : ∃ bs ms, HOk xs bs ms (Cj j) ∧ ∀ i, Cj j i → MsOk (ms i)
theorem HOk.app {xs : List D} {bs : Nat → Int} {ms : Nat → Ms} {C : Nat → Prop} (h : HOk xs bs ms C) (ys : List D) : HOk (xs ++ ys) bs ms C :=
  ⟨fun i h1 => by
    obtain ⟨nm, q⟩ := h.at_ i h1
    exact ⟨nm, by rw [List.getElem?_append_left (List.getElem?_eq_some_iff.mp q).1]; exact q⟩, h.lo⟩
theorem mok_of {ms : Nat → Ms} {C : Nat → Prop} (h : ∀ i, C i → MsOk (ms i)) : MOk ms C := fun i hi q hq => ((h i hi).all q hq).2.vg
theorem hs_get {xs t : List D} (h : xs = HS ++ t) {j : Nat} (hj : j < 21) : xs[j]? = HS[j]? := by
  rw [h, List.getElem?_append_left (show j < HS.length from hj)]
theorem kok_of {xs t : List D} (hx : xs = HS ++ t) {ms : Nat → Ms} {C : Nat → Prop} (h : ∀ i, C i → MsOk (ms i)) : KOk xs ms C := fun i hi q hq => by
  have m := ((h i hi).all q hq).2
  generalize q.2 = v at m
  rcases m.kd with ⟨c, r, rfl, h1, h2⟩ | ⟨j, rfl, h1⟩
  · exact ⟨c, .plain c r h1 h2⟩
  · rcases h1 with rfl | rfl | rfl | rfl
    · exact ⟨_, .ref 9 [99, 108, 97, 115, 115] _ (by rw [hs_get hx (by decide)]; rfl)⟩
    · exact ⟨_, .ref 17 [102, 117, 110, 99] _ (by rw [hs_get hx (by decide)]; rfl)⟩
    · exact ⟨_, .ref 18 [102, 117, 110, 99] _ (by rw [hs_get hx (by decide)]; rfl)⟩
    · exact ⟨_, .ref 19 [98, 111, 117, 110, 100] _ (by rw [hs_get hx (by decide)]; rfl)⟩
theorem pl_mD : ∀ {ms : Ms}, (∀ q ∈ ms, Nw q.1 ∧ Mv q.2) → flats 4 (mD ms) = true ∧ plains (mD ms) = true ∧ costs (mD ms) ≤ 2400 * ms.length
  | [], _ => ⟨rfl, rfl, by simp [mD, costs]⟩
  | q :: ms, h => by
    obtain ⟨i1, i2, i3⟩ := pl_mD (ms := ms) fun p hp => h p (List.mem_cons_of_mem _ hp)
    obtain ⟨n, v⟩ := h q (List.mem_cons_self ..)
    have e : mD (q :: ms) = .tup [.str q.1, q.2] :: mD ms := rfl
    have hp : plain (.str q.1) = true := by
      unfold plain
      rw [List.all_eq_true]
      intro c hc
      have := n.low c hc
      exact decide_eq_true (by omega)
    rw [e]
    refine ⟨?_, ?_, ?_⟩
    · simp [flats, flat, i1, v.fl]
    · simp only [plains, plain, i2, v.pl, Bool.and_true]
      exact hp
    · have h1 := n.len
      have h2 := v.co
      simp [costs, cost]
      omega
theorem mD_tell {ms : Ms} (h : MsOk ms) : flat 5 (.tup (mD ms)) = true ∧ plain (.tup (mD ms)) = true ∧ cost (.tup (mD ms)) ≤ 53000 := by
  obtain ⟨h1, h2, h3⟩ := pl_mD h.all
  refine ⟨by unfold flat; exact h1, by unfold plain; exact h2, ?_⟩
  have := h.len
  unfold cost
  omega
theorem name_ok (j : Nat) (hj : j < 60) : okS (.int (j : Int)) = true ∧ plain (.str ([67] ++ shS (.int (j : Int)))) = true ∧ ([67] ++ shS (.int (j : Int))).length ≤ 2001 := by
  have hp : plain (.int (j : Int)) = true := by
    unfold plain
    exact decide_eq_true (small_log (by omega))
  have ho : okS (.int (j : Int)) = true := okS_of hp (by simp [cost]; decide)
  have h1 := pl_len hp
  have h3 : (shS (.int (j : Int))).length = (PySem.PyData.shown (pd (.int (j : Int)))).length := by
    unfold shS
    show (PySem.PyData.shown (pd (.int (j : Int)))).cps.toList.length = (PySem.PyData.shown (pd (.int (j : Int)))).cps.size
    simp
  refine ⟨ho, ?_, ?_⟩
  · unfold okS at ho
    simp only [Bool.and_eq_true, decide_eq_true_eq, List.all_eq_true] at ho
    unfold plain
    rw [List.all_eq_true]
    intro c hc
    rcases List.mem_append.mp hc with hc | hc
    · simp at hc
      subst hc
      decide
    · exact decide_eq_true (ho.2.2 c hc)
  · rw [List.length_append, h3]
    have : cost (.int (j : Int)) = 2000 := by simp [cost]
    rw [this] at h1
    simp
    omega
theorem cE_tell {nm : S} {b : Int} {ms : Ms} (hn : plain (.str nm) = true) (hl : nm.length ≤ 2001) (hb : b.natAbs < 2 ^ 64) (h : MsOk ms) : Tells [cE (.str nm) b ms] 80000 := by
  obtain ⟨h1, h2, h3⟩ := mD_tell h
  have h1 := flat_mono (m := 38) (by decide) h1
  have hlg := small_log hb
  refine (tells_one (c := 78000) ?_ ?_ ?_).mono (by omega)
  · unfold cE
    simp [flat, flats]
    unfold flat at h1
    exact h1
  · unfold cE
    have hc : plain (.str [99, 108, 97, 115, 115]) = true := rfl
    have hi : plain (.int b) = true := by unfold plain; exact decide_eq_true hlg
    unfold plain
    simp only [plains, hn, h2, hc, hi]
    rfl
  · unfold cE
    simp only [cost, costs] at h3 ⊢
    simp at h3 ⊢
    omega
theorem iE_tell {n : Int} {ms : Ms} (hb : n.natAbs < 2 ^ 64) (h : MsOk ms) : Tells [iE n ms] 60000 := by
  obtain ⟨h1, h2, h3⟩ := mD_tell h
  have h1 := flat_mono (m := 38) (by decide) h1
  have hlg := small_log hb
  refine (tells_one (c := 58000) ?_ ?_ ?_).mono (by omega)
  · unfold iE
    simp [flat, flats]
    unfold flat at h1
    exact h1
  · unfold iE
    have hc : plain (.str [105, 110, 115, 116]) = true := rfl
    have hi : plain (.int n) = true := by unfold plain; exact decide_eq_true hlg
    unfold plain
    simp only [plains, h2, hc, hi]
    rfl
  · unfold iE
    simp only [cost, costs] at h3 ⊢
    simp at h3 ⊢
    omega
def bs0 (i : Nat) : Int := LB.getD (i - 1) 0
theorem HS_tell : Tells HS 200000 := ⟨by decide +kernel, by decide +kernel, by decide +kernel⟩
theorem kp_start : Kp HS 0 := by
  refine ⟨rfl, ⟨[], by simp⟩, HS_tell, bs0, fun _ => [], ⟨fun i h => ?_, fun i h => ?_⟩, fun i _ => ⟨Nat.zero_le _, by simp⟩⟩
  · have : 1 ≤ i ∧ i ≤ 16 := by unfold Cj at h; omega
    obtain ⟨h1, h2⟩ := this
    have : i = 1 ∨ i = 2 ∨ i = 3 ∨ i = 4 ∨ i = 5 ∨ i = 6 ∨ i = 7 ∨ i = 8 ∨ i = 9 ∨ i = 10 ∨ i = 11 ∨ i = 12 ∨ i = 13 ∨ i = 14 ∨ i = 15 ∨ i = 16 := by omega
    rcases this with rfl | rfl | rfl | rfl | rfl | rfl | rfl | rfl | rfl | rfl | rfl | rfl | rfl | rfl | rfl | rfl <;> exact ⟨_, rfl⟩
  · have : 1 ≤ i ∧ i ≤ 16 := by unfold Cj at h; omega
    obtain ⟨h1, h2⟩ := this
    have : i = 1 ∨ i = 2 ∨ i = 3 ∨ i = 4 ∨ i = 5 ∨ i = 6 ∨ i = 7 ∨ i = 8 ∨ i = 9 ∨ i = 10 ∨ i = 11 ∨ i = 12 ∨ i = 13 ∨ i = 14 ∨ i = 15 ∨ i = 16 := by omega
    have hd : ∀ i, 1 ≤ i → i ≤ 16 → bs0 i = -1 ∨ (0 ≤ bs0 i ∧ 1 ≤ (bs0 i).toNat ∧ (bs0 i).toNat ≤ 16) := by
      intro i a1 a2
      have : i = 1 ∨ i = 2 ∨ i = 3 ∨ i = 4 ∨ i = 5 ∨ i = 6 ∨ i = 7 ∨ i = 8 ∨ i = 9 ∨ i = 10 ∨ i = 11 ∨ i = 12 ∨ i = 13 ∨ i = 14 ∨ i = 15 ∨ i = 16 := by omega
      rcases this with rfl | rfl | rfl | rfl | rfl | rfl | rfl | rfl | rfl | rfl | rfl | rfl | rfl | rfl | rfl | rfl <;> decide
    rcases hd i h1 h2 with q | ⟨q1, q2, q3⟩
    · exact .inl q
    · exact .inr ⟨q1, .inl ⟨q2, q3⟩⟩
theorem Kp.next {xs : List D} {j : Nat} (K : Kp xs j) {nm : S} {m : Ms} {b : Int} (hb : okK (Cj j) b) (hm : MsOk m) (ht : Tells [cE (.str nm) b m] 80000) : Kp (xs ++ [cE (.str nm) b m]) (j + 1) := by
  obtain ⟨bs, ms, H, hms⟩ := K.ok
  obtain ⟨t, hx⟩ := K.pre
  have hC : ∀ i, Cj (j + 1) i → i ≠ 21 + j → Cj j i := by
    intro i h1 h2
    unfold Cj at h1 ⊢
    omega
  have hC2 : ∀ i, Cj j i → Cj (j + 1) i := by
    intro i h1
    unfold Cj at h1 ⊢
    omega
  refine ⟨by simp [K.len]; omega, ⟨t ++ [cE (.str nm) b m], by rw [hx]; simp⟩, (K.tell.app ht).mono (by omega), fun i => if i = 21 + j then b else bs i, fun i => if i = 21 + j then m else ms i, ⟨fun i h1 => ?_, fun i h1 => ?_⟩, fun i h1 => ?_⟩
  · by_cases e : i = 21 + j
    · subst e
      refine ⟨.str nm, ?_⟩
      rw [if_pos rfl, if_pos rfl, List.getElem?_append_right (by rw [K.len]; omega), K.len]
      simp
    · rw [if_neg e, if_neg e]
      obtain ⟨nm', q⟩ := H.at_ i (hC i h1 e)
      exact ⟨nm', by rw [List.getElem?_append_left (List.getElem?_eq_some_iff.mp q).1]; exact q⟩
  · by_cases e : i = 21 + j
    · subst e
      rw [if_pos rfl]
      rcases hb with hb | hb
      · exact .inl hb
      · exact .inr ⟨hb.1, hC2 _ hb.2⟩
    · rw [if_neg e]
      rcases H.lo i (hC i h1 e) with q | q
      · exact .inl q
      · exact .inr ⟨q.1, hC2 _ q.2⟩
  · by_cases e : i = 21 + j
    · subst e
      dsimp only
      rw [if_pos rfl]
      exact hm
    · dsimp only
      rw [if_neg e]
      exact hms i (hC i h1 e)
/-- what f22 leaves as it was -/
structure Ke (b a h nn : Nat) (nm : List S) (xs : List D) (s : Store) : Prop where
  bx : Bx s b a
  hp : lk s h = some xs
  ns : lk s nn = some (nm.map .str)
theorem Ke.go {b a h nn : Nat} {nm : List S} {xs : List D} {s u : Store} (K : Ke b a h nn nm xs s) (h1 : h ≠ b) (h2 : nn ≠ b) (g : Go b a s u) : Ke b a h nn nm xs u := ⟨g.bx, g.lk h1 K.hp, g.lk h2 K.ns⟩
theorem Ke.put {b a h nn : Nat} {nm : List S} {xs : List D} {s : Store} (K : Ke b a h nn nm xs s) (h1 : h ≠ b) (h2 : h ≠ a) (h3 : h ≠ nn) (ys : List D) : Ke b a h nn nm ys (s.set h (.lst ys)) :=
  ⟨K.bx.set h1 h2, lk_same (lk_lt K.hp), by rw [lk_else h3]; exact K.ns⟩
theorem classes_wp (k : Nat) {st : Store} {b a h nn : Nat} {nm : List S} (K : Ke b a h nn nm HS st) (n1 : h ≠ b) (n2 : nn ≠ b) (n3 : h ≠ a) (n4 : h ≠ nn) (hn8 : nm.length = 21) (hnw : ∀ w ∈ nm, Nw w) {Q : D → Store → Prop}
    (hQ : ∀ xs (m : Nat) s, 1 ≤ m → m ≤ 59 → Kp xs m → Ke b a h nn nm xs s → Q (.int m) s) : wp (call prg (k + 4) 23 [.ob b, .ob h, .ob nn]) Q st := by
  rw [wp_call at23 rfl]
  unfold f23
  simp [start]
  refine draw18 _ K.bx (by decide) fun r0 s0 h0 g0 => ?_
  have K0 := K.go n1 n2 g0
  simp
  have hif : ∃ lg : Bool, decide (r0 = 0) = lg ∧ (if r0 = 0 then (1 : Int) else 0) = if lg = true then 1 else 0 := ⟨_, rfl, by by_cases q : r0 = 0 <;> simp [q]⟩
  obtain ⟨lg, hlg, hif⟩ := hif
  rw [hlg, hif]
  have hmany : (0 : Int) < 8 + 51 * (if lg = true then 1 else 0) ∧ 8 + 51 * (if lg = true then (1 : Int) else 0) ≤ 59 := by cases lg <;> decide
  refine ⟨by cases lg <;> exact .inl ⟨by decide, by decide⟩, ?_⟩
  refine draw18 _ K0.bx hmany.1 fun r1 s1 h1 g1 => ?_
  have K1 := K0.go n1 n2 g1
  simp
  rw [wS_rng]
  simp
  have hr1 : r1 < 59 := by have := hmany.2; omega
  refine ⟨by unfold inBig BIG; omega, ?_⟩
  have e0 : ((1 : Int) + (r1 : Int)).toNat = r1 + 1 := by omega
  try rw [e0]
  obtain ⟨I, hI⟩ : ∃ I : Nat → Env → Store → Prop, I = fun j e s => ∃ xs d5 d6 d7 d8, Kp xs j ∧ Ke b a h nn nm xs s ∧ e = [some (.ob b), some (.ob h), some (.ob nn), some (.bl lg), some (.int (1 + (r1 : Int))), d5, d6, d7, d8] := ⟨_, rfl⟩
  refine wF_range I (by rw [hI]; exact ⟨HS, _, _, _, _, kp_start, K1, rfl⟩) (fun j e s hj z => ?_) fun e s z => ?_
  · rw [hI] at z
    obtain ⟨xs, d5, d6, d7, d8, P, E, rfl⟩ := z
    have hj59 : j < 59 := by omega
    simp only [List.set_cons_succ, List.set_cons_zero]
    have ez : ((0 : Int) + (j : Int)) = j := by omega
    rw [ez]
    generalize hR : Stm.asg (Tg.nm 8) (Ex.tup []) :: _ = R
    generalize hT : Trn (I (j + 1)) _ (Rt Q) = T
    suffices main : ∀ (b7 : Int) (d6 d8 : Option D) (s' : Store), okK (Cj j) b7 → b7.natAbs < 2 ^ 64 → Ke b a h nn nm xs s' →
        wS (call prg (k + 3)) R [some (.ob b), some (.ob h), some (.ob nn), some (.bl lg), some (.int (1 + (r1 : Int))), some (.int j), d6, some (.int b7), d8] T s' by
      have c1 : okK (Cj j) (-1) := .inl rfl
      have c2 : okK (Cj j) 1 := .inr ⟨by decide, .inl ⟨by decide, by decide⟩⟩
      have c3 : okK (Cj j) 14 := .inr ⟨by decide, .inl ⟨by decide, by decide⟩⟩
      cases lg with
      | false =>
        simp
        refine ⟨.inl ⟨by unfold SMALL; omega, by unfold SMALL; omega⟩, ?_⟩
        refine draw18 _ E.bx (by omega) fun p s2 h2 g2 => ?_
        have E2 := E.go n1 n2 g2
        simp
        rw [wS_ite]
        simp
        split
        · rename_i q
          have : p = 0 ∨ p = 1 ∨ p = 2 := by omega
          rcases this with rfl | rfl | rfl
          · simp
            rw [wS_ite]
            simp
            rw [wS_ite]
            simp
            exact main _ _ _ _ c1 (by decide) (E2.go n1 n2 (Go.app E2.bx _))
          · simp
            rw [wS_ite]
            simp
            rw [wS_ite]
            simp
            exact main _ _ _ _ c2 (by decide) (E2.go n1 n2 (Go.app E2.bx _))
          · simp
            rw [wS_ite]
            simp
            rw [wS_ite]
            simp
            exact main _ _ _ _ c3 (by decide) (E2.go n1 n2 (Go.app E2.bx _))
        · rename_i q
          rw [wS_ite]
          simp
          rw [wS_ite]
          simp
          refine main _ _ _ _ (.inr ⟨by omega, .inr ⟨by omega, by omega⟩⟩) (by omega) E2
      | true =>
        simp
        refine ⟨.inl ⟨by unfold SMALL; omega, by unfold SMALL; omega⟩, ?_⟩
        refine draw18 _ E.bx (by decide) fun p s2 h2 g2 => ?_
        have E2 := E.go n1 n2 g2
        simp
        rw [wS_ite]
        have hp : p = 0 ∨ p = 1 ∨ p = 2 := by omega
        have E3 : ∀ ys, Ke b a h nn nm xs (s2 ++ [.lst ys]) := fun ys => E2.go n1 n2 (Go.app E2.bx _)
        have E4 : ∀ ys zs, Ke b a h nn nm xs (s2 ++ [.lst ys] ++ [.lst zs]) := fun ys zs => (E3 ys).go n1 n2 (Go.app (E3 ys).bx _)
        simp only [List.append_assoc, List.cons_append, List.nil_append] at E4
        rcases hp with rfl | rfl | rfl
        all_goals
          simp
          rw [wS_ite]
          simp
          rw [wS_ite]
          simp
          split
          · refine ⟨by decide, ?_⟩
            first
              | exact main _ _ _ _ c1 (by decide) (E4 _ _)
              | exact main _ _ _ _ c2 (by decide) (E4 _ _)
          · rename_i q
            exact main _ _ _ _ (.inr ⟨by omega, .inr ⟨by omega, by omega⟩⟩) (by omega) (E3 _)
    intro b7 d6 d8 s' hb hb2 E'
    rw [← hR]
    simp
    generalize hR2 : [Stm.ex _] = R2
    suffices fin : ∀ (m : Ms) (s' : Store), MsOk m → Ke b a h nn nm xs s' →
        wS (call prg (k + 3)) R2 [some (.ob b), some (.ob h), some (.ob nn), some (.bl lg), some (.int (1 + (r1 : Int))), some (.int j), d6, some (.int b7), some (.tup (mD m))] T s' by
      have m0 : MsOk [] := ⟨by decide, by simp⟩
      have hm : (0 : Int) < 2 + 3 * (if (0 : Int) < j then 1 else 0) := by split <;> decide
      rw [wS_ite]
      cases lg with
      | false =>
        simp
        refine ⟨by split <;> exact .inl ⟨by decide, by decide⟩, ?_⟩
        refine gmembers_wp _ E'.bx E'.ns n2 hn8 hnw (by split <;> decide) fun m s3 hm g3 => ?_
        exact fin m s3 hm (E'.go n1 n2 g3)
      | true =>
        simp
        refine draw18 _ E'.bx (by decide) fun p s2 h2 g2 => ?_
        have E2 := E'.go n1 n2 g2
        simp
        split
        · refine ⟨by split <;> exact .inl ⟨by decide, by decide⟩, ?_⟩
          refine gmembers_wp _ E2.bx E2.ns n2 hn8 hnw (by split <;> decide) fun m s3 hm g3 => ?_
          exact fin m s3 hm (E2.go n1 n2 g3)
        · exact fin [] s2 m0 E2
    intro m s3 hm E3
    rw [← hR2, ← hT]
    obtain ⟨o1, o2, o3⟩ := name_ok j (by omega)
    have hx := P.len
    simp [E3.hp]
    refine ⟨o1, Nat.le_trans (by simp at o3; omega : _ ≤ 3000) (by decide), Nat.lt_of_lt_of_le (by omega : _ < 1000) (by decide), lk_lt E3.hp, ?_⟩
    rw [hI]
    exact ⟨_, _, _, _, _, P.next hb hm (cE_tell o2 o3 hb2 hm), E3.put n1 n3 n4 _, rfl⟩
  · rw [hI] at z
    obtain ⟨xs, d5, d6, d7, d8, P, E, rfl⟩ := z
    simp
    have := hQ xs (r1 + 1) s (by omega) (by omega) P E
    have e1 : ((r1 + 1 : Nat) : Int) = 1 + (r1 : Int) := by omega
    rw [e1] at this
    exact this
end K19
namespace K19
open Li
theorem Mv.tell {v : D} (m : Mv v) : Tell v 2200 := ⟨flat_mono (by decide) m.fl, m.pl, m.co⟩
/-- instances behind the classes -/
structure Jp (xs : List D) (m j : Nat) : Prop where
  len : xs.length = 21 + m + j
  pre : ∃ t, xs = HS ++ t
  tell : Tells xs (200000 + 80000 * m + 60000 * j)
  ok : ∃ bs ms, HOk xs bs ms (Cj m) ∧ ∀ i, Cj m i → MsOk (ms i)
  own : ∀ i, i < j → ∃ (n : Nat) (mm : Ms), Cj m n ∧ xs[21 + m + i]? = some (iE n mm)
theorem Kp.j {xs : List D} {m : Nat} (K : Kp xs m) : Jp xs m 0 := ⟨K.len, K.pre, K.tell, K.ok, fun i h => by omega⟩
theorem Jp.next {xs : List D} {m j n : Nat} (P : Jp xs m j) (hm : m < 100) (hn : Cj m n) {mm : Ms} (hmm : MsOk mm) : Jp (xs ++ [iE n mm]) m (j + 1) := by
  obtain ⟨t, ht⟩ := P.pre
  obtain ⟨bs, ms, H, hms⟩ := P.ok
  have hn2 : n < 200 := by unfold Cj at hn; omega
  have tl : Tells [iE (n : Int) mm] 60000 := iE_tell (by omega) hmm
  refine ⟨by simp [P.len]; omega, ⟨t ++ [iE n mm], by rw [ht]; simp⟩, (P.tell.app tl).mono (by omega), ⟨bs, ms, H.app _, hms⟩, fun i h1 => ?_⟩
  by_cases e : i = j
  · subst e
    refine ⟨n, mm, hn, ?_⟩
    rw [List.getElem?_append_right (by rw [P.len]; omega), P.len]
    simp
  · obtain ⟨n', m', h2, h4⟩ := P.own i (by omega)
    exact ⟨n', m', h2, by rw [List.getElem?_append_left (List.getElem?_eq_some_iff.mp h4).1]; exact h4⟩
theorem fres_tell {xs : List D} {bs : Nat → Int} {ms : Nat → Ms} {C : Nat → Prop} (H : HOk xs bs ms C) (hm : ∀ i, C i → MsOk (ms i)) {x : S} {l : List Int} (hl : ∀ i ∈ l, 0 ≤ i ∧ C i.toNat) : Tell (fres xs (memb ms x l)) 2200 := by
  cases e : memb ms x l with
  | none => exact ⟨rfl, rfl, (by decide : cost (.tup []) ≤ 2200)⟩
  | some v =>
    obtain ⟨i, h1, h2⟩ := memb_in H hl e
    unfold fres
    dsimp only
    split
    · exact ((hm i h1).all _ h2).2.tell
    · exact ⟨rfl, rfl, by decide⟩
def isNil : D → Bool
  | .tup [] => true
  | _ => false
/-- what is found: a function or nothing -/
structure Fd (f : D) : Prop where
  fl : flat 4 f = true
  pl : plain f = true
  co : cost f ≤ 2200
  kd : f = .tup [] ∨ ∃ c r, f = .tup (.str c :: r)
theorem Fd.nil : Fd (.tup []) := ⟨rfl, rfl, by decide, .inl rfl⟩
theorem Fd.eq {f : D} (h : Fd f) {Q : Bool → Store → Prop} {st : Store} : wp (cmpop .eq f (.tup [])) Q st = Q (isNil f) st := by
  rw [wp_eq (x := f) (y := .tup []) (res_flat (flat_mono (by decide) h.fl)) (res_flat rfl)]
  rcases h.kd with e | ⟨c, r, e⟩ <;> rw [e] <;> simp [eqv, eqvs, isNil]
theorem Fd.ne {f : D} (h : Fd f) {Q : Bool → Store → Prop} {st : Store} : wp (cmpop .ne f (.tup [])) Q st = Q (!isNil f) st := by
  rw [wp_ne (x := f) (y := .tup []) (res_flat (flat_mono (by decide) h.fl)) (res_flat rfl)]
  rcases h.kd with e | ⟨c, r, e⟩ <;> rw [e] <;> simp [eqv, eqvs, isNil]
section
variable {xs : List D} {bs : Nat → Int} {ms : Nat → Ms} {C : Nat → Prop} {st : Store} {h : Nat}
theorem lfound_no (k : Nat) (hh : lk st h = some xs) {v : D} {t : S} (hv : VK xs v t) (ht : t ≠ [105, 110, 115, 116]) (x : S) : call prg (k + 1) 27 [.ob h, v, .str x] st = .ok (.tup []) st := by
  refine spec_of fun Q hQ => ?_
  rw [wp_call at27 rfl]
  unfold f27
  rw [wS_ite]
  cases hv with
  | plain _ r h1 h2 =>
    simp [start, h1]
    exact hQ
  | ref j t r hx =>
    simp [start, hh, atI_nat, hx, ht]
    exact hQ
theorem lfound_ok (k : Nat) (hh : lk st h = some xs) (H : HOk xs bs ms C) (K : KOk xs ms C) {j : Nat} {n : Int} {mm : Ms} (hj : xs[j]? = some (iE n mm)) (hn : okK C n) (x : S) :
    call prg (k + 1) 27 [.ob h, .tup [.str [114, 101, 102], .int j], .str x] st = .ok (fres xs (memb ms x (chain bs 60 n))) st := by
  refine spec_of fun Q hQ => ?_
  rw [wp_call at27 rfl]
  unfold f27
  rw [wS_ite]
  simp [start, hh, atI_nat, hj, iE]
  rw [wS_rng]
  simp
  refine ⟨by decide, ?_⟩
  obtain ⟨I, hI⟩ : ∃ I : Nat → Env → Store → Prop, I = fun i e s => ∃ (at_ : Int) (c d : Option D), okK C at_ ∧ memb ms x (chain bs (60 - i) at_) = memb ms x (chain bs 60 n) ∧ e = [some (.ob h), some (.tup [.str [114, 101, 102], .int j]), some (.str x), some (.int at_), c, d] ∧ s = st := ⟨_, rfl⟩
  refine wF_range I (by rw [hI]; exact ⟨n, _, _, hn, rfl, rfl, rfl⟩) (fun i e s hi z => ?_) fun e s z => ?_
  · rw [hI] at z
    obtain ⟨at_, c, d, ho, hm, rfl, rfl⟩ := z
    have hi : i < 60 := hi
    have h60 : 60 - i = (60 - (i + 1)) + 1 := by omega
    rw [h60] at hm
    simp only [List.set_cons_succ, List.set_cons_zero]
    rw [wS_ite]
    simp
    by_cases h0 : 0 ≤ at_
    · rcases ho with ho | ⟨_, hc⟩
      · omega
      obtain ⟨nm, hx⟩ := H.get h0 hc
      rw [if_pos h0, wS_for]
      simp [hh, hx, cE]
      obtain ⟨J, hJ⟩ : ∃ J : List D → Env → Store → Prop, J = fun r e s' => ∃ (c d : Option D) (m' : Ms), r = mD m' ∧ (∀ q ∈ m', q ∈ ms at_.toNat) ∧ m'.lookup x = (ms at_.toNat).lookup x ∧ e = [some (.ob h), some (.tup [.str [114, 101, 102], .int j]), some (.str x), some (.int at_), c, d] ∧ s' = s := ⟨_, rfl⟩
      refine wF_inv J (by rw [hJ]; exact ⟨_, _, ms at_.toNat, rfl, fun q hq => hq, rfl, rfl, rfl⟩) (fun y r e s' z => ?_) fun e s' z => ?_
      · rw [hJ] at z
        obtain ⟨c, d, m', hr, hs, hl, rfl, rfl⟩ := z
        cases m' with
        | nil => cases hr
        | cons q m' =>
          obtain ⟨w, v⟩ := q
          cases hr
          simp only [List.set_cons_succ, List.set_cons_zero]
          have hin := hs _ (List.mem_cons_self ..)
          obtain ⟨t, ht⟩ := K _ hc _ hin
          have ht : VK xs v t := ht
          rw [wS_ite]
          by_cases e : w = x
          · subst e
            rw [List.lookup_cons_self] at hl
            have hmm : memb ms w (chain bs 60 n) = some v := by
              rw [← hm, chain, if_pos h0]
              unfold memb
              rw [← hl]
            rw [hmm] at hQ
            simp only [fres, isFn_of ht] at hQ
            cases ht with
            | plain _ r h1 h2 =>
              simp [h1]
              rw [wS_ite]
              simp
              simp [h2] at hQ
              exact hQ
            | ref j' t r hx' =>
              simp [hh, atI_nat, hx']
              by_cases q : t = [102, 117, 110, 99]
              · simp [q] at hQ ⊢
                exact hQ
              · simp [q] at hQ ⊢
                rw [wS_ite]
                simp
                exact hQ
          · simp [e]
            rw [wS_ite]
            simp [e]
            rw [hJ]
            refine ⟨_, _, m', rfl, fun q hq => hs q (List.mem_cons_of_mem _ hq), ?_, rfl, rfl⟩
            rw [← hl, List.lookup_cons, beq_eq_false_iff_ne.mpr (Ne.symm e)]
      · rw [hJ] at z
        obtain ⟨c, d, m', hr, hs, hl, rfl, rfl⟩ := z
        cases m' with
        | cons q m' => cases hr
        | nil =>
          simp [hh, hx, cE]
          rw [hI]
          refine ⟨bs at_.toNat, _, _, H.next hc, ?_, rfl, rfl⟩
          rw [← hm, chain, if_pos h0]
          conv => rhs; unfold memb
          rw [← hl]
          rfl
    · rw [if_neg h0]
      try simp
      rw [hI]
      exact ⟨at_, _, _, ho, by rw [← hm, chain_neg h0, chain_neg h0], rfl, rfl⟩
  · rw [hI] at z
    obtain ⟨at_, c, d, ho, hm, rfl, rfl⟩ := z
    have hm : memb ms x (chain bs 0 at_) = _ := hm
    rw [← hm] at hQ
    simp
    exact hQ
end
/-- a value that may be asked -/
structure Opr (xs : List D) (v : D) (F : S → D) : Prop where
  prg : ∀ (k h : Nat) (st : Store) (x : S), lk st h = some xs → ∃ t, call prg (k + 4) 5 [.ob h, v, .str x] st = .ok (F x) (st ++ t)
  law : ∀ (k h : Nat) (st : Store) (x : S), lk st h = some xs → call K19.prg (k + 1) 27 [.ob h, v, .str x] st = .ok (F x) st
  res : ∀ x, Fd (F x)
  fl : flat 4 v = true
  pl : plain v = true
  co : cost v ≤ 6000
theorem Opr.no {xs : List D} {v : D} {t : S} (hv : VK xs v t) (ht : t ≠ [105, 110, 115, 116]) (h1 : flat 4 v = true) (h2 : plain v = true) (h3 : cost v ≤ 6000) : Opr xs v fun _ => .tup [] :=
  ⟨fun k h st x hh => ⟨[], by rw [List.append_nil]; exact method_no (k + 2) hh hv ht x⟩, fun k h st x hh => lfound_no k hh hv ht x, fun x => .nil, h1, h2, h3⟩
theorem Fd.of {xs : List D} {bs : Nat → Int} {ms : Nat → Ms} {C : Nat → Prop} (H : HOk xs bs ms C) (hm : ∀ i, C i → MsOk (ms i)) {x : S} {l : List Int} (hl : ∀ i ∈ l, 0 ≤ i ∧ C i.toNat) : Fd (fres xs (memb ms x l)) := by
  cases e : memb ms x l with
  | none => exact .nil
  | some v =>
    obtain ⟨i, h1, h2⟩ := memb_in H hl e
    unfold fres
    dsimp only
    split
    · have m := ((hm i h1).all _ h2).2
      refine ⟨flat_mono (by decide) m.fl, m.pl, m.co, .inr ?_⟩
      obtain ⟨c, r, e⟩ := m.vg.ne
      exact ⟨c, r, e⟩
    · exact .nil
theorem ref_pl {j : Nat} (hj : j < 1000) : flat 4 (.tup [.str [114, 101, 102], .int j]) = true ∧ plain (.tup [.str [114, 101, 102], .int j]) = true ∧ cost (.tup [.str [114, 101, 102], .int j]) ≤ 6000 := by
  have hl : ((j : Int)).natAbs.log2 < 1920 := small_log (by omega)
  refine ⟨rfl, ?_, ?_⟩
  · have hc : plain (.str [114, 101, 102]) = true := rfl
    have hi : plain (.int (j : Int)) = true := by unfold plain; exact decide_eq_true hl
    unfold plain
    simp only [plains, hc, hi]
    rfl
  · simp [cost, costs]
section
variable {st : Store} {b a : Nat}
theorem plain_wp (k : Nat) (B : Bx st b a) {xs t : List D} (hx : xs = HS ++ t) {Q : D → Store → Prop} (hQ : ∀ v F s, Opr xs v F → Go b a st s → Q v s) : wp (call prg (k + 2) 25 [.ob b]) Q st := by
  have hrf : ∀ j : Nat, j < 21 → ∃ t r, xs[j]? = some (.tup (.str t :: r)) ∧ t ≠ [105, 110, 115, 116] := by
    intro j hj
    have hd : ∀ j, j < 21 → ∃ t r, HS[j]? = some (.tup (.str t :: r)) ∧ t ≠ [105, 110, 115, 116] := by
      intro j hj
      have : j = 0 ∨ j = 1 ∨ j = 2 ∨ j = 3 ∨ j = 4 ∨ j = 5 ∨ j = 6 ∨ j = 7 ∨ j = 8 ∨ j = 9 ∨ j = 10 ∨ j = 11 ∨ j = 12 ∨ j = 13 ∨ j = 14 ∨ j = 15 ∨ j = 16 ∨ j = 17 ∨ j = 18 ∨ j = 19 ∨ j = 20 := by omega
      rcases this with rfl | rfl | rfl | rfl | rfl | rfl | rfl | rfl | rfl | rfl | rfl | rfl | rfl | rfl | rfl | rfl | rfl | rfl | rfl | rfl | rfl <;> exact ⟨_, _, rfl, by decide⟩
    obtain ⟨t, r, h1, h2⟩ := hd j hj
    exact ⟨t, r, by rw [hs_get hx hj]; exact h1, h2⟩
  have oref : ∀ j : Nat, j < 21 → Opr xs (.tup [.str [114, 101, 102], .int j]) fun _ => .tup [] := fun j hj => by
    obtain ⟨t, r, h1, h2⟩ := hrf j hj
    obtain ⟨p1, p2, p3⟩ := ref_pl (j := j) (by omega)
    exact .no (.ref j t r h1) h2 p1 p2 p3
  rw [wp_call at25 rfl]
  unfold f25
  simp [start]
  refine draw18 k B (by decide) fun r0 s0 h0 g0 => ?_
  rw [wS_ite]
  simp
  split
  · refine draw18 k g0.bx (by decide) fun r1 s1 h1 g1 => ?_
    simp
    refine hQ _ _ _ (.no (.plain [105, 110, 116] _ (by decide) (by decide)) (by decide) rfl ?_ (by simp [cost, costs])) (g0.trans g1)
    have hl : ((r1 : Int) - 500).natAbs.log2 < 1920 := small_log (by omega)
    have hc : plain (.str [105, 110, 116]) = true := rfl
    have hi : plain (.int ((r1 : Int) - 500)) = true := by unfold plain; exact decide_eq_true hl
    unfold plain
    simp only [plains, hc, hi]
    rfl
  rw [wS_ite]
  simp
  split
  · refine draw18 k g0.bx (by decide) fun r1 s1 h1 g1 => ?_
    simp
    have e : (17 : Int) + (r1 : Int) = ((17 + r1 : Nat) : Int) := by omega
    rw [e]
    exact hQ _ _ _ (oref _ (by omega)) (g0.trans g1)
  rw [wS_ite]
  simp
  split
  · refine draw18 k g0.bx (by decide) fun r1 s1 h1 g1 => ?_
    try simp
    exact hQ _ _ _ (oref _ (by omega)) (g0.trans g1)
  · refine draw18 k (g0.bx.app _) (by decide) fun r1 s1 h1 g1 => ?_
    have hn : s0.length ≠ b := fun e => by
      have := g0.bx.lt
      omega
    have hl := g1.lk hn lk_new
    have g := g0.trans ((Go.app g0.bx _).trans g1)
    have : r1 = 0 ∨ r1 = 1 ∨ r1 = 2 ∨ r1 = 3 := by omega
    rcases this with rfl | rfl | rfl | rfl <;>
    · simp [hl]
      exact hQ _ _ _ (.no (.plain _ _ (by decide) (by decide)) (by decide) rfl rfl (by decide)) g
theorem operand_wp (k : Nat) (B : Bx st b a) {xs : List D} {m j : Nat} (P : Jp xs m j) (hm0 : 1 ≤ m) (hm : m < 100) (hj0 : 1 ≤ j) (hj : j < 100) {Q : D → Store → Prop} (hQ : ∀ v F s, Opr xs v F → Go b a st s → Q v s) :
    wp (call prg (k + 3) 26 [.ob b, .int ((21 + m : Nat) : Int), .int m, .int j]) Q st := by
  obtain ⟨t, hx⟩ := P.pre
  obtain ⟨bs, ms, H, hms⟩ := P.ok
  rw [wp_call at26 rfl]
  unfold f26
  rw [wS_ite]
  simp [start]
  refine draw18 _ B (by decide) fun r0 s0 h0 g0 => ?_
  simp
  split
  · refine draw18 _ g0.bx (by omega) fun r1 s1 h1 g1 => ?_
    simp
    have e : (21 : Int) + (m : Int) + (r1 : Int) = ((21 + m + r1 : Nat) : Int) := by omega
    rw [e]
    obtain ⟨n, mm, h2, h3⟩ := P.own r1 (by omega)
    have hn : okK (Cj m) (n : Int) := .inr ⟨by omega, by simpa using h2⟩
    obtain ⟨p1, p2, p3⟩ := ref_pl (j := 21 + m + r1) (by omega)
    refine hQ _ (fun x => fres xs (memb ms x (chain bs 60 n))) _ ⟨fun k h st x hh => ⟨_, method_ok k hh H (mok_of hms) (kok_of hx hms) h3 hn x⟩, fun k h st x hh => lfound_ok k hh H (kok_of hx hms) h3 hn x, fun x => Fd.of H hms (chain_ok H hn), p1, p2, p3⟩ (g0.trans g1)
  · rw [wS_ite]
    simp
    refine draw18 _ g0.bx (by decide) fun r1 s1 h1 g1 => ?_
    have g := g0.trans g1
    simp
    split
    · refine draw18 _ g.bx (by omega) fun r2 s2 h2 g2 => ?_
      simp
      have e : (21 : Int) + (m : Int) - 1 - (r2 : Int) = ((20 + m - r2 : Nat) : Int) := by omega
      rw [e]
      obtain ⟨nm, h3⟩ := H.at_ (20 + m - r2) (by unfold Cj; omega)
      obtain ⟨p1, p2, p3⟩ := ref_pl (j := 20 + m - r2) (by omega)
      exact hQ _ _ _ (.no (.ref _ _ _ h3) (by decide) p1 p2 p3) (g.trans g2)
    · refine plain_wp _ g.bx hx fun v F s ho g2 => ?_
      try simp
      exact hQ v F s ho (g.trans g2)
end
end K19
namespace K19
open Li
theorem at6 : prg[6]? = some f6 := rfl
theorem at7 : prg[7]? = some f7 := rfl
theorem at8 : prg[8]? = some f8 := rfl
theorem at9 : prg[9]? = some f9 := rfl
theorem at10 : prg[10]? = some f10 := rfl
theorem at11 : prg[11]? = some f11 := rfl
theorem at12 : prg[12]? = some f12 := rfl
theorem at13 : prg[13]? = some f13 := rfl
theorem at14 : prg[14]? = some f14 := rfl
theorem at15 : prg[15]? = some f15 := rfl
/-- the five other fields -/
structure Oth where
  out : D
  act : D
  here : D
  line : D
  steps : D
def mF (ctl : D) (fp hp : Nat) (o : Oth) : List (S × D) := [([99, 111, 110, 116, 114, 111, 108], ctl), ([102, 114, 97, 109, 101, 115], .ob fp), ([104, 101, 97, 112], .ob hp), ([111, 117, 116], o.out), ([97, 99, 116, 105, 118, 101], o.act), ([104, 101, 114, 101], o.here), ([108, 105, 110, 101], o.line), ([115, 116, 101, 112, 115], o.steps)]
@[simp] theorem mF_heap {ctl : D} {fp hp : Nat} {o : Oth} : (mF ctl fp hp o).lookup [104, 101, 97, 112] = some (.ob hp) := rfl
@[simp] theorem mF_frames {ctl : D} {fp hp : Nat} {o : Oth} : (mF ctl fp hp o).lookup [102, 114, 97, 109, 101, 115] = some (.ob fp) := rfl
@[simp] theorem mF_control {ctl : D} {fp hp : Nat} {o : Oth} : (mF ctl fp hp o).lookup [99, 111, 110, 116, 114, 111, 108] = some ctl := rfl
@[simp] theorem mF_out {ctl : D} {fp hp : Nat} {o : Oth} : (mF ctl fp hp o).lookup [111, 117, 116] = some o.out := rfl
@[simp] theorem mF_active {ctl : D} {fp hp : Nat} {o : Oth} : (mF ctl fp hp o).lookup [97, 99, 116, 105, 118, 101] = some o.act := rfl
@[simp] theorem mF_here {ctl : D} {fp hp : Nat} {o : Oth} : (mF ctl fp hp o).lookup [104, 101, 114, 101] = some o.here := rfl
@[simp] theorem mF_line {ctl : D} {fp hp : Nat} {o : Oth} : (mF ctl fp hp o).lookup [108, 105, 110, 101] = some o.line := rfl
@[simp] theorem mF_steps {ctl : D} {fp hp : Nat} {o : Oth} : (mF ctl fp hp o).lookup [115, 116, 101, 112, 115] = some o.steps := rfl
@[simp] theorem mF_put {ctl d : D} {fp hp : Nat} {o : Oth} : putF [99, 111, 110, 116, 114, 111, 108] d (mF ctl fp hp o) = mF d fp hp o := rfl
@[simp] theorem mF_len {ctl : D} {fp hp : Nat} {o : Oth} : (mF ctl fp hp o).length = 8 := rfl
structure Mc (mo fp hp : Nat) (ctl : D) (fr xs : List D) (o : Oth) (s : Store) : Prop where
  m : li s mo = some (0, mF ctl fp hp o)
  f : lk s fp = some fr
  h : lk s hp = some xs
  n1 : fp ≠ mo
  n2 : fp ≠ hp
  n3 : hp ≠ mo
structure Ch (p q : Nat) (s s' : Store) : Prop where
  keep : ∀ h o, h ≠ p → h ≠ q → s[h]? = some o → s'[h]? = some o
theorem Ch.refl {p q : Nat} {s : Store} : Ch p q s s := ⟨fun _ _ _ _ e => e⟩
theorem Ch.trans {p q : Nat} {s s' s2 : Store} (h1 : Ch p q s s') (h2 : Ch p q s' s2) : Ch p q s s2 := ⟨fun h o n1 n2 e => h2.keep h o n1 n2 (h1.keep h o n1 n2 e)⟩
theorem Ch.app {p q : Nat} {s t : Store} : Ch p q s (s ++ t) := ⟨fun h o _ _ e => by rw [List.getElem?_append_left (List.getElem?_eq_some_iff.mp e).1]; exact e⟩
theorem Ch.set1 {p q : Nat} {s s' : Store} {o : O} (c : Ch p q s s') : Ch p q s (s'.set p o) := ⟨fun h o' n1 n2 e => by rw [List.getElem?_set_ne (Ne.symm n1)]; exact c.keep h o' n1 n2 e⟩
theorem Ch.set2 {p q : Nat} {s s' : Store} {o : O} (c : Ch p q s s') : Ch p q s (s'.set q o) := ⟨fun h o' n1 n2 e => by rw [List.getElem?_set_ne (Ne.symm n2)]; exact c.keep h o' n1 n2 e⟩
theorem Mc.app {mo fp hp : Nat} {ctl : D} {fr xs : List D} {o : Oth} {s : Store} (M : Mc mo fp hp ctl fr xs o s) (t : Store) : Mc mo fp hp ctl fr xs o (s ++ t) := ⟨li_old M.m, lk_old M.f, lk_old M.h, M.n1, M.n2, M.n3⟩
/-- one asking -/
structure Row where
  v : D
  x : S
  args : List D
  what : S
def ctlN (f : D) (r : Row) (ctl : D) : D := if isNil f = true then ctl else .tup [.str [99, 97, 108, 108], f, .tup (r.v :: r.args), .tup []]
def frN (f : D) (r : Row) (fr : List D) : List D := if isNil f = true ∨ r.what = [] then fr else .tup [.str [119, 97, 110, 116], .str r.what] :: fr
section
variable {mo fp hp : Nat} {ctl : D} {fr xs : List D} {o : Oth} {s : Store} {F : S → D} {r : Row}
theorem asked_ok (k : Nat) (M : Mc mo fp hp ctl fr xs o s) (hfr : fr.length < 1000) (O : Opr xs r.v F) (ha : r.args.length ≤ 10) :
    ∃ s', call prg (k + 5) 6 [.ob mo, r.v, .str r.x, .tup r.args, .str r.what] s = .ok (.bl (!isNil (F r.x))) s' ∧ Mc mo fp hp (ctlN (F r.x) r ctl) (frN (F r.x) r fr) xs o s' ∧ Ch mo fp s s' := by
  obtain ⟨v, x, args, what⟩ := r
  obtain ⟨t, ht⟩ := O.prg k hp s x M.h
  have ht : call prg (k + 4) 5 [.ob hp, v, .str x] s = .ok (F x) (s ++ t) := ht
  have M2 := M.app t
  have C2 : Ch mo fp s (s ++ t) := .app
  suffices main : ∃ d s', (d = .bl (!isNil (F x)) ∧ Mc mo fp hp (ctlN (F x) ⟨v, x, args, what⟩ ctl) (frN (F x) ⟨v, x, args, what⟩ fr) xs o s' ∧ Ch mo fp s s') ∧ call prg (k + 5) 6 [.ob mo, v, .str x, .tup args, .str what] s = .ok d s' by
    obtain ⟨d, s', ⟨rfl, h1, h2⟩, e⟩ := main
    exact ⟨s', e, h1, h2⟩
  refine spec_ex fun Q hQ => ?_
  rw [wp_call at6 rfl]
  unfold f6
  simp [start, M.m]
  rw [wpc ht]
  have hF := O.res x
  generalize s ++ t = s1 at M2 C2 ht ⊢
  rw [wS_ite]
  simp
  rw [hF.eq]
  by_cases hn : isNil (F x) = true
  · simp [hn]
    exact hQ _ _ ⟨by simp [hn], by simp [ctlN, frN, hn]; exact M2, C2⟩
  · simp [hn]
    rw [wS_ite]
    simp
    have hnl : isNil (F x) = false := by simpa using hn
    have l10 : args.length + 1 ≤ LINE := Nat.le_trans (by have : args.length ≤ 10 := ha; omega : _ ≤ 1000) (by decide)
    by_cases hw : what = []
    · subst hw
      simp [M2.m, l10]
      refine ⟨by omega, li_lt M2.m, ?_⟩
      refine hQ _ _ ⟨by simp [hnl], ⟨?_, ?_, ?_, M.n1, M.n2, M.n3⟩, C2.set1⟩
      · rw [li_same (li_lt M2.m)]
        simp [ctlN, hnl]
      · rw [lk_else (Ne.symm M.n1)]
        simp [frN]
        exact M2.f
      · rw [lk_else (Ne.symm M.n3)]
        exact M2.h
    · have hw2 : what.isEmpty = false := by cases what <;> simp_all
      simp [hw, M2.m, M2.f]
      have hlt := lk_lt M2.f
      refine ⟨by decide, Nat.lt_of_lt_of_le hfr (by decide), hlt, ?_⟩
      have hm3 : ∀ ys : List D, li (s1.set fp (.lst ys)) mo = some (0, mF ctl fp hp o) := fun ys => by rw [li_else M.n1]; exact M2.m
      simp [hm3, l10]
      refine ⟨by omega, li_lt M2.m, ?_⟩
      refine hQ _ _ ⟨by simp [hnl], ⟨?_, ?_, ?_, M.n1, M.n2, M.n3⟩, C2.set2.set1⟩
      · rw [li_same (by simpa using li_lt M2.m)]
        simp [ctlN, hnl]
      · rw [lk_else (Ne.symm M.n1), lk_same hlt]
        simp [frN, hnl, hw]
      · rw [lk_else (Ne.symm M.n3), lk_else M.n2]
        exact M2.h
end
end K19
namespace K19
open Li
/-- the first that is found -/
def outc : List (D × Row) → D → List D → Bool × D × List D
  | [], c, fr => (false, c, fr)
  | (f, r) :: rs, c, fr => if isNil f = true then outc rs c fr else (true, ctlN f r c, frN f r fr)
abbrev RF : Type := D → D → D → (S → D) → (S → D) → List (D × Row)
/-- the kinds of askings, with what is asked -/
inductive Kd : S → S → RF → Prop
  | k0 : Kd [98, 105, 110, 97, 114, 121] [43] fun a b c fa fb => [(fa [111, 112, 95, 97, 100, 100], ⟨a, [111, 112, 95, 97, 100, 100], [b], []⟩)]
  | k1 : Kd [98, 105, 110, 97, 114, 121] [45] fun a b c fa fb => [(fa [111, 112, 95, 115, 117, 98], ⟨a, [111, 112, 95, 115, 117, 98], [b], []⟩)]
  | k2 : Kd [98, 105, 110, 97, 114, 121] [42] fun a b c fa fb => [(fa [111, 112, 95, 109, 117, 108], ⟨a, [111, 112, 95, 109, 117, 108], [b], []⟩)]
  | k3 : Kd [98, 105, 110, 97, 114, 121] [47, 47] fun a b c fa fb => [(fa [111, 112, 95, 100, 105, 118], ⟨a, [111, 112, 95, 100, 105, 118], [b], []⟩)]
  | k4 : Kd [98, 105, 110, 97, 114, 121] [109, 111, 100] fun a b c fa fb => [(fa [111, 112, 95, 109, 111, 100], ⟨a, [111, 112, 95, 109, 111, 100], [b], []⟩)]
  | k5 : Kd [99, 111, 109, 112, 97, 114, 101] [61, 61] fun a b c fa fb => [(fa [111, 112, 95, 101, 113], ⟨a, [111, 112, 95, 101, 113], [b], [98, 111, 111, 108]⟩), (fb [111, 112, 95, 101, 113], ⟨b, [111, 112, 95, 101, 113], [a], [98, 111, 111, 108]⟩)]
  | k6 : Kd [99, 111, 109, 112, 97, 114, 101] [33, 61] fun a b c fa fb => [(fa [111, 112, 95, 101, 113], ⟨a, [111, 112, 95, 101, 113], [b], [110, 111, 116, 98, 111, 111, 108]⟩), (fb [111, 112, 95, 101, 113], ⟨b, [111, 112, 95, 101, 113], [a], [110, 111, 116, 98, 111, 111, 108]⟩)]
  | k7 : Kd [99, 111, 109, 112, 97, 114, 101] [105, 110] fun a b c fa fb => [(fb [111, 112, 95, 105, 110], ⟨b, [111, 112, 95, 105, 110], [a], [98, 111, 111, 108]⟩)]
  | k8 : Kd [99, 111, 109, 112, 97, 114, 101] [110, 111, 116, 105, 110] fun a b c fa fb => [(fb [111, 112, 95, 105, 110], ⟨b, [111, 112, 95, 105, 110], [a], [110, 111, 116, 98, 111, 111, 108]⟩)]
  | k9 : Kd [99, 111, 109, 112, 97, 114, 101] [60] fun a b c fa fb => [(fa [111, 112, 95, 108, 116], ⟨a, [111, 112, 95, 108, 116], [b], [98, 111, 111, 108]⟩)]
  | k10 : Kd [99, 111, 109, 112, 97, 114, 101] [60, 61] fun a b c fa fb => [(fa [111, 112, 95, 108, 101], ⟨a, [111, 112, 95, 108, 101], [b], [98, 111, 111, 108]⟩)]
  | k11 : Kd [99, 111, 109, 112, 97, 114, 101] [62] fun a b c fa fb => [(fa [111, 112, 95, 103, 116], ⟨a, [111, 112, 95, 103, 116], [b], [98, 111, 111, 108]⟩)]
  | k12 : Kd [99, 111, 109, 112, 97, 114, 101] [62, 61] fun a b c fa fb => [(fa [111, 112, 95, 103, 101], ⟨a, [111, 112, 95, 103, 101], [b], [98, 111, 111, 108]⟩)]
  | k13 : Kd [99, 111, 109, 112, 97, 114, 101] [105, 115] fun a b c fa fb => []
  | k14 : Kd [99, 111, 109, 112, 97, 114, 101] [105, 115, 110, 111, 116] fun a b c fa fb => []
  | k15 (op : S) : Kd [109, 105, 110, 117, 115] op fun a b c fa fb => [(fa [111, 112, 95, 110, 101, 103], ⟨a, [111, 112, 95, 110, 101, 103], [], []⟩)]
  | k16 (op : S) : Kd [105, 116, 101, 109] op fun a b c fa fb => [(fa [111, 112, 95, 105, 116, 101, 109], ⟨a, [111, 112, 95, 105, 116, 101, 109], [b], []⟩)]
  | k17 (op : S) : Kd [112, 117, 116] op fun a b c fa fb => [(fa [111, 112, 95, 112, 117, 116], ⟨a, [111, 112, 95, 112, 117, 116], [b, c], [110, 111, 116, 104, 105, 110, 103]⟩)]
  | k18 (op : S) : Kd [100, 114, 111, 112] op fun a b c fa fb => [(fa [111, 112, 95, 100, 114, 111, 112], ⟨a, [111, 112, 95, 100, 114, 111, 112], [b], [110, 111, 116, 104, 105, 110, 103]⟩)]
  | k19 (op : S) : Kd [108, 101, 110] op fun a b c fa fb => [(fa [111, 112, 95, 108, 101, 110], ⟨a, [111, 112, 95, 108, 101, 110], [], [99, 111, 117, 110, 116]⟩)]
  | k20 (op : S) : Kd [114, 101, 112, 114] op fun a b c fa fb => [(fa [111, 112, 95, 114, 101, 112, 114], ⟨a, [111, 112, 95, 114, 101, 112, 114], [], [116, 101, 120, 116]⟩)]
  | k21 (op : S) : Kd [105, 116, 101, 114] op fun a b c fa fb => [(fa [111, 112, 95, 105, 116, 101, 114], ⟨a, [111, 112, 95, 105, 116, 101, 114], [], [105, 116, 101, 114, 97, 116, 111, 114]⟩)]
  | k22 (op : S) : Kd [116, 101, 120, 116] op fun a b c fa fb => [(fa [111, 112, 95, 115, 116, 114], ⟨a, [111, 112, 95, 115, 116, 114], [], [116, 101, 120, 116]⟩), (fa [111, 112, 95, 114, 101, 112, 114], ⟨a, [111, 112, 95, 114, 101, 112, 114], [], [116, 101, 120, 116]⟩)]
section
variable {mo fp hp : Nat} {ctl : D} {fr xs : List D} {o : Oth} {s : Store} {Fa Fb : S → D} {a b c : D}
theorem at29' : prg[29]? = some f29 := rfl
theorem ask_ok (k : Nat) (M : Mc mo fp hp ctl fr xs o s) (hfr : fr.length < 900) (Oa : Opr xs a Fa) (Ob : Opr xs b Fb) {kind op : S} {R : RF} (K : Kd kind op R) :
    ∃ s', call prg (k + 7) 29 [.ob mo, .str kind, .str op, a, b, c] s = .ok (.bl (outc (R a b c Fa Fb) ctl fr).1) s' ∧ Mc mo fp hp (outc (R a b c Fa Fb) ctl fr).2.1 (outc (R a b c Fa Fb) ctl fr).2.2 xs o s' ∧ Ch mo fp s s' := by
  have one : ∀ {kind op : S} {f : D} {r : Row} {s' : Store}, call prg (k + 5) 6 [.ob mo, r.v, .str r.x, .tup r.args, .str r.what] s = .ok (.bl (!isNil f)) s' → Mc mo fp hp (ctlN f r ctl) (frN f r fr) xs o s' → Ch mo fp s s' →
      (call prg (k + 5) 6 [.ob mo, r.v, .str r.x, .tup r.args, .str r.what] s = .ok (.bl (outc [(f, r)] ctl fr).1) s' → call prg (k + 7) 29 [.ob mo, .str kind, .str op, a, b, c] s = .ok (.bl (outc [(f, r)] ctl fr).1) s') →
      ∃ s', call prg (k + 7) 29 [.ob mo, .str kind, .str op, a, b, c] s = .ok (.bl (outc [(f, r)] ctl fr).1) s' ∧ Mc mo fp hp (outc [(f, r)] ctl fr).2.1 (outc [(f, r)] ctl fr).2.2 xs o s' ∧ Ch mo fp s s' := by
    intro kind op f r s' e m c g
    have e1 : outc [(f, r)] ctl fr = (!isNil f, ctlN f r ctl, frN f r fr) := by
      unfold outc
      by_cases h : isNil f = true
      · rw [if_pos h]
        simp [outc, ctlN, frN, h]
      · rw [if_neg h]
        simp [h]
    rw [e1] at g ⊢
    exact ⟨s', g e, m, c⟩
  have two : ∀ {kind op : S} {f1 f2 : D} {r1 r2 : Row} {s1 : Store}, call prg (k + 5) 6 [.ob mo, r1.v, .str r1.x, .tup r1.args, .str r1.what] s = .ok (.bl (!isNil f1)) s1 → Mc mo fp hp (ctlN f1 r1 ctl) (frN f1 r1 fr) xs o s1 → Ch mo fp s s1 →
      (∀ {ctl : D} {fr : List D} {s : Store}, Mc mo fp hp ctl fr xs o s → fr.length < 1000 → ∃ s2, call prg (k + 5) 6 [.ob mo, r2.v, .str r2.x, .tup r2.args, .str r2.what] s = .ok (.bl (!isNil f2)) s2 ∧ Mc mo fp hp (ctlN f2 r2 ctl) (frN f2 r2 fr) xs o s2 ∧ Ch mo fp s s2) →
      (∀ s2, (isNil f1 = true → call prg (k + 5) 6 [.ob mo, r2.v, .str r2.x, .tup r2.args, .str r2.what] s1 = .ok (.bl (!isNil f2)) s2) → (isNil f1 = false → s2 = s1) → call prg (k + 7) 29 [.ob mo, .str kind, .str op, a, b, c] s = .ok (.bl (if isNil f1 = true then !isNil f2 else true)) s2) →
      ∃ s', call prg (k + 7) 29 [.ob mo, .str kind, .str op, a, b, c] s = .ok (.bl (outc [(f1, r1), (f2, r2)] ctl fr).1) s' ∧ Mc mo fp hp (outc [(f1, r1), (f2, r2)] ctl fr).2.1 (outc [(f1, r1), (f2, r2)] ctl fr).2.2 xs o s' ∧ Ch mo fp s s' := by
    intro kind op f1 f2 r1 r2 s1 e m c h2 g
    by_cases h : isNil f1 = true
    · have mm : Mc mo fp hp ctl fr xs o s1 := by
        have q := m
        simp only [ctlN, frN, h, if_true, true_or] at q
        exact q
      obtain ⟨s2, e2, m2, c2⟩ := h2 mm (by omega)
      have g := g s2 (fun _ => e2) (fun q => by rw [h] at q; cases q)
      rw [if_pos h] at g
      have e1 : outc [(f1, r1), (f2, r2)] ctl fr = (!isNil f2, ctlN f2 r2 ctl, frN f2 r2 fr) := by
        unfold outc
        rw [if_pos h]
        unfold outc
        by_cases h3 : isNil f2 = true
        · rw [if_pos h3]
          simp [outc, ctlN, frN, h3]
        · rw [if_neg h3]
          simp [h3]
      rw [e1]
      exact ⟨s2, g, m2, c.trans c2⟩
    · have hf : isNil f1 = false := by simpa using h
      have g := g s1 (fun q => absurd q h) (fun _ => rfl)
      rw [if_neg h] at g
      have e1 : outc [(f1, r1), (f2, r2)] ctl fr = (true, ctlN f1 r1 ctl, frN f1 r1 fr) := by
        unfold outc
        rw [if_neg h]
      rw [e1]
      exact ⟨s1, g, m, c⟩
  have hfr2 : fr.length < 1000 := by omega
  cases K with
  | k0 =>
    obtain ⟨s1, e1, m1, c1⟩ := asked_ok (r := ⟨a, [111, 112, 95, 97, 100, 100], [b], []⟩) k M hfr2 Oa (by simp)
    refine one e1 m1 c1 fun e => spec_of fun Q hQ => ?_
    dsimp only at e
    rw [wp_call at29' rfl]
    unfold f29
    simp [start, wS_ite]
    rw [wp_call at7 rfl]
    unfold f7
    simp [start, wS_ite, List.lookup]
    rw [wpc e]
    exact hQ
  | k1 =>
    obtain ⟨s1, e1, m1, c1⟩ := asked_ok (r := ⟨a, [111, 112, 95, 115, 117, 98], [b], []⟩) k M hfr2 Oa (by simp)
    refine one e1 m1 c1 fun e => spec_of fun Q hQ => ?_
    dsimp only at e
    rw [wp_call at29' rfl]
    unfold f29
    simp [start, wS_ite]
    rw [wp_call at7 rfl]
    unfold f7
    simp [start, wS_ite, List.lookup]
    rw [wpc e]
    exact hQ
  | k2 =>
    obtain ⟨s1, e1, m1, c1⟩ := asked_ok (r := ⟨a, [111, 112, 95, 109, 117, 108], [b], []⟩) k M hfr2 Oa (by simp)
    refine one e1 m1 c1 fun e => spec_of fun Q hQ => ?_
    dsimp only at e
    rw [wp_call at29' rfl]
    unfold f29
    simp [start, wS_ite]
    rw [wp_call at7 rfl]
    unfold f7
    simp [start, wS_ite, List.lookup]
    rw [wpc e]
    exact hQ
  | k3 =>
    obtain ⟨s1, e1, m1, c1⟩ := asked_ok (r := ⟨a, [111, 112, 95, 100, 105, 118], [b], []⟩) k M hfr2 Oa (by simp)
    refine one e1 m1 c1 fun e => spec_of fun Q hQ => ?_
    dsimp only at e
    rw [wp_call at29' rfl]
    unfold f29
    simp [start, wS_ite]
    rw [wp_call at7 rfl]
    unfold f7
    simp [start, wS_ite, List.lookup]
    rw [wpc e]
    exact hQ
  | k4 =>
    obtain ⟨s1, e1, m1, c1⟩ := asked_ok (r := ⟨a, [111, 112, 95, 109, 111, 100], [b], []⟩) k M hfr2 Oa (by simp)
    refine one e1 m1 c1 fun e => spec_of fun Q hQ => ?_
    dsimp only at e
    rw [wp_call at29' rfl]
    unfold f29
    simp [start, wS_ite]
    rw [wp_call at7 rfl]
    unfold f7
    simp [start, wS_ite, List.lookup]
    rw [wpc e]
    exact hQ
  | k5 =>
    obtain ⟨s1, e1, m1, c1⟩ := asked_ok (r := ⟨a, [111, 112, 95, 101, 113], [b], [98, 111, 111, 108]⟩) k M hfr2 Oa (by simp)
    refine two e1 m1 c1 (fun M h => asked_ok (r := ⟨b, [111, 112, 95, 101, 113], [a], [98, 111, 111, 108]⟩) k M h Ob (by simp)) fun s2 g1 g2 => spec_of fun Q hQ => ?_
    dsimp only at e1 g1
    rw [wp_call at29' rfl]
    unfold f29
    simp [start, wS_ite]
    rw [wp_call at9 rfl]
    unfold f9
    simp [start, wS_ite, List.lookup]
    rw [wpc e1]
    by_cases h : isNil (Fa [111, 112, 95, 101, 113]) = true
    · rw [if_pos h] at hQ
      simp [h]
      rw [wpc (g1 h)]
      try simp
      exact hQ
    · have hf : isNil (Fa [111, 112, 95, 101, 113]) = false := by simpa using h
      rw [if_neg h, g2 hf] at hQ
      simp [h]
      exact hQ
  | k6 =>
    obtain ⟨s1, e1, m1, c1⟩ := asked_ok (r := ⟨a, [111, 112, 95, 101, 113], [b], [110, 111, 116, 98, 111, 111, 108]⟩) k M hfr2 Oa (by simp)
    refine two e1 m1 c1 (fun M h => asked_ok (r := ⟨b, [111, 112, 95, 101, 113], [a], [110, 111, 116, 98, 111, 111, 108]⟩) k M h Ob (by simp)) fun s2 g1 g2 => spec_of fun Q hQ => ?_
    dsimp only at e1 g1
    rw [wp_call at29' rfl]
    unfold f29
    simp [start, wS_ite]
    rw [wp_call at9 rfl]
    unfold f9
    simp [start, wS_ite, List.lookup]
    rw [wpc e1]
    by_cases h : isNil (Fa [111, 112, 95, 101, 113]) = true
    · rw [if_pos h] at hQ
      simp [h]
      rw [wpc (g1 h)]
      try simp
      exact hQ
    · have hf : isNil (Fa [111, 112, 95, 101, 113]) = false := by simpa using h
      rw [if_neg h, g2 hf] at hQ
      simp [h]
      exact hQ
  | k7 =>
    obtain ⟨s1, e1, m1, c1⟩ := asked_ok (r := ⟨b, [111, 112, 95, 105, 110], [a], [98, 111, 111, 108]⟩) k M hfr2 Ob (by simp)
    refine one e1 m1 c1 fun e => spec_of fun Q hQ => ?_
    dsimp only at e
    rw [wp_call at29' rfl]
    unfold f29
    simp [start, wS_ite]
    rw [wp_call at9 rfl]
    unfold f9
    simp [start, wS_ite, List.lookup]
    rw [wpc e]
    exact hQ
  | k8 =>
    obtain ⟨s1, e1, m1, c1⟩ := asked_ok (r := ⟨b, [111, 112, 95, 105, 110], [a], [110, 111, 116, 98, 111, 111, 108]⟩) k M hfr2 Ob (by simp)
    refine one e1 m1 c1 fun e => spec_of fun Q hQ => ?_
    dsimp only at e
    rw [wp_call at29' rfl]
    unfold f29
    simp [start, wS_ite]
    rw [wp_call at9 rfl]
    unfold f9
    simp [start, wS_ite, List.lookup]
    rw [wpc e]
    exact hQ
  | k9 =>
    obtain ⟨s1, e1, m1, c1⟩ := asked_ok (r := ⟨a, [111, 112, 95, 108, 116], [b], [98, 111, 111, 108]⟩) k M hfr2 Oa (by simp)
    refine one e1 m1 c1 fun e => spec_of fun Q hQ => ?_
    dsimp only at e
    rw [wp_call at29' rfl]
    unfold f29
    simp [start, wS_ite]
    rw [wp_call at9 rfl]
    unfold f9
    simp [start, wS_ite, List.lookup]
    rw [wpc e]
    exact hQ
  | k10 =>
    obtain ⟨s1, e1, m1, c1⟩ := asked_ok (r := ⟨a, [111, 112, 95, 108, 101], [b], [98, 111, 111, 108]⟩) k M hfr2 Oa (by simp)
    refine one e1 m1 c1 fun e => spec_of fun Q hQ => ?_
    dsimp only at e
    rw [wp_call at29' rfl]
    unfold f29
    simp [start, wS_ite]
    rw [wp_call at9 rfl]
    unfold f9
    simp [start, wS_ite, List.lookup]
    rw [wpc e]
    exact hQ
  | k11 =>
    obtain ⟨s1, e1, m1, c1⟩ := asked_ok (r := ⟨a, [111, 112, 95, 103, 116], [b], [98, 111, 111, 108]⟩) k M hfr2 Oa (by simp)
    refine one e1 m1 c1 fun e => spec_of fun Q hQ => ?_
    dsimp only at e
    rw [wp_call at29' rfl]
    unfold f29
    simp [start, wS_ite]
    rw [wp_call at9 rfl]
    unfold f9
    simp [start, wS_ite, List.lookup]
    rw [wpc e]
    exact hQ
  | k12 =>
    obtain ⟨s1, e1, m1, c1⟩ := asked_ok (r := ⟨a, [111, 112, 95, 103, 101], [b], [98, 111, 111, 108]⟩) k M hfr2 Oa (by simp)
    refine one e1 m1 c1 fun e => spec_of fun Q hQ => ?_
    dsimp only at e
    rw [wp_call at29' rfl]
    unfold f29
    simp [start, wS_ite]
    rw [wp_call at9 rfl]
    unfold f9
    simp [start, wS_ite, List.lookup]
    rw [wpc e]
    exact hQ
  | k13 =>
    refine ⟨s, spec_of fun Q hQ => ?_, M, .refl⟩
    rw [wp_call at29' rfl]
    unfold f29
    simp [start, wS_ite]
    rw [wp_call at9 rfl]
    unfold f9
    simp [start, wS_ite, List.lookup]
    exact hQ
  | k14 =>
    refine ⟨s, spec_of fun Q hQ => ?_, M, .refl⟩
    rw [wp_call at29' rfl]
    unfold f29
    simp [start, wS_ite]
    rw [wp_call at9 rfl]
    unfold f9
    simp [start, wS_ite, List.lookup]
    exact hQ
  | k15 op =>
    obtain ⟨s1, e1, m1, c1⟩ := asked_ok (r := ⟨a, [111, 112, 95, 110, 101, 103], [], []⟩) k M hfr2 Oa (by simp)
    refine one e1 m1 c1 fun e => spec_of fun Q hQ => ?_
    dsimp only at e
    rw [wp_call at29' rfl]
    unfold f29
    simp [start, wS_ite]
    rw [wp_call at8 rfl]
    unfold f8
    simp [start, wS_ite, List.lookup]
    rw [wpc e]
    exact hQ
  | k16 op =>
    obtain ⟨s1, e1, m1, c1⟩ := asked_ok (r := ⟨a, [111, 112, 95, 105, 116, 101, 109], [b], []⟩) k M hfr2 Oa (by simp)
    refine one e1 m1 c1 fun e => spec_of fun Q hQ => ?_
    dsimp only at e
    rw [wp_call at29' rfl]
    unfold f29
    simp [start, wS_ite]
    rw [wp_call at10 rfl]
    unfold f10
    simp [start, wS_ite, List.lookup]
    rw [wpc e]
    exact hQ
  | k17 op =>
    obtain ⟨s1, e1, m1, c1⟩ := asked_ok (r := ⟨a, [111, 112, 95, 112, 117, 116], [b, c], [110, 111, 116, 104, 105, 110, 103]⟩) k M hfr2 Oa (by simp)
    refine one e1 m1 c1 fun e => spec_of fun Q hQ => ?_
    dsimp only at e
    rw [wp_call at29' rfl]
    unfold f29
    simp [start, wS_ite]
    rw [wp_call at11 rfl]
    unfold f11
    simp [start, wS_ite, List.lookup]
    rw [wpc e]
    exact hQ
  | k18 op =>
    obtain ⟨s1, e1, m1, c1⟩ := asked_ok (r := ⟨a, [111, 112, 95, 100, 114, 111, 112], [b], [110, 111, 116, 104, 105, 110, 103]⟩) k M hfr2 Oa (by simp)
    refine one e1 m1 c1 fun e => spec_of fun Q hQ => ?_
    dsimp only at e
    rw [wp_call at29' rfl]
    unfold f29
    simp [start, wS_ite]
    rw [wp_call at12 rfl]
    unfold f12
    simp [start, wS_ite, List.lookup]
    rw [wpc e]
    exact hQ
  | k19 op =>
    obtain ⟨s1, e1, m1, c1⟩ := asked_ok (r := ⟨a, [111, 112, 95, 108, 101, 110], [], [99, 111, 117, 110, 116]⟩) k M hfr2 Oa (by simp)
    refine one e1 m1 c1 fun e => spec_of fun Q hQ => ?_
    dsimp only at e
    rw [wp_call at29' rfl]
    unfold f29
    simp [start, wS_ite]
    rw [wp_call at13 rfl]
    unfold f13
    simp [start, wS_ite, List.lookup]
    rw [wpc e]
    exact hQ
  | k20 op =>
    obtain ⟨s1, e1, m1, c1⟩ := asked_ok (r := ⟨a, [111, 112, 95, 114, 101, 112, 114], [], [116, 101, 120, 116]⟩) k M hfr2 Oa (by simp)
    refine one e1 m1 c1 fun e => spec_of fun Q hQ => ?_
    dsimp only at e
    rw [wp_call at29' rfl]
    unfold f29
    simp [start, wS_ite]
    rw [wp_call at14 rfl]
    unfold f14
    simp [start, wS_ite, List.lookup]
    rw [wpc e]
    exact hQ
  | k21 op =>
    obtain ⟨s1, e1, m1, c1⟩ := asked_ok (r := ⟨a, [111, 112, 95, 105, 116, 101, 114], [], [105, 116, 101, 114, 97, 116, 111, 114]⟩) k M hfr2 Oa (by simp)
    refine one e1 m1 c1 fun e => spec_of fun Q hQ => ?_
    dsimp only at e
    rw [wp_call at29' rfl]
    unfold f29
    simp [start, wS_ite]
    rw [wp_call at15 rfl]
    unfold f15
    simp [start, wS_ite, List.lookup]
    rw [wpc e]
    exact hQ
  | k22 op =>
    obtain ⟨s1, e1, m1, c1⟩ := asked_ok (r := ⟨a, [111, 112, 95, 115, 116, 114], [], [116, 101, 120, 116]⟩) k M hfr2 Oa (by simp)
    refine two e1 m1 c1 (fun M h => asked_ok (r := ⟨a, [111, 112, 95, 114, 101, 112, 114], [], [116, 101, 120, 116]⟩) k M h Oa (by simp)) fun s2 g1 g2 => spec_of fun Q hQ => ?_
    dsimp only at e1 g1
    rw [wp_call at29' rfl]
    unfold f29
    simp [start, wS_ite]
    rw [wp_call at14 rfl]
    unfold f14
    simp [start, wS_ite, List.lookup]
    rw [wpc e1]
    by_cases h : isNil (Fa [111, 112, 95, 115, 116, 114]) = true
    · rw [if_pos h] at hQ
      simp [h]
      rw [wpc (g1 h)]
      try simp
      exact hQ
    · have hf : isNil (Fa [111, 112, 95, 115, 116, 114]) = false := by simpa using h
      rw [if_neg h, g2 hf] at hQ
      simp [h]
      exact hQ
end
end K19
namespace K19
open Li
def RowsAt (s : Store) : List Nat → List (D × Row) → Prop
  | [], [] => True
  | i :: is, (_, r) :: rs => lk s i = some [r.v, .str r.x, .tup r.args, .str r.what] ∧ RowsAt s is rs
  | _, _ => False
section
variable {s t : Store} {n : Nat}
theorem lk_app : lk (s ++ t) (s.length + n) = lk t n := by
  unfold lk
  rw [List.getElem?_append_right (by omega)]
  simp
theorem lk_app0 : lk (s ++ t) s.length = lk t 0 := lk_app (n := 0)
theorem dk_app : dk (s ++ t) (s.length + n) = dk t n := by
  unfold dk
  rw [List.getElem?_append_right (by omega)]
  simp
theorem dk_app0 : dk (s ++ t) s.length = dk t 0 := dk_app (n := 0)
theorem set_app {o : O} : (s ++ t).set (s.length + n) o = s ++ t.set n o := by
  rw [List.set_append_right _ _ (by omega)]
  simp
theorem set_app0 {o : O} : (s ++ t).set s.length o = s ++ t.set 0 o := set_app (n := 0)
theorem at28' : prg[28]? = some f28 := rfl
theorem rows_ok (k : Nat) {kind op : S} {R : RF} (K : Kd kind op R) (a b c : D) (Fa Fb : S → D) :
    ∃ n ids t, call prg (k + 1) 28 [.str kind, .str op, a, b, c] s = .ok (.ob n) (s ++ t) ∧ lk (s ++ t) n = some (ids.map .ob) ∧ RowsAt (s ++ t) ids (R a b c Fa Fb) ∧ s.length ≤ n := by
  suffices main : ∃ d s', (∃ n ids t, d = .ob n ∧ s' = s ++ t ∧ lk (s ++ t) n = some (ids.map .ob) ∧ RowsAt (s ++ t) ids (R a b c Fa Fb) ∧ s.length ≤ n) ∧ call prg (k + 1) 28 [.str kind, .str op, a, b, c] s = .ok d s' by
    obtain ⟨d, s', ⟨n, ids, t, rfl, rfl, h1, h2, h3⟩, e⟩ := main
    exact ⟨n, ids, t, e, h1, h2, h3⟩
  cases K with
  | k0 =>
    refine spec_ex fun Q hQ => ?_
    rw [wp_call at28' rfl]
    unfold f28
    simp [start, wS_ite, lk_app, lk_app0, dk_app, dk_app0, set_app, set_app0, pairsOf, mergeM, putM, lookM, List.find?, dk, Nat.add_assoc]
    refine hQ _ _ ⟨_, [s.length + 1], _, rfl, rfl, ?_, ?_, ?_⟩
    · simp [lk_app, lk_app0, Nat.add_assoc]
      try rfl
    · simp [RowsAt, lk_app, lk_app0, Nat.add_assoc]
    · omega
  | k1 =>
    refine spec_ex fun Q hQ => ?_
    rw [wp_call at28' rfl]
    unfold f28
    simp [start, wS_ite, lk_app, lk_app0, dk_app, dk_app0, set_app, set_app0, pairsOf, mergeM, putM, lookM, List.find?, dk, Nat.add_assoc]
    refine hQ _ _ ⟨_, [s.length + 1], _, rfl, rfl, ?_, ?_, ?_⟩
    · simp [lk_app, lk_app0, Nat.add_assoc]
      try rfl
    · simp [RowsAt, lk_app, lk_app0, Nat.add_assoc]
    · omega
  | k2 =>
    refine spec_ex fun Q hQ => ?_
    rw [wp_call at28' rfl]
    unfold f28
    simp [start, wS_ite, lk_app, lk_app0, dk_app, dk_app0, set_app, set_app0, pairsOf, mergeM, putM, lookM, List.find?, dk, Nat.add_assoc]
    refine hQ _ _ ⟨_, [s.length + 1], _, rfl, rfl, ?_, ?_, ?_⟩
    · simp [lk_app, lk_app0, Nat.add_assoc]
      try rfl
    · simp [RowsAt, lk_app, lk_app0, Nat.add_assoc]
    · omega
  | k3 =>
    refine spec_ex fun Q hQ => ?_
    rw [wp_call at28' rfl]
    unfold f28
    simp [start, wS_ite, lk_app, lk_app0, dk_app, dk_app0, set_app, set_app0, pairsOf, mergeM, putM, lookM, List.find?, dk, Nat.add_assoc]
    refine hQ _ _ ⟨_, [s.length + 1], _, rfl, rfl, ?_, ?_, ?_⟩
    · simp [lk_app, lk_app0, Nat.add_assoc]
      try rfl
    · simp [RowsAt, lk_app, lk_app0, Nat.add_assoc]
    · omega
  | k4 =>
    refine spec_ex fun Q hQ => ?_
    rw [wp_call at28' rfl]
    unfold f28
    simp [start, wS_ite, lk_app, lk_app0, dk_app, dk_app0, set_app, set_app0, pairsOf, mergeM, putM, lookM, List.find?, dk, Nat.add_assoc]
    refine hQ _ _ ⟨_, [s.length + 1], _, rfl, rfl, ?_, ?_, ?_⟩
    · simp [lk_app, lk_app0, Nat.add_assoc]
      try rfl
    · simp [RowsAt, lk_app, lk_app0, Nat.add_assoc]
    · omega
  | k5 =>
    refine spec_ex fun Q hQ => ?_
    rw [wp_call at28' rfl]
    unfold f28
    simp [start, wS_ite, lk_app, lk_app0, dk_app, dk_app0, set_app, set_app0, pairsOf, mergeM, putM, lookM, List.find?, dk, Nat.add_assoc]
    refine hQ _ _ ⟨_, [s.length + 1, s.length + 2], _, rfl, rfl, ?_, ?_, ?_⟩
    · simp [lk_app, lk_app0, Nat.add_assoc]
      try rfl
    · simp [RowsAt, lk_app, lk_app0, Nat.add_assoc]
    · omega
  | k6 =>
    refine spec_ex fun Q hQ => ?_
    rw [wp_call at28' rfl]
    unfold f28
    simp [start, wS_ite, lk_app, lk_app0, dk_app, dk_app0, set_app, set_app0, pairsOf, mergeM, putM, lookM, List.find?, dk, Nat.add_assoc]
    refine hQ _ _ ⟨_, [s.length + 1, s.length + 2], _, rfl, rfl, ?_, ?_, ?_⟩
    · simp [lk_app, lk_app0, Nat.add_assoc]
      try rfl
    · simp [RowsAt, lk_app, lk_app0, Nat.add_assoc]
    · omega
  | k7 =>
    refine spec_ex fun Q hQ => ?_
    rw [wp_call at28' rfl]
    unfold f28
    simp [start, wS_ite, lk_app, lk_app0, dk_app, dk_app0, set_app, set_app0, pairsOf, mergeM, putM, lookM, List.find?, dk, Nat.add_assoc]
    refine hQ _ _ ⟨_, [s.length + 1], _, rfl, rfl, ?_, ?_, ?_⟩
    · simp [lk_app, lk_app0, Nat.add_assoc]
      try rfl
    · simp [RowsAt, lk_app, lk_app0, Nat.add_assoc]
    · omega
  | k8 =>
    refine spec_ex fun Q hQ => ?_
    rw [wp_call at28' rfl]
    unfold f28
    simp [start, wS_ite, lk_app, lk_app0, dk_app, dk_app0, set_app, set_app0, pairsOf, mergeM, putM, lookM, List.find?, dk, Nat.add_assoc]
    refine hQ _ _ ⟨_, [s.length + 1], _, rfl, rfl, ?_, ?_, ?_⟩
    · simp [lk_app, lk_app0, Nat.add_assoc]
      try rfl
    · simp [RowsAt, lk_app, lk_app0, Nat.add_assoc]
    · omega
  | k9 =>
    refine spec_ex fun Q hQ => ?_
    rw [wp_call at28' rfl]
    unfold f28
    simp [start, wS_ite, lk_app, lk_app0, dk_app, dk_app0, set_app, set_app0, pairsOf, mergeM, putM, lookM, List.find?, dk, Nat.add_assoc]
    refine hQ _ _ ⟨_, [s.length + 1], _, rfl, rfl, ?_, ?_, ?_⟩
    · simp [lk_app, lk_app0, Nat.add_assoc]
      try rfl
    · simp [RowsAt, lk_app, lk_app0, Nat.add_assoc]
    · omega
  | k10 =>
    refine spec_ex fun Q hQ => ?_
    rw [wp_call at28' rfl]
    unfold f28
    simp [start, wS_ite, lk_app, lk_app0, dk_app, dk_app0, set_app, set_app0, pairsOf, mergeM, putM, lookM, List.find?, dk, Nat.add_assoc]
    refine hQ _ _ ⟨_, [s.length + 1], _, rfl, rfl, ?_, ?_, ?_⟩
    · simp [lk_app, lk_app0, Nat.add_assoc]
      try rfl
    · simp [RowsAt, lk_app, lk_app0, Nat.add_assoc]
    · omega
  | k11 =>
    refine spec_ex fun Q hQ => ?_
    rw [wp_call at28' rfl]
    unfold f28
    simp [start, wS_ite, lk_app, lk_app0, dk_app, dk_app0, set_app, set_app0, pairsOf, mergeM, putM, lookM, List.find?, dk, Nat.add_assoc]
    refine hQ _ _ ⟨_, [s.length + 1], _, rfl, rfl, ?_, ?_, ?_⟩
    · simp [lk_app, lk_app0, Nat.add_assoc]
      try rfl
    · simp [RowsAt, lk_app, lk_app0, Nat.add_assoc]
    · omega
  | k12 =>
    refine spec_ex fun Q hQ => ?_
    rw [wp_call at28' rfl]
    unfold f28
    simp [start, wS_ite, lk_app, lk_app0, dk_app, dk_app0, set_app, set_app0, pairsOf, mergeM, putM, lookM, List.find?, dk, Nat.add_assoc]
    refine hQ _ _ ⟨_, [s.length + 1], _, rfl, rfl, ?_, ?_, ?_⟩
    · simp [lk_app, lk_app0, Nat.add_assoc]
      try rfl
    · simp [RowsAt, lk_app, lk_app0, Nat.add_assoc]
    · omega
  | k13 =>
    refine spec_ex fun Q hQ => ?_
    rw [wp_call at28' rfl]
    unfold f28
    simp [start, wS_ite, lk_app, lk_app0, dk_app, dk_app0, set_app, set_app0, pairsOf, mergeM, putM, lookM, List.find?, dk, Nat.add_assoc]
    refine hQ _ _ ⟨_, [], _, rfl, rfl, ?_, ?_, ?_⟩
    · simp [lk_app, lk_app0, Nat.add_assoc]
      try rfl
    · simp [RowsAt, lk_app, lk_app0, Nat.add_assoc]
    · omega
  | k14 =>
    refine spec_ex fun Q hQ => ?_
    rw [wp_call at28' rfl]
    unfold f28
    simp [start, wS_ite, lk_app, lk_app0, dk_app, dk_app0, set_app, set_app0, pairsOf, mergeM, putM, lookM, List.find?, dk, Nat.add_assoc]
    refine hQ _ _ ⟨_, [], _, rfl, rfl, ?_, ?_, ?_⟩
    · simp [lk_app, lk_app0, Nat.add_assoc]
      try rfl
    · simp [RowsAt, lk_app, lk_app0, Nat.add_assoc]
    · omega
  | k15 op =>
    refine spec_ex fun Q hQ => ?_
    rw [wp_call at28' rfl]
    unfold f28
    simp [start, wS_ite, lk_app, lk_app0, dk_app, dk_app0, set_app, set_app0, pairsOf, mergeM, putM, lookM, List.find?, dk, Nat.add_assoc]
    refine ⟨by decide, by decide, by decide, by decide, ?_⟩
    refine hQ _ _ ⟨_, [s.length + 9], _, rfl, rfl, ?_, ?_, ?_⟩
    · simp [lk_app, lk_app0, Nat.add_assoc]
      try rfl
    · simp [RowsAt, lk_app, lk_app0, Nat.add_assoc]
    · omega
  | k16 op =>
    refine spec_ex fun Q hQ => ?_
    rw [wp_call at28' rfl]
    unfold f28
    simp [start, wS_ite, lk_app, lk_app0, dk_app, dk_app0, set_app, set_app0, pairsOf, mergeM, putM, lookM, List.find?, dk, Nat.add_assoc]
    refine ⟨by decide, by decide, by decide, by decide, ?_⟩
    refine hQ _ _ ⟨_, [s.length + 9], _, rfl, rfl, ?_, ?_, ?_⟩
    · simp [lk_app, lk_app0, Nat.add_assoc]
      try rfl
    · simp [RowsAt, lk_app, lk_app0, Nat.add_assoc]
    · omega
  | k17 op =>
    refine spec_ex fun Q hQ => ?_
    rw [wp_call at28' rfl]
    unfold f28
    simp [start, wS_ite, lk_app, lk_app0, dk_app, dk_app0, set_app, set_app0, pairsOf, mergeM, putM, lookM, List.find?, dk, Nat.add_assoc]
    refine ⟨by decide, by decide, by decide, by decide, ?_⟩
    refine hQ _ _ ⟨_, [s.length + 9], _, rfl, rfl, ?_, ?_, ?_⟩
    · simp [lk_app, lk_app0, Nat.add_assoc]
      try rfl
    · simp [RowsAt, lk_app, lk_app0, Nat.add_assoc]
    · omega
  | k18 op =>
    refine spec_ex fun Q hQ => ?_
    rw [wp_call at28' rfl]
    unfold f28
    simp [start, wS_ite, lk_app, lk_app0, dk_app, dk_app0, set_app, set_app0, pairsOf, mergeM, putM, lookM, List.find?, dk, Nat.add_assoc]
    refine ⟨by decide, by decide, by decide, by decide, ?_⟩
    refine hQ _ _ ⟨_, [s.length + 9], _, rfl, rfl, ?_, ?_, ?_⟩
    · simp [lk_app, lk_app0, Nat.add_assoc]
      try rfl
    · simp [RowsAt, lk_app, lk_app0, Nat.add_assoc]
    · omega
  | k19 op =>
    refine spec_ex fun Q hQ => ?_
    rw [wp_call at28' rfl]
    unfold f28
    simp [start, wS_ite, lk_app, lk_app0, dk_app, dk_app0, set_app, set_app0, pairsOf, mergeM, putM, lookM, List.find?, dk, Nat.add_assoc]
    refine ⟨by decide, by decide, by decide, by decide, ?_⟩
    refine hQ _ _ ⟨_, [s.length + 9], _, rfl, rfl, ?_, ?_, ?_⟩
    · simp [lk_app, lk_app0, Nat.add_assoc]
      try rfl
    · simp [RowsAt, lk_app, lk_app0, Nat.add_assoc]
    · omega
  | k20 op =>
    refine spec_ex fun Q hQ => ?_
    rw [wp_call at28' rfl]
    unfold f28
    simp [start, wS_ite, lk_app, lk_app0, dk_app, dk_app0, set_app, set_app0, pairsOf, mergeM, putM, lookM, List.find?, dk, Nat.add_assoc]
    refine ⟨by decide, by decide, by decide, by decide, ?_⟩
    refine hQ _ _ ⟨_, [s.length + 9], _, rfl, rfl, ?_, ?_, ?_⟩
    · simp [lk_app, lk_app0, Nat.add_assoc]
      try rfl
    · simp [RowsAt, lk_app, lk_app0, Nat.add_assoc]
    · omega
  | k21 op =>
    refine spec_ex fun Q hQ => ?_
    rw [wp_call at28' rfl]
    unfold f28
    simp [start, wS_ite, lk_app, lk_app0, dk_app, dk_app0, set_app, set_app0, pairsOf, mergeM, putM, lookM, List.find?, dk, Nat.add_assoc]
    refine ⟨by decide, by decide, by decide, by decide, ?_⟩
    refine hQ _ _ ⟨_, [s.length + 9], _, rfl, rfl, ?_, ?_, ?_⟩
    · simp [lk_app, lk_app0, Nat.add_assoc]
      try rfl
    · simp [RowsAt, lk_app, lk_app0, Nat.add_assoc]
    · omega
  | k22 op =>
    refine spec_ex fun Q hQ => ?_
    rw [wp_call at28' rfl]
    unfold f28
    simp [start, wS_ite, lk_app, lk_app0, dk_app, dk_app0, set_app, set_app0, pairsOf, mergeM, putM, lookM, List.find?, dk, Nat.add_assoc]
    refine hQ _ _ ⟨_, [s.length, s.length + 1], _, rfl, rfl, ?_, ?_, ?_⟩
    · simp [lk_app, lk_app0, Nat.add_assoc]
      try rfl
    · simp [RowsAt, lk_app, lk_app0, Nat.add_assoc]
    · omega
end
end K19
namespace K19
open Li
def TNM : S := [97, 100, 100, 32, 115, 117, 98, 32, 109, 117, 108, 32, 100, 105, 118, 32, 109, 111, 100, 32, 110, 101, 103, 32, 101, 113, 32, 108, 116, 32, 108, 101, 32, 103, 116, 32, 103, 101, 32, 105, 110, 32, 105, 116, 101, 109, 32, 112, 117, 116, 32, 100, 114, 111, 112, 32, 108, 101, 110, 32, 115, 116, 114, 32, 114, 101, 112, 114, 32, 105, 116, 101, 114, 32, 110, 101, 120, 116, 32, 99, 97, 108, 108]
def WNM : List S := wordsS TNM
theorem wnm_len : WNM.length = 21 := by decide +kernel
theorem wnm_ok : (wordsS TNM).all okC = true := by decide +kernel
theorem tnm_len : TNM.length + 2 ≤ LINE := Nat.le_trans (by decide : _ ≤ 1000) (by decide)
def NM : List S := WNM.map fun w => [111, 112, 95] ++ w
theorem nm_ok : ∀ w ∈ NM, Nw w := by
  have h : (NM.all fun w => decide (w.length ≤ 10) && w.all fun c => decide (c < 128)) = true := by decide +kernel
  intro w hw
  have q := List.all_eq_true.mp h w hw
  simp only [Bool.and_eq_true, decide_eq_true_eq, List.all_eq_true] at q
  exact ⟨q.1, q.2⟩
section
variable {st : Store}
theorem names_ok (k : Nat) : call prg (k + 1) 24 [] st = .ok (.ob (st.length + 1)) (st ++ [.lst (WNM.map .str), .lst (NM.map .str)]) := by
  refine spec_of fun Q hQ => ?_
  rw [wp_call at24 rfl]
  unfold f24
  simp [start]
  generalize hT : ([97, 100, 100, 32, 115, 117, 98, 32, 109, 117, 108, 32, 100, 105, 118, 32, 109, 111, 100, 32, 110, 101, 103, 32, 101, 113, 32, 108, 116, 32, 108, 101, 32, 103, 116, 32, 103, 101, 32, 105, 110, 32, 105, 116, 101, 109, 32, 112, 117, 116, 32, 100, 114, 111, 112, 32, 108, 101, 110, 32, 115, 116, 114, 32, 114, 101, 112, 114, 32, 105, 116, 101, 114, 32, 110, 101, 120, 116, 32, 99, 97, 108, 108] : List Nat) = T
  have hT : T = TNM := hT.symm
  subst hT
  rw [wE_lc]
  simp [tnm_len, wnm_ok]
  show @wp noX _ (lcRun _ _ (.ob st.length)) _ (st ++ [O.lst (WNM.map .str)])
  have h0 : lk (st ++ [O.lst (WNM.map .str)]) st.length = some (WNM.map .str) := lk_new
  generalize hs : st ++ [O.lst (WNM.map .str)] = s0 at h0 ⊢
  have hl0 : s0.length = st.length + 1 := by rw [← hs]; simp
  obtain ⟨I, hI⟩ : ∃ I : List D → List D → Store → Prop, I = fun acc r s => s = s0 ∧ ∃ l : List S, r = l.map .str ∧ (∀ w ∈ l, w ∈ WNM) ∧ acc ++ (l.map fun w => .str ([111, 112, 95] ++ w)) = NM.map .str := ⟨_, rfl⟩
  have hw : ∀ w ∈ WNM, w.length ≤ 10 := fun w hw => by
    have := (nm_ok ([111, 112, 95] ++ w) (List.mem_map_of_mem hw)).len
    rw [List.length_append] at this
    omega
  refine wp_lcRun_ob (xs := WNM.map .str) (Nat.lt_of_lt_of_le (by rw [List.length_map, wnm_len]; omega : _ < 1000) (by decide)) I (fun acc r s z => by rw [hI] at z; obtain ⟨rfl, _⟩ := z; exact h0) (by rw [hI]; exact ⟨rfl, WNM, rfl, fun w h => h, by simp [NM]⟩) (fun acc x r s z => ?_) fun acc s z => ?_
  · rw [hI] at z
    obtain ⟨rfl, l, hr, hl, ha⟩ := z
    cases l with
    | nil => cases hr
    | cons w l =>
      cases hr
      rw [wC_none]
      simp only [if_true]
      show wE _ _ _ _ _
      have h10 := hw w (hl w (List.mem_cons_self ..))
      have hln := congrArg List.length ha
      have hn : NM.length = 21 := by unfold NM; rw [List.length_map, wnm_len]
      simp [hn] at hln
      simp
      refine ⟨Nat.le_trans (by omega : _ ≤ 1000) (by decide), Nat.lt_of_lt_of_le (by omega : _ < 1000) (by decide), ?_⟩
      rw [hI]
      refine ⟨rfl, l, rfl, fun w h => hl w (List.mem_cons_of_mem _ h), ?_⟩
      rw [← ha]
      simp
  · rw [hI] at z
    obtain ⟨rfl, l, hr, hl, ha⟩ := z
    cases l with
    | cons w l => cases hr
    | nil =>
      simp at ha
      subst ha
      rw [hl0]
      try simp
      rw [← hs] at *
      have e : st ++ [O.lst (WNM.map .str)] ++ [O.lst (NM.map .str)] = st ++ [O.lst (WNM.map .str), O.lst (NM.map .str)] := by simp
      rw [e]
      exact hQ
theorem same_ok (k : Nat) {a b x : D} (ha : res st DEEP a = some x) (hb : res st DEEP b = some x) (ho : okS x = true) : call prg (k + 1) 19 [a, b] st = .ok (.bl true) st := by
  refine spec_of fun Q hQ => ?_
  rw [wp_call at19 rfl]
  unfold f19
  simp [start]
  rw [wp_repr ha ho]
  try simp
  rw [wp_repr hb ho]
  simp
  exact hQ
variable {b a : Nat}
theorem frames_wp (k : Nat) (B : Bx st b a) {Q : D → Store → Prop} (hQ : ∀ fr n s, lk s n = some fr → fr.length ≤ 3 → Tells fr (3000 * fr.length) → st.length ≤ n → Go b a st s → Q (.ob n) s) : wp (call prg (k + 2) 30 [.ob b]) Q st := by
  rw [wp_call at30 rfl]
  unfold f30
  simp [start]
  generalize hM : ([D.tup [.str [100, 114, 111, 112]], D.tup [.str [110, 111, 116]], D.tup [.str [97, 116, 116, 114], .str [110]], D.tup [.str [105, 110, 105, 116], D.tup [.str [110, 111, 110, 101]]], D.tup [.str [119, 97, 110, 116], .str [99, 111, 117, 110, 116]], D.tup [.str [100, 101, 102, 97, 117, 108, 116], D.tup [.str [105, 110, 116], D.int 3]]] : List D) = mn
  have hm : ∀ r : Nat, r < 6 → ∃ d, mn[r]? = some d ∧ Tells [d] 3000 := by
    intro r hr
    have : r = 0 ∨ r = 1 ∨ r = 2 ∨ r = 3 ∨ r = 4 ∨ r = 5 := by omega
    rcases this with rfl | rfl | rfl | rfl | rfl | rfl <;>
    · rw [← hM]
      exact ⟨_, rfl, by decide +kernel, by decide +kernel, by decide +kernel⟩
  have B0 := B.app [O.lst mn]
  have g0 : Go b a st (st ++ [O.lst mn]) := Go.app B _
  have h0 : lk (st ++ [O.lst mn]) st.length = some mn := lk_new
  have hn := (B.ge (Nat.le_refl st.length)).1
  generalize st ++ [O.lst mn] = s0 at B0 g0 h0 ⊢
  rw [wE_lcr]
  simp
  refine draw18 _ B0 (by decide) fun r1 s1 h1 g1 => ?_
  simp
  refine ⟨by unfold inBig BIG; omega, ?_⟩
  have g01 := g0.trans g1
  obtain ⟨I, hI⟩ : ∃ I : List D → List D → Store → Prop, I = fun acc r s => Go b a st s ∧ lk s st.length = some mn ∧ acc.length + r.length = r1 ∧ Tells acc (3000 * acc.length) := ⟨_, rfl⟩
  refine lcI_inv I (fun acc x r s z => ?_) (fun acc s z => ?_) _ _ _ (by rw [hI]; exact ⟨g01, g1.lk hn h0, by simp [rangeD], ⟨rfl, rfl, by decide⟩⟩)
  · rw [hI] at z
    obtain ⟨g, hl, hlen, ht⟩ := z
    rw [wC_none]
    simp only [if_true]
    show wE _ _ _ _ _
    simp
    refine draw18 _ g.bx (by decide) fun r2 s2 h2 g2 => ?_
    obtain ⟨d, hd, htd⟩ := hm r2 (by omega)
    have hl2 := g2.lk hn hl
    simp [hl2, atI_nat, hd]
    simp at hlen
    refine ⟨Nat.lt_of_lt_of_le (by omega : _ < 1000) (by decide), ?_⟩
    rw [hI]
    exact ⟨g.trans g2, hl2, by simp; omega, (ht.app htd).mono (by simp; omega)⟩
  · rw [hI] at z
    obtain ⟨g, hl, hlen, ht⟩ := z
    simp at hlen
    try simp
    exact hQ acc _ _ lk_new (by omega) ht g.len (g.trans (Go.app g.bx _))
section
variable {mo fp hp : Nat} {ctl : D} {fr xs : List D} {o : Oth} {s : Store}
theorem told_ok (k : Nat) (M : Mc mo fp hp ctl fr xs o s) : call prg (k + 1) 31 [.ob mo] s = .ok (.ob (s.length + 2)) (s ++ [.lst [o.out, o.act, o.here, o.line, o.steps], .lst [ctl, .ob fp, .ob hp], .lst [ctl, .ob fp, .ob hp, o.out, o.act, o.here, o.line, o.steps]]) := by
  refine spec_of fun Q hQ => ?_
  rw [wp_call at31 rfl]
  unfold f31
  have hm : ∀ t, li (s ++ t) mo = some (0, mF ctl fp hp o) := fun t => li_old M.m
  simp [start, M.m, hm, lk_app, lk_app0, Nat.add_assoc]
  exact hQ
end
end
end K19
namespace K19
open Li
/-- the places of a turn lie apart -/
structure Ds (b a mo fp hp lh kn rs : Nat) : Prop where
  b1 : lh ≠ b
  b2 : kn ≠ b
  b3 : rs ≠ b
  b4 : mo ≠ b
  b5 : fp ≠ b
  b6 : hp ≠ b
  m1 : a ≠ mo
  m2 : lh ≠ mo
  m3 : kn ≠ mo
  m4 : rs ≠ mo
  f1 : a ≠ fp
  f2 : lh ≠ fp
  f3 : kn ≠ fp
  f4 : rs ≠ fp
def oL (o : Oth) : List D := [o.out, o.act, o.here, o.line, o.steps]
structure Tn (b a mo fp lh kn rs lf : Nat) (xs KN fr : List D) (o : Oth) (s : Store) : Prop where
  bx : Bx s b a
  qh : lk s lh = some xs
  qk : lk s kn = some KN
  qr : lk s rs = some (oL o)
  qf : lk s lf = some fr
  n1 : lf ≠ b
  n2 : lf ≠ mo
  n3 : lf ≠ fp
section
variable {b a mo fp hp lh kn rs lf : Nat} {xs KN fr lfr : List D} {ctl : D} {o : Oth} {s s' : Store}
theorem lk_keep (c : Ch mo fp s s') {h : Nat} {ys : List D} (h1 : h ≠ mo) (h2 : h ≠ fp) (e : lk s h = some ys) : lk s' h = some ys := lk_of (c.keep _ _ h1 h2 (lk_at e))
theorem Tn.go (D : Ds b a mo fp hp lh kn rs) (T : Tn b a mo fp lh kn rs lf xs KN lfr o s) (g : Go b a s s') : Tn b a mo fp lh kn rs lf xs KN lfr o s' := ⟨g.bx, g.lk D.b1 T.qh, g.lk D.b2 T.qk, g.lk D.b3 T.qr, g.lk T.n1 T.qf, T.n1, T.n2, T.n3⟩
theorem Mc.go (D : Ds b a mo fp hp lh kn rs) (M : Mc mo fp hp ctl fr xs o s) (g : Go b a s s') : Mc mo fp hp ctl fr xs o s' := ⟨g.li D.b4 M.m, g.lk D.b5 M.f, g.lk D.b6 M.h, M.n1, M.n2, M.n3⟩
theorem Tn.app (T : Tn b a mo fp lh kn rs lf xs KN lfr o s) (t : Store) : Tn b a mo fp lh kn rs lf xs KN lfr o (s ++ t) := ⟨T.bx.app t, lk_old T.qh, lk_old T.qk, lk_old T.qr, lk_old T.qf, T.n1, T.n2, T.n3⟩
theorem Tn.ch (D : Ds b a mo fp hp lh kn rs) (T : Tn b a mo fp lh kn rs lf xs KN lfr o s) (c : Ch mo fp s s') : Tn b a mo fp lh kn rs lf xs KN lfr o s' := by
  refine ⟨?_, lk_keep c D.m2 D.f2 T.qh, lk_keep c D.m3 D.f3 T.qk, lk_keep c D.m4 D.f4 T.qr, lk_keep c T.n2 T.n3 T.qf, T.n1, T.n2, T.n3⟩
  obtain ⟨n, ds, B⟩ := T.bx
  exact ⟨n, ds, lk_keep c (Ne.symm D.b4) (Ne.symm D.b5) B.box, lk_keep c D.m1 D.f1 B.dig, B.ne⟩
/-- the law's list of frames is a new one -/
theorem Tn.new (D : Ds b a mo fp hp lh kn rs) (T : Tn b a mo fp lh kn rs lf xs KN lfr o s) (M : Mc mo fp hp ctl fr xs o s) {n : Nat} {ys : List _root_.Li.D} (hn : s.length ≤ n) {t : Store} (h : lk (s ++ t) n = some ys) : Tn b a mo fp lh kn rs n xs KN ys o (s ++ t) := by
  have T2 := T.app t
  have h1 := T.bx.lt
  have h2 := li_lt M.m
  have h3 := lk_lt M.f
  exact ⟨T2.bx, T2.qh, T2.qk, T2.qr, h, by omega, by omega, by omega⟩
theorem RowsAt.app {t : Store} : ∀ {ids : List Nat} {rows : List (_root_.Li.D × Row)}, RowsAt s ids rows → RowsAt (s ++ t) ids rows
  | [], [], _ => trivial
  | [], _ :: _, h => h.elim
  | _ :: _, [], h => h.elim
  | i :: is, (_, r) :: rows, h => ⟨lk_old h.1, RowsAt.app h.2⟩
theorem RowsAt.len : ∀ {ids : List Nat} {rows : List (_root_.Li.D × Row)}, RowsAt s ids rows → ids.length = rows.length
  | [], [], _ => rfl
  | [], _ :: _, h => h.elim
  | _ :: _, [], h => h.elim
  | i :: is, (_, r) :: rows, h => by simp [RowsAt.len h.2]
/-- a row that may be asked -/
structure Rok (xs : List D) (p : D × Row) : Prop where
  ex : ∃ F, Opr xs p.2.v F ∧ p.1 = F p.2.x
  n : p.2.args.length ≤ 2
  args : ∀ d ∈ p.2.args, flat 4 d = true ∧ plain d = true ∧ cost d ≤ 6000
  wl : p.2.what.length ≤ 8
  wc : ∀ c ∈ p.2.what, c < 128
theorem Kd.rok {kind op : S} {R : RF} (K : Kd kind op R) {a b c : D} {Fa Fb Fc : S → D} (Oa : Opr xs a Fa) (Ob : Opr xs b Fb) (Oc : Opr xs c Fc) : ∀ p ∈ R a b c Fa Fb, Rok xs p := by
  have ha := And.intro Oa.fl (And.intro Oa.pl Oa.co)
  have hb := And.intro Ob.fl (And.intro Ob.pl Ob.co)
  have hc := And.intro Oc.fl (And.intro Oc.pl Oc.co)
  intro p hp
  cases K <;> simp only [List.mem_cons, List.not_mem_nil, or_false] at hp <;> (try exact hp.elim) <;> (try rcases hp with rfl | rfl) <;> (try subst hp) <;>
    first
    | exact ⟨⟨Fa, Oa, rfl⟩, by simp, by simp [ha, hb, hc], by simp, by simp⟩
    | exact ⟨⟨Fb, Ob, rfl⟩, by simp, by simp [ha, hb, hc], by simp, by simp⟩
theorem Kd.len {kind op : S} {R : RF} (K : Kd kind op R) {a b c : D} {Fa Fb : S → D} : (R a b c Fa Fb).length ≤ 2 := by cases K <;> simp
/-- what is told of the law's state -/
structure Told (ctl : D) (fr : List D) (n : Nat) : Prop where
  c : Tell ctl 60000
  f : Tells fr (3000 * n)
  l : fr.length ≤ n
theorem Told.step {n : Nat} {p : D × Row} (T : Told ctl fr n) (r : Rok xs p) : Told (ctlN p.1 p.2 ctl) (frN p.1 p.2 fr) (n + 1) := by
  obtain ⟨f, v, x, args, what⟩ := p
  obtain ⟨F, O, hf⟩ := r.ex
  have hf : f = F x := hf
  have hF := O.res x
  rw [← hf] at hF
  by_cases h : isNil f = true
  · simp only [ctlN, frN, h, if_true, true_or]
    exact ⟨T.c, T.f.mono (by omega), by have := T.l; omega⟩
  · have h' : isNil f = false := by simpa using h
    have ha : Tells args 14000 := by
      have hl := r.n
      have hs := r.args
      match args, hl, hs with
      | [], _, _ => exact ⟨rfl, rfl, by decide⟩
      | [d], _, hs =>
        obtain ⟨h1, h2, h3⟩ := hs d (by simp)
        exact (tells_one (flat_mono (by decide) h1) h2 h3).mono (by omega)
      | [d, e], _, hs =>
        obtain ⟨h1, h2, h3⟩ := hs d (by simp)
        obtain ⟨g1, g2, g3⟩ := hs e (by simp)
        exact ((tells_one (flat_mono (by decide) h1) h2 h3).app (tells_one (flat_mono (by decide) g1) g2 g3)).mono (by omega)
      | _ :: _ :: _ :: _, hl, _ => simp at hl
    have hv : Tells [v] 6002 := tells_one (flat_mono (by decide) O.fl) O.pl O.co
    have hff : Tells [f] 2202 := tells_one (flat_mono (by decide) hF.fl) hF.pl hF.co
    have hw : plain (.str what) = true := by
      unfold plain
      rw [List.all_eq_true]
      intro c hc
      have := r.wc c hc
      exact decide_eq_true (by omega)
    have wl : what.length ≤ 8 := r.wl
    refine ⟨?_, ?_, ?_⟩
    · simp only [ctlN, h', Bool.false_eq_true, if_false]
      have va : Tells (v :: args) 20002 := (hv.app ha).mono (by omega)
      have h4 : flats 38 (v :: args) = true := by
        have g1 := flat_mono (m := 38) (by decide) O.fl
        simp only [flats, g1, Bool.true_and]
        refine flats_all.mpr fun d hd => ?_
        exact flat_mono (by decide) (r.args d hd).1
      have vt : Tells [.tup (v :: args)] 20010 := tells_one (c := 20005) (by unfold flat; exact h4) va.tup.pl va.tup.co |>.mono (by omega)
      have t0 : Tells [.str [99, 97, 108, 108]] 1000 := ⟨rfl, rfl, by decide⟩
      have t1 : Tells [.tup []] 1000 := ⟨rfl, rfl, by decide⟩
      exact let q := ((t0.app hff).app (vt.app t1)).tup; ⟨q.fl, q.pl, Nat.le_trans q.co (by omega)⟩
    · simp only [frN, h', Bool.false_eq_true, false_or]
      split
      · exact T.f.mono (by omega)
      · have tw : Tells [.tup [.str [119, 97, 110, 116], .str what]] 3000 := by
          refine ⟨rfl, ?_, ?_⟩
          · have hc : plain (.str [119, 97, 110, 116]) = true := rfl
            simp only [plains, plain, hw, hc, Bool.and_true]
            simpa [plain] using hw
          · simp [costs, cost]
            omega
        exact (tw.app T.f).mono (by omega)
    · simp only [frN]
      have := T.l
      split
      · omega
      · simp
        omega
theorem outc_told {n : Nat} : ∀ {rows : List (D × Row)} {ctl : D} {fr : List D}, (∀ p ∈ rows, Rok xs p) → Told ctl fr n → Told (outc rows ctl fr).2.1 (outc rows ctl fr).2.2 (n + 1)
  | [], ctl, fr, _, T => ⟨T.c, T.f.mono (by omega), by have := T.l; show fr.length ≤ n + 1; omega⟩
  | (f, r) :: rows, ctl, fr, h, T => by
    unfold outc
    split
    · exact outc_told (fun p hp => h p (List.mem_cons_of_mem _ hp)) T
    · exact T.step (h _ (List.mem_cons_self ..))
end
end K19
namespace K19
open Li
theorem res_lst {st : Store} {d n : Nat} {xs ys : List D} (h : lk st n = some xs) (h2 : xs.mapM (res st d) = some ys) : res st (d + 1) (.ob n) = some (.ro ys) := by
  unfold res
  rw [lk_at h]
  simp [h2]
def KNS : List S := [[98, 105, 110, 97, 114, 121], [98, 105, 110, 97, 114, 121], [99, 111, 109, 112, 97, 114, 101], [99, 111, 109, 112, 97, 114, 101], [99, 111, 109, 112, 97, 114, 101], [109, 105, 110, 117, 115], [105, 116, 101, 109], [112, 117, 116], [100, 114, 111, 112], [108, 101, 110], [116, 101, 120, 116], [114, 101, 112, 114], [105, 116, 101, 114]]
def KN : List D := KNS.map .str
/-- the five other fields, told -/
structure Oo (o : Oth) : Prop where
  fl : flats 50 (oL o) = true
  te : Tells (oL o) 20000
section
variable {b a mo fp hp lh kn rs lf : Nat} {xs fr lfr : List D} {ctl : D} {o : Oth} {s s' : Store}
theorem tell_all {n m : Nat} (T : Told ctl fr n) (hn : n ≤ 30) (hx : Tells xs 6000000) (ho : Oo o) : okS (.ro (ctl :: .ro fr :: .ro xs :: oL o)) = true := by
  have h1 := T.c.pl
  have h2 := T.f.ro.pl
  have h3 := hx.ro.pl
  have h4 := ho.te.pl
  have c1 := T.c.co
  have c2 := T.f.ro.co
  have c3 := hx.ro.co
  have c4 := ho.te.co
  refine okT (c := 9000000) ?_ ?_ (by omega)
  · unfold plain
    simp only [plains, h1, h2, h3, h4, Bool.and_true]
  · unfold cost
    simp only [costs]
    omega
theorem res_all {n : Nat} {sl : Nat} (M : ∀ k, k ≤ 59 → res s k ctl = some ctl → True) (hc : Told ctl fr n) (hx : Tells xs 6000000) (ho : Oo o) {f h : Nat} (hf : lk s f = some fr) (hh : lk s h = some xs) (hs : lk s sl = some (ctl :: .ob f :: .ob h :: oL o)) :
    res s DEEP (.ob sl) = some (.ro (ctl :: .ro fr :: .ro xs :: oL o)) := by
  refine res_lst (d := 59) hs ?_
  have e1 : res s 59 ctl = some ctl := res_flat (flat_mono (by decide) hc.c.fl)
  have e2 : res s 59 (.ob f) = some (.ro fr) := res_lst (d := 58) hf (res_flats (flats_mono (by decide) hc.f.fl))
  have e3 : res s 59 (.ob h) = some (.ro xs) := res_lst (d := 58) hh (res_flats (flats_mono (by decide) hx.fl))
  have e4 : (oL o).mapM (res s 59) = some (oL o) := res_flats (flats_mono (by decide) ho.fl)
  rw [List.mapM_cons, e1, List.mapM_cons, e2, List.mapM_cons, e3, e4]
  rfl
/-- where a turn begins -/
def eT (v0 : Option D) (b lh : Nat) (m : Nat) (first many : Int) (d6 : Option D) (ctl : D) (lf rs mo kn : Nat) (d12 d13 d14 d15 d16 d17 d18 d19 d20 : Option D) : Env :=
  [v0, some (.ob b), some (.ob lh), some (.int m), some (.int first), some (.int many), d6, some ctl, some (.ob lf), some (.ob rs), some (.ob mo), some (.ob kn), d12, d13, d14, d15, d16, d17, d18, d19, d20]
theorem draw_op (k : Nat) (B : Bx s b a) (ops : List S) (hl : ops ≠ []) (hln : ops.length ≤ 10) {Q : D → Store → Prop} (hQ : ∀ op s', op ∈ ops → Go b a s s' → Q (.str op) s') :
    wp (call prg (k + 1) 18 [.ob b, .int ops.length]) (fun d s' => wp (item (.ob s.length) d) Q s') (s ++ [.lst (ops.map .str)]) := by
  have hn := (B.ge (Nat.le_refl s.length)).1
  refine draw18 k (B.app _) (by have := List.length_pos_iff.mpr hl; omega) fun r s' hr g => ?_
  have hr : r < ops.length := by omega
  have hk : lk s' s.length = some (ops.map .str) := g.lk hn lk_new
  simp [hk, atI_nat]
  refine ⟨.str ops[r], ⟨ops[r], List.getElem?_eq_getElem hr, rfl⟩, ?_⟩
  exact hQ _ _ (List.getElem_mem hr) ((Go.app B _).trans g)
end
end K19
namespace K19
open Li
def bT : List Stm := [.asg (.nm 13) (.ix (.v 11) (.call 18 [(.v 1), (.c (.int 13))])), .asg (.nm 14) (.ix (.lst [(.c (.str [43])), (.c (.str [45])), (.c (.str [42])), (.c (.str [47, 47])), (.c (.str [109, 111, 100]))]) (.call 18 [(.v 1), (.c (.int 5))])), .ite (.cmp .eq (.v 13) (.c (.str [99, 111, 109, 112, 97, 114, 101]))) [.asg (.nm 14) (.ix (.lst [(.c (.str [61, 61])), (.c (.str [33, 61])), (.c (.str [60])), (.c (.str [60, 61])), (.c (.str [62])), (.c (.str [62, 61])), (.c (.str [105, 110])), (.c (.str [110, 111, 116, 105, 110])), (.c (.str [105, 115])), (.c (.str [105, 115, 110, 111, 116]))]) (.call 18 [(.v 1), (.c (.int 10))]))] [], .asg (.nm 15) (.call 26 [(.v 1), (.v 4), (.v 3), (.v 5)]), .asg (.nm 16) (.call 26 [(.v 1), (.v 4), (.v 3), (.v 5)]), .asg (.nm 17) (.call 25 [(.v 1)]), .asg (.nm 18) (.c (.bl false)), .for_ (.nm 19) (.seq (.call 28 [(.v 13), (.v 14), (.v 15), (.v 16), (.v 17)])) [.asg (.nm 20) (.call 27 [(.v 2), (.ix (.v 19) (.c (.int 0))), (.ix (.v 19) (.c (.int 1)))]), .ite (.and (.cmp .ne (.v 20) (.tup [])) (.nt (.v 18))) [.asg (.nm 18) (.c (.bl true)), .asg (.nm 7) (.tup [(.c (.str [99, 97, 108, 108])), (.v 20), (.bin .add (.tup [(.ix (.v 19) (.c (.int 0)))]) (.ix (.v 19) (.c (.int 2)))), (.tup [])]), .ite (.cmp .ne (.ix (.v 19) (.c (.int 3))) (.c (.str []))) [.asg (.nm 8) (.bin .add (.lst [(.tup [(.c (.str [119, 97, 110, 116])), (.ix (.v 19) (.c (.int 3)))])]) (.v 8))] []] []], .ite (.nt (.call 19 [(.call 29 [(.v 10), (.v 13), (.v 14), (.v 15), (.v 16), (.v 17)]), (.v 18)])) [.ret (.c (.bl false))] [], .ite (.nt (.call 19 [(.call 31 [(.v 10)]), (.bin .add (.lst [(.v 7), (.v 8), (.v 2)]) (.v 9))])) [.ret (.c (.bl false))] []]
section
variable {b a mo fp hp lh kn rs lf m j n : Nat} {xs fr : List D} {ctl : D} {o : Oth} {s : Store}
theorem turn_wp (k : Nat) (A : Ds b a mo fp hp lh kn rs) (T : Tn b a mo fp lh kn rs lf xs KN fr o s) (M : Mc mo fp hp ctl fr xs o s) (P : Jp xs m j) (hx : Tells xs 6000000) (m0 : 1 ≤ m) (m1 : m < 100) (j0 : 1 ≤ j) (j1 : j < 100) (W : Told ctl fr n) (hn : n < 30) (ho : Oo o)
    {v0 d6 d12 d13 d14 d15 d16 d17 d18 d19 d20 : Option D} {Qf : Fl → Store → Prop}
    (hQ : ∀ d13 d14 d15 d16 d17 d18 d19 d20 ctl' fr' lf' s', Tn b a mo fp lh kn rs lf' xs KN fr' o s' → Mc mo fp hp ctl' fr' xs o s' → Told ctl' fr' (n + 1) → Qf (.next (eT v0 b lh m ((21 + m : Nat) : Int) j d6 ctl' lf' rs mo kn d12 d13 d14 d15 d16 d17 d18 d19 d20)) s') :
    wS (call prg (k + 7)) bT (eT v0 b lh m ((21 + m : Nat) : Int) j d6 ctl lf rs mo kn d12 d13 d14 d15 d16 d17 d18 d19 d20) Qf s := by
  unfold bT
  generalize hR : Stm.asg (.nm 15) _ :: _ = R0
  suffices main : ∀ (kind op : S) (R : RF) (s : Store), Kd kind op R → Tn b a mo fp lh kn rs lf xs KN fr o s → Mc mo fp hp ctl fr xs o s →
      wS (call prg (k + 7)) R0 (eT v0 b lh m ((21 + m : Nat) : Int) j d6 ctl lf rs mo kn d12 (some (.str kind)) (some (.str op)) d15 d16 d17 d18 d19 d20) Qf s by
    unfold eT
    simp
    refine draw18 _ T.bx (by decide) fun r1 s1 h1 g1 => ?_
    have T1 := T.go A g1
    have M1 := M.go A g1
    obtain ⟨kind, hk⟩ : ∃ kind, KNS[r1]? = some kind := ⟨_, List.getElem?_eq_getElem (show r1 < 13 by omega)⟩
    have hk2 : KN[r1]? = some (.str kind) := by unfold KN; rw [List.getElem?_map, hk]; rfl
    simp [T1.qk, atI_nat, hk2]
    refine draw_op (k + 6) T1.bx [[43], [45], [42], [47, 47], [109, 111, 100]] (by simp) (by simp) fun op s2 hop g2 => ?_
    have T2 := T1.go A g2
    have M2 := M1.go A g2
    rw [wS_ite]
    simp
    have hr : r1 = 0 ∨ r1 = 1 ∨ r1 = 2 ∨ r1 = 3 ∨ r1 = 4 ∨ r1 = 5 ∨ r1 = 6 ∨ r1 = 7 ∨ r1 = 8 ∨ r1 = 9 ∨ r1 = 10 ∨ r1 = 11 ∨ r1 = 12 := by omega
    have cmp : kind = [99, 111, 109, 112, 97, 114, 101] → wS (call prg (k + 7)) (Stm.asg (.nm 14) (.ix (.lst [.c (.str [61, 61]), .c (.str [33, 61]), .c (.str [60]), .c (.str [60, 61]), .c (.str [62]), .c (.str [62, 61]), .c (.str [105, 110]), .c (.str [110, 111, 116, 105, 110]), .c (.str [105, 115]), .c (.str [105, 115, 110, 111, 116])]) (.call 18 [.v 1, .c (.int 10)])) :: R0) (eT v0 b lh m ((21 + m : Nat) : Int) j d6 ctl lf rs mo kn d12 (some (.str kind)) (some (.str op)) d15 d16 d17 d18 d19 d20) Qf s2 := by
      intro e
      subst e
      unfold eT
      simp
      refine draw_op (k + 6) T2.bx [[61, 61], [33, 61], [60], [60, 61], [62], [62, 61], [105, 110], [110, 111, 116, 105, 110], [105, 115], [105, 115, 110, 111, 116]] (by simp) (by simp) fun op s3 hop g3 => ?_
      simp only [List.mem_cons, List.not_mem_nil, or_false] at hop
      have T3 := T2.go A g3
      have M3 := M2.go A g3
      rcases hop with rfl | rfl | rfl | rfl | rfl | rfl | rfl | rfl | rfl | rfl <;> exact main _ _ _ _ (by constructor) T3 M3
    simp only [List.mem_cons, List.not_mem_nil, or_false] at hop
    by_cases hc : kind = [99, 111, 109, 112, 97, 114, 101]
    · rw [if_pos hc]
      have q := cmp hc
      unfold eT at q
      simp at q ⊢
      exact q
    · rw [if_neg hc]
      rcases hr with rfl | rfl | rfl | rfl | rfl | rfl | rfl | rfl | rfl | rfl | rfl | rfl | rfl
      all_goals cases hk
      all_goals first
        | exact (hc rfl).elim
        | (rcases hop with rfl | rfl | rfl | rfl | rfl <;> exact main _ _ _ _ (by constructor) T2 M2)
  clear T M
  intro kind op R s K T M
  rw [← hR]
  unfold eT
  simp
  refine operand_wp (k + 4) T.bx P m0 m1 j0 j1 fun va Fa s1 Oa g1 => ?_
  have T := T.go A g1
  have M := M.go A g1
  try simp
  refine operand_wp (k + 4) T.bx P m0 m1 j0 j1 fun vb Fb s2 Ob g2 => ?_
  have T := T.go A g2
  have M := M.go A g2
  try simp
  obtain ⟨t, hpre⟩ := P.pre
  refine plain_wp (k + 5) T.bx hpre fun vc Fc s3 Oc g3 => ?_
  have T := T.go A g3
  have M := M.go A g3
  try simp
  rw [wS_for]
  try simp
  obtain ⟨nn, ids, t2, hrow, hids, hrows, hge⟩ := rows_ok (s := s3) (k + 6) K va vb vc Fa Fb
  rw [wpc hrow]
  have T := T.app t2
  have M := M.app t2
  have hb3 := g3.bx.lt
  have hok := K.rok Oa Ob Oc
  have hlen := K.len (a := va) (b := vb) (c := vc) (Fa := Fa) (Fb := Fb)
  have hrl := hrows.len
  generalize s3 ++ t2 = s4 at T M hids hrows
  generalize hrs : R va vb vc Fa Fb = rows at *
  have hfin := outc_told hok W
  generalize hf : outc rows ctl fr = fin at hfin
  obtain ⟨I, hI⟩ : ∃ I : List D → Env → Store → Prop, I = fun r e s => ∃ (ids' : List Nat) (rest : List (D × Row)) (ak : Bool) (c' : D) (f' : List D) (lf' : Nat) (d19 d20 : Option D), r = ids'.map .ob ∧ RowsAt s ids' rest ∧ (∀ p ∈ rest, Rok xs p) ∧ (if ak = true then (true, c', f') else outc rest c' f') = fin ∧ f'.length + rest.length ≤ 40 ∧ lk s nn = some (ids.map .ob) ∧
      Tn b a mo fp lh kn rs lf' xs KN f' o s ∧ Mc mo fp hp ctl fr xs o s ∧ e = eT v0 b lh m ((21 + m : Nat) : Int) j d6 c' lf' rs mo kn d12 (some (.str kind)) (some (.str op)) (some va) (some vb) (some vc) (some (.bl ak)) d19 d20 := ⟨_, rfl⟩
  have hWl := W.l
  refine wFd_ob (xs := ids.map .ob) (Nat.lt_of_lt_of_le (by rw [List.length_map]; omega : _ < 1000) (by decide)) I (fun r e s z => by rw [hI] at z; obtain ⟨_, _, _, _, _, _, _, _, _, _, _, _, _, h, _⟩ := z; exact h) (by rw [hI]; exact ⟨ids, rows, false, ctl, fr, lf, _, _, rfl, hrows, hok, hf, by omega, hids, T, M, rfl⟩) (fun y r e s z => ?_) fun e s z => ?_
  · rw [hI] at z
    obtain ⟨ids', rest, ak, c', f', lf', d19, d20, hr, hra, hrk, hfo, hfl, hnn, T, M, rfl⟩ := z
    cases ids' with
    | nil => cases hr
    | cons i ids' =>
      cases hr
      cases rest with
      | nil => exact hra.elim
      | cons p rest =>
        obtain ⟨f, rw_⟩ := p
        obtain ⟨v, x, args, what⟩ := rw_
        obtain ⟨hi, hra⟩ := hra
        have hi : lk s i = some [v, .str x, .tup args, .str what] := hi
        have hrk1 := hrk _ (List.mem_cons_self ..)
        have hrk2 : ∀ p ∈ rest, Rok xs p := fun p hp => hrk p (List.mem_cons_of_mem _ hp)
        obtain ⟨F, O, hF⟩ := hrk1.ex
        have O : Opr xs v F := O
        have hF : f = F x := hF
        have hFd := O.res x
        have hl : f'.length + (rest.length + 1) ≤ 40 := hfl
        have hwh : what.length ≤ 8 := hrk1.wl
        have h2 : args.length ≤ 2 := hrk1.n
        unfold eT
        simp [hi]
        rw [wpc (O.law (k + 6) lh s x T.qh), ← hF]
        rw [← hF] at hFd
        rw [wS_ite]
        simp
        rw [hFd.ne]
        by_cases hnl : isNil f = true
        · simp [hnl]
          rw [hI]
          refine ⟨ids', rest, ak, c', f', lf', _, _, rfl, hra, hrk2, ?_, by omega, hnn, T, M, rfl⟩
          rw [← hfo]
          cases ak with
          | true => rfl
          | false =>
            simp only [Bool.false_eq_true, if_false]
            conv => rhs; unfold outc
            rw [if_pos hnl]
        · have hnf : isNil f = false := by simpa using hnl
          cases ak with
          | true =>
            simp [hnl]
            rw [hI]
            exact ⟨ids', rest, true, c', f', lf', _, _, rfl, hra, hrk2, hfo, by omega, hnn, T, M, rfl⟩
          | false =>
            have hfo : outc ((f, ⟨v, x, args, what⟩) :: rest) c' f' = fin := hfo
            unfold outc at hfo
            rw [if_neg hnl] at hfo
            have hargs : 1 + args.length ≤ LINE := Nat.le_trans (by omega : _ ≤ 1000) (by decide)
            have hfl2 : 1 + f'.length ≤ LINE := Nat.le_trans (by omega : _ ≤ 1000) (by decide)
            simp [hnl, hi, hargs]
            rw [wS_ite]
            simp [hi]
            by_cases hw : what = []
            · simp [hw]
              rw [hI]
              refine ⟨ids', rest, true, _, f', lf', _, _, rfl, hra, hrk2, ?_, by omega, hnn, T, M, rfl⟩
              rw [← hfo]
              simp [ctlN, frN, hnl, hw]
            · simp [hw, hi]
              have hold : ∀ t, lk (s ++ t) lf' = some f' := fun t => lk_old T.qf
              have hold2 : ∀ t, lk (s ++ t) i = some [v, .str x, .tup args, .str what] := fun t => lk_old hi
              simp [hold, hold2, lk_app, lk_app0, hfl2]
              rw [hI]
              refine ⟨ids', rest, true, _, _, _, _, _, rfl, hra.app, hrk2, ?_, ?_, lk_old hnn, T.new A M (n := s.length + 1) (by omega) (by rw [lk_app]; rfl), M.app _, rfl⟩
              · rw [← hfo]
                simp [ctlN, frN, hnl, hw]
              · simp
                omega
  · rw [hI] at z
    obtain ⟨ids', rest, ak, c', f', lf', d19, d20, hr, hra, hrk, hfo, hfl, hnn, T, M, rfl⟩ := z
    have hid : ids' = [] := by cases ids' with | nil => rfl | cons _ _ => cases hr
    subst hid
    have hrest : rest = [] := by cases rest with | nil => rfl | cons _ _ => exact hra.elim
    subst hrest
    have hfin2 : fin = (ak, c', f') := by
      rw [← hfo]
      cases ak <;> rfl
    clear hI I
    obtain ⟨s5, e5, M5, C5⟩ := ask_ok (c := vc) k M (by omega) Oa Ob K
    rw [hrs, hf, hfin2] at e5 M5
    rw [hfin2] at hfin
    have e5 : call prg (k + 7) 29 [.ob mo, .str kind, .str op, va, vb, vc] s = .ok (.bl ak) s5 := e5
    have M5 : Mc mo fp hp c' f' xs o s5 := M5
    have W5 : Told c' f' (n + 1) := hfin
    have T5 := T.ch A C5
    unfold eT
    rw [wS_ite]
    simp
    rw [wpc e5]
    have hbl : okS (.bl ak) = true := by cases ak <;> decide +kernel
    try simp
    rw [wpc (same_ok (k + 6) (x := .bl ak) rfl rfl hbl)]
    simp
    rw [wS_ite]
    simp
    rw [wpc (told_ok (k + 6) M5)]
    simp
    have hl5 : ∀ t, lk (s5 ++ t) rs = some (oL o) := fun t => lk_old T5.qr
    simp [lk_app, hl5, Nat.add_assoc, oL]
    have hf2 : ∀ t, lk (s5 ++ t) fp = some f' := fun t => lk_old M5.f
    have hh2 : ∀ t, lk (s5 ++ t) hp = some xs := fun t => lk_old M5.h
    have hf3 : ∀ t, lk (s5 ++ t) lf' = some f' := fun t => lk_old T5.qf
    have hh3 : ∀ t, lk (s5 ++ t) lh = some xs := fun t => lk_old T5.qh
    have hokS := tell_all (m := 0) W5 (by omega) hx ho
    generalize htt : ([O.lst _, O.lst _, O.lst _, O.lst _, O.lst _] : Store) = tt
    have r1 : res (s5 ++ tt) DEEP (.ob (s5.length + 2)) = some (.ro (c' :: .ro f' :: .ro xs :: oL o)) := res_all (fun _ _ _ => trivial) W5 hx ho (hf2 tt) (hh2 tt) (by rw [lk_app, ← htt]; rfl)
    have r2 : res (s5 ++ tt) DEEP (.ob (s5.length + 4)) = some (.ro (c' :: .ro f' :: .ro xs :: oL o)) := res_all (fun _ _ _ => trivial) W5 hx ho (hf3 tt) (hh3 tt) (by rw [lk_app, ← htt]; rfl)
    rw [wpc (same_ok (k + 6) r1 r2 hokS)]
    simp
    exact hQ _ _ _ _ _ _ _ _ _ _ _ _ (T5.app tt) (M5.app tt) W5
end
end K19
namespace K19
open Li
theorem at33 : prg[33]? = some f33 := rfl
theorem draw_ix (k : Nat) {s : Store} {b a : Nat} (B : Bx s b a) (ds : List D) (hl : 0 < ds.length) {Q : D → Store → Prop} (hQ : ∀ d s', d ∈ ds → Go b a s s' → Q d s') :
    wp (call prg (k + 1) 18 [.ob b, .int ds.length]) (fun d s' => wp (item (.ob s.length) d) Q s') (s ++ [.lst ds]) := by
  have hn := (B.ge (Nat.le_refl s.length)).1
  refine draw18 k (B.app _) (by omega) fun r s' hr g => ?_
  have hr : r < ds.length := by omega
  have hk : lk s' s.length = some ds := g.lk hn lk_new
  simp [hk, atI_nat]
  exact ⟨ds[r], List.getElem?_eq_getElem hr, hQ _ _ (List.getElem_mem hr) ((Go.app B _).trans g)⟩
theorem tell_int {i : Int} (h : i.natAbs < 2 ^ 64) : Tells [.int i] 3000 :=
  ⟨rfl, by simp only [plains, plain, Bool.and_true]; exact decide_eq_true (small_log h), by simp [costs, cost]⟩
theorem init_ok (k : Nat) {n f h : Nat} {ctl : D} {o : Oth} {s : Store} (hn : li s n = some (0, [])) : call prg (k + 1) 33 [.ob n, ctl, .ob f, .ob h, o.out, o.act, o.here, o.line, o.steps] s = .ok .non (s.set n (.ins 0 (mF ctl f h o))) := by
  refine spec_of fun Q hQ => ?_
  have hl := li_lt hn
  have hs : ∀ fs, li (s.set n (.ins 0 fs)) n = some (0, fs) := fun fs => li_same hl
  rw [wp_call at33 rfl]
  unfold f33
  simp [start, hn, hs, hl, putF]
  exact hQ
def TKN : S := [98, 105, 110, 97, 114, 121, 32, 98, 105, 110, 97, 114, 121, 32, 99, 111, 109, 112, 97, 114, 101, 32, 99, 111, 109, 112, 97, 114, 101, 32, 99, 111, 109, 112, 97, 114, 101, 32, 109, 105, 110, 117, 115, 32, 105, 116, 101, 109, 32, 112, 117, 116, 32, 100, 114, 111, 112, 32, 108, 101, 110, 32, 116, 101, 120, 116, 32, 114, 101, 112, 114, 32, 105, 116, 101, 114]
theorem tkn_w : wordsS TKN = KNS := by decide +kernel
theorem tkn_ok : (wordsS TKN).all okC = true := by decide +kernel
theorem law_wp (k : Nat) (ns : List Int) {Q : D → Store → Prop} (st : Store) (hQ : ∀ s, Q (.bl true) s) : wp (call prg (k + 8) 32 [.ro (ns.map .int)]) Q st := by
  rw [wp_call at32 rfl]
  unfold f32
  generalize hb1 : Stm.for_ (.nm 6) (.rng [(.v 5)]) _ = loop1
  generalize hb2 : Stm.for_ (.nm 12) _ _ = loop2
  simp [start]
  refine digits_wp (k := k + 5) at17 at16 ns fun ds => ?_
  try simp
  have hbx := bx_new (st := st) ds
  generalize hs : st ++ [O.lst (ds.map .int)] ++ [O.lst [.ob st.length, .int 0]] = s0 at hbx
  have e1 : st ++ [O.lst (List.map D.int ds), O.lst [D.ob (List.length st), D.int 0]] = s0 := by rw [← hs]; simp
  rw [e1]
  generalize st.length = a at hbx
  generalize hbb : a + 1 = b at hbx
  clear hs e1 hbb st
  refine start_wp (k + 6) hbx fun s1 lh hh hge1 g1 => ?_
  try simp
  rw [wpc (names_ok (k + 6))]
  have hb0 := hbx.lt
  have gl := hbx.ge hge1
  have B1 := g1.bx
  have hn1 : lk (s1 ++ [O.lst (WNM.map .str), O.lst (NM.map .str)]) (s1.length + 1) = some (NM.map .str) := by rw [lk_app]; rfl
  have hh1 : lk (s1 ++ [O.lst (WNM.map .str), O.lst (NM.map .str)]) lh = some HS := lk_old hh
  have gn := B1.ge (Nat.le_succ s1.length)
  have hlh : lh ≠ s1.length + 1 := by have := lk_lt hh; omega
  have B2 := B1.app [O.lst (WNM.map .str), O.lst (NM.map .str)]
  have hNM : NM.length = 21 := by unfold NM; rw [List.length_map, wnm_len]
  refine classes_wp (k + 3) ⟨B2, hh1, hn1⟩ gl.1 gn.1 gl.2 hlh hNM nm_ok fun xs m s3 hm1 hm59 P E => ?_
  clear hn1 hh1 hh B2 B1 g1 hbx
  simp [E.hp, P.len]
  have P := P.j
  have E1 := E.bx
  have E2 := E.hp
  refine draw18 (k + 6) E.bx (by decide) fun r1 s4 hr1 g4 => ?_
  have B4 := g4.bx
  have H4 := g4.lk gl.1 E.hp
  clear E1 E2
  simp
  rw [← hb1, wS_rng]
  simp
  refine ⟨by unfold inBig BIG; omega, ?_⟩
  obtain ⟨I, hI⟩ : ∃ I : Nat → Env → Store → Prop, I = fun j e s => ∃ xs d6, Jp xs m j ∧ Bx s b a ∧ lk s lh = some xs ∧ e = [some (.ro (ns.map .int)), some (.ob b), some (.ob lh), some (.int m), some (.int (21 + (m : Int))), some (.int (1 + (r1 : Int))), d6, none, none, none, none, none, none, none, none, none, none, none, none, none, none] := ⟨_, rfl⟩
  have e0 : ((1 : Int) + (r1 : Int)).toNat = r1 + 1 := by omega
  rw [e0]
  refine wF_range I (by rw [hI]; exact ⟨xs, _, P, B4, H4, rfl⟩) (fun j e s hj z => ?_) fun e s z => ?_
  · rw [hI] at z
    obtain ⟨xs, d6, P, B, H, rfl⟩ := z
    have hj : j < 4 := by omega
    simp [H]
    refine draw18 (k + 6) B (by omega) fun r s5 hr g5 => ?_
    have H5 := g5.lk gl.1 H
    have B5 := g5.bx
    simp
    rw [wpc (names_ok (k + 6))]
    have hn5 : lk (s5 ++ [O.lst (WNM.map .str), O.lst (NM.map .str)]) (s5.length + 1) = some (NM.map .str) := by rw [lk_app]; rfl
    have H6 : lk (s5 ++ [O.lst (WNM.map .str), O.lst (NM.map .str)]) lh = some xs := lk_old H5
    have B6 := B5.app [O.lst (WNM.map .str), O.lst (NM.map .str)]
    have gn := B5.ge (Nat.le_succ s5.length)
    refine gmembers_wp (k + 4) B6 hn5 gn.1 hNM nm_ok (by decide) fun mm s7 hmm g7 => ?_
    have H7 := g7.lk gl.1 H6
    simp [H7, P.len]
    refine ⟨Nat.lt_of_lt_of_le (by omega : _ < 1000) (by decide), lk_lt H7, ?_⟩
    have en : (21 + (m : Int) - 1 - (r : Int)) = ((20 + m - r : Nat) : Int) := by omega
    rw [hI, en]
    exact ⟨_, _, P.next (by omega) (.inr ⟨by omega, by omega⟩) hmm, g7.bx.set gl.1 gl.2, lk_same (lk_lt H7), rfl⟩
  · rw [hI] at z
    obtain ⟨xs, d6, P, B, H, rfl⟩ := z
    clear hI I
    have hx : Tells xs 6000000 := P.tell.mono (by omega)
    simp
    refine draw_ix (k + 6) B [.tup [.str [118, 97, 108, 117, 101], .tup [.str [105, 110, 116], .int 7]], .tup [.str [100, 111, 110, 101]]] (by simp) fun ctl s5 hc g5 => ?_
    have hct : Tell ctl 60000 := by
      simp only [List.mem_cons, List.not_mem_nil, or_false] at hc
      rcases hc with rfl | rfl <;> exact ⟨by decide +kernel, by decide +kernel, by decide +kernel⟩
    have B := g5.bx
    have H := g5.lk gl.1 H
    refine frames_wp (k + 5) B fun fr lf s6 hlf hfl hft hge6 g6 => ?_
    have H := g6.lk gl.1 H
    have gf := B.ge hge6
    have B := g6.bx
    simp
    refine draw18 (k + 6) B (by decide) fun q1 s7 hq1 g7 => ?_
    have B := g7.bx
    have H := g7.lk gl.1 H
    have F := g7.lk gf.1 hlf
    try simp
    refine draw18 (k + 6) B (by decide) fun q2 s8 hq2 g8 => ?_
    have B := g8.bx
    have H := g8.lk gl.1 H
    have F := g8.lk gf.1 F
    try simp
    refine draw18 (k + 6) B (by decide) fun q3 s9 hq3 g9 => ?_
    have B := g9.bx
    have H := g9.lk gl.1 H
    have F := g9.lk gf.1 F
    try simp
    refine draw18 (k + 6) B (by decide) fun q4 s10 hq4 g10 => ?_
    have B := g10.bx
    have H := g10.lk gl.1 H
    have F := g10.lk gf.1 F
    have hH : ∀ t, lk (s10 ++ t) lh = some xs := fun t => lk_old H
    have hF : ∀ t, lk (s10 ++ t) lf = some fr := fun t => lk_old F
    have hb3 : ∀ ds : List D, ∀ n, s10 ++ O.lst ds :: n = (s10 ++ [.lst ds]) ++ n := fun ds n => by simp
    generalize hTT : ([98, 105, 110, 97, 114, 121, 32, 98, 105, 110, 97, 114, 121, 32, 99, 111, 109, 112, 97, 114, 101, 32, 99, 111, 109, 112, 97, 114, 101, 32, 99, 111, 109, 112, 97, 114, 101, 32, 109, 105, 110, 117, 115, 32, 105, 116, 101, 109, 32, 112, 117, 116, 32, 100, 114, 111, 112, 32, 108, 101, 110, 32, 116, 101, 120, 116, 32, 114, 101, 112, 114, 32, 105, 116, 101, 114] : List Nat) = TT
    obtain rfl : TT = TKN := hTT.symm
    have tk1 : TKN.length + 2 ≤ LINE := Nat.le_trans (by decide : _ ≤ 1000) (by decide)
    have tk2 := tkn_ok
    have tk3 := tkn_w
    generalize TKN = TT at tk1 tk2 tk3 ⊢
    simp only [List.all_eq_true] at tk2
    simp [lk_app, lk_app0, hH, hF, Nat.add_assoc]
    obtain ⟨oo, hoo⟩ : ∃ oo, cut [97, 98] none (some (q1 : Int)) = oo ∧ oo.length ≤ 2 ∧ ∀ c ∈ oo, c < 128 := by
      refine ⟨_, rfl, ?_⟩
      have : q1 = 0 ∨ q1 = 1 ∨ q1 = 2 := by omega
      rcases this with rfl | rfl | rfl <;> exact ⟨by decide, by decide⟩
    obtain ⟨ho1, ho2, ho3⟩ := hoo
    rw [ho1]
    obtain ⟨o, ho⟩ : ∃ o : Oth, o = ⟨.str oo, .int q2, .str [102], .int (1 + (q3 : Int)), .int q4⟩ := ⟨_, rfl⟩
    have hol : ([.str oo, .int q2, .str [102], .int (1 + (q3 : Int)), .int q4] : List D) = oL o := by rw [ho]; rfl
    have hO : Oo o := by
      have t0 : Tells [.str oo] 3000 := by
        refine ⟨rfl, ?_, ?_⟩
        · simp only [plains, plain, Bool.and_true]
          rw [List.all_eq_true]
          intro c hc
          have := ho3 c hc
          exact decide_eq_true (by omega)
        · simp [costs, cost]
          omega
      have t2 : Tells [.str [102]] 3000 := ⟨rfl, rfl, by decide⟩
      have t : Tells (oL o) 15000 := by
        rw [← hol]
        exact (t0.app ((tell_int (by omega)).app (t2.app ((tell_int (by omega)).app (tell_int (by omega)))))).mono (by omega)
      exact ⟨by rw [← hol]; rfl, t.mono (by omega)⟩
    have hli : li (s10 ++ [O.lst (oL o), O.lst fr, O.lst xs, O.ins 0 []]) (s10.length + 3) = some (0, []) := li_of (by rw [List.getElem?_append_right (by omega)]; simp)
    have hini := init_ok (k + 6) (f := s10.length + 1) (h := s10.length + 2) (ctl := ctl) (o := o) hli
    rw [set_app] at hini
    have hini : call prg (k + 7) 33 (.ob (s10.length + 3) :: ctl :: .ob (s10.length + 1) :: .ob (s10.length + 2) :: oL o) (s10 ++ [O.lst (oL o), O.lst fr, O.lst xs, O.ins 0 []]) = _ := hini
    rw [hol, wpc hini]
    have e4 : ([O.lst (oL o), O.lst fr, O.lst xs, O.ins 0 []] : Store).set 3 (.ins 0 (mF ctl (s10.length + 1) (s10.length + 2) o)) = [O.lst (oL o), O.lst fr, O.lst xs, .ins 0 (mF ctl (s10.length + 1) (s10.length + 2) o)] := rfl
    rw [e4]
    simp
    have tk4 : 78 ≤ LINE := Nat.le_trans (by decide : _ ≤ 1000) (by decide)
    refine ⟨⟨tk4, tk2⟩, ?_⟩
    rw [tk3]
    have f1 := lk_lt H
    have f2 := lk_lt F
    have f3 := B.lt
    have f4 : a < s10.length := by
      obtain ⟨_, _, B'⟩ := B
      exact lk_lt B'.dig
    have Dd : Ds b a (s10.length + 3) (s10.length + 1) (s10.length + 2) lh (s10.length + 4) s10.length := ⟨gl.1, by omega, by omega, by omega, by omega, by omega, by omega, by omega, by omega, by omega, by omega, by omega, by omega, by omega⟩
    have TT0 : Tn b a (s10.length + 3) (s10.length + 1) lh (s10.length + 4) s10.length lf xs KN fr o (s10 ++ [O.lst (oL o), O.lst fr, O.lst xs, .ins 0 (mF ctl (s10.length + 1) (s10.length + 2) o), .lst KN]) :=
      ⟨B.app _, lk_old H, by rw [lk_app]; rfl, by rw [lk_app0]; rfl, lk_old F, gf.1, by omega, by omega⟩
    have MM0 : Mc (s10.length + 3) (s10.length + 1) (s10.length + 2) ctl fr xs o (s10 ++ [O.lst (oL o), O.lst fr, O.lst xs, .ins 0 (mF ctl (s10.length + 1) (s10.length + 2) o), .lst KN]) :=
      ⟨li_of (by rw [List.getElem?_append_right (by omega)]; simp), by rw [lk_app]; rfl, by rw [lk_app]; rfl, by omega, by omega, by omega⟩
    have W0 : Told ctl fr 3 := ⟨hct, hft.mono (by omega), hfl⟩
    rw [← hb2, wS_rng]
    simp
    refine ⟨by decide, ?_⟩
    obtain ⟨I, hI⟩ : ∃ I : Nat → Env → Store → Prop, I = fun j e s => ∃ d12 d13 d14 d15 d16 d17 d18 d19 d20 ctl' fr' lf', Tn b a (s10.length + 3) (s10.length + 1) lh (s10.length + 4) s10.length lf' xs KN fr' o s ∧ Mc (s10.length + 3) (s10.length + 1) (s10.length + 2) ctl' fr' xs o s ∧ Told ctl' fr' (3 + j) ∧
        e = eT (some (.ro (ns.map .int))) b lh m ((21 + m : Nat) : Int) ((r1 + 1 : Nat) : Int) d6 ctl' lf' s10.length (s10.length + 3) (s10.length + 4) d12 d13 d14 d15 d16 d17 d18 d19 d20 := ⟨_, rfl⟩
    refine wF_range I (by rw [hI]; exact ⟨_, _, _, _, _, _, _, _, _, ctl, fr, lf, TT0, MM0, W0, by
      unfold eT
      have e6 : ((21 + m : Nat) : Int) = 21 + (m : Int) := by omega
      have e7 : ((r1 + 1 : Nat) : Int) = 1 + (r1 : Int) := by omega
      rw [e6, e7]⟩) (fun j e s hj z => ?_) fun e s z => ?_
    · rw [hI] at z
      obtain ⟨d12, d13, d14, d15, d16, d17, d18, d19, d20, ctl', fr', lf', T, M, W, rfl⟩ := z
      have hj : j < 18 := hj
      refine turn_wp (n := 3 + j) (j := r1 + 1) k Dd T M P hx hm1 (by omega) (by omega) (by omega) W (by omega) hO fun d13 d14 d15 d16 d17 d18 d19 d20 ctl' fr' lf' s' T M W => ?_
      simp only [trn_next]
      rw [hI]
      exact ⟨_, _, _, _, _, _, _, _, _, ctl', fr', lf', T, M, W, rfl⟩
    · simp
      exact hQ s
theorem pure_ok : ∀ ns : List Int, ns.length ≤ 63 → ∃ st, call prg 30 32 [.ro (ns.map .int)] [] = .ok (.bl true) st := by
  intro ns _
  have q : wp (call prg 30 32 [.ro (ns.map .int)]) (fun d _ => d = .bl true) [] := law_wp 22 ns [] fun s => rfl
  obtain ⟨d, s, e, rfl⟩ := wp_out q
  exact ⟨s, e⟩
end K19
theorem PySem.Challenge.cw_pyhold_k19_own_methods_are_called_holds : PySem.Challenge.rw_pyhold_k19_own_methods_are_called.Holds := by
  exact K19.of_pure K19.pure_ok
