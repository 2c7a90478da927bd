/- FnExactPushPacket, over numbers and lists alone: what the program's function and the reference's answer is one. Conditions: the numbers are of their kinds. -/
import Derived.Test.YtindlpkkapelhaaKindsFnExactPushPacket
import Derived.Test.YtindlpkkapelhaaBase
namespace Go.Proofs.Ytindlpkkapelhaa.PureFnExactPushPacket
open Go.RowKit Go.Proofs.Ytindlpkkapelhaa.PFnExactPushPacket Go.Proofs.YtindlpkkapelhaaW.PrintWords Go.Proofs.YtindlpkkapelhaaW.PrintLast Go.Proofs.YtindlpkkapelhaaW.PrintMore Go.Proofs.Ytindlpkkapelhaa.Base
set_option linter.unusedVariables false
set_option linter.unusedSimpArgs false

/-! laws_szPacketS -/
theorem laws_szPacketS.val (l : List S65) (a : Int) (h0 : 0 ≤ a) (h1 : a ≤ 1048576) (hl : l.length ≤ maxLen) :
    ∃ t, laws_szPacketS.f l a = some t ∧ t ≤ a ∧ (0 ≤ t → t = a - l.length ∧ l.length ≤ 1048576) := by
  unfold maxLen at hl
  unfold laws_szPacketS.f
  rw [wrap_id (by omega) (by omega)]
  by_cases h : a - (l.length : Int) < 0
  · rw [if_pos h]; exact ⟨_, rfl, by omega, by omega⟩
  · rw [if_neg h]; exact ⟨_, rfl, by omega, by omega⟩

/-! laws_szQueue -/
theorem laws_szQueue.val (l : List S65) (a : Int) (h0 : 0 ≤ a) (h1 : a ≤ 1048576) (hl : l.length ≤ maxLen) :
    ∃ t, laws_szQueue.f l a = some t ∧ t ≤ a ∧ (0 ≤ t → t = a - l.length ∧ l.length ≤ 1048576) := by
  obtain ⟨t, h, h2, h3⟩ := laws_szPacketS.val l a h0 h1 hl
  unfold laws_szQueue.f
  rw [h, Option.bind_some]
  by_cases ht : t < 0
  · rw [if_pos ht]; exact ⟨_, rfl, by omega, by omega⟩
  · rw [if_neg ht]; exact ⟨_, rfl, h2, h3⟩

/-! spec_l24Copy -/
theorem spec_l24Copy.val (l : List S73) (hl : l.length ≤ 1048576) : spec_l24Copy.f l = some l := by
  unfold spec_l24Copy.f
  rw [Option.bind_some, if_pos (by simp only [List.length_nil]; omega), List.nil_append]

/-! d_push -/
def hasId (l : List S73) (a : Int) : Bool := l.any fun x => x.f0 == a
def pushQ (l : List S73) (x : S73) : List S73 × Bool := if (l.length : Int) ≥ 12 then (l, false) else if hasId l x.f0 = true then (l, false) else (l ++ [x], true)
theorem pushQ_len (l : List S73) (x : S73) (hl : l.length ≤ 1048576) : (pushQ l x).1.length ≤ 1048576 := by
  unfold pushQ
  split
  · exact hl
  · split
    · exact hl
    · show (l ++ [x]).length ≤ 1048576
      rw [List.length_append, List.length_singleton]
      omega

/-! spec_FindPacket -/
theorem spec_FindPacket.ev_l (l : List S73) (a : Int) (hl : l.length ≤ 1048576) : ∀ (d i : Nat), i + d = l.length → ∃ r, Ev (fun k => spec_FindPacket.l0 k a i l) r ∧ decide (r ≥ 0) = (l.drop i).any (fun x => x.f0 == a) := by
  intro d
  induction d with
  | zero =>
    intro i hi
    exact ⟨-1, Ev.one fun k => by simp only [spec_FindPacket.l0]; rw [if_neg (by omega)], by rw [List.drop_eq_nil_of_le (by omega)]; rfl⟩
  | succ d ih =>
    intro i hi
    rw [drop_cons l z73 (show i < l.length by omega), List.any_cons]
    by_cases h : (l.getD i z73).f0 = a
    · refine ⟨(i : Int), Ev.one fun k => ?_, ?_⟩
      · simp only [spec_FindPacket.l0]
        rw [if_pos (by omega), if_pos (by omega), if_pos (show (rd_T73 l (i : Int)).f0 = a from h)]
      · rw [h]; simp
    · obtain ⟨r, hr, hd⟩ := ih (i + 1) (by omega)
      refine ⟨r, Ev.step (fun k => ?_) hr, ?_⟩
      · simp only [spec_FindPacket.l0]
        rw [if_pos (by omega), if_pos (by omega), if_neg (show ¬ (rd_T73 l (i : Int)).f0 = a from h), wrap_nat (by omega)]
      · have : ((l.getD i z73).f0 == a) = false := by rw [beq_eq_false_iff_ne]; exact h
        rw [this, Bool.false_or, hd]
theorem spec_FindPacket.ev (l : List S73) (a : Int) (hl : l.length ≤ 1048576) : ∃ r, Ev (fun k => spec_FindPacket.f k l a) r ∧ decide (r ≥ 0) = hasId l a := by
  have := spec_FindPacket.ev_l l a hl l.length 0 (by omega)
  rw [List.drop_zero] at this
  exact this

/-! spec_PushPacket -/
theorem spec_PushPacket.ev (l : List S73) (x : S73) (hl : l.length ≤ 1048576) : Ev (fun k => spec_PushPacket.f k l x.f0 x.f1 x.f2 x.f3 x.f4 x.f5) (pushQ l x) := by
  refine Ev.congr (fun k => by unfold spec_PushPacket.f; rw [spec_l24Copy.val l hl, Option.bind_some]) ?_
  unfold pushQ
  by_cases h : (l.length : Int) ≥ 12
  · rw [if_pos h]
    exact Ev.all fun k => by rw [if_pos h]
  · rw [if_neg h]
    obtain ⟨r, hr, e⟩ := spec_FindPacket.ev l x.f0 hl
    refine Ev.congr (fun k => by rw [if_neg h]) (Ev.bind hr ?_)
    by_cases h2 : r ≥ 0
    · have e2 : hasId l x.f0 = true := by rw [← e]; exact decide_eq_true h2
      rw [if_pos e2]
      exact Ev.all fun k => by rw [if_pos h2]
    · have e2 : ¬ hasId l x.f0 = true := by rw [← e]; simpa using h2
      rw [if_neg e2]
      exact Ev.all fun k => by rw [if_neg h2, if_pos (by omega)]

/-! laws_toPacketS -/
def cPacket (x : S65) : S73 := ⟨x.f0, x.f1, x.f2, x.f3, x.f4, x.f5⟩
theorem laws_toPacketS.ev_l (l : List S65) (hl : l.length ≤ 1048576) : ∀ (d i : Nat) (o : List S73), i + d = l.length → o.length = l.length → o.take i = (l.map cPacket).take i → Ev (fun k => laws_toPacketS.l0 k l o i) (l.map cPacket) := by
  intro d
  induction d with
  | zero =>
    intro i o hi ho ht
    refine Ev.one fun k => ?_
    simp only [laws_toPacketS.l0]
    rw [if_neg (by omega), take_full (by simpa using ho) (by simp; omega) ht]
  | succ d ih =>
    intro i o hi ho ht
    refine Ev.step (fun k => ?_) (ih (i + 1) (o.set i (cPacket (l.getD i z65))) (by omega) (by simp [ho]) (set_take o _ _ (by simpa using ho) (get_map cPacket l z65 (by omega)) ht))
    simp only [laws_toPacketS.l0, laws_toPacket.f, Option.bind_some]
    rw [if_pos (by omega), if_pos (by omega), if_pos (by omega), wrap_nat (by omega)]
    rfl
theorem laws_toPacketS.ev (l : List S65) (hl : l.length ≤ 1048576) : Ev (fun k => laws_toPacketS.f k l) (l.map cPacket) :=
  Ev.congr (fun k => by unfold laws_toPacketS.f; rw [if_pos (by omega), if_pos (by omega)] <;> rfl) (laws_toPacketS.ev_l l hl l.length 0 _ (by omega) (by simp) (by simp))

/-! laws_toQueue -/
theorem laws_toQueue.ev (l : List S65) (hl : l.length ≤ 1048576) : Ev (fun k => laws_toQueue.f k l) (l.map cPacket) := Ev.bind (laws_toPacketS.ev l hl) (Ev.now _)

/-! slices_Clone_impl_Packet_impl_Packet -/
theorem slices_Clone_impl_Packet_impl_Packet.val (l : List S73) (hl : l.length ≤ 1048576) : slices_Clone_impl_Packet_impl_Packet.f l = some l := by
  unfold slices_Clone_impl_Packet_impl_Packet.f
  rw [if_pos (by omega)]

/-! impl_cloneQueue -/
theorem impl_cloneQueue.val (l : List S73) (hl : l.length ≤ 1048576) : impl_cloneQueue.f l = some l := by
  unfold impl_cloneQueue.f
  rw [slices_Clone_impl_Packet_impl_Packet.val l hl]; rfl

/-! slices_IndexFunc_impl_Packet_impl_Packet -/
theorem slices_IndexFunc_impl_Packet_impl_Packet.idxAt_iff (p : S73 → Bool) : ∀ (l : List S73) (i : Nat), decide (slices_IndexFunc_impl_Packet_impl_Packet.idxAt p l i ≥ 0) = l.any p
  | [], i => rfl
  | x :: l, i => by
    rw [slices_IndexFunc_impl_Packet_impl_Packet.idxAt, List.any_cons]
    by_cases h : p x = true
    · rw [if_pos h, h, Bool.true_or]; simp
    · rw [if_neg h, slices_IndexFunc_impl_Packet_impl_Packet.idxAt_iff p l (i + 1)]
      have : p x = false := by simpa using h
      rw [this, Bool.false_or]

/-! impl_FindPacket -/
theorem impl_FindPacket.val (l : List S73) (a : Int) : ∃ r, impl_FindPacket.f l a = some r ∧ decide (r ≥ 0) = hasId l a :=
  ⟨_, rfl, slices_IndexFunc_impl_Packet_impl_Packet.idxAt_iff _ l 0⟩

/-! impl_PushPacket -/
theorem impl_PushPacket.val (l : List S73) (x : S73) (hl : l.length ≤ 1048576) : impl_PushPacket.f l x.f0 x.f1 x.f2 x.f3 x.f4 x.f5 = some (pushQ l x) := by
  unfold impl_PushPacket.f pushQ
  rw [impl_cloneQueue.val l hl, Option.bind_some]
  by_cases h : (l.length : Int) ≥ 12
  · rw [if_pos h, if_pos h]
  · rw [if_neg h, if_neg h]
    obtain ⟨r, hr, e⟩ := impl_FindPacket.val l x.f0
    rw [hr, Option.bind_some]
    by_cases h2 : r ≥ 0
    · have e2 : hasId l x.f0 = true := by rw [← e]; exact decide_eq_true h2
      rw [if_pos h2, if_pos e2]
    · have e2 : ¬ hasId l x.f0 = true := by rw [← e]; simpa using h2
      rw [if_neg h2, if_neg e2, if_pos (by omega)]

/-! laws_eqPacket -/
theorem laws_eqPacket.val (x : S73) : laws_eqPacket.f x.f0 x.f1 x.f2 x.f3 x.f4 x.f5 x.f0 x.f1 x.f2 x.f3 x.f4 x.f5 = some true := by
  unfold laws_eqPacket.f
  simp

/-! laws_eqPacketS -/
theorem laws_eqPacketS.ev_l (l : List S73) (hl : l.length ≤ 1048576) : ∀ (d i : Nat), i + d = l.length → Ev (fun k => laws_eqPacketS.l0 k l l i) true := by
  intro d
  induction d with
  | zero => intro i hi; refine Ev.one fun k => ?_; simp only [laws_eqPacketS.l0]; rw [if_neg (by omega)]
  | succ d ih =>
    intro i hi
    refine Ev.step (fun k => ?_) (ih (i + 1) (by omega))
    simp only [laws_eqPacketS.l0, laws_eqPacket.val, Option.bind_some]
    rw [if_pos (by omega), if_pos (by omega), if_pos (by omega), if_pos trivial, wrap_nat (by omega)]
theorem laws_eqPacketS.ev (l : List S73) (hl : l.length ≤ 1048576) : Ev (fun k => laws_eqPacketS.f k l l) true :=
  Ev.congr (fun k => by unfold laws_eqPacketS.f; rw [if_pos rfl] <;> rfl) (laws_eqPacketS.ev_l l hl l.length 0 (by omega))

/-! laws_eqQueue -/
theorem laws_eqQueue.ev (l : List S73) (hl : l.length ≤ 1048576) : Ev (fun k => laws_eqQueue.f k l l) true := Ev.bind (laws_eqPacketS.ev l hl) (Ev.all fun k => rfl)

/-! laws_markPacketS -/
def mkPacket (a : Int) (j : Nat) : S73 := ⟨a + 6 * (j : Int), a + 6 * (j : Int) + 1, a + 6 * (j : Int) + 1 + 1, a + 6 * (j : Int) + 1 + 1 + 1, a + 6 * (j : Int) + 1 + 1 + 1 + 1, a + 6 * (j : Int) + 1 + 1 + 1 + 1 + 1⟩
def marksPacket (a : Int) (n : Nat) : List S73 := (List.range n).map (mkPacket a)
theorem marksPacket_length (a : Int) (n : Nat) : (marksPacket a n).length = n := by simp [marksPacket]
theorem marksPacket_get (a : Int) (n i : Nat) (h : i < n) : (marksPacket a n)[i]? = some (mkPacket a i) := by simp [marksPacket, h]
theorem marksPacket_getD (a : Int) (n i : Nat) (h : i < n) : (marksPacket a n).getD i z73 = mkPacket a i := by rw [List.getD_eq_getElem?_getD, marksPacket_get a n i h]; rfl
theorem laws_markPacketS.ev_l (a : Int) (n : Nat) (h0 : 0 ≤ a) (h1 : a + 6 * n ≤ 4611686018427387904) : ∀ (d i : Nat) (o : List S73), i + d = n → o.length = n → o.take i = (marksPacket a n).take i →
    Ev (fun k => laws_markPacketS.l0 k o (a + 6 * (i : Int)) i) (a + 6 * (n : Int), marksPacket a n) := by
  intro d
  induction d with
  | zero =>
    intro i o hi ho ht
    refine Ev.one fun k => ?_
    simp only [laws_markPacketS.l0]
    rw [if_neg (by omega), take_full (by rw [marksPacket_length]; exact ho) (by rw [marksPacket_length]; omega) ht, show i = n by omega]
  | succ d ih =>
    intro i o hi ho ht
    refine Ev.step (fun k => ?_) (ih (i + 1) (o.set i (mkPacket a i)) (by omega) (by simp [ho]) (set_take o _ _ (by rw [marksPacket_length]; exact ho) (marksPacket_get a n i (by omega)) ht))
    have e : ∀ v, rd_T73 (o.set i v) (i : Int) = v := fun v => getD_set_self o _ v (by omega)
    simp only [laws_markPacketS.l0, Option.bind_some, Int.toNat_natCast, e, List.set_set]
    rw [if_pos (by omega), if_pos (by omega), wrap_nat (by omega)]
    rw [wrap_id (x := a + 6 * (i : Int) + 1) (by omega) (by omega)]
    rw [wrap_id (x := a + 6 * (i : Int) + 1 + 1) (by omega) (by omega)]
    rw [wrap_id (x := a + 6 * (i : Int) + 1 + 1 + 1) (by omega) (by omega)]
    rw [wrap_id (x := a + 6 * (i : Int) + 1 + 1 + 1 + 1) (by omega) (by omega)]
    rw [wrap_id (x := a + 6 * (i : Int) + 1 + 1 + 1 + 1 + 1) (by omega) (by omega)]
    rw [wrap_id (x := a + 6 * (i : Int) + 1 + 1 + 1 + 1 + 1 + 1) (by omega) (by omega)]
    rw [show a + 6 * (i : Int) + 1 + 1 + 1 + 1 + 1 + 1 = a + 6 * ((i + 1 : Nat) : Int) by omega]
    rfl
theorem laws_markPacketS.ev (l : List S73) (a : Int) (h0 : 0 ≤ a) (h1 : a ≤ 4000000000) (hl : l.length ≤ 1048576) : Ev (fun k => laws_markPacketS.f k l a) (a + 6 * (l.length : Int), marksPacket a l.length) := by
  have := laws_markPacketS.ev_l a l.length h0 (by omega) l.length 0 l (by omega) rfl (by simp)
  rw [show a + 6 * ((0 : Nat) : Int) = a by omega] at this
  exact this

/-! laws_markQueue -/
theorem laws_markQueue.ev (l : List S73) (a : Int) (h0 : 0 ≤ a) (h1 : a ≤ 4000000000) (hl : l.length ≤ 1048576) : Ev (fun k => laws_markQueue.f k l a) (a + 6 * (l.length : Int), marksPacket a l.length) :=
  Ev.bind (laws_markPacketS.ev l a h0 h1 hl) (Ev.now _)

/-! laws_heldPacketS -/
theorem laws_heldPacketS.ev_l (a : Int) (n : Nat) (h0 : 0 ≤ a) (h1 : a + 6 * n ≤ 4611686018427387904) : ∀ (d i : Nat), i + d = n → Ev (fun k => laws_heldPacketS.l0 k (marksPacket a n) (a + 6 * (i : Int)) i) (a + 6 * (n : Int)) := by
  intro d
  induction d with
  | zero =>
    intro i hi
    refine Ev.one fun k => ?_
    simp only [laws_heldPacketS.l0]
    rw [if_neg (by rw [marksPacket_length]; omega), show i = n by omega]
  | succ d ih =>
    intro i hi
    refine Ev.step (fun k => ?_) (ih (i + 1) (by omega))
    have e : rd_T73 (marksPacket a n) (i : Int) = mkPacket a i := marksPacket_getD a n i (by omega)
    simp only [laws_heldPacketS.l0, e]
    rw [if_pos (by rw [marksPacket_length]; omega), if_pos (by omega), wrap_nat (by omega)]
    rw [wrap_id (x := a + 6 * (i : Int) + 1) (by omega) (by omega)]
    rw [wrap_id (x := a + 6 * (i : Int) + 1 + 1) (by omega) (by omega)]
    rw [wrap_id (x := a + 6 * (i : Int) + 1 + 1 + 1) (by omega) (by omega)]
    rw [wrap_id (x := a + 6 * (i : Int) + 1 + 1 + 1 + 1) (by omega) (by omega)]
    rw [wrap_id (x := a + 6 * (i : Int) + 1 + 1 + 1 + 1 + 1) (by omega) (by omega)]
    rw [wrap_id (x := a + 6 * (i : Int) + 1 + 1 + 1 + 1 + 1 + 1) (by omega) (by omega)]
    simp only [mkPacket, if_true]
    rw [show a + 6 * (i : Int) + 1 + 1 + 1 + 1 + 1 + 1 = a + 6 * ((i + 1 : Nat) : Int) by omega]
theorem laws_heldPacketS.ev (a : Int) (n : Nat) (h0 : 0 ≤ a) (h1 : a ≤ 4000000000) (hn : n ≤ 1048576) : Ev (fun k => laws_heldPacketS.f k (marksPacket a n) a) (a + 6 * (n : Int)) := by
  have := laws_heldPacketS.ev_l a n h0 (by omega) n 0 (by omega)
  rw [show a + 6 * ((0 : Nat) : Int) = a by omega] at this
  exact this

/-! laws_heldQueue -/
theorem laws_heldQueue.ev (a : Int) (n : Nat) (h0 : 0 ≤ a) (h1 : a ≤ 4000000000) (hn : n ≤ 1048576) : Ev (fun k => laws_heldQueue.f k (marksPacket a n) a) (a + 6 * (n : Int)) :=
  Ev.bind (laws_heldPacketS.ev a n h0 h1 hn) (Ev.all fun k => by rw [if_neg (by omega)])

/-! @@ FnExactPushPacket -/
theorem proved : Stated := by
  intro l a b c d e f ⟨hl, hw⟩ _ _ _ _ _ _
  obtain ⟨t, ht, hle, hp⟩ := laws_szQueue.val l 1048576 (by omega) (by omega) hl
  refine Ev.rounds ?_
  refine Ev.congr (fun k => by unfold laws_FnExactPushPacket.f; rw [ht, Option.bind_some]) ?_
  by_cases h : t < 0
  · exact Ev.all fun k => by rw [if_pos h]
  · obtain ⟨_, hl2⟩ := hp (by omega)
    have hl3 : (l.map cPacket).length ≤ 1048576 := by simpa using hl2
    refine Ev.congr (fun k => by rw [if_neg h]) ?_
    have hx := pushQ_len (l.map cPacket) ⟨a, b, c, d, e, f⟩ hl3
    have hi : impl_PushPacket.f (l.map cPacket) a b c d e f = _ := impl_PushPacket.val (l.map cPacket) ⟨a, b, c, d, e, f⟩ hl3
    have hs : Ev (fun k => spec_PushPacket.f k (l.map cPacket) a b c d e f) _ := spec_PushPacket.ev (l.map cPacket) ⟨a, b, c, d, e, f⟩ hl3
    generalize pushQ (l.map cPacket) ⟨a, b, c, d, e, f⟩ = q at hx hi hs
    refine Ev.bind (laws_toQueue.ev l hl2) ?_
    refine Ev.congr (fun k => by rw [laws_toPacket.f, Option.bind_some]) ?_
    refine Ev.bind hs (Ev.bind (laws_toQueue.ev l hl2) ?_)
    refine Ev.congr (fun k => by rw [Option.bind_some, hi, Option.bind_some]) ?_
    refine Ev.bind (laws_eqQueue.ev _ hx) ?_
    refine Ev.congr (fun k => by rw [if_pos rfl]) ?_
    refine Ev.step (fun k => by simp only [laws_FnExactPushPacket.j0]; rw [if_neg (by simp)]) ?_
    refine Ev.bind (laws_toQueue.ev l hl2) (Ev.bind (laws_eqQueue.ev _ hl3) ?_)
    refine Ev.congr (fun k => by rw [if_pos rfl]) ?_
    refine Ev.bind (laws_markQueue.ev _ 1 (by omega) (by omega) hl3) ?_
    refine Ev.congr (fun k => by rw [if_neg (by omega)]) ?_
    refine Ev.bind (laws_eqQueue.ev _ hx) ?_
    refine Ev.congr (fun k => by rw [if_pos rfl, if_neg (by simp)]) ?_
    refine Ev.bind (laws_markQueue.ev _ 1 (by omega) (by omega) hx) (Ev.bind (laws_heldQueue.ev 1 _ (by omega) (by omega) hx) ?_)
    refine Ev.congr (fun k => by rw [if_neg (by omega), if_pos rfl]) ?_
    refine Ev.bind (laws_toQueue.ev l hl2) ?_
    refine Ev.congr (fun k => by rw [laws_toPacket.f, Option.bind_some, hi, Option.bind_some]) ?_
    refine Ev.bind (laws_eqQueue.ev _ hx) ?_
    refine Ev.congr (fun k => by rw [if_pos rfl, if_neg (by simp)]) ?_
    refine Ev.bind (laws_heldQueue.ev 1 _ (by omega) (by omega) hx) ?_
    exact Ev.all fun k => by rw [if_neg (by omega), if_pos rfl]

end Go.Proofs.Ytindlpkkapelhaa.PureFnExactPushPacket
