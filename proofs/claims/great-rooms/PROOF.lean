import PyProof.Rows.All
import Wide.All
import OpenK.AllK
import Wide.FinOn
import KE.KRevSl
import KE.OsArith
import PyProof.InstEq
import HandS.ForMost
import HandS.ForExc
import HandS.TupAny
import HandS.Conv
import HandS.SortKw
import HandS.OwnEq
import HandS.IsInst
import HandS.Property
import HandS.Style
import HandS.WideBits
import KE.KExcInit
import HandS.ExcInit
import HandS.ExcField
import HandS.Defaults
import HandS.Head0
import HandS.Head1
import HandS.Head2
import HandS.HeadEnd
import HandS.HeadHook1
import HandS.HeadHook2
import KE.KEqSeq
import HandS.Dict
import HandS.More
import HandS.Exc
import HandS.ExcOwn
import HandS.WordsExc
import PySem.Challenge.RW_owncontraries_k18_whole_great_rooms
set_option Elab.async false
set_option linter.all false
set_option maxRecDepth 100000
set_option maxHeartbeats 4000000
namespace OC

/-! ## sums of words -/
/-- x is a sum (by xor) of some of the words of the list -/
def Spn : List Nat → Nat → Prop
  | [], x => x = 0
  | a :: L, x => Spn L x ∨ Spn L (x ^^^ a)

theorem xor_self_cancel (x a : Nat) : (x ^^^ a) ^^^ a = x := by
  rw [Nat.xor_assoc, Nat.xor_self, Nat.xor_zero]
theorem xor_swap (x y a : Nat) : (x ^^^ y) ^^^ a = (x ^^^ a) ^^^ y := by
  rw [Nat.xor_assoc, Nat.xor_comm y a, ← Nat.xor_assoc]
theorem xor_eq_zero' {a b : Nat} (h : a ^^^ b = 0) : a = b := by
  have e := xor_self_cancel a b
  rw [h, Nat.zero_xor] at e
  exact e.symm
theorem sp_zero : ∀ L, Spn L 0
  | [] => rfl
  | _ :: L => Or.inl (sp_zero L)
theorem sp_xor : ∀ {L : List Nat} {x y : Nat}, Spn L x → Spn L y → Spn L (x ^^^ y)
  | [], x, y, hx, hy => by
    have hx' : x = 0 := hx
    have hy' : y = 0 := hy
    subst hx' hy'
    rfl
  | a :: L, x, y, hx, hy => by
    rcases hx with hx | hx <;> rcases hy with hy | hy
    · exact Or.inl (sp_xor hx hy)
    · refine Or.inr ?_
      rw [Nat.xor_assoc]
      exact sp_xor hx hy
    · refine Or.inr ?_
      rw [xor_swap]
      exact sp_xor hx hy
    · refine Or.inl ?_
      have h := sp_xor hx hy
      have e : (x ^^^ a) ^^^ (y ^^^ a) = x ^^^ y := by
        rw [Nat.xor_comm y a, ← Nat.xor_assoc, xor_self_cancel]
      rw [e] at h
      exact h
theorem sp_mem : ∀ {L : List Nat} {a : Nat}, a ∈ L → Spn L a
  | b :: L, a, h => by
    rcases List.mem_cons.mp h with e | h
    · subst e
      refine Or.inr ?_
      rw [Nat.xor_self]
      exact sp_zero L
    · exact Or.inl (sp_mem h)
/-- the least lot that is closed and has the words -/
theorem sp_least {L : List Nat} {S : Nat → Prop} (h0 : S 0) (hx : ∀ x y, S x → S y → S (x ^^^ y)) (hL : ∀ a ∈ L, S a) : ∀ x, Spn L x → S x := by
  induction L with
  | nil =>
    intro x h
    have h' : x = 0 := h
    subst h'
    exact h0
  | cons a L ih =>
    intro x h
    have ih' := ih fun b hb => hL b (List.mem_cons_of_mem _ hb)
    rcases h with h | h
    · exact ih' x h
    · have q := hx _ _ (ih' _ h) (hL a List.mem_cons_self)
      rw [xor_self_cancel] at q
      exact q
theorem sp_le {L L' : List Nat} (h : ∀ a ∈ L, Spn L' a) : ∀ x, Spn L x → Spn L' x := sp_least (sp_zero L') (fun _ _ => sp_xor) h
/-- the same sums -/
def SameSp (L L' : List Nat) : Prop := ∀ x, Spn L x ↔ Spn L' x
theorem SameSp.rfl' {L : List Nat} : SameSp L L := fun _ => Iff.rfl
theorem SameSp.symm {L L' : List Nat} (h : SameSp L L') : SameSp L' L := fun x => (h x).symm
theorem SameSp.trans {L L' L'' : List Nat} (h : SameSp L L') (h' : SameSp L' L'') : SameSp L L'' := fun x => (h x).trans (h' x)
theorem same_of {L L' : List Nat} (h : ∀ a ∈ L, Spn L' a) (h' : ∀ a ∈ L', Spn L a) : SameSp L L' := fun x => ⟨sp_le h x, sp_le h' x⟩
theorem same_mem {L L' : List Nat} (h : ∀ a, a ∈ L ↔ a ∈ L') : SameSp L L' := same_of (fun a ha => sp_mem ((h a).mp ha)) fun a ha => sp_mem ((h a).mpr ha)
theorem same_perm {L L' : List Nat} (h : L.Perm L') : SameSp L L' := same_mem fun _ => h.mem_iff
theorem sp_lt {L : List Nat} {n : Nat} (h : ∀ a ∈ L, a < 2 ^ n) : ∀ x, Spn L x → x < 2 ^ n :=
  sp_least (Nat.two_pow_pos n) (fun _ _ hx hy => Nat.xor_lt_two_pow hx hy) h
theorem sp_bit {L : List Nat} {k : Nat} (h : ∀ a ∈ L, a.testBit k = false) : ∀ x, Spn L x → x.testBit k = false :=
  sp_least (Nat.zero_testBit k) (fun x y hx hy => by rw [Nat.testBit_xor, hx, hy]; rfl) h

/-! ## highest places -/
theorem top_on {x : Nat} (h : x ≠ 0) : x.testBit x.log2 = true := Nat.testBit_log2 h
theorem lt_top (x : Nat) : x < 2 ^ (x.log2 + 1) := Nat.lt_log2_self
theorem top_le {x : Nat} (h : x ≠ 0) : 2 ^ x.log2 ≤ x := Nat.log2_self_le h
theorem top_eq {x k : Nat} (h1 : 2 ^ k ≤ x) (h2 : x < 2 ^ (k + 1)) : x.log2 = k := by
  have h0 : x ≠ 0 := by
    have := Nat.two_pow_pos k
    omega
  have a := Nat.log2_lt h0 |>.mpr h2
  have b := (Nat.le_log2 h0).mpr h1
  omega
theorem bit_above {x k : Nat} (h : x.log2 < k) : x.testBit k = false :=
  Nat.testBit_lt_two_pow (Nat.lt_of_lt_of_le (lt_top x) (Nat.pow_le_pow_right (by decide) h))
theorem lt_by_bit {w v k : Nat} (h1 : w.testBit k = false) (h2 : v.testBit k = true) (h : ∀ j, k < j → w.testBit j = v.testBit j) : w < v := by
  have e : w / 2 ^ (k + 1) = v / 2 ^ (k + 1) := by
    refine Nat.eq_of_testBit_eq fun i => ?_
    rw [Nat.testBit_div_two_pow, Nat.testBit_div_two_pow]
    exact h _ (by omega)
  rw [Nat.testBit_eq_decide_div_mod_eq] at h1 h2
  have g1 : ¬ w / 2 ^ k % 2 = 1 := of_decide_eq_false h1
  have g2 : v / 2 ^ k % 2 = 1 := of_decide_eq_true h2
  rw [Nat.pow_succ, ← Nat.div_div_eq_div_mul, ← Nat.div_div_eq_div_mul] at e
  have hp := Nat.two_pow_pos k
  rcases Nat.lt_or_ge w v with q | q
  · exact q
  · have z := Nat.div_le_div_right (c := 2 ^ k) q
    omega
/-- with b's highest place on, b's sum is less; else it is greater -/
theorem min_xor {w b : Nat} (hb : b ≠ 0) : min w (w ^^^ b) = if w.testBit b.log2 = true then w ^^^ b else w := by
  by_cases h : w.testBit b.log2 = true
  · rw [if_pos h]
    have q : w ^^^ b < w := by
      refine lt_by_bit (k := b.log2) ?_ h ?_
      · rw [Nat.testBit_xor, h, top_on hb]
        rfl
      · intro j hj
        rw [Nat.testBit_xor, bit_above hj, Bool.xor_false]
    omega
  · rw [if_neg h]
    have h' : w.testBit b.log2 = false := by simpa using h
    have q : w < w ^^^ b := by
      refine lt_by_bit (k := b.log2) h' ?_ ?_
      · rw [Nat.testBit_xor, h', top_on hb]
        rfl
      · intro j hj
        rw [Nat.testBit_xor, bit_above hj, Bool.xor_false]
    omega

/-! ## plain bases -/
def Apart (a b : Nat) : Prop := a.testBit b.log2 = false ∧ b.testBit a.log2 = false
theorem Apart.symm {a b : Nat} (h : Apart a b) : Apart b a := ⟨h.2, h.1⟩
structure Plain (B : List Nat) : Prop where
  nz : ∀ b ∈ B, b ≠ 0
  apart : B.Pairwise Apart
  down : B.Pairwise fun a b => b ≤ a
theorem plain_nil : Plain [] := ⟨fun _ h => (nomatch h), .nil, .nil⟩
theorem Plain.tail {a : Nat} {B : List Nat} (h : Plain (a :: B)) : Plain B :=
  ⟨fun b hb => h.nz b (List.mem_cons_of_mem _ hb), (List.pairwise_cons.mp h.apart).2, (List.pairwise_cons.mp h.down).2⟩
theorem Plain.head {a : Nat} {B : List Nat} (h : Plain (a :: B)) {b : Nat} (hb : b ∈ B) : b.log2 < a.log2 := by
  have h1 := (List.pairwise_cons.mp h.apart).1 b hb
  have h2 := (List.pairwise_cons.mp h.down).1 b hb
  have nb := h.nz b (List.mem_cons_of_mem _ hb)
  have na := h.nz a List.mem_cons_self
  rcases Nat.lt_trichotomy b.log2 a.log2 with q | q | q
  · exact q
  · have t := top_on nb
    rw [q] at t
    rw [h1.2] at t
    cases t
  · have t1 := top_le nb
    have t2 := lt_top a
    have t3 : 2 ^ (a.log2 + 1) ≤ 2 ^ b.log2 := Nat.pow_le_pow_right (by decide) q
    omega
theorem Plain.sub {B C : List Nat} (h : Plain B) (s : C.Sublist B) : Plain C :=
  ⟨fun b hb => h.nz b (s.subset hb), h.apart.sublist s, h.down.sublist s⟩
theorem Plain.tops {B : List Nat} (h : Plain B) : (B.map Nat.log2).Pairwise fun a b => b < a := by
  induction B with
  | nil => exact .nil
  | cons a B ih =>
    rw [List.map_cons]
    refine List.pairwise_cons.mpr ⟨fun k hk => ?_, ih h.tail⟩
    obtain ⟨b, hb, rfl⟩ := List.mem_map.mp hk
    exact h.head hb

def leftOf (B : List Nat) (w : Nat) : Nat := B.foldl (fun w b => min w (w ^^^ b)) w
theorem leftOf_nil (w : Nat) : leftOf [] w = w := rfl
theorem leftOf_cons (b : Nat) (B : List Nat) (w : Nat) : leftOf (b :: B) w = leftOf B (min w (w ^^^ b)) := rfl
theorem min_sp {w b : Nat} {B : List Nat} (hb : b ∈ B) : Spn B (w ^^^ min w (w ^^^ b)) := by
  rcases Nat.le_total w (w ^^^ b) with h | h
  · rw [Nat.min_eq_left h, Nat.xor_self]
    exact sp_zero B
  · rw [Nat.min_eq_right h, ← Nat.xor_assoc, Nat.xor_self, Nat.zero_xor]
    exact sp_mem hb
theorem leftOf_sp {C : List Nat} : ∀ {B : List Nat} (w : Nat), (∀ b ∈ B, b ∈ C) → Spn C (w ^^^ leftOf B w)
  | [], w, _ => by
    rw [leftOf_nil, Nat.xor_self]
    exact sp_zero C
  | b :: B, w, h => by
    rw [leftOf_cons]
    have h1 : Spn C (w ^^^ min w (w ^^^ b)) := min_sp (h b List.mem_cons_self)
    have h2 := leftOf_sp (C := C) (min w (w ^^^ b)) fun c hc => h c (List.mem_cons_of_mem _ hc)
    have q := sp_xor h1 h2
    rw [← Nat.xor_assoc, xor_self_cancel] at q
    exact q
theorem leftOf_keep {k : Nat} : ∀ {B : List Nat} (w : Nat), (∀ b ∈ B, b.testBit k = false) → (leftOf B w).testBit k = w.testBit k
  | [], w, _ => rfl
  | b :: B, w, h => by
    rw [leftOf_cons, leftOf_keep _ fun c hc => h c (List.mem_cons_of_mem _ hc)]
    rcases Nat.le_total w (w ^^^ b) with q | q
    · rw [Nat.min_eq_left q]
    · rw [Nat.min_eq_right q, Nat.testBit_xor, h b List.mem_cons_self, Bool.xor_false]
theorem min_off {w b : Nat} (hb : b ≠ 0) : (min w (w ^^^ b)).testBit b.log2 = false := by
  rw [min_xor hb]
  by_cases h : w.testBit b.log2 = true
  · rw [if_pos h, Nat.testBit_xor, h, top_on hb]
    rfl
  · rw [if_neg h]
    simpa using h
theorem leftOf_off : ∀ {B : List Nat} (w : Nat), Plain B → ∀ b ∈ B, (leftOf B w).testBit b.log2 = false
  | a :: B, w, h, b, hb => by
    rw [leftOf_cons]
    rcases List.mem_cons.mp hb with e | hb
    · subst e
      rw [leftOf_keep _ fun c hc => bit_above (h.head hc)]
      exact min_off (h.nz b List.mem_cons_self)
    · exact leftOf_off _ h.tail b hb
theorem plain_off {B : List Nat} (h : Plain B) : ∀ x, Spn B x → (∀ b ∈ B, x.testBit b.log2 = false) → x = 0 := by
  induction B with
  | nil => exact fun x hx _ => hx
  | cons a B ih =>
    intro x hx off
    rcases hx with hx | hx
    · exact ih h.tail x hx fun b hb => off b (List.mem_cons_of_mem _ hb)
    · exfalso
      have q := sp_bit (k := a.log2) (fun b hb => bit_above (h.head hb)) _ hx
      rw [Nat.testBit_xor, off a List.mem_cons_self, top_on (h.nz a List.mem_cons_self)] at q
      cases q
/-- what is left is 0 just for the sums -/
theorem left_zero {B : List Nat} (h : Plain B) (w : Nat) : leftOf B w = 0 ↔ Spn B w := by
  have q := leftOf_sp (C := B) (B := B) w fun _ hb => hb
  constructor
  · intro e
    rw [e, Nat.xor_zero] at q
    exact q
  · intro hw
    refine plain_off h _ ?_ (leftOf_off w h)
    have z := sp_xor hw q
    rw [← Nat.xor_assoc, Nat.xor_self, Nat.zero_xor] at z
    exact z
theorem plain_top {a : Nat} {B : List Nat} (h : Plain (a :: B)) : ∀ x, Spn (a :: B) x → x < 2 ^ (a.log2 + 1) := by
  refine sp_lt fun b hb => ?_
  rcases List.mem_cons.mp hb with e | hb
  · subst e
    exact lt_top b
  · have q := h.head hb
    exact Nat.lt_of_lt_of_le (lt_top b) (Nat.pow_le_pow_right (by decide) (by omega))
theorem plain_low {a : Nat} {B : List Nat} (h : Plain (a :: B)) (x : Nat) : Spn B x ↔ Spn (a :: B) x ∧ x.testBit a.log2 = false := by
  constructor
  · intro q
    exact ⟨Or.inl q, sp_bit (fun b hb => bit_above (h.head hb)) _ q⟩
  · rintro ⟨q | q, t⟩
    · exact q
    · exfalso
      have z := sp_bit (k := a.log2) (fun b hb => bit_above (h.head hb)) _ q
      rw [Nat.testBit_xor, t, top_on (h.nz a List.mem_cons_self)] at z
      cases z
/-- each lot of sums has just one plain basis -/
theorem plain_one : ∀ {B C : List Nat}, Plain B → Plain C → SameSp B C → B = C
  | [], [], _, _, _ => rfl
  | [], c :: C, _, hC, s => by
    have q : c = 0 := (s c).mpr (sp_mem List.mem_cons_self)
    exact absurd q (hC.nz c List.mem_cons_self)
  | b :: B, [], hB, _, s => by
    have q : b = 0 := (s b).mp (sp_mem List.mem_cons_self)
    exact absurd q (hB.nz b List.mem_cons_self)
  | b :: B, c :: C, hB, hC, s => by
    have nb := hB.nz b List.mem_cons_self
    have nc := hC.nz c List.mem_cons_self
    have h1 := plain_top hC b ((s b).mp (sp_mem List.mem_cons_self))
    have h2 := plain_top hB c ((s c).mpr (sp_mem List.mem_cons_self))
    have e : b.log2 = c.log2 := by
      have a1 := (Nat.log2_lt nb).mpr h1
      have a2 := (Nat.log2_lt nc).mpr h2
      omega
    have st : SameSp B C := fun x => by
      rw [plain_low hB, plain_low hC, s x, e]
    have et := plain_one hB.tail hC.tail st
    subst et
    have z : b ^^^ c = 0 := by
      have q : Spn (b :: B) (b ^^^ c) := sp_xor (sp_mem List.mem_cons_self) ((s c).mpr (sp_mem List.mem_cons_self))
      have off : (b ^^^ c).testBit b.log2 = false := by
        rw [Nat.testBit_xor, top_on nb, e, top_on nc]
        rfl
      refine plain_off hB.tail _ ((plain_low hB _).mpr ⟨q, off⟩) fun d hd => ?_
      rw [Nat.testBit_xor, ((List.pairwise_cons.mp hB.apart).1 d hd).1, ((List.pairwise_cons.mp hC.apart).1 d hd).1]
      rfl
    rw [xor_eq_zero' z]

/-! ## a basis and a further word -/
def sortD (l : List Nat) : List Nat := l.mergeSort fun a b => decide (b ≤ a)
theorem sortD_perm (l : List Nat) : (sortD l).Perm l := List.mergeSort_perm l _
theorem sortD_down (l : List Nat) : (sortD l).Pairwise fun a b => b ≤ a := by
  have h := List.pairwise_mergeSort (le := fun a b : Nat => decide (b ≤ a)) (fun a b c h1 h2 => by
    have := of_decide_eq_true h1
    have := of_decide_eq_true h2
    exact decide_eq_true (by omega)) (fun a b => by
    rcases Nat.le_total a b with q | q
    · rw [decide_eq_true q, Bool.or_true]
    · rw [decide_eq_true q, Bool.true_or]) l
  exact h.imp fun h => of_decide_eq_true h
/-- two falling arrangements of the same words are one -/
theorem down_one : ∀ {l k : List Nat}, l.Perm k → l.Pairwise (fun a b => b ≤ a) → k.Pairwise (fun a b => b ≤ a) → l = k
  | [], k, p, _, _ => p.nil_eq
  | a :: l, [], p, _, _ => absurd p.symm.nil_eq (by simp)
  | a :: l, b :: k, p, h1, h2 => by
    have e : a = b := by
      have ma : a ∈ b :: k := p.mem_iff.mp List.mem_cons_self
      have mb : b ∈ a :: l := p.mem_iff.mpr List.mem_cons_self
      have q1 : a ≤ b := by
        rcases List.mem_cons.mp ma with e | m
        · omega
        · exact (List.pairwise_cons.mp h2).1 a m
      have q2 : b ≤ a := by
        rcases List.mem_cons.mp mb with e | m
        · omega
        · exact (List.pairwise_cons.mp h1).1 b m
      omega
    subst e
    rw [down_one (List.Perm.cons_inv p) (List.pairwise_cons.mp h1).2 (List.pairwise_cons.mp h2).2]
theorem sortD_one {l k : List Nat} (p : k.Perm l) (h : k.Pairwise fun a b => b ≤ a) : k = sortD l :=
  down_one (p.trans (sortD_perm l).symm) h (sortD_down l)

def withW (B : List Nat) (w : Nat) : List Nat := if leftOf B w = 0 then B else sortD (B.map (fun b => min b (b ^^^ leftOf B w)) ++ [leftOf B w])
def pb (L : List Nat) : List Nat := L.foldl withW []

/-- a basis word behind a further word: its highest place stays -/
theorem min_top {b l : Nat} (hb : b ≠ 0) (hl : l ≠ 0) (off : l.testBit b.log2 = false) : min b (b ^^^ l) ≠ 0 ∧ (min b (b ^^^ l)).log2 = b.log2 := by
  rw [min_xor hl]
  by_cases h : b.testBit l.log2 = true
  · rw [if_pos h]
    have ne : l.log2 ≠ b.log2 := fun e => by
      have t := top_on hl
      rw [e, off] at t
      cases t
    have le : l.log2 ≤ b.log2 := by
      rcases Nat.lt_or_ge b.log2 l.log2 with q | q
      · rw [bit_above q] at h
        cases h
      · exact q
    have on : (b ^^^ l).testBit b.log2 = true := by
      rw [Nat.testBit_xor, top_on hb, off]
      rfl
    have lt : b ^^^ l < 2 ^ (b.log2 + 1) := by
      refine Nat.xor_lt_two_pow (lt_top b) (Nat.lt_of_lt_of_le (lt_top l) (Nat.pow_le_pow_right (by decide) (by omega)))
    have ge := Nat.ge_two_pow_of_testBit on
    refine ⟨fun z => ?_, top_eq ge lt⟩
    rw [z, Nat.zero_testBit] at on
    cases on
  · rw [if_neg h]
    exact ⟨hb, rfl⟩
theorem min_bit {b l k : Nat} (off : l.testBit k = false) : (min b (b ^^^ l)).testBit k = b.testBit k := by
  rcases Nat.le_total b (b ^^^ l) with q | q
  · rw [Nat.min_eq_left q]
  · rw [Nat.min_eq_right q, Nat.testBit_xor, off, Bool.xor_false]
/-- what the new words are like, in any sequence -/
theorem with_apart {B : List Nat} {l : Nat} (hB : Plain B) (hl : l ≠ 0) (off : ∀ b ∈ B, l.testBit b.log2 = false) :
    (∀ x ∈ B.map (fun b => min b (b ^^^ l)) ++ [l], x ≠ 0) ∧ (B.map (fun b => min b (b ^^^ l)) ++ [l]).Pairwise Apart := by
  refine ⟨fun x hx => ?_, List.pairwise_append.mpr ⟨?_, List.pairwise_singleton _ _, fun x hx y hy => ?_⟩⟩
  · rcases List.mem_append.mp hx with h | h
    · obtain ⟨b, hb, rfl⟩ := List.mem_map.mp h
      exact (min_top (hB.nz b hb) hl (off b hb)).1
    · rw [List.mem_singleton.mp h]
      exact hl
  · rw [List.pairwise_map]
    refine List.Pairwise.imp_of_mem ?_ hB.apart
    intro a b ha hb h
    refine ⟨?_, ?_⟩
    · rw [(min_top (hB.nz b hb) hl (off b hb)).2, min_bit (off b hb)]
      exact h.1
    · rw [(min_top (hB.nz a ha) hl (off a ha)).2, min_bit (off a ha)]
      exact h.2
  · obtain ⟨b, hb, rfl⟩ := List.mem_map.mp hx
    rw [List.mem_singleton.mp hy]
    refine ⟨min_off hl, ?_⟩
    rw [(min_top (hB.nz b hb) hl (off b hb)).2]
    exact off b hb
theorem with_same {B : List Nat} {w l : Nat} (e : Spn B (w ^^^ l)) : SameSp (B.map (fun b => min b (b ^^^ l)) ++ [l]) (w :: B) := by
  have hl : Spn (w :: B) l := by
    have q : Spn (w :: B) (w ^^^ (w ^^^ l)) := sp_xor (sp_mem List.mem_cons_self) (Or.inl e)
    rw [← Nat.xor_assoc, Nat.xor_self, Nat.zero_xor] at q
    exact q
  have each : ∀ b ∈ B, Spn (B.map (fun b => min b (b ^^^ l)) ++ [l]) b := fun b hb => by
    have h1 : Spn (B.map (fun b => min b (b ^^^ l)) ++ [l]) (min b (b ^^^ l)) := sp_mem (List.mem_append_left _ (List.mem_map_of_mem hb))
    have h2 : Spn (B.map (fun b => min b (b ^^^ l)) ++ [l]) l := sp_mem (List.mem_append_right _ List.mem_cons_self)
    rcases Nat.le_total b (b ^^^ l) with q | q
    · rw [Nat.min_eq_left q] at h1
      exact h1
    · rw [Nat.min_eq_right q] at h1
      have z := sp_xor h1 h2
      rw [xor_self_cancel] at z
      exact z
  refine same_of (fun x hx => ?_) fun x hx => ?_
  · rcases List.mem_append.mp hx with h | h
    · obtain ⟨b, hb, rfl⟩ := List.mem_map.mp h
      have hb' : Spn (w :: B) b := sp_mem (List.mem_cons_of_mem _ hb)
      rcases Nat.le_total b (b ^^^ l) with q | q
      · rw [Nat.min_eq_left q]
        exact hb'
      · rw [Nat.min_eq_right q]
        exact sp_xor hb' hl
    · rw [List.mem_singleton.mp h]
      exact hl
  · rcases List.mem_cons.mp hx with h | h
    · subst h
      have h2 : Spn (B.map (fun b => min b (b ^^^ l)) ++ [l]) l := sp_mem (List.mem_append_right _ List.mem_cons_self)
      have z := sp_xor (sp_le each _ e) h2
      rw [xor_self_cancel] at z
      exact z
    · exact each x h
theorem left_sp (B : List Nat) (w : Nat) : Spn B (w ^^^ leftOf B w) := leftOf_sp w fun _ h => h
theorem plain_sorted {l : List Nat} (h0 : ∀ x ∈ l, x ≠ 0) (h : l.Pairwise Apart) : Plain (sortD l) :=
  ⟨fun b hb => h0 b ((sortD_perm l).mem_iff.mp hb), (List.Perm.pairwise_iff (fun h => h.symm) (sortD_perm l)).mpr h, sortD_down l⟩
theorem withW_plain {B : List Nat} (h : Plain B) (w : Nat) : Plain (withW B w) := by
  unfold withW
  split
  · exact h
  · rename_i ne
    obtain ⟨q1, q2⟩ := with_apart h ne (leftOf_off w h)
    exact plain_sorted q1 q2
theorem withW_same {B : List Nat} (h : Plain B) (w : Nat) : SameSp (withW B w) (w :: B) := by
  unfold withW
  split
  · rename_i e
    exact same_of (fun x hx => sp_mem (List.mem_cons_of_mem _ hx)) fun x hx => by
      rcases List.mem_cons.mp hx with q | q
      · subst q
        exact (left_zero h _).mp e
      · exact sp_mem q
  · exact (same_perm (sortD_perm _)).trans (with_same (left_sp B w))
theorem withW_len {B : List Nat} (w : Nat) : (withW B w).length = if leftOf B w = 0 then B.length else B.length + 1 := by
  unfold withW
  split
  · rfl
  · rw [(sortD_perm _).length_eq, List.length_append, List.length_map]
    rfl
theorem pb_nil : pb [] = [] := rfl
theorem pb_snoc (L : List Nat) (w : Nat) : pb (L ++ [w]) = withW (pb L) w := by
  unfold pb
  rw [List.foldl_append]
  rfl
theorem snoc_ind {P : List Nat → Prop} (h0 : P []) (hs : ∀ L w, P L → P (L ++ [w])) (L : List Nat) : P L := by
  have key : ∀ R : List Nat, P R.reverse := by
    intro R
    induction R with
    | nil => exact h0
    | cons a R ih =>
      rw [List.reverse_cons]
      exact hs _ _ ih
  have q := key L.reverse
  rw [List.reverse_reverse] at q
  exact q
theorem pb_plain (L : List Nat) : Plain (pb L) := by
  induction L using snoc_ind with
  | h0 => exact plain_nil
  | hs L w ih =>
    rw [pb_snoc]
    exact withW_plain ih w
theorem same_cons {L L' : List Nat} (h : SameSp L L') (w : Nat) : SameSp (w :: L) (w :: L') :=
  fun x => or_congr (h x) (h _)
theorem pb_same (L : List Nat) : SameSp (pb L) L := by
  induction L using snoc_ind with
  | h0 => exact SameSp.rfl'
  | hs L w ih =>
    rw [pb_snoc]
    exact ((withW_same (pb_plain L) w).trans (same_cons ih w)).trans (same_mem fun a => by simp [or_comm])
/-- a plain basis with the list's sums is the list's -/
theorem pb_one {B L : List Nat} (h : Plain B) (s : SameSp B L) : B = pb L := plain_one h (pb_plain L) (s.trans (pb_same L).symm)
theorem pb_congr {L L' : List Nat} (s : SameSp L L') : pb L = pb L' := pb_one (pb_plain L) ((pb_same L).trans s)
theorem pb_self {B : List Nat} (h : Plain B) : pb B = B := (pb_one h SameSp.rfl').symm
theorem pb_lt {L : List Nat} {n : Nat} (h : ∀ a ∈ L, a < 2 ^ n) : ∀ b ∈ pb L, b < 2 ^ n := fun b hb =>
  sp_lt h b ((pb_same L b).mp (sp_mem hb))
theorem plain_len {B : List Nat} {n : Nat} (h : Plain B) (hn : ∀ b ∈ B, b < 2 ^ n) : B.length ≤ n := by
  induction n generalizing B with
  | zero =>
    cases B with
    | nil => exact Nat.le_refl 0
    | cons b B =>
      have q := hn b List.mem_cons_self
      have z := h.nz b List.mem_cons_self
      simp at q
      omega
  | succ n ih =>
    cases B with
    | nil => exact Nat.zero_le _
    | cons b B =>
      have q := ih h.tail fun c hc => by
        have h1 := h.head hc
        have h2 := (Nat.log2_lt (h.nz b List.mem_cons_self)).mpr (hn b List.mem_cons_self)
        exact Nat.lt_of_lt_of_le (lt_top c) (Nat.pow_le_pow_right (by decide) (by omega))
      rw [List.length_cons]
      omega
theorem pb_len {L : List Nat} {n : Nat} (h : ∀ a ∈ L, a < 2 ^ n) : (pb L).length ≤ n := plain_len (pb_plain L) (pb_lt h)
theorem pb_len_le (L : List Nat) : (pb L).length ≤ L.length := by
  induction L using snoc_ind with
  | h0 => exact Nat.le_refl 0
  | hs L w ih =>
    rw [pb_snoc, withW_len, List.length_append]
    show _ ≤ L.length + 1
    split <;> omega
/-- no word of the list is a sum of those ahead of it -/
def Free (L : List Nat) : Prop := ∀ (i : Nat) (w : Nat), L[i]? = some w → ¬ Spn (L.take i) w
theorem free_len (L : List Nat) : Free L → (pb L).length = L.length := by
  induction L using snoc_ind with
  | h0 => exact fun _ => rfl
  | hs L w ih =>
    intro h
    have hL : Free L := fun i v hi => by
      have lt := (List.getElem?_eq_some_iff.mp hi).1
      have q := h i v (by rw [List.getElem?_append_left lt]; exact hi)
      rw [List.take_append_of_le_length (Nat.le_of_lt lt)] at q
      exact q
    have hw := h L.length w (by simp)
    rw [List.take_left'] at hw
    · have ne : leftOf (pb L) w ≠ 0 := fun e => hw ((pb_same L w).mp ((left_zero (pb_plain L) w).mp e))
      rw [pb_snoc, withW_len, if_neg ne, ih hL, List.length_append]
      rfl
    · rfl

/-! ## led words -/
def Lin (f : Nat → Nat) : Prop := ∀ a b, f (a ^^^ b) = f a ^^^ f b
theorem Lin.zero {f : Nat → Nat} (h : Lin f) : f 0 = 0 := by
  have q := h 0 0
  rw [Nat.xor_self, Nat.xor_self] at q
  exact q
theorem lin_sp {f : Nat → Nat} (h : Lin f) {L : List Nat} : ∀ x, Spn L x → Spn (L.map f) (f x) := by
  refine sp_least ?_ (fun x y hx hy => ?_) fun a ha => sp_mem (List.mem_map_of_mem ha)
  · rw [h.zero]
    exact sp_zero _
  · rw [h]
    exact sp_xor hx hy
theorem lin_back {f : Nat → Nat} (h : Lin f) {L : List Nat} : ∀ y, Spn (L.map f) y → ∃ x, Spn L x ∧ y = f x := by
  refine sp_least ⟨0, sp_zero L, h.zero.symm⟩ (fun x y hx hy => ?_) fun a ha => ?_
  · obtain ⟨u, hu, rfl⟩ := hx
    obtain ⟨v, hv, rfl⟩ := hy
    exact ⟨u ^^^ v, sp_xor hu hv, (h u v).symm⟩
  · obtain ⟨b, hb, rfl⟩ := List.mem_map.mp ha
    exact ⟨b, sp_mem hb, rfl⟩
theorem same_map {f : Nat → Nat} (h : Lin f) {L L' : List Nat} (s : SameSp L L') : SameSp (L.map f) (L'.map f) := by
  refine same_of (fun a ha => ?_) fun a ha => ?_
  · obtain ⟨b, hb, rfl⟩ := List.mem_map.mp ha
    exact lin_sp h b ((s b).mp (sp_mem hb))
  · obtain ⟨b, hb, rfl⟩ := List.mem_map.mp ha
    exact lin_sp h b ((s b).mpr (sp_mem hb))
theorem lin_hi (p : Nat) : Lin fun x => x / 2 ^ p := fun _ _ => Nat.xor_div_two_pow
/-- led there and back -/
theorem back_same {B : List Nat} {n : Nat} {f g : Nat → Nat} (hf : Lin f) (hg : Lin g) (hB : ∀ b ∈ B, b < 2 ^ n) (e : ∀ x, x < 2 ^ n → g (f x) = x) : SameSp ((pb (B.map f)).map g) B := by
  refine ((same_map hg (pb_same _)).trans (same_of (fun a ha => ?_) fun a ha => ?_))
  · obtain ⟨b, hb, rfl⟩ := List.mem_map.mp ha
    obtain ⟨c, hc, rfl⟩ := List.mem_map.mp hb
    rw [e c (hB c hc)]
    exact sp_mem hc
  · have q : g (f a) ∈ (B.map f).map g := List.mem_map_of_mem (List.mem_map_of_mem ha)
    rw [e a (hB a ha)] at q
    exact sp_mem q

/-! ## a plain basis in two: those with a place from p on, those below -/
def below (M : List Nat) (p : Nat) : List Nat := M.filter fun w => w / 2 ^ p == 0
def above (M : List Nat) (p : Nat) : List Nat := (M.filter fun w => !(w / 2 ^ p == 0)).map fun w => w / 2 ^ p
theorem mem_below {M : List Nat} {p x : Nat} : x ∈ below M p ↔ x ∈ M ∧ x < 2 ^ p := by
  unfold below
  rw [List.mem_filter, beq_iff_eq, Nat.div_eq_zero_iff]
  have := Nat.two_pow_pos p
  constructor
  · rintro ⟨h, q | q⟩
    · omega
    · exact ⟨h, q⟩
  · rintro ⟨h, q⟩
    exact ⟨h, Or.inr q⟩
theorem mem_above {M : List Nat} {p x : Nat} : x ∈ above M p ↔ ∃ m ∈ M, m / 2 ^ p ≠ 0 ∧ x = m / 2 ^ p := by
  unfold above
  rw [List.mem_map]
  constructor
  · rintro ⟨m, hm, rfl⟩
    obtain ⟨h1, h2⟩ := List.mem_filter.mp hm
    exact ⟨m, h1, by simpa using h2, rfl⟩
  · rintro ⟨m, h1, h2, rfl⟩
    exact ⟨m, List.mem_filter.mpr ⟨h1, by simpa using h2⟩, rfl⟩
theorem split_len (M : List Nat) (p : Nat) : (below M p).length + (above M p).length = M.length := by
  unfold below above
  rw [List.length_map]
  induction M with
  | nil => rfl
  | cons a M ih =>
    rw [List.filter_cons, List.filter_cons]
    cases h : a / 2 ^ p == 0 with
    | true =>
      rw [if_pos rfl, if_neg (by decide), List.length_cons, List.length_cons]
      omega
    | false =>
      rw [if_neg (by decide), if_pos (show (!false) = true from rfl), List.length_cons, List.length_cons]
      omega
theorem below_plain {M : List Nat} (h : Plain M) (p : Nat) : Plain (below M p) := h.sub List.filter_sublist
theorem top_div {x p : Nat} (h : x / 2 ^ p ≠ 0) : (x / 2 ^ p).log2 + p = x.log2 := by
  have h1 := top_le h
  have h2 := lt_top (x / 2 ^ p)
  have hp := Nat.two_pow_pos p
  have e1 : 2 ^ ((x / 2 ^ p).log2 + p) ≤ x := by
    rw [Nat.pow_add]
    exact Nat.le_trans (Nat.mul_le_mul_right _ h1) (Nat.div_mul_le_self x _)
  have e2 : x < 2 ^ ((x / 2 ^ p).log2 + p + 1) := by
    have z : x < 2 ^ ((x / 2 ^ p).log2 + 1) * 2 ^ p := by
      exact (Nat.div_lt_iff_lt_mul hp).mp h2
    rw [show (x / 2 ^ p).log2 + p + 1 = (x / 2 ^ p).log2 + 1 + p by omega, Nat.pow_add]
    exact z
  exact (top_eq e1 e2).symm
theorem above_plain {M : List Nat} (h : Plain M) (p : Nat) : Plain (above M p) := by
  refine ⟨fun b hb => ?_, ?_, ?_⟩
  · obtain ⟨m, _, h2, rfl⟩ := mem_above.mp hb
    exact h2
  · unfold above
    rw [List.pairwise_map]
    refine List.Pairwise.imp_of_mem ?_ (h.apart.sublist List.filter_sublist)
    intro a b ha hb q
    have na : a / 2 ^ p ≠ 0 := by simpa using (List.mem_filter.mp ha).2
    have nb : b / 2 ^ p ≠ 0 := by simpa using (List.mem_filter.mp hb).2
    refine ⟨?_, ?_⟩
    · rw [Nat.testBit_div_two_pow, top_div nb]
      exact q.1
    · rw [Nat.testBit_div_two_pow, top_div na]
      exact q.2
  · unfold above
    rw [List.pairwise_map]
    exact (h.down.sublist List.filter_sublist).imp fun q => Nat.div_le_div_right q
theorem above_same (E : List Nat) (p : Nat) : SameSp (above (pb E) p) (E.map fun x => x / 2 ^ p) := by
  refine same_of (fun a ha => ?_) fun a ha => ?_
  · obtain ⟨m, hm, _, rfl⟩ := mem_above.mp ha
    exact lin_sp (lin_hi p) m ((pb_same E m).mp (sp_mem hm))
  · obtain ⟨e, he, rfl⟩ := List.mem_map.mp ha
    have key : ∀ y, Spn (pb E) y → Spn (above (pb E) p) (y / 2 ^ p) := by
      refine sp_least ?_ (fun x y hx hy => ?_) fun m hm => ?_
      · rw [Nat.zero_div]
        exact sp_zero _
      · rw [Nat.xor_div_two_pow]
        exact sp_xor hx hy
      · by_cases z : m / 2 ^ p = 0
        · rw [z]
          exact sp_zero _
        · exact sp_mem (mem_above.mpr ⟨m, hm, z, rfl⟩)
    exact key e ((pb_same E e).mpr (sp_mem he))
/-- the words below, and the basis of what stands from p on, are together the basis -/
theorem split_pb (E : List Nat) (p : Nat) : (below (pb E) p).length + (pb (E.map fun x => x / 2 ^ p)).length = (pb E).length := by
  rw [← pb_one (above_plain (pb_plain E) p) (above_same E p)]
  exact split_len (pb E) p

/-! ## two words side by side -/
theorem pair_hi {a b p : Nat} (hb : b < 2 ^ p) : (a <<< p ^^^ b) / 2 ^ p = a := by
  rw [Nat.xor_div_two_pow, Nat.div_eq_of_lt hb, Nat.xor_zero, Nat.shiftLeft_eq]
  exact Nat.mul_div_cancel _ (Nat.two_pow_pos p)
theorem pair_lo {a b p : Nat} (hb : b < 2 ^ p) : (a <<< p ^^^ b) % 2 ^ p = b := by
  rw [Nat.xor_mod_two_pow, Nat.mod_eq_of_lt hb, Nat.shiftLeft_eq, Nat.mul_mod_left, Nat.zero_xor]
theorem pair_add {a b p : Nat} (hb : b < 2 ^ p) : a * 2 ^ p + b = a <<< p ^^^ b := by
  have h1 := pair_hi (a := a) hb
  have h2 := pair_lo (a := a) hb
  have h3 := Nat.div_add_mod (a <<< p ^^^ b) (2 ^ p)
  rw [h1, h2, Nat.mul_comm] at h3
  exact h3
theorem lin_pair {f g : Nat → Nat} (hf : Lin f) (hg : Lin g) (p : Nat) : Lin fun w => f w <<< p ^^^ g w := fun a b => by
  show f (a ^^^ b) <<< p ^^^ g (a ^^^ b) = (f a <<< p ^^^ g a) ^^^ (f b <<< p ^^^ g b)
  rw [hf, hg, Nat.shiftLeft_xor_distrib]
  generalize f a <<< p = u
  generalize f b <<< p = v
  rw [Nat.xor_assoc, Nat.xor_assoc, ← Nat.xor_assoc v, ← Nat.xor_assoc (g a), Nat.xor_comm v (g a)]
theorem lin_id : Lin fun w => w := fun _ _ => rfl
theorem lin_and (m : Nat) : Lin fun w => w &&& m := fun _ _ => Nat.and_xor_distrib_right
theorem lin_shl (p : Nat) : Lin fun w => w <<< p := fun _ _ => Nat.shiftLeft_xor_distrib
theorem plain_free {B : List Nat} (h : Plain B) : Free B := fun i w hi q => by
  have lt := (List.getElem?_eq_some_iff.mp hi).1
  have e : B = B.take i ++ w :: B.drop (i + 1) := by
    have e2 := (List.getElem?_eq_some_iff.mp hi).2
    rw [← e2, List.getElem_cons_drop, List.take_append_drop]
  have hap := h.apart
  rw [e] at hap
  have z := (List.pairwise_append.mp hap).2.2
  have nw : w ≠ 0 := h.nz w (List.mem_of_getElem? hi)
  have b0 := sp_bit (k := w.log2) (fun a ha => (z a ha w List.mem_cons_self).1) w q
  rw [top_on nw] at b0
  cases b0
theorem free_map {B : List Nat} {f : Nat → Nat} {n : Nat} (h : Plain B) (hf : Lin f) (hB : ∀ b ∈ B, b < 2 ^ n) (inj : ∀ x, x < 2 ^ n → f x = 0 → x = 0) : Free (B.map f) := fun i w hi q => by
  rw [List.getElem?_map] at hi
  cases hb : B[i]? with
  | none =>
    rw [hb] at hi
    cases hi
  | some b =>
    rw [hb] at hi
    have e : f b = w := Option.some.inj hi
    subst e
    rw [← List.map_take] at q
    obtain ⟨x, hx, e⟩ := lin_back hf _ q
    have xl : x < 2 ^ n := sp_lt (fun a ha => hB a (List.mem_of_mem_take ha)) x hx
    have z := inj (b ^^^ x) (Nat.xor_lt_two_pow (hB b (List.mem_of_getElem? hb)) xl) (by rw [hf, e, Nat.xor_self])
    rw [← xor_eq_zero' z] at hx
    exact plain_free h i b hb hx

/-! ## shortened and cut -/
/-- the program's words for shortening: a word's places of off ahead, the word behind -/
def shortE (B : List Nat) (off p : Nat) : List Nat := B.map fun w => (w &&& off) <<< p ^^^ w
theorem short_len {B : List Nat} {off p : Nat} (h : Plain B) (hB : ∀ b ∈ B, b < 2 ^ p) :
    (below (pb (shortE B off p)) p).length + (pb (B.map fun w => w &&& off)).length = B.length := by
  have lin : Lin fun w => (w &&& off) <<< p ^^^ w := lin_pair (lin_and off) lin_id p
  have e : (shortE B off p).map (fun x => x / 2 ^ p) = B.map fun w => w &&& off := by
    unfold shortE
    rw [List.map_map]
    exact List.map_congr_left fun w hw => pair_hi (hB w hw)
  have q := split_pb (shortE B off p) p
  rw [e] at q
  rw [q]
  refine (free_len _ (free_map h lin hB fun x hx z => ?_)).trans (List.length_map _)
  have y := pair_lo (a := x &&& off) hx
  rw [z, Nat.zero_mod] at y
  exact y.symm
theorem short_mem {B : List Nat} {off p x : Nat} (hB : ∀ b ∈ B, b < 2 ^ p) (hx : x ∈ below (pb (shortE B off p)) p) : Spn B x ∧ x &&& off = 0 := by
  obtain ⟨h1, h2⟩ := mem_below.mp hx
  have lin : Lin fun w => (w &&& off) <<< p ^^^ w := lin_pair (lin_and off) lin_id p
  obtain ⟨v, hv, e⟩ := lin_back lin x ((pb_same _ x).mp (sp_mem h1))
  have hvl := sp_lt hB v hv
  have e1 : x / 2 ^ p = v &&& off := by
    rw [e]
    exact pair_hi hvl
  have e2 : x % 2 ^ p = v := by
    rw [e]
    exact pair_lo hvl
  rw [Nat.div_eq_of_lt h2] at e1
  rw [Nat.mod_eq_of_lt h2] at e2
  subst e2
  exact ⟨hv, e1.symm⟩

/-! ## sum and common room -/
def commonE (B C : List Nat) (p : Nat) : List Nat := B.map (fun w => w <<< p ^^^ w) ++ C.map fun w => w <<< p
theorem sp_app {L L' : List Nat} : ∀ x, Spn (L ++ L') x → ∃ u v, Spn L u ∧ Spn L' v ∧ x = u ^^^ v := by
  refine sp_least ⟨0, 0, sp_zero _, sp_zero _, rfl⟩ (fun x y hx hy => ?_) fun a ha => ?_
  · obtain ⟨u, v, hu, hv, rfl⟩ := hx
    obtain ⟨u', v', hu', hv', rfl⟩ := hy
    refine ⟨u ^^^ u', v ^^^ v', sp_xor hu hu', sp_xor hv hv', ?_⟩
    rw [Nat.xor_assoc, Nat.xor_assoc, ← Nat.xor_assoc v, ← Nat.xor_assoc u', Nat.xor_comm v u']
  · rcases List.mem_append.mp ha with h | h
    · exact ⟨a, 0, sp_mem h, sp_zero _, (Nat.xor_zero a).symm⟩
    · exact ⟨0, a, sp_zero _, sp_mem h, (Nat.zero_xor a).symm⟩
theorem lin_two (p : Nat) : Lin fun w => w <<< p ^^^ w := lin_pair lin_id lin_id p
theorem common_sp {B C : List Nat} {p : Nat} (hB : ∀ b ∈ B, b < 2 ^ p) {x : Nat} (h : Spn (commonE B C p) x) : ∃ v u, Spn B v ∧ Spn C u ∧ v < 2 ^ p ∧ x = (v ^^^ u) <<< p ^^^ v := by
  obtain ⟨a, b, ha, hb, rfl⟩ := sp_app x h
  obtain ⟨v, hv, rfl⟩ := lin_back (lin_two p) a ha
  obtain ⟨u, hu, rfl⟩ := lin_back (lin_shl p) b hb
  refine ⟨v, u, hv, hu, sp_lt hB v hv, ?_⟩
  show (v <<< p ^^^ v) ^^^ u <<< p = (v ^^^ u) <<< p ^^^ v
  rw [Nat.shiftLeft_xor_distrib, Nat.xor_assoc, Nat.xor_comm v, ← Nat.xor_assoc]
theorem common_free {B C : List Nat} {p : Nat} (hb : Plain B) (hc : Plain C) (hB : ∀ b ∈ B, b < 2 ^ p) (hC : ∀ b ∈ C, b < 2 ^ p) : Free (commonE B C p) := fun i w hi q => by
  rcases Nat.lt_or_ge i (B.map (fun w => w <<< p ^^^ w)).length with lt | ge
  · unfold commonE at hi q
    rw [List.getElem?_append_left lt] at hi
    rw [List.take_append_of_le_length (Nat.le_of_lt lt)] at q
    refine free_map hb (lin_two p) hB (fun x hx z => ?_) i w hi q
    have y := pair_lo (a := x) hx
    rw [z, Nat.zero_mod] at y
    exact y.symm
  · have hi' := hi
    unfold commonE at hi'
    rw [List.getElem?_append_right ge, List.getElem?_map] at hi'
    cases hcj : C[i - (B.map (fun w => w <<< p ^^^ w)).length]? with
    | none =>
      rw [hcj] at hi'
      cases hi'
    | some c =>
      rw [hcj] at hi'
      have e : c <<< p = w := Option.some.inj hi'
      subst e
      have q2 : Spn (commonE B (C.take (i - (B.map (fun w => w <<< p ^^^ w)).length)) p) (c <<< p) := by
        unfold commonE at q ⊢
        rw [List.take_append] at q
        rw [List.take_of_length_le ge, ← List.map_take] at q
        exact q
      obtain ⟨v, u, hv, hu, vl, e⟩ := common_sp hB q2
      have z1 := pair_lo (a := v ^^^ u) vl
      rw [← e, Nat.shiftLeft_eq, Nat.mul_mod_left] at z1
      subst z1
      rw [Nat.xor_zero, Nat.zero_xor] at e
      have e2 : c = u := by
        rw [Nat.shiftLeft_eq, Nat.shiftLeft_eq] at e
        exact Nat.eq_of_mul_eq_mul_right (Nat.two_pow_pos p) e
      subst e2
      exact plain_free hc _ c hcj hu
theorem common_len {B C : List Nat} {p : Nat} (hb : Plain B) (hc : Plain C) (hB : ∀ b ∈ B, b < 2 ^ p) (hC : ∀ b ∈ C, b < 2 ^ p) :
    (below (pb (commonE B C p)) p).length + (pb (B ++ C)).length = B.length + C.length := by
  have e : (commonE B C p).map (fun x => x / 2 ^ p) = B ++ C := by
    unfold commonE
    rw [List.map_append, List.map_map, List.map_map]
    have e1 : B.map ((fun x => x / 2 ^ p) ∘ fun w => w <<< p ^^^ w) = B :=
      (List.map_congr_left (g := fun w => w) fun w hw => pair_hi (hB w hw)).trans (List.map_id' B)
    have e2 : C.map ((fun x => x / 2 ^ p) ∘ fun w => w <<< p) = C := by
      refine (List.map_congr_left (g := fun w => w) fun w _ => ?_).trans (List.map_id' C)
      show w <<< p / 2 ^ p = w
      rw [Nat.shiftLeft_eq]
      exact Nat.mul_div_cancel _ (Nat.two_pow_pos p)
    rw [e1, e2]
  have q := split_pb (commonE B C p) p
  rw [e, free_len _ (common_free hb hc hB hC)] at q
  rw [q]
  unfold commonE
  rw [List.length_append, List.length_map, List.length_map]
theorem common_mem {B C : List Nat} {p x : Nat} (hB : ∀ b ∈ B, b < 2 ^ p) (hx : x ∈ below (pb (commonE B C p)) p) : Spn B x ∧ Spn C x := by
  obtain ⟨h1, h2⟩ := mem_below.mp hx
  obtain ⟨v, u, hv, hu, vl, e⟩ := common_sp hB ((pb_same _ x).mp (sp_mem h1))
  have e1 := pair_hi (a := v ^^^ u) vl
  have e2 := pair_lo (a := v ^^^ u) vl
  rw [← e, Nat.div_eq_of_lt h2] at e1
  rw [← e, Nat.mod_eq_of_lt h2] at e2
  subst e2
  have z := xor_eq_zero' e1.symm
  exact ⟨hv, by rw [z]; exact hu⟩

/-! ## exchanged -/
/-- what a word is led to, by the first so many places of a sequence -/
def ledTo (s : List Nat) (w : Nat) : Nat → Nat
  | 0 => 0
  | i + 1 => if w.testBit i = true then ledTo s w i + 2 ^ s.getD i 0 else ledTo s w i
theorem ledTo_succ (s : List Nat) (w i : Nat) : ledTo s w (i + 1) = if w.testBit i = true then ledTo s w i + 2 ^ s.getD i 0 else ledTo s w i := rfl
theorem add_pow_bit {n k : Nat} (h : n.testBit k = false) (j : Nat) : (n + 2 ^ k).testBit j = (n.testBit j || decide (k = j)) := by
  have e : n + 2 ^ k = n ||| 2 ^ k := by
    have q := Nat.div_add_mod n (2 ^ (k + 1))
    have hp : 2 ^ (k + 1) = 2 ^ k + 2 ^ k := by rw [Nat.pow_succ, Nat.mul_two]
    have lo : n % 2 ^ (k + 1) < 2 ^ k := by
      refine Nat.lt_pow_two_of_testBit _ fun i hi => ?_
      rw [Nat.testBit_mod_two_pow]
      rcases Nat.lt_or_ge i (k + 1) with l | l
      · have ei : i = k := by omega
        rw [ei, h, Bool.and_false]
      · rw [decide_eq_false (by omega), Bool.false_and]
    have e1 : 2 ^ (k + 1) * (n / 2 ^ (k + 1)) + n % 2 ^ (k + 1) = 2 ^ (k + 1) * (n / 2 ^ (k + 1)) ||| n % 2 ^ (k + 1) := Nat.two_pow_add_eq_or_of_lt (by omega) _
    have e2 : n % 2 ^ (k + 1) + 2 ^ k = n % 2 ^ (k + 1) ||| 2 ^ k := (Nat.or_two_pow_eq_add_of_lt lo).symm
    have e3 : 2 ^ (k + 1) * (n / 2 ^ (k + 1)) + (n % 2 ^ (k + 1) + 2 ^ k) = 2 ^ (k + 1) * (n / 2 ^ (k + 1)) ||| (n % 2 ^ (k + 1) + 2 ^ k) := Nat.two_pow_add_eq_or_of_lt (by omega) _
    calc n + 2 ^ k = 2 ^ (k + 1) * (n / 2 ^ (k + 1)) + (n % 2 ^ (k + 1) + 2 ^ k) := by rw [← Nat.add_assoc, q]
      _ = (2 ^ (k + 1) * (n / 2 ^ (k + 1)) ||| n % 2 ^ (k + 1)) ||| 2 ^ k := by rw [e3, e2, Nat.or_assoc]
      _ = n ||| 2 ^ k := by rw [← e1, q]
  rw [e, Nat.testBit_or, Nat.testBit_two_pow]
theorem led_off {s : List Nat} (hs : s.Nodup) {w j : Nat} : ∀ i, i ≤ s.length → (∀ k, k < i → s.getD k 0 ≠ j) → (ledTo s w i).testBit j = false
  | 0, _, _ => Nat.zero_testBit j
  | i + 1, hi, h => by
    have ih := led_off hs (w := w) i (by omega) fun k hk => h k (by omega)
    have own := led_off hs (w := w) (j := s.getD i 0) i (by omega) fun k hk e => by
      have hk' : k < s.length := by omega
      have hi' : i < s.length := by omega
      rw [List.getD_eq_getElem?_getD, List.getD_eq_getElem?_getD, List.getElem?_eq_getElem hk', List.getElem?_eq_getElem hi'] at e
      have := (List.getElem_inj hs).mp e
      omega
    unfold ledTo
    split
    · rw [add_pow_bit own, ih, decide_eq_false (h i (by omega)), Bool.or_false]
    · exact ih
theorem led_on {s : List Nat} (hs : s.Nodup) {w k : Nat} : ∀ i, i ≤ s.length → k < i → (ledTo s w i).testBit (s.getD k 0) = w.testBit k
  | 0, _, hk => by omega
  | i + 1, hi, hk => by
    have ne : ∀ {a b : Nat}, a < s.length → b < s.length → a ≠ b → s.getD a 0 ≠ s.getD b 0 := fun {a b} ha hb n e => by
      rw [List.getD_eq_getElem?_getD, List.getD_eq_getElem?_getD, List.getElem?_eq_getElem ha, List.getElem?_eq_getElem hb] at e
      exact n ((List.getElem_inj hs).mp e)
    have own := led_off hs (w := w) (j := s.getD i 0) i (by omega) fun k hk => ne (by omega) (by omega) (by omega)
    unfold ledTo
    by_cases e : k = i
    · subst e
      by_cases hw : w.testBit k = true
      · rw [if_pos hw, add_pow_bit own, own, decide_eq_true rfl, hw]
        rfl
      · rw [if_neg hw, own]
        simpa using hw
    · have ih := led_on hs (w := w) (k := k) i (by omega) (by omega)
      split
      · rw [add_pow_bit own, ih, decide_eq_false (fun z => ne (by omega) (by omega) e z.symm), Bool.or_false]
      · exact ih
def led (s : List Nat) (w : Nat) : Nat := ledTo s w s.length
theorem led_bit {s : List Nat} (hs : s.Nodup) (w : Nat) {k : Nat} (hk : k < s.length) : (led s w).testBit (s.getD k 0) = w.testBit k := led_on hs _ (Nat.le_refl _) hk
theorem led_out {s : List Nat} (hs : s.Nodup) (w : Nat) {j : Nat} (hj : j ∉ s) : (led s w).testBit j = false := by
  refine led_off hs _ (Nat.le_refl _) fun k hk e => hj ?_
  rw [List.getD_eq_getElem?_getD, List.getElem?_eq_getElem hk] at e
  have e2 : s[k] = j := e
  rw [← e2]
  exact List.getElem_mem hk
theorem mem_at {s : List Nat} {j : Nat} (h : j ∈ s) : ∃ k, k < s.length ∧ s.getD k 0 = j := by
  obtain ⟨k, hk, e⟩ := List.mem_iff_getElem.mp h
  refine ⟨k, hk, ?_⟩
  rw [List.getD_eq_getElem?_getD, List.getElem?_eq_getElem hk]
  exact e
theorem led_lin {s : List Nat} (hs : s.Nodup) : Lin (led s) := fun a b => by
  refine Nat.eq_of_testBit_eq fun j => ?_
  rw [Nat.testBit_xor]
  by_cases h : j ∈ s
  · obtain ⟨k, hk, rfl⟩ := mem_at h
    rw [led_bit hs _ hk, led_bit hs _ hk, led_bit hs _ hk, Nat.testBit_xor]
  · rw [led_out hs _ h, led_out hs _ h, led_out hs _ h]
    rfl
theorem led_lt {s : List Nat} (hs : s.Nodup) {n : Nat} (h : ∀ j ∈ s, j < n) (w : Nat) : led s w < 2 ^ n :=
  Nat.lt_pow_two_of_testBit _ fun i hi => led_out hs w fun hm => by
    have := h i hm
    omega
/-- the other way round: t is s's way back -/
theorem led_back {s t : List Nat} {n : Nat} (hs : s.Perm (List.range n)) (ht : t.Nodup) (hl : t.length = n) (h : ∀ k, k < n → t.getD (s.getD k 0) 0 = k) (w : Nat) (hw : w < 2 ^ n) : led t (led s w) = w := by
  have hn : s.length = n := by rw [hs.length_eq, List.length_range]
  have nd : s.Nodup := (List.Perm.nodup_iff hs).mpr List.nodup_range
  refine Nat.eq_of_testBit_eq fun j => ?_
  have at_ : ∀ k, k < n → s.getD k 0 < n := fun k hk => by
    refine List.mem_range.mp (hs.mem_iff.mp ?_)
    rw [List.getD_eq_getElem?_getD, List.getElem?_eq_getElem (by omega)]
    exact List.getElem_mem _
  rcases Nat.lt_or_ge j n with lt | ge
  · have q := led_bit ht (led s w) (k := s.getD j 0) (by rw [hl]; exact at_ j lt)
    rw [h j lt, led_bit nd w (by omega)] at q
    exact q
  · have z : j ∉ t := fun hj => by
      obtain ⟨k, hk, e⟩ := mem_at hj
      obtain ⟨i, hi, e2⟩ := mem_at (hs.mem_iff.mpr (List.mem_range.mpr (show k < n by omega)))
      have e3 := h i (by omega)
      rw [e2, e] at e3
      omega
    rw [led_out ht _ z]
    exact (Nat.testBit_lt_two_pow (Nat.lt_of_lt_of_le hw (Nat.pow_le_pow_right (by decide) ge))).symm
/-- the program's sum of the led places -/
theorem led_sum (s : List Nat) (w : Nat) : ∀ n, (((List.range n).filter fun k => w.testBit k).map fun k => 2 ^ s.getD k 0).sum = ledTo s w n
  | 0 => rfl
  | n + 1 => by
    have ih := led_sum s w n
    rw [List.range_succ, List.filter_append, List.map_append, List.sum_append, ih, ledTo_succ]
    by_cases h : w.testBit n = true
    · rw [if_pos h, List.filter_cons, if_pos h, List.filter_nil, List.map_cons, List.map_nil, List.sum_cons, List.sum_nil, Nat.add_zero]
    · rw [if_neg h, List.filter_cons, if_neg h, List.filter_nil, List.map_nil, List.sum_nil, Nat.add_zero]
/-- places from n on are off -/
theorem spots_low {w n m : Nat} (hw : w < 2 ^ n) (h : n ≤ m) : ((List.range m).filter fun k => w.testBit k) = (List.range n).filter fun k => w.testBit k := by
  induction m with
  | zero =>
    have e : n = 0 := by omega
    rw [e]
  | succ m ih =>
    by_cases e : n = m + 1
    · rw [e]
    · rw [List.range_succ, List.filter_append, ih (by omega), List.filter_cons, if_neg, List.filter_nil, List.append_nil]
      rw [Nat.testBit_lt_two_pow (Nat.lt_of_lt_of_le hw (Nat.pow_le_pow_right (by decide) (by omega)))]
      decide
end OC

namespace OC
/-! ## what the law asks, of words and bases alone -/
theorem and_off {x w n : Nat} (hx : x < 2 ^ n) (h : x &&& ((2 ^ n - 1) ^^^ w) = 0) : x &&& w = x := by
  refine Nat.eq_of_testBit_eq fun i => ?_
  rw [Nat.testBit_and]
  cases hb : x.testBit i with
  | false => rfl
  | true =>
    have hi : i < n := by
      refine Nat.lt_of_not_le fun z => ?_
      have := Nat.testBit_lt_two_pow (Nat.lt_of_lt_of_le hx (Nat.pow_le_pow_right (by decide) z))
      rw [this] at hb
      cases hb
    have q : (x &&& ((2 ^ n - 1) ^^^ w)).testBit i = false := by
      rw [h, Nat.zero_testBit]
    rw [Nat.testBit_and, Nat.testBit_xor, Nat.testBit_two_pow_sub_one, hb, decide_eq_true hi] at q
    cases hw : w.testBit i with
    | true => rfl
    | false =>
      rw [hw] at q
      cases q
theorem all_lie {S C : List Nat} (h : Plain C) (s : ∀ b ∈ S, Spn C b) : (S.all fun b => decide (leftOf C b = 0)) = true := by
  rw [List.all_eq_true]
  exact fun b hb => decide_eq_true ((left_zero h b).mpr (s b hb))
theorem pb_passed {L z : List Nat} (p : z.Perm (L ++ L.take 12)) : pb z = pb L := by
  refine pb_congr ((same_perm p).trans (same_mem fun a => ?_))
  rw [List.mem_append]
  exact ⟨fun h => h.elim id List.mem_of_mem_take, .inl⟩
theorem pb_perm {B z : List Nat} (h : Plain B) (p : z.Perm B) : pb z = B := (pb_congr (same_perm p)).trans (pb_self h)
theorem sp_sub {L M : List Nat} (h : ∀ a ∈ L, a ∈ M) : ∀ x, Spn L x → Spn M x := sp_le fun a ha => sp_mem (h a ha)
theorem pb_two (L M : List Nat) : pb (pb L ++ pb M) = pb (L ++ M) := by
  refine pb_congr (same_of (fun a ha => ?_) fun a ha => ?_)
  · rcases List.mem_append.mp ha with h | h
    · exact sp_sub (fun b hb => List.mem_append_left _ hb) a ((pb_same L a).mp (sp_mem h))
    · exact sp_sub (fun b hb => List.mem_append_right _ hb) a ((pb_same M a).mp (sp_mem h))
  · rcases List.mem_append.mp ha with h | h
    · exact sp_sub (fun b hb => List.mem_append_left _ hb) a ((pb_same L a).mpr (sp_mem h))
    · exact sp_sub (fun b hb => List.mem_append_right _ hb) a ((pb_same M a).mpr (sp_mem h))
theorem in_both (B C : List Nat) : ∀ b ∈ C, Spn (pb (B ++ C)) b := fun b hb => (pb_same (B ++ C) b).mpr (sp_mem (List.mem_append_right _ hb))
theorem common_dim {B C : List Nat} {n : Nat} (hb : Plain B) (hc : Plain C) (hB : ∀ b ∈ B, b < 2 ^ n) (hC : ∀ b ∈ C, b < 2 ^ n) :
    (pb (B ++ C)).length ≤ B.length + C.length ∧ (below (pb (commonE B C n)) n).length = B.length + C.length - (pb (B ++ C)).length := by
  have := common_len hb hc hB hC
  omega
theorem take_plain {B : List Nat} (h : Plain B) (k : Nat) : Plain (B.take k) := h.sub (List.take_sublist k B)
theorem pb_take_self {B : List Nat} (h : Plain B) (k : Nat) : pb (B.take k) = B.take k := pb_self (take_plain h k)
theorem led_low {s : List Nat} {n : Nat} (hs : s.Perm (List.range n)) (w : Nat) : led s w < 2 ^ n := by
  have nd : s.Nodup := (List.Perm.nodup_iff hs).mpr List.nodup_range
  exact led_lt nd (fun j hj => List.mem_range.mp (hs.mem_iff.mp hj)) w
/-- the sequence that leads back -/
theorem back_at {s t : List Nat} {n : Nat} (hs : s.Perm (List.range n)) (hl : t.length = n) (h : ∀ k, k < n → t.getD (s.getD k 0) 0 = k) : t.Nodup ∧ t.Perm (List.range n) := by
  have hn : s.length = n := by rw [hs.length_eq, List.length_range]
  have at_ : ∀ i, (hi : i < t.length) → s.getD (t[i]) 0 = i ∧ t[i] < n := fun i hi => by
    obtain ⟨k, hk, e⟩ := mem_at (hs.mem_iff.mpr (List.mem_range.mpr (hl ▸ hi)))
    have := h k (hn ▸ hk)
    rw [e, List.getD_eq_getElem?_getD, List.getElem?_eq_getElem hi] at this
    have this : t[i] = k := this
    rw [this]
    exact ⟨e, hn ▸ hk⟩
  have nd : t.Nodup := by
    refine List.pairwise_iff_getElem.mpr fun i j hi hj lt e => ?_
    have h1 := (at_ i hi).1
    have h2 := (at_ j hj).1
    rw [e] at h1
    omega
  refine ⟨nd, (List.perm_ext_iff_of_nodup nd List.nodup_range).mpr fun a => ?_⟩
  rw [List.mem_range]
  constructor
  · intro ha
    obtain ⟨i, hi, rfl⟩ := List.getElem_of_mem ha
    exact (at_ i hi).2
  · intro ha
    have hk : s.getD a 0 < t.length := by
      rw [hl, List.getD_eq_getElem?_getD, List.getElem?_eq_getElem (hn.symm ▸ ha)]
      exact List.mem_range.mp (hs.mem_iff.mp (List.getElem_mem _))
    have := h a ha
    rw [List.getD_eq_getElem?_getD, List.getElem?_eq_getElem hk] at this
    have this : t[s.getD a 0] = a := this
    rw [← this]
    exact List.getElem_mem _
theorem exch_back {B s t : List Nat} {n : Nat} (hB : Plain B) (lt : ∀ b ∈ B, b < 2 ^ n) (hs : s.Perm (List.range n)) (hl : t.length = n) (h : ∀ k, k < n → t.getD (s.getD k 0) 0 = k) :
    pb ((pb (B.map (led s))).map (led t)) = B := by
  have nd : s.Nodup := (List.Perm.nodup_iff hs).mpr List.nodup_range
  have nt := (back_at hs hl h).1
  exact (pb_congr (back_same (led_lin nd) (led_lin nt) lt fun x hx => led_back hs nt hl h x hx)).trans (pb_self hB)
/-- a turn of the walk that makes it -/
theorem back_turn {s t : List Nat} {n i j : Nat} (nd : s.Nodup) (hi : s[i]? = some j) (hl : j < t.length) (h : ∀ k, k < i → t.getD (s.getD k 0) 0 = k) :
    ∀ k, k < i + 1 → (t.set j i).getD (s.getD k 0) 0 = k := fun k hk => by
  obtain ⟨li, ei⟩ := List.getElem?_eq_some_iff.mp hi
  by_cases e : k = i
  · subst e
    have : s.getD k 0 = j := by
      rw [List.getD_eq_getElem?_getD, hi]
      rfl
    rw [this, List.getD_eq_getElem?_getD, List.getElem?_set_self hl]
    rfl
  · have lk : k < i := by omega
    have ne : j ≠ s.getD k 0 := fun z => by
      rw [List.getD_eq_getElem?_getD, List.getElem?_eq_getElem (Nat.lt_trans lk li)] at z
      exact List.pairwise_iff_getElem.mp nd k i _ li lk (z.symm.trans ei.symm)
    rw [List.getD_eq_getElem?_getD, List.getElem?_set_ne ne, ← List.getD_eq_getElem?_getD]
    exact h k lk
end OC

namespace OC
open PySem PySem.Spec PyProof.Rows L2
/-! ## values: words are naturals -/
abbrev wN (n : Nat) : V := .int (n : Int)
abbrev wL (l : List Nat) : List V := l.map wN
def rN (C : Nat → Nat → Prop) (g : Nat → Nat → V) : R2 := fun x y H Q => ∃ i j : Nat, x = wN i ∧ y = wN j ∧ C i j ∧ Q (g i j) H
def rN0 (g : Nat → Nat → V) : R2 := fun x y H Q => ∃ i j : Nat, x = wN i ∧ y = wN j ∧ Q (g i j) H
section
variable {X : Cx}
theorem nat_op0 {f : Value → Value → Sem Value} {g : Int → Int → V} {h : Nat → Nat → V} (o : OpR X f (rI0 g)) (e : ∀ i j : Nat, g i j = h i j) : OpR X f (rN0 h) := by
  intro pins s σ H x y v u Q I rx ry q
  obtain ⟨i, j, rfl, rfl, q⟩ := q
  exact o pins s σ H _ _ v u Q I rx ry ⟨i, j, rfl, rfl, by rw [e]; exact q⟩
theorem nat_op {f : Value → Value → Sem Value} {C : Int → Int → Prop} {g : Int → Int → V} {D : Nat → Nat → Prop} {h : Nat → Nat → V} (o : OpR X f (rI C g)) (c : ∀ i j : Nat, D i j → C i j) (e : ∀ i j : Nat, D i j → g i j = h i j) : OpR X f (rN D h) := by
  intro pins s σ H x y v u Q I rx ry q
  obtain ⟨i, j, rfl, rfl, d, q⟩ := q
  exact o pins s σ H _ _ v u Q I rx ry ⟨i, j, rfl, rfl, c i j d, by rw [e i j d]; exact q⟩
theorem bx (i j : Nat) : Builtin.bitXor (i : Int) (j : Int) = ((i ^^^ j : Nat) : Int) := by
  rw [Bits.bitXor_pp (Int.natCast_nonneg _) (Int.natCast_nonneg _), Int.toNat_natCast, Int.toNat_natCast]
theorem ba' (i j : Nat) : Builtin.bitAnd (i : Int) (j : Int) = ((i &&& j : Nat) : Int) := by
  rw [PyProof.Rows.bitAnd_pp (Int.natCast_nonneg _) (Int.natCast_nonneg _), Int.toNat_natCast, Int.toNat_natCast]
theorem two_cast (j : Nat) : ((2 ^ j : Nat) : Int) = (2 : Int) ^ j := by
  rw [Int.natCast_pow]
  rfl
theorem n_xor : OpR X (binaryOp .BitXor) (rN0 fun i j => wN (i ^^^ j)) := nat_op0 op_xor fun i j => by rw [bx]
theorem n_and : OpR X (binaryOp .BitAnd) (rN0 fun i j => wN (i &&& j)) := nat_op0 op_and fun i j => by rw [ba']
theorem n_add : OpR X (binaryOp .Add) (rN0 fun i j => wN (i + j)) := nat_op0 op_add fun i j => congrArg V.int (Int.natCast_add i j).symm
theorem n_sub : OpR X (binaryOp .Sub) (rN (fun i j => j ≤ i) fun i j => wN (i - j)) := by
  intro pins s σ H x y v u Q I rx ry q
  obtain ⟨i, j, rfl, rfl, d, q⟩ := q
  exact op_sub pins s σ H _ _ v u Q I rx ry ⟨i, j, rfl, rfl, by
    show Q (.int ((i : Int) - (j : Int))) H
    rw [show (i : Int) - (j : Int) = ((i - j : Nat) : Int) by omega]
    exact q⟩
theorem n_mul : OpR X (binaryOp .Mult) (rN (fun i _ => i ≤ 4294967296) fun i j => wN (i * j)) := nat_op op_mul (fun i j d => Or.inl ⟨by omega, by omega⟩) fun i j _ => congrArg V.int (Int.natCast_mul i j).symm
theorem n_mod : OpR X (binaryOp .Mod) (rN (fun _ j => 0 < j) fun i j => wN (i % j)) := nat_op op_mod (fun i j d => by omega) fun i j _ => congrArg V.int (Int.natCast_emod i j).symm
theorem n_div : OpR X (binaryOp .FloorDiv) (rN (fun _ j => 0 < j ∧ j < 1073741824) fun i j => wN (i / j)) := nat_op op_fdiv (fun i j d => ⟨by omega, by omega⟩) fun i j _ => congrArg V.int (Int.natCast_ediv i j).symm
theorem n_shr : OpR X (binaryOp .RShift) (rN0 fun i j => wN (i / 2 ^ j)) := by
  intro pins s σ H x y v u Q I rx ry q
  obtain ⟨i, j, rfl, rfl, q⟩ := q
  refine op_shr pins s σ H _ _ v u Q I rx ry ⟨i, j, rfl, rfl, Int.natCast_nonneg _, ?_⟩
  show Q (.int ((i : Int) / 2 ^ (j : Int).toNat)) H
  rw [Int.toNat_natCast, ← two_cast, ← Int.natCast_ediv]
  exact q
theorem n_shl : OpR X (binaryOp .LShift) (rN (fun i j => i < 2 ^ 64 ∧ j ≤ 1000000) fun i j => wN (i * 2 ^ j)) := by
  intro pins s σ H x y v u Q I rx ry q
  obtain ⟨i, j, rfl, rfl, ⟨d1, d2⟩, q⟩ := q
  refine op_shl pins s σ H _ _ v u Q I rx ry ⟨i, j, rfl, rfl, ⟨Int.natCast_nonneg _, by omega, by rw [Int.natAbs_natCast]; exact d1⟩, ?_⟩
  show Q (.int ((i : Int) * 2 ^ (j : Int).toNat)) H
  rw [Int.toNat_natCast, ← two_cast, ← Int.natCast_mul]
  exact q
theorem dec_n {i j : Nat} : decide ((V.int (i : Int)) = V.int (j : Int)) = decide (i = j) := by
  by_cases e : i = j
  · subst e
    rw [decide_eq_true rfl, decide_eq_true rfl]
  · rw [decide_eq_false e, decide_eq_false]
    intro z
    injection z with z
    omega
theorem n_eq : OpR X (compareOp .Eq) (rN0 fun i j => .bl (decide (i = j))) := by
  intro pins s σ H x y v u Q I rx ry q
  obtain ⟨i, j, rfl, rfl, q⟩ := q
  exact op_eq pins s σ H _ _ v u Q I rx ry ⟨rfl, by rw [dec_n]; exact q⟩
theorem n_ne : OpR X (compareOp .NotEq) (rN0 fun i j => .bl (!decide (i = j))) := by
  intro pins s σ H x y v u Q I rx ry q
  obtain ⟨i, j, rfl, rfl, q⟩ := q
  exact op_ne pins s σ H _ _ v u Q I rx ry ⟨rfl, by rw [dec_n]; exact q⟩
theorem dec_iff {p q : Prop} [Decidable p] [Decidable q] (h : p ↔ q) : decide p = decide q := by
  by_cases hq : q
  · rw [decide_eq_true hq, decide_eq_true (h.mpr hq)]
  · rw [decide_eq_false hq, decide_eq_false fun z => hq (h.mp z)]
theorem n_gt : OpR X (compareOp .Gt) (rN0 fun i j => .bl (decide (j < i))) := nat_op0 op_gt fun i j => by rw [dec_iff (show ((j : Int) < (i : Int)) ↔ j < i by omega)]
theorem n_ge : OpR X (compareOp .GtE) (rN0 fun i j => .bl (decide (j ≤ i))) := nat_op0 op_ge fun i j => by rw [dec_iff (show ((j : Int) ≤ (i : Int)) ↔ j ≤ i by omega)]
theorem n_le : OpR X (compareOp .LtE) (rN0 fun i j => .bl (decide (i ≤ j))) := nat_op0 op_le fun i j => by rw [dec_iff (show ((i : Int) ≤ (j : Int)) ↔ i ≤ j by omega)]
theorem n_lt : OpR X (compareOp .Lt) (rN0 fun i j => .bl (decide (i < j))) := nat_op0 op_lt fun i j => by rw [dec_iff (show ((i : Int) < (j : Int)) ↔ i < j by omega)]
/-- a written number -/
theorem pe_n (n : Nat) {j pos} : PE X (.Constant (.int (n : Int)) j pos) (tC (wN n)) := pe_int
theorem n_min (hc : X.calm = true) : CallR X (.builtin "min") (fun xs H Q => ∃ i j : Nat, xs = [wN i, wN j] ∧ Q (wN (min i j)) H) := by
  intro pins s σ H xs us Q I r q
  obtain ⟨i, j, rfl, q⟩ := q
  refine call_min2 hc pins s σ H _ us Q I r ⟨i, j, rfl, ?_⟩
  have e : (if (j : Int) < (i : Int) then (j : Int) else (i : Int)) = ((min i j : Nat) : Int) := by
    split <;> omega
  rw [e]
  exact q
/-- w >> p & 1 == 1 -/
theorem bit_dec (w p : Nat) : decide (w / 2 ^ p &&& 1 = 1) = w.testBit p := by
  rw [Nat.and_one_is_mod, Nat.testBit_eq_decide_div_mod_eq]
/-- repr of a bool -/
def reprB (b : Bool) : Str := if b then "True" else "False"
theorem c_reprB : CallR X (.builtin "repr") (fun xs H Q => ∃ b, xs = [.bl b] ∧ Q (.str (reprB b)) H) := by
  intro pins s σ H xs us Q I r q
  obtain ⟨b, rfl, q⟩ := q
  obtain ⟨u, rfl, ru⟩ := vals1 r
  obtain rfl : u = Value.bool b := ru
  exact PySem.P.repr_of_bool ⟨.str (reprB b), H, I.tok _, ⟨_, rfl⟩, q⟩
/-- a list or a tuple, walked -/
def iSeq (K : PySem.W.Frag) (tl : TE) : TI := fun σ H R => tl σ H fun x H1 => ∃ a, x = .ref a ∧ (((∃ xs, SqL K H1 a xs) ∧ R (Itl K a) H1) ∨ ((∃ xs, SqT K H1 a xs) ∧ R (Itt K a) H1))
theorem pi_seq {tg l : Expr} {tl : TE} (hl : PE X l tl) : PI X tg l (iSeq X.K tl) := by
  refine ⟨fun pins s σ H R I h => thn (hl.run pins s σ H _ I h) fun v s1 ⟨x, H1, I1, r1, a, e, q1⟩ => ?_⟩
  subst e
  obtain rfl : v = Value.ref a := r1
  have grown : Inv X pins σ H1 { s1 with heap := s1.heap.push { cls := .type "list_iterator", data := .fields #[.ref a, .int 0 0] } } := I1.kept (t' := s1.toks) fun b o z => Heap.get?_push_of_some _ z
  have own : ∀ b ∈ [s1.heap.objs.size], FpOk X pins H1 b := fun b hb => by
    rw [List.mem_singleton.mp hb]
    exact I1.fpOk (Nat.le_refl _) (I1.hok.fresh (Nat.le_refl _))
  rcases q1 with ⟨⟨xs, hq⟩, q⟩ | ⟨⟨xs, hq⟩, q⟩
  · obtain ⟨its, _, p, _⟩ := I1.list hq
    refine wpAny_pyIter_list p.isList ?_
    exact ⟨_, [s1.heap.objs.size], _, _, H1, rfl, I1.kept (t' := s1.toks) fun b o z => Heap.get?_push_of_some _ z, turn_list a _, ⟨_, Heap.get?_push_size _ rfl, rfl, rfl⟩, own, q⟩
  · obtain ⟨its, _, p, _⟩ := I1.tuple hq
    refine wpAny_pyIter_tuple (show s1.heap.IsTuple a its.toArray from p) ?_
    exact ⟨_, [s1.heap.objs.size], _, _, H1, rfl, I1.kept (t' := s1.toks) fun b o z => Heap.get?_push_of_some _ z, turn_tuple a _, ⟨_, Heap.get?_push_size _ rfl, rfl, rfl⟩, own, q⟩
end
end OC

/-! ## t[::-1] of a tuple -/
namespace OC
open PySem PySem.Spec PyProof.Rows L2 HT
theorem rev_places (n : Nat) : Builtin.Slice.slicePlaces ((n : Int) - 1) (-1) (-1) = n := by
  unfold Builtin.Slice.slicePlaces
  rw [if_neg (show ¬ ((-1 : Int) > 0) by decide)]
  by_cases h : (n : Int) - 1 > -1
  · rw [if_pos h]
    have e : ((n : Int) - 1 - -1 - 1) / (- -1) = (n : Int) - 1 := by
      rw [show (- -1 : Int) = 1 by decide, Int.ediv_one]
      omega
    rw [e]
    omega
  · rw [if_neg h]
    omega
theorem rev_pick (xs : Array Value) : ((List.range xs.size).filterMap fun (m : Nat) => xs[((xs.size : Int) - 1 + (m : Int) * (-1)).toNat]?).toArray = xs.toList.reverse.toArray := by
  have h := PySem.W.krv_all xs
  have e : (fun (m : Nat) => xs[((xs.size : Int) - 1 + (m : Int) * (-1)).toNat]?) = (fun k => xs[k]?) ∘ fun m : Nat => ((xs.size : Int) - 1 + (m : Int) * (-1)).toNat := rfl
  rw [e, ← List.filterMap_map]
  have e2 : (List.range xs.size).map (fun m : Nat => ((xs.size : Int) - 1 + (m : Int) * (-1)).toNat) = (List.range xs.size).reverse := by
    rw [← PySem.W.krv_range]
    refine List.map_congr_left fun k hk => ?_
    have := List.mem_range.mp hk
    omega
  rw [e2, List.filterMap_reverse, h]
section
variable {prog : Program} {w : World} {A : Around} {E : Value → Shared → Prop} {s : Shared}
theorem applied_rev {sl : Addr} {vk : Value} {n : Nat} {Q : Int × Int × Nat → Shared → Prop} (hs : s.heap.IsSliceOf sl .none .none vk) (pk : IsPart vk (some (-1)))
    (h : Q ((n : Int) - 1, -1, n) s) : wpAny (model prog w) A (Builtin.Slice.sliceApplied (.ref sl) (pure (n : Int))) Q E s := by
  obtain ⟨os, hos, hcs, hds⟩ := id hs
  unfold Builtin.Slice.sliceApplied Builtin.Slice.sliceFields
  refine wpAny_bind (wpAny_bind (wpAny_field hos hds (x := .none) rfl (wpAny_bind (wpAny_field hos hds (x := .none) rfl (wpAny_bind (wpAny_field hos hds (x := vk) rfl (wpAny_pure ?_)))))))
  refine wpAny_bind (slicePart_ pk ?_)
  show wpAny _ _ (if ((-1 : Int) == 0) = true then _ else _) _ _ s
  rw [if_neg (by decide)]
  refine wpAny_bind (slicePart_none (wpAny_bind (slicePart_none (wpAny_bind (wpAny_pure ?_)))))
  have e : Builtin.Slice.sliceAdjust none none (-1) (n : Int) = ((n : Int) - 1, -1) := rfl
  show wpAny _ _ (match Builtin.Slice.sliceAdjust none none (-1) (n : Int) with | (lo, hi) => pure (lo, (-1 : Int), Builtin.Slice.slicePlaces lo hi (-1))) _ _ s
  rw [e]
  show wpAny _ _ (pure ((n : Int) - 1, (-1 : Int), Builtin.Slice.slicePlaces ((n : Int) - 1) (-1) (-1))) _ _ s
  rw [rev_places]
  exact wpAny_pure h
theorem item_tuple_rev {t sl : Addr} {items : Array Value} {vk : Value} {Q : Value → Shared → Prop} (ht : IsTup s.heap t items) (hs : s.heap.IsSliceOf sl .none .none vk) (pk : IsPart vk (some (-1)))
    (h : Q (.ref s.heap.objs.size) { s with heap := s.heap.push { cls := .type "tuple", data := .seq items.toList.reverse.toArray } })
    (hsz : items.size ≤ sizeLine) : wpAny (model prog w) A (getItem (.ref t) (.ref sl)) Q E s := by
  have hz : sizeOk (.seq items.toList.reverse.toArray) := by
    show items.toList.reverse.toArray.size ≤ sizeLine
    rw [List.size_toArray, List.length_reverse, Array.length_toList]
    exact hsz
  obtain ⟨os, hos, hcs, hds⟩ := id hs
  have hTs : s.TypeIs (.ref sl) "slice" := ⟨os, hos, hcs⟩
  unfold getItem
  try with_reducible refine wpAny_holding ?_
  first | refine wpAny_bind (wpAny_pure ?_) | skip
  refine wpAny_bind (wpAny_sequenceKey ht.typeIs (by decide) ?_)
  refine wpAny_bind (wpAny_callSpecial?_slot (name := Str.ofString "__getitem__") ht.typeIs PyProof.Rows.slot_tuple_getitem
    (wpAny_call_entry PyProof.Rows.slot_tuple_getitem ht.typeIs entry_tuple_getitem ?_ (args_tuple_getitem _ _)))
  show wpAny _ _ (Builtin.Tuple.tupleItemsOf (.ref t) >>= _) _ _ s
  refine wpAny_bind (tupleItemsOf_ ht ?_)
  refine wpAny_bind (wpAny_typeOf hTs ?_)
  rw [if_pos (by decide)]
  refine wpAny_bind (applied_rev hs pk ?_)
  have hno : ¬ (((items.size : Int) - 1 == 0 && (-1 : Int) == 1 && items.size == items.size) = true) := by
    rw [show ((-1 : Int) == 1) = false from rfl, Bool.and_false, Bool.false_and]
    decide
  show wpAny _ _ (if ((items.size : Int) - 1 == 0 && (-1 : Int) == 1 && items.size == items.size) = true then _ else _) _ _ s
  rw [if_neg hno, rev_pick]
  first
    | exact wpAny_bind (m := Builtin.Tuple.tupleExact _) (wpAny_newObj_type (wpAny_pure ⟨_, rfl, wpAny_pure h⟩) hz)
    | exact wpAny_bind (m := Builtin.Tuple.tupleExact _) (wpAny_newObj_type (wpAny_bind (wpAny_pure (wpAny_pure ⟨_, rfl, wpAny_pure h⟩))) hz)
    | exact wpAny_bind (wpAny_bind (m := Builtin.Tuple.tupleExact _) (wpAny_newObj_type (wpAny_pure (wpAny_pure ⟨_, rfl, wpAny_pure h⟩)) hz))
    | exact wpAny_bind (wpAny_bind (m := Builtin.Tuple.tupleExact _) (wpAny_newObj_type (wpAny_pure ⟨_, rfl, wpAny_pure h⟩) hz))
end
def tRevT (K : PySem.W.Frag) (te : TE) : TE := fun σ H Q => te σ H fun x H1 => ∃ a xs, x = .ref a ∧ SqT K H1 a xs ∧ ∀ p, H1 p = none → Q (.ref p) (upd H1 p (.tup xs.reverse))
theorem pe_revT {X : Cx} {e : Expr} {te : TE} {k : Nat} {p1 p2 p3 pos : Pos} (he : PE X e te) : PE X (.Subscript e (.Slice none none (some (.UnaryOp .USub (.Constant (.int 1) k p1) p2)) p3) pos) (tRevT X.K te) := by
  refine ⟨fun pins s σ H Q I h => ?_⟩
  refine Subscript_ (thn (he.run pins s σ H _ I h) fun v s1 ⟨x, H1, I1, r1, a, xs, ex, hx, q⟩ => ?_)
  subst ex
  cases r1
  have step : PO X (some (.UnaryOp .USub (.Constant (.int 1) k p1) p2)) (tPart (tUn (rU fun i => .int (-i)) (tC (.int 1)))) := po_some (pe_un un_neg pe_int)
  refine wpAny_Slice ?_
  rw [evalPart_none]
  refine wpAny_pure ?_
  refine wpAny_pure ?_
  refine thn (step.run pins s1 σ H1 (fun o H4 => o = some (-1) ∧ H4 = H1) I1 ⟨1, rfl, -1, rfl, rfl, rfl⟩) fun vs s4 ⟨o, H4, I4, ps, eo, e4⟩ => ?_
  subst eo e4
  have I5 : Inv X pins σ H4 { s4 with heap := s4.heap.push { cls := .type "slice", data := .fields #[.none, .none, vs] } } := I4.kept (t' := s4.toks) fun b ob q => Heap.get?_push_of_some _ q
  obtain ⟨its, r, ht, hz⟩ := I5.tuple hx
  have hlen := r.length
  show wpAny (model X.prog X.w) X.A (subscriptTail e (.Slice none none (some (.UnaryOp .USub (.Constant (.int 1) k p1) p2)) p3) (.ref a) (.ref s4.heap.objs.size)) (EP X pins σ Q) X.xe { s4 with heap := s4.heap.push { cls := .type "slice", data := .fields #[.none, .none, vs] } }
  refine tail_any (ops := [.ref a, .ref s4.heap.objs.size]) ht.typeIs (PyProof.Rows.slot_tuple_getitem.lookup) ?_ (by with_unfolding_all rfl)
  refine item_tuple_rev ht (Heap.IsSliceOf.new _ .none .none vs) ps ?_ (by rw [List.size_toArray]; omega)
  refine ⟨.ref _, _, I5.laid (t' := s4.toks) (o := .tup xs.reverse) (fun b ob q => Heap.get?_push_of_some _ q) (Nat.le_refl _) ?_, rfl, q _ (I5.hok.fresh (Nat.le_refl _))⟩
  exact ⟨by rw [List.length_reverse]; exact hz, _, r.reverse, ⟨_, Heap.get?_push_size _ rfl, rfl, 0, rfl⟩⟩
end OC

/-! ## != by an own __eq__ -/
namespace OC
open PySem PySem.Spec PyProof.Rows L2
section
variable {prog : Program} {w : World} {A : Around} {E : Value → Shared → Prop} {s : Shared} {K : PySem.W.Frag} {x y C f : Addr} {ox : Obj} {od : Option Obj}
/-- object.__ne__: the own __eq__, turned -/
theorem ne_entry (hu : A.units < cLine) (X : K.In s.heap) (I : PySem.W.InstAt s.heap x ox C od) (he : PySem.W.findIn K (.ref C) "__eq__" = some (some (.ref f))) (hf : PySem.W.isFn K (.ref f) = true) {Q : Fin → Shared → Prop}
    (hcall : wpAny (model prog w) A (call (.ref f) [.ref x, .ref y]) (fun v s' => ∃ b, v = .bool b ∧ Q (.done (.ret (.bool (!b)))) s') E s) :
    wpAny (model prog w) A (Builtin.«object.__ne__» ⟨[.ref x, .ref y], []⟩) Q E s := by
  obtain ⟨h, g, d, t, os⟩ := s
  unfold Builtin.«object.__ne__»
  repeat (first
    | with_reducible refine wpAny_cRoomFor hu ?_
    | (refine wpAny_bind (m := callSpecialIfBound? (.ref x) (Str.ofString "__eq__") [.ref y])
        (PySem.W.ifBound_K X I he hf (wpAny_mono hcall (fun r s' hr => by
          obtain ⟨b, rfl, hq⟩ := hr
          repeat (first | exact hq | exact wpAny_pure hq | exact wpAny_truthy_bool hq | (refine wpAny_bind (m := truthy (.bool _)) (wpAny_truthy_bool ?_)) | wp_step)) fun _ _ e => e)))
    | wp_step)
theorem ne_bound {M : Model} {args : List Value} {Q : Option Value → Shared → Prop} (X : K.In s.heap) (I : PySem.W.InstAt s.heap x ox C od) (hs : PySem.W.findIn K (.ref C) "__ne__" = some (some (.builtin "object.__ne__")))
    (h : wpAny M A (call (.builtin "object.__ne__") (.ref x :: args)) (fun v => Q (some v)) E s) : wpAny M A (callSpecialIfBound? (.ref x) "__ne__" args) Q E s := by
  have fin : wpAny M A (call (.builtin "object.__ne__") ([.ref x] ++ args) >>= fun v => pure (some v)) Q E s := wpAny_bind (wpAny_mono h (fun v s' h' => wpAny_pure h') fun _ _ h' => h')
  simp only [callSpecialIfBound?, bindSpecialIfBound?]
  refine wpAny_holding (wpAny_bind (wpAny_bind (wpAny_bind (I.type.here ((PySem.W.looks_findIn X hs).here ?_)))))
  refine wpAny_bind (wpAny_askSetting (wpAny_ite ?_))
  split
  · exact wpAny_bind (wpAny_of_eq (F.cmp_object.ne.bind _) (wpAny_pure (by exact fin)))
  · exact wpAny_tryCatch (wpAny_bind (wpAny_of_eq (F.cmp_object.ne.bind _) (wpAny_pure (by exact fin))))
theorem ne_rich {oy : Obj} {od' : Option Obj} (hu : A.units + 1 < cLine) (X : K.In s.heap) (I : PySem.W.InstAt s.heap x ox C od) (J : PySem.W.InstAt s.heap y oy C od') (hm : PySem.W.mroIn K C (.type "object") = some true)
    (hn : PySem.W.findIn K (.ref C) "__ne__" = some (some (.builtin "object.__ne__"))) (he : PySem.W.findIn K (.ref C) "__eq__" = some (some (.ref f))) (hf : PySem.W.isFn K (.ref f) = true) {Q : Value → Shared → Prop}
    (hcall : wpAny (model prog w) A.in1 (call (.ref f) [.ref x, .ref y]) (fun v s' => ∃ b, v = .bool b ∧ Q (.bool (!b)) s') E s) :
    wpAny (model prog w) A (richCompare .NotEq (.ref x) (.ref y)) Q E s := by
  have one : wpAny (model prog w) A (tryCompare (.ref x) "__ne__" (.ref y)) (fun r s' => ∃ b, r = some (.bool b) ∧ Q (.bool b) s') E s := by
    unfold tryCompare
    refine wpAny_bind (ne_bound X I hn (wpAny_call (codeAny_call_builtin F.cmp_object.ne.plain F.cmpEntry_ne (PySem.W.check_slot F.cmpKind_ne F.cmpSplit_ne (I.type.andThen (PySem.W.looks_mroIn X hm)) (F.cmpArgs_ne _ _) ?_))))
    refine ne_entry (A := A.in1) hu X I he hf (wpAny_mono hcall (fun v s' hv => ?_) fun _ _ e => e)
    obtain ⟨b, rfl, hq⟩ := hv
    first
      | exact ⟨b, rfl, wpAny_pure ⟨_, rfl, hq⟩⟩
      | exact ⟨b, rfl, _, rfl, wpAny_pure ⟨_, rfl, hq⟩⟩
      | exact ⟨b, rfl, wpAny_pure (wpAny_pure ⟨_, rfl, hq⟩)⟩
  unfold richCompare
  simp only [oneThing_ref]
  refine wpAny_holding (wpAny_bind (wpAny_cRoomFor (Nat.lt_of_succ_lt hu) ?_))
  rw [cmpInfo_NotEq]
  dsimp only
  refine wpAny_bind (I.type.here (wpAny_bind (J.type.here ?_)))
  rw [show (Value.ref C != Value.ref C) = false from by simp]
  simp only [Bool.false_eq_true, if_false]
  refine wpAny_bind (wpAny_pure ?_)
  simp only [Bool.false_eq_true, if_false]
  refine wpAny_bind (wpAny_mono one (fun r s' z => ?_) fun _ _ e => e)
  obtain ⟨b, rfl, hq⟩ := z
  exact wpAny_pure hq
end
/-- x != y, instances of the class at C whose own == keeps sp -/
def rNeOwn (C : Addr) (sp : Sp) (E : XK) : R2 := fun x y H Q => ∃ a b dx dy fs gs, x = .ref a ∧ y = .ref b ∧ H a = some (.ins C dx fs) ∧ H b = some (.ins C dy gs) ∧ sp [.ref a, .ref b] H (fun v H' => ∃ r, v = .bl r ∧ Q (.bl (!r)) H') E
theorem op_neOwn {X : Cx} {CX : CXT} {C f : Addr} {fd : FuncData} {ps : List Str} {sp : Sp} {E : XK} {k : Nat} (F : FnOk X.prog X.w X.K X.mg X.base CX k f fd ps sp) (hr : Room (k + 1) X.A) (hm : PySem.W.mroIn X.K C (.type "object") = some true)
    (hn : PySem.W.findIn X.K (.ref C) "__ne__" = some (some (.builtin "object.__ne__"))) (he : PySem.W.findIn X.K (.ref C) "__eq__" = some (some (.ref f))) (hf : PySem.W.isFn X.K (.ref f) = true) (hb : Binds X.K fd ps []) (hx : Passes CX X E) :
    OpR X (compareOp .NotEq) (rNeOwn C sp E) := by
  intro pins s σ H x y v u Q I rx ry q
  obtain ⟨a, b, dx, dy, fs, gs, rfl, rfl, ha, hb', hq⟩ := q
  cases rx
  cases ry
  obtain ⟨mA, J, _⟩ := ins_get I.hok ha
  obtain ⟨mB, J', _⟩ := ins_get I.hok hb'
  obtain ⟨od, J, _⟩ := J.look
  obtain ⟨od', J', _⟩ := J'.look
  have un := hr.un
  show wpAny (model X.prog X.w) X.A (richCompare .NotEq (.ref a) (.ref b)) (EP X pins σ Q) X.xe s
  refine ne_rich (by have := hr.units; omega) I.kIn J J' hm hn he hf ?_
  have hl := F.len _ _ _ _ hq
  have r2 : Vals [V.ref a, V.ref b] [Value.ref a, Value.ref b] := .cons rfl (.cons rfl .nil)
  have bs := hb s [.ref a, .ref b] I.kIn (by simpa using hl)
  rw [List.append_nil] at bs
  refine wpAny_call (codeAny_mono (F.run X.A.in1 X.stack s H ⟨[.ref a, .ref b], []⟩ [.ref a, .ref b] [.ref a, .ref b] _ E hr.in1 I.env0.in1 bs r2 hq) fun r s' hq' => ?_)
  cases r with
  | error e => exact hx pins σ H s e s' I hq'
  | ok fl =>
    cases fl with
    | ret z =>
      obtain ⟨vz, H', I', rz, r, rfl, qz⟩ := I.after hq'
      cases rz
      exact ⟨r, rfl, .bl (!r), H', I', rfl, qz⟩
    | next => exact False.elim hq'
    | brk => exact False.elim hq'
    | cont => exact False.elim hq'
end OC

/-! TooMany(what, limit): an own error over ArithmeticError, by way of a class between, with two fields. -/
namespace PySem
namespace TmX
open PySem.W PySem.Calls PyProof.Rows PySem.HandSPX
def aeB : List Value := [.type "ArithmeticError", .type "Exception", .type "BaseException", .type "object"]
def iA (p1 p2 p3 : Pos) : Arguments := { posonlyargs := [], args := [{ arg := "self", annotation := none, pos := p1 }, { arg := "what", annotation := none, pos := p2 }, { arg := "limit", annotation := none, pos := p3 }], vararg := none, kwonlyargs := [], kw_defaults := [], kwarg := none, defaults := [] }
def iB (q1 q2 q3 q4 r1 r2 r3 r4 : Pos) : List Stmt := [.Assign [.Attribute (.Name "self" q1) "what" q2] (.Name "what" q3) q4, .Assign [.Attribute (.Name "self" r1) "limit" r2] (.Name "limit" r3) r4]
def iS : Scope := { kind := .function, names := [(PySem.Str.ofString "self", .local), (PySem.Str.ofString "what", .local), (PySem.Str.ofString "limit", .local)], isGenerator := false, isCoroutine := false, more := [] }
/-- what the written part says of TooMany, at C, and of its __init__, at fI -/
structure TmTxt (K : Frag) (C fI : Addr) : Prop where
  ini : excInitIn K C aeB "ArithmeticError.__new__" = true
  ovr : excOver K C aeB = true
  hdC : hasDictIn K C = true
  sa : findIn K (.ref C) "__setattr__" = some (some (.builtin "object.__setattr__"))
  noW : findIn K (.ref C) "what" = some none
  noL : findIn K (.ref C) "limit" = some none
  iC : findIn K (.ref C) "__init__" = some (some (.ref fI))
  tC : typeIn K (.ref fI) = some (.type "function")
  kC : keepIn K (.ref C) = true
  exC : subIn K (.ref C) (.type "BaseException") = some true
  tyC : typeIn K (.ref C) = some (.type "type")
  te : exmOne K (.ref C) (.ref C) = some true
  fn : ∃ (oc : Value) (od : Option Addr) (doc pm : Value) (an : Option Addr) (kV cdv ct : Value) (osl : Array (Option Value)) (p1 p2 p3 q1 q2 q3 q4 r1 r2 r3 r4 : Pos),
    K.lookup fI = some ⟨oc, od, .func (fnOf "__init__" "TooMany.__init__" (iA p1 p2 p3) (iB q1 q2 q3 q4 r1 r2 r3 r4) iS .none kV doc pm an cdv ct), osl⟩ ∧ codeIn K cdv "TooMany.__init__" = true
theorem two_size (v u : Value) : [v, u].length ≤ sizeLine := by
  rw [sizeLine_eq]
  exact (by decide : 2 ≤ 16777216)
/-- a local read -/
theorem rdL {M : Model} {s : Shared} {name : Str} {scope : Scope} {L a : Addr} {cd : Value} {m : Str → Option Value} {x : Str} {pos : Pos} {v : Value} {Q : Value → Shared → Prop} {A : Around} {E : Value → Shared → Prop} (hn : s.heap.Ns L m) (hv : m x = some v) (h : Q v s)
    (hk : scope.kind = .function := by rfl) (hl : (envOfC name scope L a cd).kindOf x = some .local := by rfl) (hd : (x == ("__debug__" : Str)) = false := by decide) :
    wpAny M A (eval (.Name x pos) (envOfC name scope L a cd)) Q E s := wpAny_Name (wpAny_loadName_local hk hl hn hv h) hd
section
open Builtin Builtin.ObjectAttr
variable {prog : Program} {w : World} {A : Around} {E : Value → Shared → Prop} {R : Result → Shared → Prop} {K : Frag} {C fI : Addr} {hp : Heap} {g : Array GenState} {d : Drawn} {t : Nat} {os : OsState}
/-- the first field: its dict is made -/
theorem put1 {name : Str} {tk : Tok} {v : Value} {x : Addr} {fv : Array Value} (X : K.In hp) (hov : excOver K C aeB = true) (hdC : hasDictIn K C = true) (hx : hp.get? x = some { cls := .ref C, data := .fields fv }) (ha : findIn K (.ref C) name = some none)
    (hq : ∀ h' tk' dx, (∀ b o, b ≠ x → hp.get? b = some o → h'.get? b = some o) → hp.objs.size ≤ dx → dx ≠ x → h'.get? x = some { cls := .ref C, dict := some dx, data := .fields fv } →
      h'.Ns1 dx (fun y => if y = name then some v else none) → R (.ok (.ret .none)) ⟨h', g, d, tk', os⟩) :
    codeAny (model prog w) A (.call (.builtin "object.__setattr__") ⟨[.ref x, .str name tk, v], []⟩) R ⟨hp, g, d, t, os⟩ := by
  obtain ⟨cd, hc, hh⟩ := any_some hdC
  have I : InstAt hp x { cls := .ref C, data := .fields fv } C none := ⟨hx, rfl, rfl, trivial⟩
  have hne : x ≠ hp.objs.size := Nat.ne_of_lt (Heap.lt_size hx)
  have tk0 : takerIn K C name = some none := by
    unfold takerIn
    rw [ha]
    rfl
  refine osa_openX (r := none) PySem.F.store_ArithmeticError X I hov tk0 fun b => ?_
  have lc : Looks (model prog w) hp (classData C) cd := looks_clsIn X hc
  obtain ⟨nm, bs, mro, ns, qn, hd, sn, sb, ab, col, del⟩ := cd
  dsimp only at hh
  subst hh
  show wpAny _ _ (storeInOwnDict (.ref x) (.ref C) (.str name tk) name v b) _ _ _
  unfold storeInOwnDict ownDictForStores
  repeat (first | with_reducible refine HandSPX.store_in_new ?_ ?_ | with_reducible refine wpAny_loadPart_at hx ?_ | with_reducible refine lc.at ?_ | wp_step)
  · exact ⟨_, #[], _, (Heap.get?_update_ne _ _ _ _ hne.symm).trans (Heap.get?_push_at rfl rfl), rfl, fun e he => absurd he (by simp), fun _ => rfl⟩
  · intro h' tk' hn' hs
    have hx1 : (hp.push { cls := .type "dict", data := .dict #[] }).get? x = some { cls := .ref C, data := .fields fv } := Heap.get?_push_of_some _ hx
    refine hq h' tk' hp.objs.size (fun b o hb ho => ?_) (Nat.le_refl _) hne.symm ((hs.2 x hne).trans (Heap.get?_update_self _ hx1 rfl)) hn'
    exact (hs.2 b (Nat.ne_of_lt (Heap.lt_size ho))).trans ((Heap.get?_update_ne _ _ _ _ hb).trans (Heap.get?_push_of_some _ ho))
/-- a further field -/
theorem put2 {name : Str} {tk : Tok} {v : Value} {x dx : Addr} {fv : Array Value} {m0 : Str → Option Value} {nl : List Str} (X : K.In hp) (hov : excOver K C aeB = true) (hdC : hasDictIn K C = true) (hx : hp.get? x = some { cls := .ref C, dict := some dx, data := .fields fv })
    (hns : hp.Ns1 dx m0) (hw : Within m0 nl) (hz : nl.length ≤ 1000) (ha : findIn K (.ref C) name = some none)
    (hq : ∀ h' tk', (∀ b o, b ≠ dx → hp.get? b = some o → h'.get? b = some o) → h'.Ns1 dx (fun y => if y = name then some v else m0 y) → R (.ok (.ret .none)) ⟨h', g, d, tk', os⟩) :
    codeAny (model prog w) A (.call (.builtin "object.__setattr__") ⟨[.ref x, .str name tk, v], []⟩) R ⟨hp, g, d, t, os⟩ := by
  obtain ⟨cd, hc, hh⟩ := any_some hdC
  obtain ⟨oD, _, _, hoD, _, _⟩ := hns.count hw
  have I : InstAt hp x { cls := .ref C, dict := some dx, data := .fields fv } C (some oD) := ⟨hx, rfl, rfl, hoD⟩
  have tk0 : takerIn K C name = some none := by
    unfold takerIn
    rw [ha]
    rfl
  refine osa_openX (r := none) PySem.F.store_ArithmeticError X I hov tk0 fun b => ?_
  have lc : Looks (model prog w) hp (classData C) cd := looks_clsIn X hc
  obtain ⟨nm, bs, mro, ns, qn, hd, sn, sb, ab, col, del⟩ := cd
  dsimp only at hh
  subst hh
  show wpAny _ _ (storeInOwnDict (.ref x) (.ref C) (.str name tk) name v b) _ _ _
  unfold storeInOwnDict ownDictForStores
  repeat (first | with_reducible refine PySem.OEX.store_in_old hns hw hz ?_ | with_reducible refine wpAny_loadPart_at hx ?_ | with_reducible refine lc.at ?_ | wp_step)
  intro h' tk' hn' hs
  exact hq h' tk' (fun b o hb ho => (hs.2 b hb).trans ho) hn'
end
/-- the dict's names behind both stores -/
def two (v u : Value) : Str → Option Value := fun y => if y = "limit" then some u else if y = "what" then some v else none
/-- what __init__ leaves of a fresh exception at x -/
structure TmEnd (h h' : Heap) (x C dx t1 : Addr) (v u : Value) : Prop where
  keep : ∀ b o, b ≠ x → h.get? b = some o → h'.get? b = some o
  obj : h'.get? x = some { cls := .ref C, dict := some dx, data := .fields #[.ref t1, .none, .none, .none, .bool false, .none] }
  dbig : h.objs.size ≤ dx
  dne : dx ≠ x
  ns : h'.Ns1 dx (two v u)
/-- a made TooMany -/
structure TmMade (h h' : Heap) (e C d : Addr) (v u : Value) : Prop where
  keep : ∀ b o, h.get? b = some o → h'.get? b = some o
  new : h.objs.size ≤ e
  obj : ∃ oe vs, h'.get? e = some oe ∧ oe.cls = .ref C ∧ oe.dict = some d ∧ oe.data = .fields vs ∧ vs[1]? = some .none
  dbig : h.objs.size ≤ d
  dne : d ≠ e
  ns : h'.Ns1 d (two v u)
section
variable {prog : Program} {w : World} {A : Around} {E : Value → Shared → Prop} {R : Result → Shared → Prop} {s : Shared} {K : Frag} {C fI : Addr}
theorem tm_init (T : TmTxt K C fI) {x t0 : Addr} {v u : Value} (X : K.In s.heap) (hlim : s.heap.NoLimit) (hx : s.heap.get? x = some (excO C t0)) (hroom : A.depth < recursionLimit) (hnx : K.lookup x = none)
    (hq : ∀ h' tk dx, TmEnd s.heap h' x C dx t0 v u → R (.ok (.ret .none)) { s with heap := h', toks := tk }) :
    codeAny (model prog w) A (.call (.ref fI) ⟨[.ref x, v, u], []⟩) R s := by
  obtain ⟨oc, od, doc, pm, an, kV, cdv, ct, osl, p1, p2, p3, q1, q2, q3, q4, r1, r2, r3, r4, ho, hcd⟩ := T.fn
  refine Att.call_fn (binds := [("self", .ref x), ("what", v), ("limit", u)]) X hlim ho hcd hroom (BindsTo.of_eq (by first | rfl | with_unfolding_all rfl)) (by first | rfl | decide | with_unfolding_all rfl) (fun s₁ IC => ?_) rfl rfl rfl
  obtain ⟨h₁, tk₁, rfl⟩ := IC.toInCall.same
  have k : ∀ b o, s.heap.get? b = some o → h₁.get? b = some o := IC.toInCall.keep
  have hn := IC.toInCall.ns
  have X₁ : K.In h₁ := X.keeps k
  have hx₁ := k _ _ hx
  -- self.what = what
  show wpAny _ _ (execs _ _) _ _ _
  refine wpAny_execs_cons (plainObj_wpAny_Assign_Attribute ?_)
  refine rdL (v := v) hn (by first | rfl | with_unfolding_all rfl | kernel_rfl) (rdL (v := .ref x) hn (by first | rfl | with_unfolding_all rfl | kernel_rfl) ?_)
  refine set_plain X₁ (ox := excO C t0) (od := none) ⟨hx₁, rfl, rfl, trivial⟩ T.sa ?_
  refine put1 X₁ T.ovr T.hdC hx₁ T.noW (fun h₃ tk₃ dx k₃ dn dne hx₃ hn₃ => ?_)
  have z : s.heap.objs.size < h₁.objs.size := hn.lt
  have old : ∀ b o, b ≠ x → s.heap.get? b = some o → h₃.get? b = some o := fun b o hb e => k₃ b o hb (k b o e)
  have X₃ : K.In h₃ := fun a o e => old a o (fun q => by rw [q, hnx] at e; cases e) (X a o e)
  have hne : s.heap.objs.size ≠ x := Nat.ne_of_gt (Heap.lt_size hx)
  have hn3 := Heap.Ns.at (h' := h₃) hn fun o e => k₃ _ o hne e
  -- self.limit = limit
  show wpAny _ _ (execs _ _) _ _ _
  refine wpAny_execs_cons (plainObj_wpAny_Assign_Attribute ?_)
  refine rdL (v := u) hn3 (by first | rfl | with_unfolding_all rfl | kernel_rfl) (rdL (v := .ref x) hn3 (by first | rfl | with_unfolding_all rfl | kernel_rfl) ?_)
  have wi : Within (fun y => if y = "what" then some v else none) [("what" : Str)] := Within.cons "what" v Within.nil
  obtain ⟨oD, _, _, hoD, _, _⟩ := hn₃.count wi
  refine set_plain X₃ (ox := { cls := .ref C, dict := some dx, data := .fields #[.ref t0, .none, .none, .none, .bool false, .none] }) (od := some oD) ⟨hx₃, rfl, rfl, hoD⟩ T.sa ?_
  refine put2 X₃ T.ovr T.hdC hx₃ hn₃ wi (by show 1 ≤ 1000; decide) T.noL (fun h₄ tk₄ k₄ hn₄ => ?_)
  show wpAny _ _ (execs _ _) _ _ _
  refine wpAny_execs_nil (hq h₄ tk₄ dx ⟨fun b o hb e => ?_, k₄ x _ dne.symm hx₃, Nat.le_of_lt (Nat.lt_of_lt_of_le z dn), dne, hn₄⟩)
  exact k₄ b o (Nat.ne_of_lt (Nat.lt_of_lt_of_le (Heap.lt_size (k b o e)) dn)) (old b o hb e)
theorem tm_made (T : TmTxt K C fI) {v u : Value} (X : K.In s.heap) (hlim : s.heap.NoLimit) (hroom : A.depth + 1 < recursionLimit)
    (hq : ∀ h' tk e d, TmMade s.heap h' e C d v u → R (.ok (.ret (.ref e))) { s with heap := h', toks := tk }) :
    codeAny (model prog w) A (.call (.ref C) ⟨[v, u], []⟩) R s := by
  obtain ⟨hp, g, dr, tk, os⟩ := s
  obtain ⟨nm, N, qn, bs, bm, hdct, sn, sub, ab, col, dd, k0, k1, k2, k3, k5, hC, hT⟩ := excInit_of X T.ini
  have k : ∀ b o, hp.get? b = some o → ((hp.push (kdv_tup [v, u])).push (excO C hp.objs.size)).get? b = some o := fun b o e => Heap.get?_push_of_some _ (Heap.get?_push_of_some _ e)
  have hget : ((hp.push (kdv_tup [v, u])).push (excO C hp.objs.size)).get? (hp.objs.size + 1) = some (excO C hp.objs.size) := by heap_get
  have hnx : K.lookup (hp.objs.size + 1) = none := by
    cases e : K.lookup (hp.objs.size + 1) with
    | none => rfl
    | some o =>
      have z : hp.get? (hp.objs.size + 1) = some o := X _ _ e
      exact absurd (Nat.lt_of_succ_lt (Heap.lt_size z)) (Nat.lt_irrefl _)
  refine HandSPX.call_own F.excBase_ArithmeticError hT hC (looks_findIn X T.iC) (fun self => bind_fn X self T.tC) (two_size v u) ?_
  refine tm_init (s := ⟨(hp.push (kdv_tup [v, u])).push (excO C hp.objs.size), g, dr, tk, os⟩) T (X.keeps k) (hlim.keeps k) hget ?_ hnx fun h' tk' dx ⟨k', hx, dn, dne, hns⟩ => ?_
  · show A.depth + 1 < recursionLimit
    exact hroom
  · have old : ∀ b o, hp.get? b = some o → h'.get? b = some o := fun b o e => k' b o (Nat.ne_of_lt (Nat.lt_succ_of_lt (Heap.lt_size e))) (k b o e)
    have z : hp.objs.size + 1 + 1 ≤ dx := by
      have q := dn
      rw [Heap.size_push, Heap.size_push] at q
      exact q
    exact ⟨rfl, hq h' tk' (hp.objs.size + 1) dx ⟨old, Nat.le_succ _, ⟨_, _, hx, rfl, rfl, rfl, rfl⟩, Nat.le_trans (Nat.le_trans (Nat.le_succ _) (Nat.le_succ _)) z, dne, hns⟩⟩
end
end TmX
end PySem
namespace OC
open PySem PySem.Spec PyProof.Rows L2
def tmF (v u : V) : List (Str × V) := [(("limit" : Str), u), (("what" : Str), v)]
theorem relO_tm {v u : V} {v' u' : Value} (r : RelV v v') (r2 : RelV u u') (f : Str) : RelO ((tmF v u).lookup f) (PySem.TmX.two v' u' f) := by
  unfold tmF PySem.TmX.two
  by_cases h1 : f = "limit"
  · subst h1
    rw [if_pos rfl]
    simp only [List.lookup, beq_self_eq_true]
    exact r2
  · rw [if_neg h1]
    have b1 : (f == ("limit" : Str)) = false := by simpa using h1
    by_cases h2 : f = "what"
    · subst h2
      rw [if_pos rfl]
      simp only [List.lookup, b1, beq_self_eq_true]
      exact r
    · rw [if_neg h2]
      have b2 : (f == ("what" : Str)) = false := by simpa using h2
      simp only [List.lookup, b1, b2]
      trivial
section
variable {X : Cx} {C fI : Addr}
/-- TooMany(e, e2) -/
def tMkTm (C : Addr) (ta : TA) : L2.St → Hp → XK → Prop := fun σ H Q => ta σ H fun vs H1 => ∃ v u, vs = [v, u] ∧ ∀ d, H1 d = none → Q (.ref C) (some d) (upd H1 d (.xd (tmF v u)))
theorem pmk_tm {e : Expr} {es : List Expr} {ta : TA} {p pos : Pos} {k : Nat} (T : PySem.TmX.TmTxt X.K C fI) (gC : X.mg "TooMany" = some (.ref C)) (hr : Room k X.A) (ha : PA X (e :: es) ta) (hg : Gl X "TooMany" := by rfl)
    (he : starEach (e :: es) X.env = (false, eval e X.env) :: starEach es X.env := by rfl) (hpl : (backTo pos (starEach es X.env)).any (·.1) = false := by rfl) :
    PMk X (.Call (.Name "TooMany" p) (e :: es) [] pos) (tMkTm C ta) := by
  intro pins s σ H Q I h
  refine wpAny_Call_Name_kw (ld_glob I hg gC ?_)
  refine PySem.W.callWith_K (h₀ := X.base) I.ok.mod.kin T.kC (thn (ha.run pos pins s σ H _ I h) fun us s1 hh => ?_) he hpl
  obtain ⟨vs, H1, I1, r1, v, u, ev, q1⟩ := hh
  subst ev
  refine ⟨I1.kIn, ?_⟩
  obtain ⟨v', u', rfl, rv, ru⟩ := vals2 r1
  show wpAny _ _ (call (.ref C) [v', u']) _ _ _
  have hlim := I1.nolimit
  obtain ⟨hp, g, dr, tk, os⟩ := s1
  refine wpAny_call (PySem.TmX.tm_made T I1.kIn hlim (by have := hr.dp; omega) fun h' tk' e d M => ?_)
  show MkP X pins σ Q (.ref e) ⟨h', g, dr, tk', os⟩
  obtain ⟨oe, fv, hoe, hc, hd, hdat, h1⟩ := M.obj
  have hns := M.ns
  obtain ⟨G', g1, g2⟩ := restrict h' fun b => decide (b ≠ e)
  have gk : ∀ b, b ≠ e → G'.get? b = h'.get? b := fun b hb => g1 b (decide_eq_true hb)
  have ge : G'.get? e = none := g2 e (by simp)
  have old : ∀ b o, hp.get? b = some o → G'.get? b = some o := fun b o q => (gk b (Nat.ne_of_lt (Nat.lt_of_lt_of_le (Heap.lt_size q) M.new))).trans (M.keep b o q)
  have ob : ObjOk X.prog X.w (upd H1 d (.xd (tmF v u))) G' d (.xd (tmF v u)) := ⟨_, hns.at (fun o q => (gk d M.dne).trans q), fun f => relO_tm rv ru f⟩
  have J : Inv X pins σ (upd H1 d (.xd (tmF v u))) ⟨G', g, dr, tk', os⟩ := I1.laid (t' := tk') old M.dbig ob
  refine ⟨e, oe, fv, ⟨G', g, dr, tk', os⟩, _, .ref C, some d, rfl, J, fun b o q => ?_, ge, hoe, ⟨hc, hd⟩, hdat, h1, ?_, rfl, I1.bare, raises_own T.exC T.tyC, q1 d (I1.hok.fresh M.dbig)⟩
  · by_cases hb : b = e
    · have q' : G'.get? b = some o := q
      rw [hb, ge] at q'
      cases q'
    · exact (gk b hb).symm.trans q
  · rw [upd_ne (Ne.symm M.dne)]
    exact I1.hok.fresh M.new
/-- raise TooMany(e, e2) -/
def tRaiseTm (C : Addr) (W : WX) (ta : TA) : TS := fun _ σ H => tMkTm C ta σ H fun cls d H' => W cls d σ H'
theorem ps_raiseTm {e : Expr} {es : List Expr} {ta : TA} {W : WX} {p pos pos2 : Pos} {k : Nat} (hc : X.calm = true) (T : PySem.TmX.TmTxt X.K C fI) (gC : X.mg "TooMany" = some (.ref C)) (hr : Room k X.A) (tk : Takes X W) (ha : PA X (e :: es) ta) (hg : Gl X "TooMany" := by rfl)
    (he : starEach (e :: es) X.env = (false, eval e X.env) :: starEach es X.env := by rfl) (hpl : (backTo pos (starEach es X.env)).any (·.1) = false := by rfl) :
    PS X (.Raise (some (.Call (.Name "TooMany" p) (e :: es) [] pos)) none pos2) (tRaiseTm C W ta) := ps_raise hc tk (pmk_tm T gC hr ha hg he hpl)
end
end OC

namespace OC
open PySem PySem.Spec PyProof.Rows L2
/-! ## heaps that grow -/
theorem ext_new {H H' : Hp} {p : Addr} {o : HO} (e : Ext H H') (h : H' p = none) : Ext H (upd H' p o) := Ext.upd' e h
/-- a thing that H does not know may change -/
theorem ext_own {H H' : Hp} {p : Addr} {o : HO} (e : Ext H H') (h : H p = none) : Ext H (upd H' p o) := fun a u ha => by
  rw [upd_ne (ne_of_none ha h)]
  exact e a u ha
theorem ext_free {H H' : Hp} {p : Addr} (e : Ext H H') (h : H' p = none) : H p = none := by
  cases q : H p with
  | none => rfl
  | some o =>
    rw [e p o q] at h
    cases h
theorem small {n : Nat} (h : n ≤ 100000) : n ≤ sizeLine := Nat.le_trans h (by decide)
theorem small' {n : Nat} (h : n < 100000) : n < sizeLine := Nat.lt_of_lt_of_le h (by decide)
theorem upd_id {H : Hp} {p : Addr} {o : HO} (h : H p = some o) : upd H p o = H := by
  funext b
  by_cases e : b = p
  · rw [e, upd_same, h]
  · rw [upd_ne e]
/-! ## take, one further -/
theorem take_more {α : Type} {l : List α} {i : Nat} {x : α} (h : l[i]? = some x) : l.take (i + 1) = l.take i ++ [x] := by
  rw [List.take_add_one, h]
  rfl
theorem map_at {α β : Type} {l : List α} {f : α → β} {i : Nat} {y : β} (h : (l.map f)[i]? = some y) : ∃ x, l[i]? = some x ∧ y = f x := by
  rw [List.getElem?_map] at h
  cases e : l[i]? with
  | none =>
    rw [e] at h
    cases h
  | some x =>
    rw [e] at h
    exact ⟨x, rfl, (Option.some.inj h).symm⟩
/-! ## a def of the module, by its name -/
structure Def (P : Program) (w : World) (K : PySem.W.Frag) (mg : Str → Option Value) (base : Heap) (CX : CXT) (x : Str) (k : Nat) (ps : List Str) (sp : Sp) : Prop where
  ex : ∃ f fd, FnOk P w K mg base CX k f fd ps sp ∧ mg x = some (.ref f) ∧ PySem.W.keepIn K (.ref f) = true ∧ Binds K fd ps []
section
variable {X : Cx}
theorem pe_defX {CX : CXT} {x : Str} {k : Nat} {ps : List Str} {sp : Sp} {E : XK} {e : Expr} {es : List Expr} {t : TA} {p pos : Pos} (D : Def X.prog X.w X.K X.mg X.base CX x k ps sp) (hr : Room k X.A) (hx : Passes CX X E) (ha : PA X (e :: es) t) (hg : Gl X x := by rfl)
    (hdb : (x == ("__debug__" : Str)) = false := by decide) (he : starEach (e :: es) X.env = (false, eval e X.env) :: starEach es X.env := by rfl) (hpl : (backTo pos (starEach es X.env)).any (·.1) = false := by rfl) :
    PE X (.Call (.Name x p) (e :: es) [] pos) (tCall sp [] E t) := by
  obtain ⟨f, fd, F, hm, hk, hb⟩ := D.ex
  exact pe_call F hr hg hm hk hb .nil hx ha hdb he hpl
theorem pe_def {x : Str} {k : Nat} {ps : List Str} {sp : Sp} {e : Expr} {es : List Expr} {t : TA} {p pos : Pos} (D : Def X.prog X.w X.K X.mg X.base CX0 x k ps sp) (hr : Room k X.A) (ha : PA X (e :: es) t) (hg : Gl X x := by rfl)
    (hdb : (x == ("__debug__" : Str)) = false := by decide) (he : starEach (e :: es) X.env = (false, eval e X.env) :: starEach es X.env := by rfl) (hpl : (backTo pos (starEach es X.env)).any (·.1) = false := by rfl) :
    PE X (.Call (.Name x p) (e :: es) [] pos) (tCall sp [] E0 t) := pe_defX D hr pass0 ha hg hdb he hpl
/-- a module's whole number -/
theorem pe_gint {x : Str} {i : Int} {pos : Pos} (h : ∃ t, X.mg x = some (.int i t)) (hg : Gl X x := by rfl) (hd : (x == ("__debug__" : Str)) = false := by decide) : PE X (.Name x pos) (tC (.int i)) := by
  obtain ⟨t, e⟩ := h
  exact pe_glob hg e ⟨t, rfl⟩ hd
end
/-- a def of the text as the top has left it -/
def Fn (K : PySem.W.Frag) (mg : Str → Option Value) (x : Str) (st : Stmt) : Prop := ∃ f fd, FunD K x x (defArgs st) (defBody st) (defScope st) [] [] f fd ∧ mg x = some (.ref f)
section
variable {P : Program} {w : World} {K : PySem.W.Frag} {mg : Str → Option Value} {base : Heap}
theorem Fn.mkX {CX : CXT} {x : Str} {st : Stmt} {N ps : List Str} {k : Nat} {sp : Sp} (F : Fn K mg x st) (S : FnScope N ps (defScope st))
    (hb : ∀ (kV doc pm : Value) (an : Option Addr) (cdv ct : Value) (us : List Value), us.length = ps.length → bindArgs (PySem.W.fnOf x x (defArgs st) (defBody st) (defScope st) .none kV doc pm an cdv ct) ⟨us, []⟩ = pure (ps.zip us))
    (len : ∀ vs H Q E, sp vs H Q E → vs.length = ps.length)
    (hbody : ∀ (f : Addr) (cdv : Value) (A : Around) (outer : List Env) (s : Shared) (H : Hp) (vs : List V) (Q : VK) (E : XK), Room k (A.deeper (envOfC x (defScope st) s.heap.objs.size f cdv)) → sp vs H Q E →
      ∃ t, PSs (cxOf CX P w K mg base N x (defScope st) f cdv A outer s H E) (defBody st) t ∧ t { nx := fun _ H' => Q .non H', rt := Q } (start N vs) H) : Def P w K mg base CX x (k + 1) ps sp := by
  obtain ⟨f, fd, F, hm⟩ := F
  exact ⟨f, fd, F.ok S len (hbody f), hm, F.kp, F.bindsN hb⟩
/-- the same, where no exception leaves -/
theorem Fn.mk {x : Str} {st : Stmt} {N ps : List Str} {k : Nat} {sp : Sp} (F : Fn K mg x st) (S : FnScope N ps (defScope st))
    (hb : ∀ (kV doc pm : Value) (an : Option Addr) (cdv ct : Value) (us : List Value), us.length = ps.length → bindArgs (PySem.W.fnOf x x (defArgs st) (defBody st) (defScope st) .none kV doc pm an cdv ct) ⟨us, []⟩ = pure (ps.zip us))
    (len : ∀ vs H Q E, sp vs H Q E → vs.length = ps.length)
    (hbody : ∀ (f : Addr) (cdv : Value) (A : Around) (outer : List Env) (s : Shared) (H : Hp) (vs : List V) (Q : VK) (E : XK), Room k (A.deeper (envOfC x (defScope st) s.heap.objs.size f cdv)) → sp vs H Q E →
      ∃ t, PSs (cxOf CX0 P w K mg base N x (defScope st) f cdv A outer s H E).nox (defBody st) t ∧ t { nx := fun _ H' => Q .non H', rt := Q } (start N vs) H) : Def P w K mg base CX0 x (k + 1) ps sp :=
  F.mkX S hb len fun f cdv A outer s H vs Q E hr h => by
    obtain ⟨t, h1, h2⟩ := hbody f cdv A outer s H vs Q E hr h
    exact ⟨t, h1.nox, h2⟩
end
/-! ## comprehensions whose element makes new things only -/
/-- what stands behind i turns -/
def Lc (H : Hp) (D : Addr) (p : V → Bool) (f : V → V) (xs : List V) (i : Nat) (H' : Hp) : Prop := H D = none ∧ Ext H H' ∧ H' D = some (.lst (((xs.take i).filter p).map f))
theorem lc_turn {H H' : Hp} {D : Addr} {p : V → Bool} {f : V → V} {xs : List V} {i : Nat} {x : V} {σ2 : L2.St} {tt : TT} {te : TE} (c : Lc H D p f xs i H') (hx : xs[i]? = some x) (hl : xs.length ≤ 1000)
    (ht : ∀ H1, Ext H H1 → ∀ Q : Bool → Hp → Prop, Q (p x) H1 → tt σ2 H1 Q) (he : p x = true → ∀ H1, Ext H H1 → ∀ Q : VK, (∀ H2, Ext H1 H2 → Q (f x) H2) → te σ2 H1 Q) :
    tt σ2 H' fun b H3 => if b = true then te σ2 H3 fun y H4 => ∃ acc, H4 D = some (.lst acc) ∧ acc.length < sizeLine ∧ Lc H D p f xs (i + 1) (upd H4 D (.lst (acc ++ [y]))) else Lc H D p f xs (i + 1) H3 := by
  obtain ⟨h0, h1, h2⟩ := c
  refine ht H' h1 _ ?_
  have hi : i < xs.length := (List.getElem?_eq_some_iff.mp hx).1
  cases hp : p x with
  | true =>
    rw [if_pos rfl]
    refine he hp H' h1 _ fun H4 e4 => ⟨_, e4 D _ h2, ?_, h0, ext_own (h1.trans e4) h0, ?_⟩
    · refine small' ?_
      rw [List.length_map]
      have := List.length_filter_le p (xs.take i)
      rw [List.length_take] at this
      omega
    · rw [upd_same, take_more hx, List.filter_append, List.map_append, List.filter_cons, if_pos hp]
      rfl
  | false =>
    rw [if_neg Bool.false_ne_true]
    refine ⟨h0, h1, ?_⟩
    rw [h2, take_more hx, List.filter_append, List.filter_cons, if_neg (by rw [hp]; decide), List.filter_nil, List.append_nil]
section
variable {K : PySem.W.Frag} {a : Addr} {xs : List V} {t0 : TE} {ta : TA} {j : Nat} {tt : TT} {te : TE} {vs : List Nat} {σ : L2.St} {H : Hp} {Q : VK}
theorem lcT (p : V → Bool) (f : V → V) (h0 : ∀ R : VK, R (.ref a) H → t0 σ H R) (hq : SqT K H a xs) (hl : xs.length ≤ 1000) (hw : ∀ x, wipe ((wipe σ vs).set j (some x)) vs = wipe σ vs)
    (ht : ∀ x ∈ xs, ∀ H1, Ext H H1 → ∀ Q : Bool → Hp → Prop, Q (p x) H1 → tt ((wipe σ vs).set j (some x)) H1 Q)
    (he : ∀ x ∈ xs, p x = true → ∀ H1, Ext H H1 → ∀ Q : VK, (∀ H2, Ext H1 H2 → Q (f x) H2) → te ((wipe σ vs).set j (some x)) H1 Q)
    (k : ∀ D H1, H D = none → Ext H H1 → H1 D = some (.lst ((xs.filter p).map f)) → Q (.ref D) H1) : tLc (iTup K t0) (gName j) tt te vs σ H Q := by
  refine h0 _ ⟨a, rfl, ⟨xs, hq⟩, fun D hD => lc_tup (K := K) (a := a) (xs := xs) (Lc H D p f xs) ⟨hD, Ext.upd hD, upd_same⟩ (fun i H1 _ c => hq.ext c.2.1) (fun i x H1 hx c => ?_) fun H1 c => ?_⟩
  · exact ⟨hw x, lc_turn c hx hl (ht x (List.mem_of_getElem? hx)) (he x (List.mem_of_getElem? hx))⟩
  · refine k D H1 c.1 c.2.1 ?_
    rw [c.2.2, List.take_length]
theorem lcL (p : V → Bool) (f : V → V) (h0 : ∀ R : VK, R (.ref a) H → t0 σ H R) (hq : SqL K H a xs) (hl : xs.length ≤ 1000) (hw : ∀ x, wipe ((wipe σ vs).set j (some x)) vs = wipe σ vs)
    (ht : ∀ x ∈ xs, ∀ H1, Ext H H1 → ∀ Q : Bool → Hp → Prop, Q (p x) H1 → tt ((wipe σ vs).set j (some x)) H1 Q)
    (he : ∀ x ∈ xs, p x = true → ∀ H1, Ext H H1 → ∀ Q : VK, (∀ H2, Ext H1 H2 → Q (f x) H2) → te ((wipe σ vs).set j (some x)) H1 Q)
    (k : ∀ D H1, H D = none → Ext H H1 → H1 D = some (.lst ((xs.filter p).map f)) → Q (.ref D) H1) : tLc (iList K t0) (gName j) tt te vs σ H Q := by
  refine h0 _ ⟨a, rfl, ⟨xs, hq⟩, fun D hD => lc_list (K := K) (a := a) (xs := xs) (Lc H D p f xs) ⟨hD, Ext.upd hD, upd_same⟩ (fun i H1 _ c => hq.ext c.2.1) (fun i x H1 hx c => ?_) fun H1 c => ?_⟩
  · exact ⟨hw x, lc_turn c hx hl (ht x (List.mem_of_getElem? hx)) (he x (List.mem_of_getElem? hx))⟩
  · refine k D H1 c.1 c.2.1 ?_
    rw [c.2.2, List.take_length]
/-- the numbers of range(n) -/
def rgN (n : Nat) : List V := (List.range n).map wN
theorem rgN_at {n i : Nat} (h : i < n) : (rgN n)[i]? = some (wN i) := by
  unfold rgN
  rw [List.getElem?_map, List.getElem?_range h]
  rfl
theorem lcR {n : Nat} (p : V → Bool) (f : V → V) (h0 : ∀ R : List V → Hp → Prop, R [wN n] H → ta σ H R) (hl : n ≤ 1000) (hw : ∀ x, wipe ((wipe σ vs).set j (some x)) vs = wipe σ vs)
    (ht : ∀ x ∈ rgN n, ∀ H1, Ext H H1 → ∀ Q : Bool → Hp → Prop, Q (p x) H1 → tt ((wipe σ vs).set j (some x)) H1 Q)
    (he : ∀ x ∈ rgN n, p x = true → ∀ H1, Ext H H1 → ∀ Q : VK, (∀ H2, Ext H1 H2 → Q (f x) H2) → te ((wipe σ vs).set j (some x)) H1 Q)
    (k : ∀ D H1, H D = none → Ext H H1 → H1 D = some (.lst (((rgN n).filter p).map f)) → Q (.ref D) H1) : tLc (iRng1 ta) (gName j) tt te vs σ H Q := by
  have hn : (rgN n).length = n := by
    unfold rgN
    rw [List.length_map, List.length_range]
  refine h0 _ ⟨(n : Int), rfl, by omega, by omega, fun D hD => ?_⟩
  refine lc_range (lo := 0) (n := (n : Int).toNat) (Lc H D p f (rgN n)) ⟨hD, Ext.upd hD, upd_same⟩ (fun i H1 hi c => ?_) fun H1 c => ?_
  · have hi' : i < n := by omega
    have hx := rgN_at hi'
    have e : (0 : Int) + (i : Int) = (i : Int) := Int.zero_add _
    show wipe ((wipe σ vs).set j (some (.int ((0 : Int) + (i : Int))))) vs = wipe σ vs ∧ _
    rw [e]
    exact ⟨hw _, lc_turn c hx (by omega) (ht _ (List.mem_of_getElem? hx)) (he _ (List.mem_of_getElem? hx))⟩
  · refine k D H1 c.1 c.2.1 ?_
    rw [c.2.2, Int.toNat_natCast, List.take_of_length_le (by omega)]
end
theorem filter_yes {α : Type} (l : List α) : (l.filter fun _ => true) = l := by
  induction l with
  | nil => rfl
  | cons a l ih => rw [List.filter_cons, if_pos rfl, ih]
/-! ## the same over words -/
def unN {α : Type} (d : α) (p : Nat → α) : V → α
  | .int z => p z.toNat
  | _ => d
theorem nat_lc (p : Nat → Bool) (f : Nat → V) (B : List Nat) : ((wL B).filter (unN false p)).map (unN .non f) = (B.filter p).map f := by
  induction B with
  | nil => rfl
  | cons b B ih =>
    have e : unN false p (wN b) = p b := rfl
    show ((wN b :: wL B).filter (unN false p)).map (unN .non f) = _
    rw [List.filter_cons, List.filter_cons, e]
    cases p b with
    | true =>
      rw [if_pos rfl, if_pos rfl, List.map_cons, List.map_cons, ih]
      rfl
    | false =>
      rw [if_neg Bool.false_ne_true, if_neg Bool.false_ne_true, ih]
section
variable {K : PySem.W.Frag} {a : Addr} {B : List Nat} {t0 : TE} {ta : TA} {j : Nat} {tt : TT} {te : TE} {vs : List Nat} {σ : L2.St} {H : Hp} {Q : VK}
theorem lcTN (p : Nat → Bool) (f : Nat → V) (h0 : ∀ R : VK, R (.ref a) H → t0 σ H R) (hq : SqT K H a (wL B)) (hl : B.length ≤ 1000) (hw : ∀ x, wipe ((wipe σ vs).set j (some x)) vs = wipe σ vs)
    (ht : ∀ b ∈ B, ∀ H1, Ext H H1 → ∀ Q : Bool → Hp → Prop, Q (p b) H1 → tt ((wipe σ vs).set j (some (wN b))) H1 Q)
    (he : ∀ b ∈ B, p b = true → ∀ H1, Ext H H1 → ∀ Q : VK, (∀ H2, Ext H1 H2 → Q (f b) H2) → te ((wipe σ vs).set j (some (wN b))) H1 Q)
    (k : ∀ D H1, H D = none → Ext H H1 → H1 D = some (.lst ((B.filter p).map f)) → Q (.ref D) H1) : tLc (iTup K t0) (gName j) tt te vs σ H Q := by
  refine lcT (unN false p) (unN .non f) h0 hq (by rw [List.length_map]; exact hl) hw (fun x hx => ?_) (fun x hx => ?_) fun D H1 hD e h => k D H1 hD e (by rw [h, nat_lc])
  · obtain ⟨b, hb, rfl⟩ := List.mem_map.mp hx
    exact ht b hb
  · obtain ⟨b, hb, rfl⟩ := List.mem_map.mp hx
    exact he b hb
theorem lcLN (p : Nat → Bool) (f : Nat → V) (h0 : ∀ R : VK, R (.ref a) H → t0 σ H R) (hq : SqL K H a (wL B)) (hl : B.length ≤ 1000) (hw : ∀ x, wipe ((wipe σ vs).set j (some x)) vs = wipe σ vs)
    (ht : ∀ b ∈ B, ∀ H1, Ext H H1 → ∀ Q : Bool → Hp → Prop, Q (p b) H1 → tt ((wipe σ vs).set j (some (wN b))) H1 Q)
    (he : ∀ b ∈ B, p b = true → ∀ H1, Ext H H1 → ∀ Q : VK, (∀ H2, Ext H1 H2 → Q (f b) H2) → te ((wipe σ vs).set j (some (wN b))) H1 Q)
    (k : ∀ D H1, H D = none → Ext H H1 → H1 D = some (.lst ((B.filter p).map f)) → Q (.ref D) H1) : tLc (iList K t0) (gName j) tt te vs σ H Q := by
  refine lcL (unN false p) (unN .non f) h0 hq (by rw [List.length_map]; exact hl) hw (fun x hx => ?_) (fun x hx => ?_) fun D H1 hD e h => k D H1 hD e (by rw [h, nat_lc])
  · obtain ⟨b, hb, rfl⟩ := List.mem_map.mp hx
    exact ht b hb
  · obtain ⟨b, hb, rfl⟩ := List.mem_map.mp hx
    exact he b hb
theorem lcRN {n : Nat} (p : Nat → Bool) (f : Nat → V) (h0 : ∀ R : List V → Hp → Prop, R [wN n] H → ta σ H R) (hl : n ≤ 1000) (hw : ∀ x, wipe ((wipe σ vs).set j (some x)) vs = wipe σ vs)
    (ht : ∀ b, b < n → ∀ H1, Ext H H1 → ∀ Q : Bool → Hp → Prop, Q (p b) H1 → tt ((wipe σ vs).set j (some (wN b))) H1 Q)
    (he : ∀ b, b < n → p b = true → ∀ H1, Ext H H1 → ∀ Q : VK, (∀ H2, Ext H1 H2 → Q (f b) H2) → te ((wipe σ vs).set j (some (wN b))) H1 Q)
    (k : ∀ D H1, H D = none → Ext H H1 → H1 D = some (.lst (((List.range n).filter p).map f)) → Q (.ref D) H1) : tLc (iRng1 ta) (gName j) tt te vs σ H Q := by
  refine lcR (unN false p) (unN .non f) h0 hl hw (fun x hx => ?_) (fun x hx => ?_) fun D H1 hD e h => k D H1 hD e (by
    have q := nat_lc p f (List.range n)
    rw [h]
    exact congrArg (fun l => some (HO.lst l)) q)
  · obtain ⟨b, hb, rfl⟩ := List.mem_map.mp hx
    exact ht b (List.mem_range.mp hb)
  · obtain ⟨b, hb, rfl⟩ := List.mem_map.mp hx
    exact he b (List.mem_range.mp hb)
end
theorem wL_map (f : Nat → Nat) (B : List Nat) : wL (B.map f) = B.map fun b => wN (f b) := List.map_map
theorem wL_app (A B : List Nat) : wL (A ++ B) = wL A ++ wL B := List.map_append
theorem wL_len (B : List Nat) : (wL B).length = B.length := List.length_map _
theorem wL_at {B : List Nat} {i : Nat} {x : V} (h : (wL B)[i]? = some x) : ∃ b, B[i]? = some b ∧ x = wN b := map_at h
theorem wL_get {B : List Nat} {i b : Nat} (h : B[i]? = some b) : (wL B)[i]? = some (wN b) := by
  show (B.map wN)[i]? = _
  rw [List.getElem?_map, h]
  rfl
/-! ## tests that are known; enumerate -/
theorem yes_ {c : Bool} {A B : Prop} (h : c = true) (a : A) : if c = true then A else B := by
  rw [if_pos h]
  exact a
theorem no_ {c : Bool} {A B : Prop} (h : c = false) (b : B) : if c = true then A else B := by
  rw [h, if_neg Bool.false_ne_true]
  exact b
theorem for_enum {K : PySem.W.Frag} {a : Addr} {xs : List V} {g : TG} {tb : TS} {D : Ends} {σ : L2.St} {H : Hp} (Pv : Nat → L2.St → Hp → Prop) (h0 : Pv 0 σ H) (hl : ∀ i σ H, i ≤ xs.length → Pv i σ H → SqL K H a xs)
    (hs : ∀ (i : Nat) (x : V) (T : Addr) σ H, xs[i]? = some x → Pv i σ H → H T = none → g (.ref T) σ (upd H T (.tup [wN i, x])) fun σ2 H2 => tb { D with nx := Pv (i + 1), ct := Pv (i + 1), bk := D.nx } σ2 H2) (hd : ∀ σ H, Pv xs.length σ H → D.nx σ H) :
    ∃ W : Nat → Nat → L2.St → Hp → Prop, (∃ m, W 0 m σ H) ∧ ∀ i m σ H, W i m σ H →
      ((Ite K a).stop i H ∧ D.nx σ H) ∨ ((Ite K a).go i H ∧ ∃ N : L2.St → Hp → Prop, (∀ σ' H', N σ' H' → ∃ m', m' < m ∧ W (i + 1) m' σ' H') ∧ ∀ x H', (Ite K a).yld i H x H' → g x σ H' fun σ2 H2 => tb { D with nx := N, ct := N, bk := D.nx } σ2 H2) := by
  refine ⟨fun i m σ H => i ≤ xs.length ∧ m = xs.length - i ∧ Pv i σ H, ⟨_, Nat.zero_le _, rfl, h0⟩, ?_⟩
  rintro i m σ H ⟨hi, rfl, pv⟩
  have hq := hl i σ H hi pv
  rcases Nat.lt_or_ge i xs.length with lt | ge
  · refine .inr ⟨⟨xs, xs[i], hq, List.getElem?_eq_getElem lt⟩, Pv (i + 1), fun σ' H' p' => ⟨_, (by omega : xs.length - (i + 1) < xs.length - i), lt, rfl, p'⟩, fun v H' y => ?_⟩
    obtain ⟨T, x, rfl, hT, rfl, hx⟩ := y
    exact hs i x T σ H (hx xs hq) pv hT
  · have e : i = xs.length := Nat.le_antisymm hi ge
    subst e
    exact .inl ⟨⟨xs, hq, Nat.le_refl _⟩, hd σ H pv⟩
/-- a comprehension over a list that is made on the way -/
theorem lcLW {K : PySem.W.Frag} {B : List Nat} {t0 : TE} {j : Nat} {tt : TT} {te : TE} {vs : List Nat} {σ : L2.St} {H : Hp} {Q : VK} (p : Nat → Bool) (f : Nat → V)
    (h0 : ∀ R : VK, (∀ a H1, Ext H H1 → H1 a = some (.lst (wL B)) → R (.ref a) H1) → t0 σ H R) (hl : B.length ≤ 1000) (hw : ∀ x, wipe ((wipe σ vs).set j (some x)) vs = wipe σ vs)
    (ht : ∀ b ∈ B, ∀ H1, Ext H H1 → ∀ Q : Bool → Hp → Prop, Q (p b) H1 → tt ((wipe σ vs).set j (some (wN b))) H1 Q)
    (he : ∀ b ∈ B, p b = true → ∀ H1, Ext H H1 → ∀ Q : VK, (∀ H2, Ext H1 H2 → Q (f b) H2) → te ((wipe σ vs).set j (some (wN b))) H1 Q)
    (k : ∀ D H1, H D = none → Ext H H1 → H1 D = some (.lst ((B.filter p).map f)) → Q (.ref D) H1) : tLc (iList K t0) (gName j) tt te vs σ H Q :=
  h0 _ fun a H1 e1 ha => lcLN (K := K) (a := a) (B := B) (t0 := fun _ H Q => Q (.ref a) H) (σ := σ) (H := H1) p f (fun _ r => r) (SqL.of ha) hl hw (fun b hb H2 e2 => ht b hb H2 (e1.trans e2)) (fun b hb hp H2 e2 => he b hb hp H2 (e1.trans e2))
    fun D H2 hD e2 h2 => k D H2 (ext_free e1 hD) (e1.trans e2) h2
end OC

namespace OC
open PySem PySem.Spec PyProof.Rows L2
/-! ## the text by places -/
def top (i : Nat) : Stmt := PySem.Challenge.pw_owncontraries_k18_whole_great_rooms.main.body.getD i (.Pass ⟨0, 0, 0, 0⟩)
abbrev s_TooMany_init : Stmt := inClass (top 10) 0
abbrev s_is_integer : Stmt := top 13
abbrev s_is_count : Stmt := top 14
abbrev s_is_list : Stmt := top 15
abbrev s_is_places : Stmt := top 16
abbrev s_want_places : Stmt := top 17
abbrev s_want_at_most : Stmt := top 18
abbrev s_left_of : Stmt := top 22
abbrev s_with_word : Stmt := top 23
abbrev s_plain_basis : Stmt := top 24
abbrev s_all_words : Stmt := top 25
abbrev s_Told_init : Stmt := inClass (top 26) 0
abbrev s_told_room : Stmt := top 27
abbrev s_Room_init : Stmt := inClass (top 28) 0
abbrev s_Room_dimension : Stmt := inClass (top 28) 2
abbrev s_Room_basis : Stmt := inClass (top 28) 3
abbrev s_Room_has : Stmt := inClass (top 28) 4
abbrev s_Room_words : Stmt := inClass (top 28) 5
abbrev s_Room_eq : Stmt := inClass (top 28) 6
abbrev s_room_by : Stmt := top 29
abbrev s_room_of : Stmt := top 30
abbrev s_want_room : Stmt := top 31
abbrev s_want_word : Stmt := top 32
abbrev s_spots_of : Stmt := top 34
abbrev s_word_by : Stmt := top 35
abbrev s_all_on : Stmt := top 36
abbrev s_want_alike : Stmt := top 38
abbrev s_below : Stmt := top 39
abbrev s_common_basis : Stmt := top 40
abbrev s_shortened_basis : Stmt := top 41
abbrev s_led_word : Stmt := top 42
abbrev s_is_sequence : Stmt := top 43
abbrev s_sum_room : Stmt := top 44
abbrev s_common_room : Stmt := top 45
abbrev s_lies_in : Stmt := top 46
abbrev s_shortened : Stmt := top 47
abbrev s_cut : Stmt := top 48
abbrev s_exchanged : Stmt := top 49
abbrev s_law_pot : Stmt := top 51
abbrev s_law_draw : Stmt := top 52
abbrev s_law_words : Stmt := top 53
abbrev s_law_mixed : Stmt := top 54
abbrev s_law_led : Stmt := top 55
abbrev s_law_high : Stmt := top 56
abbrev s_law_left : Stmt := top 57
abbrev s_law_tops : Stmt := top 58
abbrev s_law_plain : Stmt := top 59
abbrev s_law_heard : Stmt := top 60
abbrev s_law_right : Stmt := top 61
abbrev s_law : Stmt := top 62
theorem c_TooMany_init : FnScope ["self", "what", "limit"] ["self", "what", "limit"] (defScope s_TooMany_init) := ⟨rfl, rfl, rfl, by decide +kernel, rfl, by decide +kernel, by decide +kernel⟩
theorem c_is_integer : FnScope ["value"] ["value"] (defScope s_is_integer) := ⟨rfl, rfl, rfl, by decide +kernel, rfl, by decide +kernel, by decide +kernel⟩
theorem c_is_count : FnScope ["value"] ["value"] (defScope s_is_count) := ⟨rfl, rfl, rfl, by decide +kernel, rfl, by decide +kernel, by decide +kernel⟩
theorem c_is_list : FnScope ["value"] ["value"] (defScope s_is_list) := ⟨rfl, rfl, rfl, by decide +kernel, rfl, by decide +kernel, by decide +kernel⟩
theorem c_is_places : FnScope ["value"] ["value"] (defScope s_is_places) := ⟨rfl, rfl, rfl, by decide +kernel, rfl, by decide +kernel, by decide +kernel⟩
theorem c_want_places : FnScope ["value"] ["value"] (defScope s_want_places) := ⟨rfl, rfl, rfl, by decide +kernel, rfl, by decide +kernel, by decide +kernel⟩
theorem c_want_at_most : FnScope ["what", "limit", "number"] ["what", "limit", "number"] (defScope s_want_at_most) := ⟨rfl, rfl, rfl, by decide +kernel, rfl, by decide +kernel, by decide +kernel⟩
theorem c_left_of : FnScope ["basis", "word", "one"] ["basis", "word"] (defScope s_left_of) := ⟨rfl, rfl, rfl, by decide +kernel, rfl, by decide +kernel, by decide +kernel⟩
theorem c_with_word : FnScope ["basis", "word", "left", "one"] ["basis", "word"] (defScope s_with_word) := ⟨rfl, rfl, rfl, by decide +kernel, rfl, by decide +kernel, by decide +kernel⟩
theorem c_plain_basis : FnScope ["words", "found", "word"] ["words"] (defScope s_plain_basis) := ⟨rfl, rfl, rfl, by decide +kernel, rfl, by decide +kernel, by decide +kernel⟩
theorem c_all_words : FnScope ["basis", "found", "one", "word"] ["basis"] (defScope s_all_words) := ⟨rfl, rfl, rfl, by decide +kernel, rfl, by decide +kernel, by decide +kernel⟩
theorem c_Told_init : FnScope ["self", "places", "basis"] ["self", "places", "basis"] (defScope s_Told_init) := ⟨rfl, rfl, rfl, by decide +kernel, rfl, by decide +kernel, by decide +kernel⟩
theorem c_told_room : FnScope ["places", "words", "position", "word"] ["places", "words"] (defScope s_told_room) := ⟨rfl, rfl, rfl, by decide +kernel, rfl, by decide +kernel, by decide +kernel⟩
theorem c_Room_init : FnScope ["self", "places", "words", "told"] ["self", "places", "words"] (defScope s_Room_init) := ⟨rfl, rfl, rfl, by decide +kernel, rfl, by decide +kernel, by decide +kernel⟩
theorem c_Room_dimension : FnScope ["self"] ["self"] (defScope s_Room_dimension) := ⟨rfl, rfl, rfl, by decide +kernel, rfl, by decide +kernel, by decide +kernel⟩
theorem c_Room_basis : FnScope ["self"] ["self"] (defScope s_Room_basis) := ⟨rfl, rfl, rfl, by decide +kernel, rfl, by decide +kernel, by decide +kernel⟩
theorem c_Room_has : FnScope ["self", "word"] ["self", "word"] (defScope s_Room_has) := ⟨rfl, rfl, rfl, by decide +kernel, rfl, by decide +kernel, by decide +kernel⟩
theorem c_Room_words : FnScope ["self"] ["self"] (defScope s_Room_words) := ⟨rfl, rfl, rfl, by decide +kernel, rfl, by decide +kernel, by decide +kernel⟩
theorem c_Room_eq : FnScope ["self", "other"] ["self", "other"] (defScope s_Room_eq) := ⟨rfl, rfl, rfl, by decide +kernel, rfl, by decide +kernel, by decide +kernel⟩
theorem c_room_by : FnScope ["places", "basis"] ["places", "basis"] (defScope s_room_by) := ⟨rfl, rfl, rfl, by decide +kernel, rfl, by decide +kernel, by decide +kernel⟩
theorem c_room_of : FnScope ["places", "words"] ["places", "words"] (defScope s_room_of) := ⟨rfl, rfl, rfl, by decide +kernel, rfl, by decide +kernel, by decide +kernel⟩
theorem c_want_room : FnScope ["value"] ["value"] (defScope s_want_room) := ⟨rfl, rfl, rfl, by decide +kernel, rfl, by decide +kernel, by decide +kernel⟩
theorem c_want_word : FnScope ["room", "value"] ["room", "value"] (defScope s_want_word) := ⟨rfl, rfl, rfl, by decide +kernel, rfl, by decide +kernel, by decide +kernel⟩
theorem c_spots_of : FnScope ["word", "place"] ["word"] (defScope s_spots_of) := ⟨rfl, rfl, rfl, by decide +kernel, rfl, by decide +kernel, by decide +kernel⟩
theorem c_word_by : FnScope ["spots", "place"] ["spots"] (defScope s_word_by) := ⟨rfl, rfl, rfl, by decide +kernel, rfl, by decide +kernel, by decide +kernel⟩
theorem c_all_on : FnScope ["places"] ["places"] (defScope s_all_on) := ⟨rfl, rfl, rfl, by decide +kernel, rfl, by decide +kernel, by decide +kernel⟩
theorem c_want_alike : FnScope ["room", "other"] ["room", "other"] (defScope s_want_alike) := ⟨rfl, rfl, rfl, by decide +kernel, rfl, by decide +kernel, by decide +kernel⟩
theorem c_below : FnScope ["basis", "places", "word"] ["basis", "places"] (defScope s_below) := ⟨rfl, rfl, rfl, by decide +kernel, rfl, by decide +kernel, by decide +kernel⟩
theorem c_common_basis : FnScope ["basis", "other", "places", "twice", "word"] ["basis", "other", "places"] (defScope s_common_basis) := ⟨rfl, rfl, rfl, by decide +kernel, rfl, by decide +kernel, by decide +kernel⟩
theorem c_shortened_basis : FnScope ["basis", "word", "places", "off", "one"] ["basis", "word", "places"] (defScope s_shortened_basis) := ⟨rfl, rfl, rfl, by decide +kernel, rfl, by decide +kernel, by decide +kernel⟩
theorem c_led_word : FnScope ["word", "sequence", "place"] ["word", "sequence"] (defScope s_led_word) := ⟨rfl, rfl, rfl, by decide +kernel, rfl, by decide +kernel, by decide +kernel⟩
theorem c_is_sequence : FnScope ["value", "places", "place"] ["value", "places"] (defScope s_is_sequence) := ⟨rfl, rfl, rfl, by decide +kernel, rfl, by decide +kernel, by decide +kernel⟩
theorem c_sum_room : FnScope ["room", "other"] ["room", "other"] (defScope s_sum_room) := ⟨rfl, rfl, rfl, by decide +kernel, rfl, by decide +kernel, by decide +kernel⟩
theorem c_common_room : FnScope ["room", "other"] ["room", "other"] (defScope s_common_room) := ⟨rfl, rfl, rfl, by decide +kernel, rfl, by decide +kernel, by decide +kernel⟩
theorem c_lies_in : FnScope ["room", "other", "word"] ["room", "other"] (defScope s_lies_in) := ⟨rfl, rfl, rfl, by decide +kernel, rfl, by decide +kernel, by decide +kernel⟩
theorem c_shortened : FnScope ["room", "word"] ["room", "word"] (defScope s_shortened) := ⟨rfl, rfl, rfl, by decide +kernel, rfl, by decide +kernel, by decide +kernel⟩
theorem c_cut : FnScope ["room", "word", "one"] ["room", "word"] (defScope s_cut) := ⟨rfl, rfl, rfl, by decide +kernel, rfl, by decide +kernel, by decide +kernel⟩
theorem c_exchanged : FnScope ["room", "sequence", "word"] ["room", "sequence"] (defScope s_exchanged) := ⟨rfl, rfl, rfl, by decide +kernel, rfl, by decide +kernel, by decide +kernel⟩
theorem c_law_pot : FnScope ["_law_script", "_law_k", "_law_cell"] ["_law_script", "_law_k"] (defScope s_law_pot) := ⟨rfl, rfl, rfl, by decide +kernel, rfl, by decide +kernel, by decide +kernel⟩
theorem c_law_draw : FnScope ["_law_pot_here", "_law_size", "_law_digit"] ["_law_pot_here", "_law_size"] (defScope s_law_draw) := ⟨rfl, rfl, rfl, by decide +kernel, rfl, by decide +kernel, by decide +kernel⟩
theorem c_law_words : FnScope ["_law_pot_here", "_law_places", "_law_many", "_law_found", "_law_turn"] ["_law_pot_here", "_law_places", "_law_many"] (defScope s_law_words) := ⟨rfl, rfl, rfl, by decide +kernel, rfl, by decide +kernel, by decide +kernel⟩
theorem c_law_mixed : FnScope ["_law_pot_here", "_law_some", "_law_left_here", "_law_found", "_law_turn"] ["_law_pot_here", "_law_some"] (defScope s_law_mixed) := ⟨rfl, rfl, rfl, by decide +kernel, rfl, by decide +kernel, by decide +kernel⟩
theorem c_law_led : FnScope ["_law_word", "_law_sequence", "_law_found", "_law_at", "_law_to"] ["_law_word", "_law_sequence"] (defScope s_law_led) := ⟨rfl, rfl, rfl, by decide +kernel, rfl, by decide +kernel, by decide +kernel⟩
theorem c_law_high : FnScope ["_law_word", "_law_found"] ["_law_word"] (defScope s_law_high) := ⟨rfl, rfl, rfl, by decide +kernel, rfl, by decide +kernel, by decide +kernel⟩
theorem c_law_left : FnScope ["_law_tops_here", "_law_word", "_law_left_here", "_law_place"] ["_law_tops_here", "_law_word"] (defScope s_law_left) := ⟨rfl, rfl, rfl, by decide +kernel, rfl, by decide +kernel, by decide +kernel⟩
theorem c_law_tops : FnScope ["_law_words_here", "_law_tops_here", "_law_word", "_law_left_here", "_law_high_here", "_law_place"] ["_law_words_here"] (defScope s_law_tops) := ⟨rfl, rfl, rfl, by decide +kernel, rfl, by decide +kernel, by decide +kernel⟩
theorem c_law_plain : FnScope ["_law_words_here", "_law_tops_here", "_law_place"] ["_law_words_here"] (defScope s_law_plain) := ⟨rfl, rfl, rfl, by decide +kernel, rfl, by decide +kernel, by decide +kernel⟩
theorem c_law_heard : FnScope ["_law_room", "_law_told", "e"] ["_law_room"] (defScope s_law_heard) := ⟨rfl, rfl, rfl, by decide +kernel, rfl, by decide +kernel, by decide +kernel⟩
theorem c_law_right : FnScope ["_law_pot_here", "_law_places", "_law_one", "_law_two", "_law_passed", "_law_first", "_law_second", "_law_basis", "_law_tops_here", "_law_word", "_law_both", "_law_shared", "_law_sequence", "_law_told", "_law_back", "_law_at", "_law_to", "_law_line", "_law_short", "_law_less", "_law_some"] ["_law_pot_here"] (defScope s_law_right) := ⟨rfl, rfl, rfl, by decide +kernel, rfl, by decide +kernel, by decide +kernel⟩
theorem c_law : FnScope ["_law_script"] ["_law_script"] (defScope s_law) := ⟨rfl, rfl, rfl, by decide +kernel, rfl, by decide +kernel, by decide +kernel⟩
/-- what the top has left, as far as the walk leans on it: cR Room, cT Told, cM TooMany, fM its __init__ -/
structure Tx (K : PySem.W.Frag) (mg : Str → Option Value) (cR cT cM fM : Addr) : Prop where
  f_is_integer : Fn K mg "is_integer" s_is_integer
  f_is_count : Fn K mg "is_count" s_is_count
  f_is_list : Fn K mg "is_list" s_is_list
  f_is_places : Fn K mg "is_places" s_is_places
  f_want_places : Fn K mg "want_places" s_want_places
  f_want_at_most : Fn K mg "want_at_most" s_want_at_most
  f_left_of : Fn K mg "left_of" s_left_of
  f_with_word : Fn K mg "with_word" s_with_word
  f_plain_basis : Fn K mg "plain_basis" s_plain_basis
  f_all_words : Fn K mg "all_words" s_all_words
  f_told_room : Fn K mg "told_room" s_told_room
  f_room_by : Fn K mg "room_by" s_room_by
  f_room_of : Fn K mg "room_of" s_room_of
  f_want_room : Fn K mg "want_room" s_want_room
  f_want_word : Fn K mg "want_word" s_want_word
  f_spots_of : Fn K mg "spots_of" s_spots_of
  f_word_by : Fn K mg "word_by" s_word_by
  f_all_on : Fn K mg "all_on" s_all_on
  f_want_alike : Fn K mg "want_alike" s_want_alike
  f_below : Fn K mg "below" s_below
  f_common_basis : Fn K mg "common_basis" s_common_basis
  f_shortened_basis : Fn K mg "shortened_basis" s_shortened_basis
  f_led_word : Fn K mg "led_word" s_led_word
  f_is_sequence : Fn K mg "is_sequence" s_is_sequence
  f_sum_room : Fn K mg "sum_room" s_sum_room
  f_common_room : Fn K mg "common_room" s_common_room
  f_lies_in : Fn K mg "lies_in" s_lies_in
  f_shortened : Fn K mg "shortened" s_shortened
  f_cut : Fn K mg "cut" s_cut
  f_exchanged : Fn K mg "exchanged" s_exchanged
  f_law_pot : Fn K mg "_law_pot" s_law_pot
  f_law_draw : Fn K mg "_law_draw" s_law_draw
  f_law_words : Fn K mg "_law_words" s_law_words
  f_law_mixed : Fn K mg "_law_mixed" s_law_mixed
  f_law_led : Fn K mg "_law_led" s_law_led
  f_law_high : Fn K mg "_law_high" s_law_high
  f_law_left : Fn K mg "_law_left" s_law_left
  f_law_tops : Fn K mg "_law_tops" s_law_tops
  f_law_plain : Fn K mg "_law_plain" s_law_plain
  f_law_heard : Fn K mg "_law_heard" s_law_heard
  f_law_right : Fn K mg "_law_right" s_law_right
  f_law : Fn K mg "law" s_law
  b_isinstance : mg "isinstance" = none
  b_int : mg "int" = none
  b_bool : mg "bool" = none
  b_list : mg "list" = none
  b_tuple : mg "tuple" = none
  b_len : mg "len" = none
  b_min : mg "min" = none
  b_sorted : mg "sorted" = none
  b_enumerate : mg "enumerate" = none
  b_range : mg "range" = none
  b_sum : mg "sum" = none
  b_all : mg "all" = none
  b_any : mg "any" = none
  b_abs : mg "abs" = none
  b_max : mg "max" = none
  b_divmod : mg "divmod" = none
  b_repr : mg "repr" = none
  b_str : mg "str" = none
  i_mp : ∃ t, mg "MOST_PLACES" = some (.int 24 t)
  i_mw : ∃ t, mg "MOST_WORDS" = some (.int 48 t)
  i_md : ∃ t, mg "MOST_DIMENSION" = some (.int 8 t)
  gR : mg "Room" = some (.ref cR)
  gT : mg "Told" = some (.ref cT)
  gM : mg "TooMany" = some (.ref cM)
  clR : Cls K cR
  clT : Cls K cT
  nRp : NoAttr K cR "own_places"
  nRb : NoAttr K cR "own_basis"
  nTp : NoAttr K cT "told_places"
  nTb : NoAttr K cT "told_basis"
  mkR : ∃ f fd, Mk K cR f ∧ FunD K "__init__" "Room.__init__" (defArgs s_Room_init) (defBody s_Room_init) (defScope s_Room_init) [] [] f fd
  mkT : ∃ f fd, Mk K cT f ∧ FunD K "__init__" "Told.__init__" (defArgs s_Told_init) (defBody s_Told_init) (defScope s_Told_init) [] [] f fd
  mBasis : ∃ f fd, Meth K cR "basis" f ∧ FunD K "basis" "Room.basis" (defArgs s_Room_basis) (defBody s_Room_basis) (defScope s_Room_basis) [] [] f fd
  mHas : ∃ f fd, Meth K cR "has" f ∧ FunD K "has" "Room.has" (defArgs s_Room_has) (defBody s_Room_has) (defScope s_Room_has) [] [] f fd
  mWords : ∃ f fd, Meth K cR "words" f ∧ FunD K "words" "Room.words" (defArgs s_Room_words) (defBody s_Room_words) (defScope s_Room_words) [] [] f fd
  mEq : ∃ f fd, Meth K cR "__eq__" f ∧ FunD K "__eq__" "Room.__eq__" (defArgs s_Room_eq) (defBody s_Room_eq) (defScope s_Room_eq) [] [] f fd
  mDim : ∃ p g fd, PropOf K cR "dimension" p g ∧ FunD K "dimension" "Room.dimension" (defArgs s_Room_dimension) (defBody s_Room_dimension) (defScope s_Room_dimension) [] [] g fd
  ne : PySem.W.findIn K (.ref cR) "__ne__" = some (some (.builtin "object.__ne__"))
  obR : PySem.W.mroIn K cR (.type "object") = some true
  obT : PySem.W.mroIn K cT (.type "object") = some true
  kcR : PySem.W.findIn K (.ref cR) "__class__" = some (some (.builtin "object.__class__"))
  kcT : PySem.W.findIn K (.ref cT) "__class__" = some (some (.builtin "object.__class__"))
  kg : PySem.W.specialIn K (.builtin "object.__class__") "__get__" = some (some (.builtin "getset_descriptor.__get__"))
  kt : PySem.W.takesIn K (.builtin "object.__class__") = some true
  isR : PySem.W.kitOne K (.ref cR) (.ref cR) = some true
  isT : PySem.W.kitOne K (.ref cT) (.ref cT) = some true
  noT : PySem.W.kitOne K (.type "int") (.ref cT) = some false
  tm : PySem.TmX.TmTxt K cM fM
  xf : XfC K cM
end OC

namespace OC
open PySem PySem.Spec PyProof.Rows L2
/-! ## the head -/
def hd_TooMany_init : He.DefD := ⟨("TooMany", some "__init__"), "__init__", "TooMany.__init__", defArgs s_TooMany_init, defBody s_TooMany_init, defScope s_TooMany_init, [], []⟩
def hd_is_integer : He.DefD := ⟨("is_integer", none), "is_integer", "is_integer", defArgs s_is_integer, defBody s_is_integer, defScope s_is_integer, [], []⟩
def hd_is_count : He.DefD := ⟨("is_count", none), "is_count", "is_count", defArgs s_is_count, defBody s_is_count, defScope s_is_count, [], []⟩
def hd_is_list : He.DefD := ⟨("is_list", none), "is_list", "is_list", defArgs s_is_list, defBody s_is_list, defScope s_is_list, [], []⟩
def hd_is_places : He.DefD := ⟨("is_places", none), "is_places", "is_places", defArgs s_is_places, defBody s_is_places, defScope s_is_places, [], []⟩
def hd_want_places : He.DefD := ⟨("want_places", none), "want_places", "want_places", defArgs s_want_places, defBody s_want_places, defScope s_want_places, [], []⟩
def hd_want_at_most : He.DefD := ⟨("want_at_most", none), "want_at_most", "want_at_most", defArgs s_want_at_most, defBody s_want_at_most, defScope s_want_at_most, [], []⟩
def hd_left_of : He.DefD := ⟨("left_of", none), "left_of", "left_of", defArgs s_left_of, defBody s_left_of, defScope s_left_of, [], []⟩
def hd_with_word : He.DefD := ⟨("with_word", none), "with_word", "with_word", defArgs s_with_word, defBody s_with_word, defScope s_with_word, [], []⟩
def hd_plain_basis : He.DefD := ⟨("plain_basis", none), "plain_basis", "plain_basis", defArgs s_plain_basis, defBody s_plain_basis, defScope s_plain_basis, [], []⟩
def hd_all_words : He.DefD := ⟨("all_words", none), "all_words", "all_words", defArgs s_all_words, defBody s_all_words, defScope s_all_words, [], []⟩
def hd_Told_init : He.DefD := ⟨("Told", some "__init__"), "__init__", "Told.__init__", defArgs s_Told_init, defBody s_Told_init, defScope s_Told_init, [], []⟩
def hd_told_room : He.DefD := ⟨("told_room", none), "told_room", "told_room", defArgs s_told_room, defBody s_told_room, defScope s_told_room, [], []⟩
def hd_Room_init : He.DefD := ⟨("Room", some "__init__"), "__init__", "Room.__init__", defArgs s_Room_init, defBody s_Room_init, defScope s_Room_init, [], []⟩
def hd_Room_basis : He.DefD := ⟨("Room", some "basis"), "basis", "Room.basis", defArgs s_Room_basis, defBody s_Room_basis, defScope s_Room_basis, [], []⟩
def hd_Room_has : He.DefD := ⟨("Room", some "has"), "has", "Room.has", defArgs s_Room_has, defBody s_Room_has, defScope s_Room_has, [], []⟩
def hd_Room_words : He.DefD := ⟨("Room", some "words"), "words", "Room.words", defArgs s_Room_words, defBody s_Room_words, defScope s_Room_words, [], []⟩
def hd_Room_eq : He.DefD := ⟨("Room", some "__eq__"), "__eq__", "Room.__eq__", defArgs s_Room_eq, defBody s_Room_eq, defScope s_Room_eq, [], []⟩
def hd_room_by : He.DefD := ⟨("room_by", none), "room_by", "room_by", defArgs s_room_by, defBody s_room_by, defScope s_room_by, [], []⟩
def hd_room_of : He.DefD := ⟨("room_of", none), "room_of", "room_of", defArgs s_room_of, defBody s_room_of, defScope s_room_of, [], []⟩
def hd_want_room : He.DefD := ⟨("want_room", none), "want_room", "want_room", defArgs s_want_room, defBody s_want_room, defScope s_want_room, [], []⟩
def hd_want_word : He.DefD := ⟨("want_word", none), "want_word", "want_word", defArgs s_want_word, defBody s_want_word, defScope s_want_word, [], []⟩
def hd_spots_of : He.DefD := ⟨("spots_of", none), "spots_of", "spots_of", defArgs s_spots_of, defBody s_spots_of, defScope s_spots_of, [], []⟩
def hd_word_by : He.DefD := ⟨("word_by", none), "word_by", "word_by", defArgs s_word_by, defBody s_word_by, defScope s_word_by, [], []⟩
def hd_all_on : He.DefD := ⟨("all_on", none), "all_on", "all_on", defArgs s_all_on, defBody s_all_on, defScope s_all_on, [], []⟩
def hd_want_alike : He.DefD := ⟨("want_alike", none), "want_alike", "want_alike", defArgs s_want_alike, defBody s_want_alike, defScope s_want_alike, [], []⟩
def hd_below : He.DefD := ⟨("below", none), "below", "below", defArgs s_below, defBody s_below, defScope s_below, [], []⟩
def hd_common_basis : He.DefD := ⟨("common_basis", none), "common_basis", "common_basis", defArgs s_common_basis, defBody s_common_basis, defScope s_common_basis, [], []⟩
def hd_shortened_basis : He.DefD := ⟨("shortened_basis", none), "shortened_basis", "shortened_basis", defArgs s_shortened_basis, defBody s_shortened_basis, defScope s_shortened_basis, [], []⟩
def hd_led_word : He.DefD := ⟨("led_word", none), "led_word", "led_word", defArgs s_led_word, defBody s_led_word, defScope s_led_word, [], []⟩
def hd_is_sequence : He.DefD := ⟨("is_sequence", none), "is_sequence", "is_sequence", defArgs s_is_sequence, defBody s_is_sequence, defScope s_is_sequence, [], []⟩
def hd_sum_room : He.DefD := ⟨("sum_room", none), "sum_room", "sum_room", defArgs s_sum_room, defBody s_sum_room, defScope s_sum_room, [], []⟩
def hd_common_room : He.DefD := ⟨("common_room", none), "common_room", "common_room", defArgs s_common_room, defBody s_common_room, defScope s_common_room, [], []⟩
def hd_lies_in : He.DefD := ⟨("lies_in", none), "lies_in", "lies_in", defArgs s_lies_in, defBody s_lies_in, defScope s_lies_in, [], []⟩
def hd_shortened : He.DefD := ⟨("shortened", none), "shortened", "shortened", defArgs s_shortened, defBody s_shortened, defScope s_shortened, [], []⟩
def hd_cut : He.DefD := ⟨("cut", none), "cut", "cut", defArgs s_cut, defBody s_cut, defScope s_cut, [], []⟩
def hd_exchanged : He.DefD := ⟨("exchanged", none), "exchanged", "exchanged", defArgs s_exchanged, defBody s_exchanged, defScope s_exchanged, [], []⟩
def hd_law_pot : He.DefD := ⟨("_law_pot", none), "_law_pot", "_law_pot", defArgs s_law_pot, defBody s_law_pot, defScope s_law_pot, [], []⟩
def hd_law_draw : He.DefD := ⟨("_law_draw", none), "_law_draw", "_law_draw", defArgs s_law_draw, defBody s_law_draw, defScope s_law_draw, [], []⟩
def hd_law_words : He.DefD := ⟨("_law_words", none), "_law_words", "_law_words", defArgs s_law_words, defBody s_law_words, defScope s_law_words, [], []⟩
def hd_law_mixed : He.DefD := ⟨("_law_mixed", none), "_law_mixed", "_law_mixed", defArgs s_law_mixed, defBody s_law_mixed, defScope s_law_mixed, [], []⟩
def hd_law_led : He.DefD := ⟨("_law_led", none), "_law_led", "_law_led", defArgs s_law_led, defBody s_law_led, defScope s_law_led, [], []⟩
def hd_law_high : He.DefD := ⟨("_law_high", none), "_law_high", "_law_high", defArgs s_law_high, defBody s_law_high, defScope s_law_high, [], []⟩
def hd_law_left : He.DefD := ⟨("_law_left", none), "_law_left", "_law_left", defArgs s_law_left, defBody s_law_left, defScope s_law_left, [], []⟩
def hd_law_tops : He.DefD := ⟨("_law_tops", none), "_law_tops", "_law_tops", defArgs s_law_tops, defBody s_law_tops, defScope s_law_tops, [], []⟩
def hd_law_plain : He.DefD := ⟨("_law_plain", none), "_law_plain", "_law_plain", defArgs s_law_plain, defBody s_law_plain, defScope s_law_plain, [], []⟩
def hd_law_heard : He.DefD := ⟨("_law_heard", none), "_law_heard", "_law_heard", defArgs s_law_heard, defBody s_law_heard, defScope s_law_heard, [], []⟩
def hd_law_right : He.DefD := ⟨("_law_right", none), "_law_right", "_law_right", defArgs s_law_right, defBody s_law_right, defScope s_law_right, [], []⟩
def hd_law : He.DefD := ⟨("law", none), "law", "law", defArgs s_law, defBody s_law, defScope s_law, [], []⟩
def fn : List He.DefD := [hd_TooMany_init, hd_is_integer, hd_is_count, hd_is_list, hd_is_places, hd_want_places, hd_want_at_most, hd_left_of, hd_with_word, hd_plain_basis, hd_all_words, hd_Told_init, hd_told_room, hd_Room_init, hd_Room_basis, hd_Room_has, hd_Room_words, hd_Room_eq, hd_room_by, hd_room_of, hd_want_room, hd_want_word, hd_spots_of, hd_word_by, hd_all_on, hd_want_alike, hd_below, hd_common_basis, hd_shortened_basis, hd_led_word, hd_is_sequence, hd_sum_room, hd_common_room, hd_lies_in, hd_shortened, hd_cut, hd_exchanged, hd_law_pot, hd_law_draw, hd_law_words, hd_law_mixed, hd_law_led, hd_law_high, hd_law_left, hd_law_tops, hd_law_plain, hd_law_heard, hd_law_right, hd_law]
def fa : List He.Fa := [.glo "is_integer", .glo "is_count", .glo "is_list", .glo "is_places", .glo "want_places", .glo "want_at_most", .glo "left_of", .glo "with_word", .glo "plain_basis", .glo "all_words", .glo "told_room", .glo "room_by", .glo "room_of", .glo "want_room", .glo "want_word", .glo "spots_of", .glo "word_by", .glo "all_on", .glo "want_alike", .glo "below", .glo "common_basis", .glo "shortened_basis", .glo "led_word", .glo "is_sequence", .glo "sum_room", .glo "common_room", .glo "lies_in", .glo "shortened", .glo "cut", .glo "exchanged", .glo "_law_pot", .glo "_law_draw", .glo "_law_words", .glo "_law_mixed", .glo "_law_led", .glo "_law_high", .glo "_law_left", .glo "_law_tops", .glo "_law_plain", .glo "_law_heard", .glo "_law_right", .glo "law", .glo "Room", .glo "Told", .glo "TooMany", .free "isinstance", .free "int", .free "bool", .free "list", .free "tuple", .free "len", .free "min", .free "sorted", .free "enumerate", .free "range", .free "sum", .free "all", .free "any", .free "abs", .free "max", .free "divmod", .free "repr", .free "str", .int "MOST_PLACES" 24, .int "MOST_WORDS" 48, .int "MOST_DIMENSION" 8, .cls "Room", .mkr "Room", .cls "Told", .mkr "Told", .noat "Told" "told_places", .noat "Told" "told_basis", .noat "Room" "own_places", .noat "Room" "own_basis", .meth "Room" "basis", .meth "Room" "has", .meth "Room" "words", .meth "Room" "__eq__", .keep "TooMany"]
abbrev aR (K : PySem.W.Frag) : Addr := He.ga K "Room"
abbrev aT (K : PySem.W.Frag) : Addr := He.ga K "Told"
abbrev aM (K : PySem.W.Frag) : Addr := He.ga K "TooMany"
abbrev aI (K : PySem.W.Frag) : Addr := He.ma K (aM K) "__init__"
/-- the property's object, its getter -/
abbrev aP (K : PySem.W.Frag) : Addr := He.ma K (aR K) "dimension"
def aG (K : PySem.W.Frag) : Addr := match PySem.W.recIn K (aP K) "property" with
  | some (.ref g :: _) => g
  | _ => 0
def fnA (K : PySem.W.Frag) (a : Addr) : He.FnW := match K.lookup a with
  | some ⟨_, _, .func fd, _⟩ => some (fd.name, fd.qualname, fd.params, fd.body, fd.scope, fd.globals, fd.closure, fd.builtins)
  | _ => none
def okA (K : PySem.W.Frag) (a : Addr) (q : Str) : Bool := PySem.W.keepIn K (.ref a) && (match K.lookup a with
  | some ⟨_, _, .func fd, _⟩ => PySem.W.codeIn K fd.code q && (He.dflB K fd.defaults [] && He.kwdB K fd.kwdefaults [])
  | _ => false)
theorem funA {K : PySem.W.Frag} {a : Addr} {x q : Str} {params : Arguments} {body : List Stmt} {scope : Scope} (e : fnA K a = some (x, q, params, .stmts body, scope, mainGlobals, [], builtinsNs)) (c : okA K a q = true) :
    ∃ fd, FunD K x q params body scope [] [] a fd := by
  obtain ⟨kp, c2⟩ := He.ba c
  unfold fnA at e
  cases z : K.lookup a with
  | none =>
    rw [z] at c2
    cases c2
  | some o =>
    obtain ⟨oc, od, dt, osl⟩ := o
    rw [z] at c2 e
    cases dt with
    | func fd =>
      obtain ⟨n1, n2, n3, n4, n5, n6, n7, n8, n9, n10, n11, n12, n13, n14, n15⟩ := fd
      have e2 : (some (n1, n2, n3, n4, n5, n6, n7, n15) : He.FnW) = some (x, q, params, .stmts body, scope, mainGlobals, [], builtinsNs) := e
      simp only [Option.some.injEq, Prod.mk.injEq] at e2
      obtain ⟨h1, h2, h3, h4, h5, h6, h7, h8⟩ := e2
      subst h1 h2 h3 h4 h5 h6 h7 h8
      obtain ⟨k1, k2⟩ := He.ba (show (PySem.W.codeIn K n13 n2 && (He.dflB K n8 [] && He.kwdB K n9 [])) = true from c2)
      obtain ⟨k3, k4⟩ := He.ba k2
      exact ⟨_, ⟨oc, od, n8, n9, n10, n11, n12, n13, n14, osl, rfl, z, k1, He.dflB_ok k3, He.kwdB_ok k4⟩, kp⟩
    | _ => cases c2
/-- what is looked at besides -/
def exL (K : PySem.W.Frag) : List Bool := [
  He.eqO (PySem.W.findIn K (.ref (aR K)) "__ne__") (some (some (.builtin "object.__ne__"))),
  decide (PySem.W.mroIn K (aR K) (.type "object") = some true),
  decide (PySem.W.mroIn K (aT K) (.type "object") = some true),
  He.eqO (PySem.W.findIn K (.ref (aR K)) "__class__") (some (some (.builtin "object.__class__"))),
  He.eqO (PySem.W.findIn K (.ref (aT K)) "__class__") (some (some (.builtin "object.__class__"))),
  He.eqO (PySem.W.specialIn K (.builtin "object.__class__") "__get__") (some (some (.builtin "getset_descriptor.__get__"))),
  decide (PySem.W.takesIn K (.builtin "object.__class__") = some true),
  decide (PySem.W.kitOne K (.ref (aR K)) (.ref (aR K)) = some true),
  decide (PySem.W.kitOne K (.ref (aT K)) (.ref (aT K)) = some true),
  decide (PySem.W.kitOne K (.type "int") (.ref (aT K)) = some false),
  PySem.W.excInitIn K (aM K) PySem.TmX.aeB "ArithmeticError.__new__",
  PySem.W.excOver K (aM K) PySem.TmX.aeB,
  PySem.W.hasDictIn K (aM K),
  He.eqO (PySem.W.findIn K (.ref (aM K)) "__setattr__") (some (some (.builtin "object.__setattr__"))),
  He.eqO (PySem.W.findIn K (.ref (aM K)) "what") (some none),
  He.eqO (PySem.W.findIn K (.ref (aM K)) "limit") (some none),
  He.eqO (PySem.W.findIn K (.ref (aM K)) "__init__") (some (some (.ref (aI K)))),
  decide (PySem.W.typeIn K (.ref (aI K)) = some (.type "function")),
  decide (PySem.W.subIn K (.ref (aM K)) (.type "BaseException") = some true),
  decide (PySem.W.typeIn K (.ref (aM K)) = some (.type "type")),
  decide (PySem.W.exmOne K (.ref (aM K)) (.ref (aM K)) = some true),
  xfB K (aM K),
  He.eqO (PySem.W.findIn K (.ref (aR K)) "dimension") (some (some (.ref (aP K)))),
  He.eqO (PySem.W.specialIn K (.ref (aP K)) "__get__") (some (some (.builtin "property.__get__"))),
  decide (PySem.W.takesIn K (.ref (aP K)) = some true),
  (match PySem.W.recIn K (aP K) "property" with
    | some (.ref _ :: _) => true
    | _ => false),
  okA K (aG K) "Room.dimension"]
abbrev AlO : Type := (He.AlD × Bool) × He.FnW
def obO (K : PySem.W.Frag) : AlO := ((He.obsD fa fn K, (exL K).all id), fnA K (aG K))
def vaO : AlO := ((He.valD fn, true), some ("dimension", "Room.dimension", defArgs s_Room_dimension, .stmts (defBody s_Room_dimension), defScope s_Room_dimension, mainGlobals, [], builtinsNs))
def SaysO (K : PySem.W.Frag) : Prop := obO K = vaO
def obG (g : Addr → Option Obj) : AlO := obO (He.frG g (He.asD g 6))
def hk : PySem.W.Hook where
  α := AlO
  obs := fun s => obG s.heap.get?
  val := fun _ => vaO
  says := fun _ h => ∃ K : PySem.W.Frag, K.In h ∧ SaysO K
  of := fun _ _ e => ⟨_, He.frG_in, e⟩
  keeps := fun _ _ _ ⟨K, hK, c⟩ k => ⟨K, PySem.W.Frag.In.keeps hK k, c⟩
def ob (s : PySem.W.SharedT) : AlO := obG (HandSHeadRun.getT s)
theorem ob_eq (s : PySem.W.SharedT) : ob s = hk.obs s.abs := by
  have e : HandSHeadRun.getT s = s.abs.heap.get? := funext fun a => HandSHeadRun.getT_eq s a
  unfold ob
  rw [e]
  rfl
theorem SaysO.d {K : PySem.W.Frag} (c : SaysO K) : He.SaysD fa fn K := congrArg (fun z : AlO => z.1.1) c
theorem SaysO.ex {K : PySem.W.Frag} (c : SaysO K) (i : Nat) {b : Bool} (h : (exL K)[i]? = some b := by rfl) : b = true := by
  have c1 : (exL K).all id = true := congrArg (fun z : AlO => z.1.2) c
  exact List.all_eq_true.mp c1 b (List.mem_of_getElem? h)
theorem SaysO.dim {K : PySem.W.Frag} (c : SaysO K) : ∃ fd, FunD K "dimension" "Room.dimension" (defArgs s_Room_dimension) (defBody s_Room_dimension) (defScope s_Room_dimension) [] [] (aG K) fd :=
  funA (congrArg (fun z : AlO => z.2) c) (c.ex 26)
theorem tx_of {K : PySem.W.Frag} {h : Heap} {mg : Str → Option Value} (X : K.In h) (G : h.Ns mainGlobals mg) (c : SaysO K) : Tx K mg (aR K) (aT K) (aM K) (aI K) := by
  have d := c.d
  exact {
    f_is_integer := by
      obtain ⟨fd, F⟩ := d.def_ 1 (d := hd_is_integer) rfl
      exact ⟨_, fd, F, He.glo_ok X G (d.fact 0 (f := .glo "is_integer") rfl)⟩
    f_is_count := by
      obtain ⟨fd, F⟩ := d.def_ 2 (d := hd_is_count) rfl
      exact ⟨_, fd, F, He.glo_ok X G (d.fact 1 (f := .glo "is_count") rfl)⟩
    f_is_list := by
      obtain ⟨fd, F⟩ := d.def_ 3 (d := hd_is_list) rfl
      exact ⟨_, fd, F, He.glo_ok X G (d.fact 2 (f := .glo "is_list") rfl)⟩
    f_is_places := by
      obtain ⟨fd, F⟩ := d.def_ 4 (d := hd_is_places) rfl
      exact ⟨_, fd, F, He.glo_ok X G (d.fact 3 (f := .glo "is_places") rfl)⟩
    f_want_places := by
      obtain ⟨fd, F⟩ := d.def_ 5 (d := hd_want_places) rfl
      exact ⟨_, fd, F, He.glo_ok X G (d.fact 4 (f := .glo "want_places") rfl)⟩
    f_want_at_most := by
      obtain ⟨fd, F⟩ := d.def_ 6 (d := hd_want_at_most) rfl
      exact ⟨_, fd, F, He.glo_ok X G (d.fact 5 (f := .glo "want_at_most") rfl)⟩
    f_left_of := by
      obtain ⟨fd, F⟩ := d.def_ 7 (d := hd_left_of) rfl
      exact ⟨_, fd, F, He.glo_ok X G (d.fact 6 (f := .glo "left_of") rfl)⟩
    f_with_word := by
      obtain ⟨fd, F⟩ := d.def_ 8 (d := hd_with_word) rfl
      exact ⟨_, fd, F, He.glo_ok X G (d.fact 7 (f := .glo "with_word") rfl)⟩
    f_plain_basis := by
      obtain ⟨fd, F⟩ := d.def_ 9 (d := hd_plain_basis) rfl
      exact ⟨_, fd, F, He.glo_ok X G (d.fact 8 (f := .glo "plain_basis") rfl)⟩
    f_all_words := by
      obtain ⟨fd, F⟩ := d.def_ 10 (d := hd_all_words) rfl
      exact ⟨_, fd, F, He.glo_ok X G (d.fact 9 (f := .glo "all_words") rfl)⟩
    f_told_room := by
      obtain ⟨fd, F⟩ := d.def_ 12 (d := hd_told_room) rfl
      exact ⟨_, fd, F, He.glo_ok X G (d.fact 10 (f := .glo "told_room") rfl)⟩
    f_room_by := by
      obtain ⟨fd, F⟩ := d.def_ 18 (d := hd_room_by) rfl
      exact ⟨_, fd, F, He.glo_ok X G (d.fact 11 (f := .glo "room_by") rfl)⟩
    f_room_of := by
      obtain ⟨fd, F⟩ := d.def_ 19 (d := hd_room_of) rfl
      exact ⟨_, fd, F, He.glo_ok X G (d.fact 12 (f := .glo "room_of") rfl)⟩
    f_want_room := by
      obtain ⟨fd, F⟩ := d.def_ 20 (d := hd_want_room) rfl
      exact ⟨_, fd, F, He.glo_ok X G (d.fact 13 (f := .glo "want_room") rfl)⟩
    f_want_word := by
      obtain ⟨fd, F⟩ := d.def_ 21 (d := hd_want_word) rfl
      exact ⟨_, fd, F, He.glo_ok X G (d.fact 14 (f := .glo "want_word") rfl)⟩
    f_spots_of := by
      obtain ⟨fd, F⟩ := d.def_ 22 (d := hd_spots_of) rfl
      exact ⟨_, fd, F, He.glo_ok X G (d.fact 15 (f := .glo "spots_of") rfl)⟩
    f_word_by := by
      obtain ⟨fd, F⟩ := d.def_ 23 (d := hd_word_by) rfl
      exact ⟨_, fd, F, He.glo_ok X G (d.fact 16 (f := .glo "word_by") rfl)⟩
    f_all_on := by
      obtain ⟨fd, F⟩ := d.def_ 24 (d := hd_all_on) rfl
      exact ⟨_, fd, F, He.glo_ok X G (d.fact 17 (f := .glo "all_on") rfl)⟩
    f_want_alike := by
      obtain ⟨fd, F⟩ := d.def_ 25 (d := hd_want_alike) rfl
      exact ⟨_, fd, F, He.glo_ok X G (d.fact 18 (f := .glo "want_alike") rfl)⟩
    f_below := by
      obtain ⟨fd, F⟩ := d.def_ 26 (d := hd_below) rfl
      exact ⟨_, fd, F, He.glo_ok X G (d.fact 19 (f := .glo "below") rfl)⟩
    f_common_basis := by
      obtain ⟨fd, F⟩ := d.def_ 27 (d := hd_common_basis) rfl
      exact ⟨_, fd, F, He.glo_ok X G (d.fact 20 (f := .glo "common_basis") rfl)⟩
    f_shortened_basis := by
      obtain ⟨fd, F⟩ := d.def_ 28 (d := hd_shortened_basis) rfl
      exact ⟨_, fd, F, He.glo_ok X G (d.fact 21 (f := .glo "shortened_basis") rfl)⟩
    f_led_word := by
      obtain ⟨fd, F⟩ := d.def_ 29 (d := hd_led_word) rfl
      exact ⟨_, fd, F, He.glo_ok X G (d.fact 22 (f := .glo "led_word") rfl)⟩
    f_is_sequence := by
      obtain ⟨fd, F⟩ := d.def_ 30 (d := hd_is_sequence) rfl
      exact ⟨_, fd, F, He.glo_ok X G (d.fact 23 (f := .glo "is_sequence") rfl)⟩
    f_sum_room := by
      obtain ⟨fd, F⟩ := d.def_ 31 (d := hd_sum_room) rfl
      exact ⟨_, fd, F, He.glo_ok X G (d.fact 24 (f := .glo "sum_room") rfl)⟩
    f_common_room := by
      obtain ⟨fd, F⟩ := d.def_ 32 (d := hd_common_room) rfl
      exact ⟨_, fd, F, He.glo_ok X G (d.fact 25 (f := .glo "common_room") rfl)⟩
    f_lies_in := by
      obtain ⟨fd, F⟩ := d.def_ 33 (d := hd_lies_in) rfl
      exact ⟨_, fd, F, He.glo_ok X G (d.fact 26 (f := .glo "lies_in") rfl)⟩
    f_shortened := by
      obtain ⟨fd, F⟩ := d.def_ 34 (d := hd_shortened) rfl
      exact ⟨_, fd, F, He.glo_ok X G (d.fact 27 (f := .glo "shortened") rfl)⟩
    f_cut := by
      obtain ⟨fd, F⟩ := d.def_ 35 (d := hd_cut) rfl
      exact ⟨_, fd, F, He.glo_ok X G (d.fact 28 (f := .glo "cut") rfl)⟩
    f_exchanged := by
      obtain ⟨fd, F⟩ := d.def_ 36 (d := hd_exchanged) rfl
      exact ⟨_, fd, F, He.glo_ok X G (d.fact 29 (f := .glo "exchanged") rfl)⟩
    f_law_pot := by
      obtain ⟨fd, F⟩ := d.def_ 37 (d := hd_law_pot) rfl
      exact ⟨_, fd, F, He.glo_ok X G (d.fact 30 (f := .glo "_law_pot") rfl)⟩
    f_law_draw := by
      obtain ⟨fd, F⟩ := d.def_ 38 (d := hd_law_draw) rfl
      exact ⟨_, fd, F, He.glo_ok X G (d.fact 31 (f := .glo "_law_draw") rfl)⟩
    f_law_words := by
      obtain ⟨fd, F⟩ := d.def_ 39 (d := hd_law_words) rfl
      exact ⟨_, fd, F, He.glo_ok X G (d.fact 32 (f := .glo "_law_words") rfl)⟩
    f_law_mixed := by
      obtain ⟨fd, F⟩ := d.def_ 40 (d := hd_law_mixed) rfl
      exact ⟨_, fd, F, He.glo_ok X G (d.fact 33 (f := .glo "_law_mixed") rfl)⟩
    f_law_led := by
      obtain ⟨fd, F⟩ := d.def_ 41 (d := hd_law_led) rfl
      exact ⟨_, fd, F, He.glo_ok X G (d.fact 34 (f := .glo "_law_led") rfl)⟩
    f_law_high := by
      obtain ⟨fd, F⟩ := d.def_ 42 (d := hd_law_high) rfl
      exact ⟨_, fd, F, He.glo_ok X G (d.fact 35 (f := .glo "_law_high") rfl)⟩
    f_law_left := by
      obtain ⟨fd, F⟩ := d.def_ 43 (d := hd_law_left) rfl
      exact ⟨_, fd, F, He.glo_ok X G (d.fact 36 (f := .glo "_law_left") rfl)⟩
    f_law_tops := by
      obtain ⟨fd, F⟩ := d.def_ 44 (d := hd_law_tops) rfl
      exact ⟨_, fd, F, He.glo_ok X G (d.fact 37 (f := .glo "_law_tops") rfl)⟩
    f_law_plain := by
      obtain ⟨fd, F⟩ := d.def_ 45 (d := hd_law_plain) rfl
      exact ⟨_, fd, F, He.glo_ok X G (d.fact 38 (f := .glo "_law_plain") rfl)⟩
    f_law_heard := by
      obtain ⟨fd, F⟩ := d.def_ 46 (d := hd_law_heard) rfl
      exact ⟨_, fd, F, He.glo_ok X G (d.fact 39 (f := .glo "_law_heard") rfl)⟩
    f_law_right := by
      obtain ⟨fd, F⟩ := d.def_ 47 (d := hd_law_right) rfl
      exact ⟨_, fd, F, He.glo_ok X G (d.fact 40 (f := .glo "_law_right") rfl)⟩
    f_law := by
      obtain ⟨fd, F⟩ := d.def_ 48 (d := hd_law) rfl
      exact ⟨_, fd, F, He.glo_ok X G (d.fact 41 (f := .glo "law") rfl)⟩
    b_isinstance := He.free_ok X G (d.fact 45 (f := .free "isinstance") rfl)
    b_int := He.free_ok X G (d.fact 46 (f := .free "int") rfl)
    b_bool := He.free_ok X G (d.fact 47 (f := .free "bool") rfl)
    b_list := He.free_ok X G (d.fact 48 (f := .free "list") rfl)
    b_tuple := He.free_ok X G (d.fact 49 (f := .free "tuple") rfl)
    b_len := He.free_ok X G (d.fact 50 (f := .free "len") rfl)
    b_min := He.free_ok X G (d.fact 51 (f := .free "min") rfl)
    b_sorted := He.free_ok X G (d.fact 52 (f := .free "sorted") rfl)
    b_enumerate := He.free_ok X G (d.fact 53 (f := .free "enumerate") rfl)
    b_range := He.free_ok X G (d.fact 54 (f := .free "range") rfl)
    b_sum := He.free_ok X G (d.fact 55 (f := .free "sum") rfl)
    b_all := He.free_ok X G (d.fact 56 (f := .free "all") rfl)
    b_any := He.free_ok X G (d.fact 57 (f := .free "any") rfl)
    b_abs := He.free_ok X G (d.fact 58 (f := .free "abs") rfl)
    b_max := He.free_ok X G (d.fact 59 (f := .free "max") rfl)
    b_divmod := He.free_ok X G (d.fact 60 (f := .free "divmod") rfl)
    b_repr := He.free_ok X G (d.fact 61 (f := .free "repr") rfl)
    b_str := He.free_ok X G (d.fact 62 (f := .free "str") rfl)
    i_mp := He.int_ok X G (d.fact 63 (f := .int "MOST_PLACES" 24) rfl)
    i_mw := He.int_ok X G (d.fact 64 (f := .int "MOST_WORDS" 48) rfl)
    i_md := He.int_ok X G (d.fact 65 (f := .int "MOST_DIMENSION" 8) rfl)
    gR := He.glo_ok X G (d.fact 42 (f := .glo "Room") rfl)
    gT := He.glo_ok X G (d.fact 43 (f := .glo "Told") rfl)
    gM := He.glo_ok X G (d.fact 44 (f := .glo "TooMany") rfl)
    clR := He.cls_ok (d.fact 66 (f := .cls "Room") rfl)
    clT := He.cls_ok (d.fact 68 (f := .cls "Told") rfl)
    nTp := He.noat_ok (d.fact 70 (f := .noat "Told" "told_places") rfl)
    nTb := He.noat_ok (d.fact 71 (f := .noat "Told" "told_basis") rfl)
    nRp := He.noat_ok (d.fact 72 (f := .noat "Room" "own_places") rfl)
    nRb := He.noat_ok (d.fact 73 (f := .noat "Room" "own_basis") rfl)
    mkR := by
      obtain ⟨fd, F⟩ := d.def_ 13 (d := hd_Room_init) rfl
      exact ⟨_, fd, He.mkr_ok (d.fact 67 (f := .mkr "Room") rfl), F⟩
    mkT := by
      obtain ⟨fd, F⟩ := d.def_ 11 (d := hd_Told_init) rfl
      exact ⟨_, fd, He.mkr_ok (d.fact 69 (f := .mkr "Told") rfl), F⟩
    mBasis := by
      obtain ⟨fd, F⟩ := d.def_ 14 (d := hd_Room_basis) rfl
      exact ⟨_, fd, He.meth_ok (d.fact 74 (f := .meth "Room" "basis") rfl), F⟩
    mHas := by
      obtain ⟨fd, F⟩ := d.def_ 15 (d := hd_Room_has) rfl
      exact ⟨_, fd, He.meth_ok (d.fact 75 (f := .meth "Room" "has") rfl), F⟩
    mWords := by
      obtain ⟨fd, F⟩ := d.def_ 16 (d := hd_Room_words) rfl
      exact ⟨_, fd, He.meth_ok (d.fact 76 (f := .meth "Room" "words") rfl), F⟩
    mEq := by
      obtain ⟨fd, F⟩ := d.def_ 17 (d := hd_Room_eq) rfl
      exact ⟨_, fd, He.meth_ok (d.fact 77 (f := .meth "Room" "__eq__") rfl), F⟩
    mDim := by
      obtain ⟨fd, F⟩ := c.dim
      refine ⟨aP K, aG K, fd, ⟨He.eqO_ok (c.ex 22), He.eqO_ok (c.ex 23), of_decide_eq_true (c.ex 24), ?_⟩, F⟩
      have z := c.ex 25
      unfold aG
      split at z
      · rename_i g rest e
        exact ⟨rest, by rw [e]⟩
      · cases z
    ne := He.eqO_ok (c.ex 0)
    obR := of_decide_eq_true (c.ex 1)
    obT := of_decide_eq_true (c.ex 2)
    kcR := He.eqO_ok (c.ex 3)
    kcT := He.eqO_ok (c.ex 4)
    kg := He.eqO_ok (c.ex 5)
    kt := of_decide_eq_true (c.ex 6)
    isR := of_decide_eq_true (c.ex 7)
    isT := of_decide_eq_true (c.ex 8)
    noT := of_decide_eq_true (c.ex 9)
    xf := xfB_ok (c.ex 21)
    tm := {
      ini := c.ex 10
      ovr := c.ex 11
      hdC := c.ex 12
      sa := He.eqO_ok (c.ex 13)
      noW := He.eqO_ok (c.ex 14)
      noL := He.eqO_ok (c.ex 15)
      iC := He.eqO_ok (c.ex 16)
      tC := of_decide_eq_true (c.ex 17)
      kC := He.keep_ok (d.fact 78 (f := .keep "TooMany") rfl)
      exC := of_decide_eq_true (c.ex 18)
      tyC := of_decide_eq_true (c.ex 19)
      te := of_decide_eq_true (c.ex 20)
      fn := by
        obtain ⟨fd, F⟩ := d.def_ 0 (d := hd_TooMany_init) rfl
        obtain ⟨oc, od, dV, kV, doc, pm, an, cdv, ct, osl, rfl, lk, hcd, hD, hK⟩ := F.ex
        rcases hD with ⟨_, rfl⟩ | ⟨z, _⟩
        · exact ⟨oc, od, doc, pm, an, kV, cdv, ct, osl, _, _, _, _, _, _, _, _, _, _, _, lk, hcd⟩
        · exact absurd rfl z } }
def nm1 : List PySem.Str := ["WordError", "StateError", "LimitError", "InvalidPlaces", "InvalidRoom", "InvalidWord", "InvalidSequence", "InvalidWords", "UnlikePlaces", "TooMany", "MOST_PLACES", "is_integer", "is_count", "is_list", "is_places", "want_places", "want_at_most", "MOST_WORDS", "MOST_DIMENSION", "left_of", "with_word", "plain_basis", "all_words", "Told", "told_room", "Room", "room_by", "room_of", "want_room", "want_word"]
def nm2 : List PySem.Str := ["spots_of", "word_by", "all_on", "want_alike", "below", "common_basis", "shortened_basis", "led_word", "is_sequence", "sum_room", "common_room", "lies_in", "shortened", "cut", "exchanged", "_law_pot", "_law_draw", "_law_words", "_law_mixed", "_law_led", "_law_high", "_law_left", "_law_tops", "_law_plain", "_law_heard", "_law_right"]
abbrev R : PySem.W.OpenRow := PySem.W.OpenLaw.row PySem.Challenge.rw_owncontraries_k18_whole_great_rooms
theorem run (w : World) : HandSHeadRun.RunEq R (PySem.W.view R.prog [62]) hk ob 6000 (nm1 ++ nm2) w := by
  intro os
  kernel_rfl
end OC

namespace OC
open PySem PySem.Spec PyProof.Rows L2
/-! ## whole numbers and lists -/
def spInt : L2.Sp := fun vs H Q _ => ∃ n : Int, vs = [.int n] ∧ Q (.bl true) H
def spCount : L2.Sp := fun vs H Q _ => ∃ n : Nat, vs = [wN n] ∧ Q (.bl true) H
def spIsList : L2.Sp := fun vs H Q _ => ∃ (a : Addr) (xs : List V), vs = [.ref a] ∧ H a = some (.lst xs) ∧ ∀ H', Ext H H' → Q (.bl true) H'
def spPlaces : L2.Sp := fun vs H Q _ => ∃ n : Nat, vs = [wN n] ∧ 1 ≤ n ∧ n ≤ 24 ∧ Q (.bl true) H
def spWantPlaces : L2.Sp := fun vs H Q _ => ∃ n : Nat, vs = [wN n] ∧ 1 ≤ n ∧ n ≤ 24 ∧ Q .non H
section
variable {P : Program} {w : World} {K : PySem.W.Frag} {mg : Str → Option Value} {base : Heap} {cR cT cM fM : Addr}
theorem d_is_integer (T : Tx K mg cR cT cM fM) : Def P w K mg base CX0 "is_integer" 1 ["value"] spInt := by
  refine T.f_is_integer.mk c_is_integer (fun _ _ _ _ _ _ us hl => match us, hl with | [_], _ => rfl) (fun vs H Q E h => ?_) (fun f cdv A outer s H vs Q E hr h => ?_)
  · obtain ⟨n, rfl, _⟩ := h
    rfl
  · obtain ⟨n, rfl, k⟩ := h
    refine ⟨_, (pss_one (ps_ret (pe_and (pe_callB call_isi rfl T.b_isinstance boot_isinstance (pa_cons (pv 0) (pa_cons (pe_bltn (v := .ty "int") rfl T.b_int boot_int rfl) pa_nil))) (pe_one (pe_not (pe_callB call_isi rfl T.b_isinstance boot_isinstance (pa_cons (pv 0) (pa_cons (pe_bltn (v := .ty "bool") rfl T.b_bool boot_bool rfl) pa_nil)))))))), ?_⟩
    refine ⟨_, rfl, _, _, _, _, true, rfl, .ty _, .base (.int _), kit_ty (by decide +kernel), true, rfl, iteT ?_⟩
    exact ⟨_, rfl, _, _, _, _, false, rfl, .ty _, .base (.int _), kit_ty (by decide +kernel), false, rfl, k⟩
theorem d_is_count (T : Tx K mg cR cT cM fM) : Def P w K mg base CX0 "is_count" 2 ["value"] spCount := by
  have d_is_integer := d_is_integer (P := P) (w := w) (base := base) T
  refine T.f_is_count.mk c_is_count (fun _ _ _ _ _ _ us hl => match us, hl with | [_], _ => rfl) (fun vs H Q E h => ?_) (fun f cdv A outer s H vs Q E hr h => ?_)
  · obtain ⟨n, rfl, _⟩ := h
    rfl
  · obtain ⟨n, rfl, k⟩ := h
    refine ⟨_, (pss_one (ps_ret (pe_and (pe_def d_is_integer (hr.mono (by decide)) (pa_cons (pv 0) pa_nil)) (pe_one (pe_cmpR n_ge (pv 0) (pe_n 0) (nomark _)))))), ?_⟩
    refine ⟨_, rfl, _, rfl, true, rfl, iteT ?_⟩
    refine ⟨_, rfl, n, 0, rfl, rfl, ?_⟩
    show Q (.bl (decide (0 ≤ n))) H
    rw [decide_eq_true (Nat.zero_le n)]
    exact k
theorem d_is_list (T : Tx K mg cR cT cM fM) : Def P w K mg base CX0 "is_list" 1 ["value"] spIsList := by
  refine T.f_is_list.mk c_is_list (fun _ _ _ _ _ _ us hl => match us, hl with | [_], _ => rfl) (fun vs H Q E h => ?_) (fun f cdv A outer s H vs Q E hr h => ?_)
  · obtain ⟨a, xs, rfl, _⟩ := h
    rfl
  · obtain ⟨a, xs, rfl, ha, k⟩ := h
    refine ⟨_, (pss_one (ps_ret (pe_callB call_isiT rfl T.b_isinstance boot_isinstance (pa_cons (pv 0) (pa_cons (pe_tup (pa_cons (pe_bltn (v := .ty "list") rfl T.b_list boot_list rfl) (pa_cons (pe_bltn (v := .ty "tuple") rfl T.b_tuple boot_tuple rfl) pa_nil))) pa_nil))))), ?_⟩
    refine ⟨_, rfl, by decide, fun p hp => ?_⟩
    refine ⟨.ref a, p, [.ty "list", .ty "tuple"], .type "list", [.type "list", .type "tuple"], true, rfl, upd_same, .cons (.ty _) (.cons (.ty _) .nil), .base (.lst (xs := xs) ?_), ?_, k _ (Ext.upd hp)⟩
    · rw [upd_ne (ne_of_none ha hp)]
      exact ha
    · exact kitAny_cons (b := true) (kit_ty (by decide +kernel)) (fun z => nomatch z) fun _ => rfl
theorem d_is_places (T : Tx K mg cR cT cM fM) : Def P w K mg base CX0 "is_places" 3 ["value"] spPlaces := by
  have d_is_count := d_is_count (P := P) (w := w) (base := base) T
  refine T.f_is_places.mk c_is_places (fun _ _ _ _ _ _ us hl => match us, hl with | [_], _ => rfl) (fun vs H Q E h => ?_) (fun f cdv A outer s H vs Q E hr h => ?_)
  · obtain ⟨n, rfl, _⟩ := h
    rfl
  · obtain ⟨n, rfl, h1, h2, k⟩ := h
    refine ⟨_, (pss_one (ps_ret (pe_and (pe_def d_is_count (hr.mono (by decide)) (pa_cons (pv 0) pa_nil)) (pe_one (pe_chain n_le n_le (pe_n 1) (pv 0) (pe_gint T.i_mp)))))), ?_⟩
    refine ⟨_, rfl, n, rfl, true, rfl, iteT ?_⟩
    refine ⟨_, rfl, 1, n, rfl, rfl, true, ?_, iteT ?_⟩
    · show V.bl (decide (1 ≤ n)) = _
      rw [decide_eq_true h1]
    · refine ⟨n, 24, rfl, rfl, ?_⟩
      show Q (.bl (decide (n ≤ 24))) H
      rw [decide_eq_true h2]
      exact k
theorem d_want_places (T : Tx K mg cR cT cM fM) : Def P w K mg base CX0 "want_places" 4 ["value"] spWantPlaces := by
  have d_is_places := d_is_places (P := P) (w := w) (base := base) T
  refine T.f_want_places.mk c_want_places (fun _ _ _ _ _ _ us hl => match us, hl with | [_], _ => rfl) (fun vs H Q E h => ?_) (fun f cdv A outer s H vs Q E hr h => ?_)
  · obtain ⟨n, rfl, _⟩ := h
    rfl
  · obtain ⟨n, rfl, h1, h2, k⟩ := h
    refine ⟨_, (pss_one (ps_if (pt_not (pt_val (pe_def d_is_places (hr.mono (by decide)) (pa_cons (pv 0) pa_nil)))) (pss_one ps_never) pss_nil)), ?_⟩
    exact ⟨_, rfl, n, rfl, h1, h2, true, rfl, iteF k⟩
end
/-! ## bases -/
def spLeft (K : PySem.W.Frag) : L2.Sp := fun vs H Q _ => ∃ (a : Addr) (B : List Nat) (n : Nat), vs = [.ref a, wN n] ∧ SqT K H a (wL B) ∧ Q (wN (leftOf B n)) H
def spWith (K : PySem.W.Frag) : L2.Sp := fun vs H Q _ => ∃ (a : Addr) (B : List Nat) (n : Nat), vs = [.ref a, wN n] ∧ SqT K H a (wL B) ∧ B.length ≤ 100 ∧ ∀ p H', Ext H H' → SqT K H' p (wL (withW B n)) → Q (.ref p) H'
def spPlainB (K : PySem.W.Frag) : L2.Sp := fun vs H Q _ => ∃ (a : Addr) (L : List Nat), vs = [.ref a] ∧ (SqL K H a (wL L) ∨ SqT K H a (wL L)) ∧ L.length ≤ 100 ∧ ∀ p H', Ext H H' → SqT K H' p (wL (pb L)) → Q (.ref p) H'
def spAllW (K : PySem.W.Frag) : L2.Sp := fun vs H Q _ => ∃ (a : Addr) (B : List Nat), vs = [.ref a] ∧ SqT K H a (wL B) ∧ B.length ≤ 8 ∧ ∀ p H' ys, Ext H H' → H' p = some (.lst ys) → ys.length = 2 ^ B.length → Q (.ref p) H'
theorem leftOf_take {B : List Nat} {i x n : Nat} (h : B[i]? = some x) : leftOf (B.take (i + 1)) n = min (leftOf (B.take i) n) (leftOf (B.take i) n ^^^ x) := by
  rw [take_more h]
  unfold leftOf
  rw [List.foldl_append]
  rfl
theorem pb_take {L : List Nat} {i x : Nat} (h : L[i]? = some x) : pb (L.take (i + 1)) = withW (pb (L.take i)) x := by
  rw [take_more h, pb_snoc]
theorem ints_of (l : List Nat) : wL l = (l.map fun n : Nat => (n : Int)).map V.int := by
  rw [List.map_map]
  rfl
/-- what sorted gives of words is words -/
theorem ints_back {l : List Nat} {ns : List Int} (h : ns.Perm (l.map fun n : Nat => (n : Int))) : ∃ k : List Nat, ns = k.map (fun n : Nat => (n : Int)) ∧ k.Perm l := by
  refine ⟨ns.map Int.toNat, ?_, ?_⟩
  · rw [List.map_map]
    symm
    refine (List.map_congr_left (g := id) fun z hz => ?_).trans (List.map_id ns)
    obtain ⟨n, _, rfl⟩ := List.mem_map.mp (h.mem_iff.mp hz)
    rfl
  · have q := h.map Int.toNat
    rw [List.map_map] at q
    have e : l.map (Int.toNat ∘ fun n : Nat => (n : Int)) = l := (List.map_congr_left (g := id) fun n _ => rfl).trans (List.map_id l)
    rw [e] at q
    exact q
theorem down_back {k : List Nat} (h : (k.map fun n : Nat => (n : Int)).Pairwise (· ≥ ·)) : k.Pairwise fun a b => b ≤ a := by
  rw [List.pairwise_map] at h
  exact h.imp fun z => by
    have q : ((_ : Nat) : Int) ≥ ((_ : Nat) : Int) := z
    omega
section
variable {P : Program} {w : World} {K : PySem.W.Frag} {mg : Str → Option Value} {base : Heap} {cR cT cM fM : Addr}
theorem d_left_of (T : Tx K mg cR cT cM fM) : Def P w K mg base CX0 "left_of" 1 ["basis", "word"] (spLeft K) := by
  refine T.f_left_of.mk c_left_of (fun _ _ _ _ _ _ us hl => match us, hl with | [_, _], _ => rfl) (fun vs H Q E h => ?_) (fun f cdv A outer s H vs Q E hr h => ?_)
  · obtain ⟨a, B, n, rfl, _⟩ := h
    rfl
  · obtain ⟨a, B, n, rfl, ha, k⟩ := h
    refine ⟨_, (pss_cons (ps_for PassesOwn.never rfl (pi_tup (pv 0)) (pg_name (i := 2) c_left_of.nd rfl (Or.inl rfl)) (pss_one (ps_set (i := 1) c_left_of.nd rfl (Or.inl rfl) (pe_callB (n_min rfl) rfl T.b_min boot_min (pa_cons (pv 1) (pa_cons (pe_op n_xor (pv 1) (pv 2)) pa_nil))))))
    (pss_one (ps_ret (pv 1)))), ?_⟩
    refine ⟨_, rfl, a, rfl, ⟨_, ha⟩, for_tup (K := K) (a := a) (xs := wL B) (fun i σ H' => H' = H ∧ ∃ v : Option V, σ = [some (.ref a), some (wN (leftOf (B.take i) n)), v]) ⟨rfl, none, rfl⟩ (fun i σ H' _ c => by rw [c.1]; exact ha) ?_ ?_⟩
    · rintro i y σ H' hi ⟨rfl, v, rfl⟩
      obtain ⟨x, hx, rfl⟩ := map_at hi
      refine ⟨_, rfl, _, rfl, _, rfl, _, _, rfl, rfl, _, _, rfl, ?_⟩
      exact ⟨rfl, _, by rw [leftOf_take hx]; rfl⟩
    · rintro σ H' ⟨rfl, v, rfl⟩
      rw [List.length_map, List.take_length]
      exact ⟨_, rfl, k⟩
theorem d_with_word (T : Tx K mg cR cT cM fM) : Def P w K mg base CX0 "with_word" 2 ["basis", "word"] (spWith K) := by
  have d_left_of := d_left_of (P := P) (w := w) (base := base) T
  refine T.f_with_word.mk c_with_word (fun _ _ _ _ _ _ us hl => match us, hl with | [_, _], _ => rfl) (fun vs H Q E h => ?_) (fun f cdv A outer s H vs Q E hr h => ?_)
  · obtain ⟨a, B, n, rfl, _⟩ := h
    rfl
  · obtain ⟨a, B, n, rfl, ha, hl, k⟩ := h
    refine ⟨_, (pss_cons (ps_set (i := 2) c_with_word.nd rfl (Or.inr rfl) (pe_def d_left_of (hr.mono (by decide)) (pa_cons (pv 0) (pa_cons (pv 1) pa_nil))))
    (pss_cons (ps_if (pt_cmpR n_eq (pv 2) (pe_n 0) (nomark _)) (pss_one (ps_ret (pv 0))) pss_nil)
    (pss_one (ps_ret (pe_callTy call_tuple_of rfl T.b_tuple boot_tuple (pa_cons (pe_callBK (cr_sortedRev (b := true)) rfl T.b_sorted boot_sorted (pa_cons (pe_op op_cat (pe_lc (own := [("one", 3)]) (g := gName 3) rfl c_with_word.nd (pi_tup (pv 0)) (blkOk_by (own := [("one", 3)]) (N := ["basis", "word", "left", "one"]) (sc := defScope s_with_word) (by decide +kernel)) (fun _ _ _ _ _ => pg_name (i := 3) c_with_word.nd rfl (Or.inl rfl)) (fun _ _ _ _ _ => pts_nil) (fun _ _ _ _ _ => (pe_callB (n_min rfl) rfl T.b_min boot_min (pa_cons (pv 3) (pa_cons (pe_op n_xor (pv 3) (pv 2)) pa_nil))))) (pe_lst (pa_cons (pv 2) pa_nil))) pa_nil) (pk_cons pe_bl pk_nil)) pa_nil)))))), ?_⟩
    refine ⟨_, rfl, _, rfl, a, B, n, rfl, ha, ?_⟩
    refine ⟨_, rfl, leftOf B n, 0, rfl, rfl, _, rfl, ?_⟩
    refine ite2 (fun e => ?_) (fun e => ?_)
    · refine ⟨_, rfl, k a H Ext.rfl' ?_⟩
      unfold withW
      rw [if_pos (of_decide_eq_true e)]
      exact ha
    · have ne : leftOf B n ≠ 0 := fun z => e (decide_eq_true z)
      dsimp only [tNext, tRet, tCB, tCKw, tCons, tOp]
      refine lcTN (K := K) (a := a) (B := B) (fun _ => true) (fun b => wN (min b (b ^^^ leftOf B n))) (fun R r => ⟨_, rfl, r⟩) ha (by omega) (fun x => rfl) (fun b hb H1 _ Q q => q) (fun b hb _ H1 e1 Q q => ?_) fun D H1 hD e1 h1 => ?_
      · exact ⟨_, rfl, _, rfl, _, rfl, _, _, rfl, rfl, b, b ^^^ leftOf B n, rfl, q H1 Ext.rfl'⟩
      · refine ⟨_, rfl, (by show 1 ≤ sizeLine; decide), fun q hq => ?_⟩
        have hD1 : upd H1 q (.lst [wN (leftOf B n)]) D = some (.lst (wL (B.map fun b => min b (b ^^^ leftOf B n)))) := by
          rw [upd_ne (ne_of_none h1 hq), h1, filter_yes, wL_map]
        refine ⟨D, q, _, _, rfl, rfl, hD1, upd_same, ?_, fun r hr' => ?_⟩
        · refine small ?_
          rw [List.length_map, List.length_map, List.length_cons, List.length_nil]
          omega
        · have ea : wL (B.map fun b => min b (b ^^^ leftOf B n)) ++ [wN (leftOf B n)] = ((B.map (fun b => min b (b ^^^ leftOf B n)) ++ [leftOf B n]).map fun n : Nat => (n : Int)).map V.int := by
            rw [← ints_of]
            rw [wL_app]
            rfl
          refine ⟨r, _, rfl, rfl, SqL.of (by rw [upd_same, ea]), fun ns' p hp hd hpn => ?_⟩
          obtain ⟨k', rfl, pk⟩ := ints_back hp
          have dk := down_back hd
          have es := sortD_one pk dk
          refine ⟨p, _, rfl, Or.inl ⟨SqL.of upd_same, fun t ht => ?_⟩⟩
          refine k t _ ?_ (SqT.of ?_)
          · exact ((((Ext.rfl'.trans e1).upd' hq).upd' hr').upd' hpn).upd' ht
          · rw [upd_same, ← ints_of, es]
            unfold withW
            rw [if_neg ne]
end
end OC

namespace OC
open PySem PySem.Spec PyProof.Rows L2
section
variable {P : Program} {w : World} {K : PySem.W.Frag} {mg : Str → Option Value} {base : Heap} {cR cT cM fM : Addr}
theorem d_plain_basis (T : Tx K mg cR cT cM fM) : Def P w K mg base CX0 "plain_basis" 3 ["words"] (spPlainB K) := by
  have d_with_word := d_with_word (P := P) (w := w) (base := base) T
  refine T.f_plain_basis.mk c_plain_basis (fun _ _ _ _ _ _ us hl => match us, hl with | [_], _ => rfl) (fun vs H Q E h => ?_) (fun f cdv A outer s H vs Q E hr h => ?_)
  · obtain ⟨a, L, rfl, _⟩ := h
    rfl
  · obtain ⟨a, L, rfl, ha, hl, k⟩ := h
    refine ⟨_, (pss_cons (ps_set (i := 1) c_plain_basis.nd rfl (Or.inl rfl) (pe_tup pa_nil))
    (pss_cons (ps_for PassesOwn.never rfl (pi_seq (pv 0)) (pg_name (i := 2) c_plain_basis.nd rfl (Or.inl rfl)) (pss_one (ps_set (i := 1) c_plain_basis.nd rfl (Or.inl rfl) (pe_def d_with_word (hr.mono (by decide)) (pa_cons (pv 1) (pa_cons (pv 2) pa_nil))))))
    (pss_one (ps_ret (pv 1))))), ?_⟩
    refine ⟨(by show 0 ≤ sizeLine; decide), fun t ht => ?_⟩
    have turn : ∀ (i : Nat) (y : V) (σ : L2.St) (H' : Hp) (N : L2.St → Hp → Prop), (wL L)[i]? = some y → (Ext H H' ∧ ∃ (b : Addr) (v : Option V), σ = [some (.ref a), some (.ref b), v] ∧ SqT K H' b (wL (pb (L.take i)))) →
        (∀ σ2 H2, (Ext H H2 ∧ ∃ (b : Addr) (v : Option V), σ2 = [some (.ref a), some (.ref b), v] ∧ SqT K H2 b (wL (pb (L.take (i + 1))))) → N σ2 H2) →
        tAsg (tCall (spWith K) [] E0 (tCons (tVar 1) (tCons (tVar 2) tNil))) (gName 1) { nx := N, rt := Q, ct := N, bk := N } (σ.set 2 (some y)) H' := by
      rintro i y σ H' N hi ⟨e, b, v, rfl, hb⟩ hN
      obtain ⟨x, hx, rfl⟩ := wL_at hi
      refine ⟨_, rfl, _, rfl, b, _, x, rfl, hb, ?_, fun p H2 e2 hp => hN _ _ ⟨e.trans e2, p, _, rfl, by rw [pb_take hx]; exact hp⟩⟩
      have q := pb_len_le (L.take i)
      rw [List.length_take] at q
      omega
    have last : ∀ (σ : L2.St) (H' : Hp), (Ext H H' ∧ ∃ (b : Addr) (v : Option V), σ = [some (.ref a), some (.ref b), v] ∧ SqT K H' b (wL (pb (L.take (wL L).length)))) → tRet (tVar 1) { nx := fun _ H' => Q .non H', rt := Q } σ H' := by
      rintro σ H' ⟨e, b, v, rfl, hb⟩
      rw [wL_len, List.take_length] at hb
      exact ⟨_, rfl, k b H' e hb⟩
    refine ⟨_, rfl, a, rfl, ?_⟩
    rcases ha with ha | ha
    · exact .inl ⟨⟨_, ha.ext (Ext.upd ht)⟩, for_list (K := K) (a := a) (xs := wL L) (fun i σ H' => Ext H H' ∧ ∃ (b : Addr) (v : Option V), σ = [some (.ref a), some (.ref b), v] ∧ SqT K H' b (wL (pb (L.take i))))
        ⟨Ext.upd ht, t, none, rfl, SqT.of upd_same⟩ (fun i σ H' _ c => ha.ext c.1) (fun i y σ H' hi c => turn i y σ H' _ hi c fun _ _ z => z) last⟩
    · exact .inr ⟨⟨_, ha.ext (Ext.upd ht)⟩, for_tup (K := K) (a := a) (xs := wL L) (fun i σ H' => Ext H H' ∧ ∃ (b : Addr) (v : Option V), σ = [some (.ref a), some (.ref b), v] ∧ SqT K H' b (wL (pb (L.take i))))
        ⟨Ext.upd ht, t, none, rfl, SqT.of upd_same⟩ (fun i σ H' _ c => ha.ext c.1) (fun i y σ H' hi c => turn i y σ H' _ hi c fun _ _ z => z) last⟩
theorem d_all_words (T : Tx K mg cR cT cM fM) : Def P w K mg base CX0 "all_words" 1 ["basis"] (spAllW K) := by
  refine T.f_all_words.mk c_all_words (fun _ _ _ _ _ _ us hl => match us, hl with | [_], _ => rfl) (fun vs H Q E h => ?_) (fun f cdv A outer s H vs Q E hr h => ?_)
  · obtain ⟨a, B, rfl, _⟩ := h
    rfl
  · obtain ⟨a, B, rfl, ha, hl, k⟩ := h
    refine ⟨_, (pss_cons (ps_set (i := 1) c_all_words.nd rfl (Or.inl rfl) (pe_lst (pa_cons (pe_n 0) pa_nil)))
    (pss_cons (ps_for PassesOwn.never rfl (pi_tup (pe_revT (pv 0))) (pg_name (i := 2) c_all_words.nd rfl (Or.inr rfl)) (pss_one (ps_set (i := 1) c_all_words.nd rfl (Or.inl rfl) (pe_op op_cat (pv 1) (pe_lc (own := [("word", 3)]) (g := gName 3) rfl c_all_words.nd (pi_list (pv 1)) (blkOk_by (own := [("word", 3)]) (N := ["basis", "found", "one", "word"]) (sc := defScope s_all_words) (by decide +kernel)) (fun _ _ _ _ _ => pg_name (i := 3) c_all_words.nd rfl (Or.inl rfl)) (fun _ _ _ _ _ => pts_nil) (fun _ _ _ _ _ => (pe_op n_xor (pv 3) (pv 2))))))))
    (pss_one (ps_ret (pv 1))))), ?_⟩
    refine ⟨(by show 1 ≤ sizeLine; decide), fun l hl0 => ?_⟩
    refine ⟨_, rfl, a, _, rfl, ha.ext (Ext.upd hl0), fun q hq => ?_⟩
    have nlq : l ≠ q := ne_of_none upd_same hq
    have er : (wL B).reverse = wL B.reverse := List.map_reverse.symm
    refine ⟨q, rfl, ⟨_, SqT.of upd_same⟩, for_tup (K := K) (a := q) (xs := (wL B).reverse) (fun i σ H' => Ext H H' ∧ H' q = some (.tup (wL B).reverse) ∧ ∃ (m : Addr) (ws : List Nat) (v : Option V), σ = [some (.ref a), some (.ref m), v, none] ∧ H' m = some (.lst (wL ws)) ∧ ws.length = 2 ^ i)
      ⟨(Ext.upd hl0).upd' hq, upd_same, l, [0], none, rfl, by rw [upd_ne nlq, upd_same]; rfl, rfl⟩ (fun i σ H' _ c => SqT.of c.2.1) ?_ ?_⟩
    · rintro i y σ H' hi ⟨e, hq', m, ws, v, rfl, hm, hw⟩
      have hi8 : i < 8 := by
        have z := (List.getElem?_eq_some_iff.mp hi).1
        rw [List.length_reverse, wL_len] at z
        omega
      have h128 : 2 ^ i ≤ 128 := Nat.le_trans (Nat.pow_le_pow_right (by decide) (show i ≤ 7 by omega)) (by decide)
      rw [er] at hi
      obtain ⟨x, hx, rfl⟩ := wL_at hi
      refine ⟨_, rfl, ?_⟩
      refine lcLN (K := K) (a := m) (B := ws) (fun _ => true) (fun b => wN (b ^^^ x)) (fun R r => ⟨_, rfl, r⟩) (SqL.of hm) (by omega) (fun x => rfl) (fun b hb H1 _ Q q => q) (fun b hb _ H1 e1 Q q => ?_) fun D H1 hD e1 h1 => ?_
      · exact ⟨_, rfl, _, rfl, _, _, rfl, rfl, q H1 Ext.rfl'⟩
      · rw [filter_yes, ← wL_map] at h1
        refine ⟨m, D, _, _, rfl, rfl, e1 m _ hm, h1, ?_, fun p hp => ?_⟩
        · refine small ?_
          rw [wL_len, wL_len, List.length_map]
          omega
        · refine ⟨(e.trans e1).upd' hp, ?_, p, ws ++ ws.map (fun b => b ^^^ x), _, rfl, ?_, ?_⟩
          · exact (e1.upd' hp) q _ hq'
          · rw [upd_same, wL_app]
          · rw [List.length_append, List.length_map, hw, Nat.pow_succ]
            omega
    · rintro σ H' ⟨e, hq', m, ws, v, rfl, hm, hw⟩
      rw [List.length_reverse, wL_len] at hw
      exact ⟨_, rfl, k m H' _ e hm (by rw [wL_len]; exact hw)⟩
/-- want_at_most(what, limit, number) -/
def spMost (cM : Addr) : L2.Sp := fun vs H Q E => ∃ (x : Str) (l n : Nat), vs = [.str x, wN l, wN n] ∧ (n ≤ l → Q .non H) ∧ (l < n → ∀ d, H d = none → E (.ref cM) (some d) (upd H d (.xd (tmF (.str x) (wN l)))))
theorem d_want_at_most (T : Tx K mg cR cT cM fM) : Def P w K mg base (L2.CX P w) "want_at_most" 2 ["what", "limit", "number"] (spMost cM) := by
  refine T.f_want_at_most.mkX c_want_at_most (fun _ _ _ _ _ _ us hl => match us, hl with | [_, _, _], _ => rfl) (fun vs H Q E h => ?_) (fun f cdv A outer s H vs Q E hr h => ?_)
  · obtain ⟨x, l, n, rfl, _⟩ := h
    rfl
  · obtain ⟨x, l, n, rfl, k1, k2⟩ := h
    refine ⟨_, (pss_one (ps_if (pt_cmpR n_gt (pv 2) (pv 1) (nomark _)) (pss_one (ps_raiseTm rfl T.tm T.gM (hr.mono (Nat.zero_le _)) (takes_of rfl rfl rfl rfl) (pa_cons (pv 0) (pa_cons (pv 1) pa_nil)))) pss_nil)), ?_⟩
    refine ⟨_, rfl, _, rfl, _, _, rfl, rfl, _, rfl, ite2 (fun e => ?_) (fun e => ?_)⟩
    · exact ⟨_, rfl, _, rfl, _, _, rfl, fun d hd => k2 (of_decide_eq_true e) d hd⟩
    · exact k1 (Nat.le_of_not_lt fun z => e (decide_eq_true z))
end
end OC

namespace OC
open PySem PySem.Spec PyProof.Rows L2
/-! ## the objects -/
/-- what stood at b as a tuple stands there, if one thing of another sort changed -/
theorem sqt_move {K : PySem.W.Frag} {H H' : Hp} {p b : Addr} {o0 : HO} {xs : List V} (h : SqT K H b xs) (hp : H p = some o0) (h1 : ∀ ys, o0 ≠ .tup ys) (h2 : ∀ o u, o0 ≠ .frz o u) (e : ∀ q o, q ≠ p → H q = some o → H' q = some o) : SqT K H' b xs := by
  rcases h with (h | ⟨o, h⟩) | h
  · exact .inl (.inl (e _ _ (ne_of h hp fun z => h1 _ z.symm) h))
  · exact .inl (.inr ⟨o, e _ _ (ne_of h hp fun z => h2 _ _ z.symm) h⟩)
  · exact .inr h
theorem two_put {f g : Str} (h : ¬ f = g) (v u : V) (x : Str) : (putF g u (putF f v [])).lookup x = if x = g then some u else if x = f then some v else none := by
  rw [lookup_putF, lookup_putF]
  rfl
/-- a Room's fields, a Told's -/
def rmF (n : Nat) (b : Addr) : List (Str × V) := putF "own_basis" (.ref b) (putF "own_places" (wN n) [])
def tdF (n : Nat) (b : Addr) : List (Str × V) := putF "told_basis" (.ref b) (putF "told_places" (wN n) [])
theorem s_ob_op : ¬ (("own_places" : Str) = "own_basis") := by decide +kernel
theorem s_tb_tp : ¬ (("told_places" : Str) = "told_basis") := by decide +kernel
theorem rm_p (n : Nat) (b : Addr) : (rmF n b).lookup ("own_places" : Str) = some (wN n) := by
  unfold rmF
  rw [two_put s_ob_op, if_neg s_ob_op, if_pos rfl]
theorem rm_b (n : Nat) (b : Addr) : (rmF n b).lookup ("own_basis" : Str) = some (.ref b) := by
  unfold rmF
  rw [two_put s_ob_op, if_pos rfl]
theorem rm_no (n : Nat) (b : Addr) {x : Str} (h1 : ¬ x = "own_basis") (h2 : ¬ x = "own_places") : (rmF n b).lookup x = none := by
  unfold rmF
  rw [two_put s_ob_op, if_neg h1, if_neg h2]
theorem td_p (n : Nat) (b : Addr) : (tdF n b).lookup ("told_places" : Str) = some (wN n) := by
  unfold tdF
  rw [two_put s_tb_tp, if_neg s_tb_tp, if_pos rfl]
theorem td_b (n : Nat) (b : Addr) : (tdF n b).lookup ("told_basis" : Str) = some (.ref b) := by
  unfold tdF
  rw [two_put s_tb_tp, if_pos rfl]
theorem td_ne (n : Nat) (b : Addr) : tdF n b ≠ [] := fun z => by
  have q := td_p n b
  rw [z] at q
  cases q
theorem put1_len (f : Str) (v : V) : (putF f v []).length < 1000 := Nat.lt_of_le_of_lt (length_putF f v []) (by decide)
/-- at p: a Room of n places by the basis B; a Told -/
def RoomAt (K : PySem.W.Frag) (cR : Addr) (H : Hp) (p : Addr) (n : Nat) (B : List Nat) : Prop := ∃ dx b, H p = some (.ins cR dx (rmF n b)) ∧ SqT K H b (wL B)
def TdAt (K : PySem.W.Frag) (cT : Addr) (H : Hp) (p : Addr) (n : Nat) (B : List Nat) : Prop := ∃ dx b, H p = some (.ins cT dx (tdF n b)) ∧ SqT K H b (wL B)
theorem RoomAt.ext {K : PySem.W.Frag} {cR : Addr} {H H' : Hp} {p : Addr} {n : Nat} {B : List Nat} (h : RoomAt K cR H p n B) (e : Ext H H') : RoomAt K cR H' p n B := by
  obtain ⟨dx, b, h1, h2⟩ := h
  exact ⟨dx, b, e _ _ h1, h2.ext e⟩
theorem TdAt.ext {K : PySem.W.Frag} {cT : Addr} {H H' : Hp} {p : Addr} {n : Nat} {B : List Nat} (h : TdAt K cT H p n B) (e : Ext H H') : TdAt K cT H' p n B := by
  obtain ⟨dx, b, h1, h2⟩ := h
  exact ⟨dx, b, e _ _ h1, h2.ext e⟩
/-- a class that is made; a method; the property -/
structure Init (P : Program) (w : World) (K : PySem.W.Frag) (mg : Str → Option Value) (base : Heap) (C : Addr) (k : Nat) (ps : List Str) (sp : L2.Sp) : Prop where
  ex : ∃ f fd, Mk K C f ∧ FnOk P w K mg base CX0 k f fd ps sp ∧ Binds K fd ps []
structure Mth (P : Program) (w : World) (K : PySem.W.Frag) (mg : Str → Option Value) (base : Heap) (CX : CXT) (C : Addr) (m : Str) (k : Nat) (ps : List Str) (sp : L2.Sp) : Prop where
  ex : ∃ f fd, Meth K C m f ∧ FnOk P w K mg base CX k f fd ps sp ∧ Binds K fd ps []
structure Dim (P : Program) (w : World) (K : PySem.W.Frag) (mg : Str → Option Value) (base : Heap) (C : Addr) (k : Nat) (ps : List Str) (sp : L2.Sp) : Prop where
  ex : ∃ p f fd, PropOf K C "dimension" p f ∧ FnOk P w K mg base CX0 k f fd ps sp ∧ Binds K fd ps []
section
variable {X : Cx} {cR cT cM fM : Addr} {k : Nat} {ps : List Str} {sp : L2.Sp} {e o : Expr} {es : List Expr} {t : TA} {ta : TE} {p apos pos : Pos}
theorem pe_told (T : Tx X.K X.mg cR cT cM fM) (D : Init X.prog X.w X.K X.mg X.base cT k ps sp) (hr : Room (k + 1) X.A) (ha : PA X (e :: es) t) (hg : Gl X "Told" := by rfl)
    (he : starEach (e :: es) X.env = (false, eval e X.env) :: starEach es X.env := by rfl) (hpl : (backTo pos (starEach es X.env)).any (·.1) = false := by rfl) : PE X (.Call (.Name "Told" p) (e :: es) [] pos) (tMake cT sp [] E0 t) := by
  obtain ⟨f, fd, M, F, hb⟩ := D.ex
  exact pe_make M F hr hg T.gT hb .nil pass0 ha (by decide) he hpl
theorem pe_room (T : Tx X.K X.mg cR cT cM fM) (D : Init X.prog X.w X.K X.mg X.base cR k ps sp) (hr : Room (k + 1) X.A) (ha : PA X (e :: es) t) (hg : Gl X "Room" := by rfl)
    (he : starEach (e :: es) X.env = (false, eval e X.env) :: starEach es X.env := by rfl) (hpl : (backTo pos (starEach es X.env)).any (·.1) = false := by rfl) : PE X (.Call (.Name "Room" p) (e :: es) [] pos) (tMake cR sp [] E0 t) := by
  obtain ⟨f, fd, M, F, hb⟩ := D.ex
  exact pe_make M F hr hg T.gR hb .nil pass0 ha (by decide) he hpl
theorem pe_basis {pl : Sem Bool} (T : Tx X.K X.mg cR cT cM fM) (D : Mth X.prog X.w X.K X.mg X.base CX0 cR "basis" k ps sp) (hr : Room k X.A) (ho : PE X o ta)
    (ht : eval (.Call (.Attribute o "basis" apos) [] [] pos) X.env = (do
      let ov ← eval o X.env
      standAt apos.atName
      let (f, first) ← holding [ov] (getMethod ov "basis" pl)
      callWith pos f first (backTo pos (starEach [] X.env)) (backToKw pos (keywordEach [] X.env))) := by rfl) : PE X (.Call (.Attribute o "basis" apos) [] [] pos) (tMeth cR "basis" sp [] E0 ta tNil) := by
  obtain ⟨f, fd, M, F, hb⟩ := D.ex
  exact pe_meth0 ho T.clR M F hr hb .nil pass0 ht
theorem pe_words {pl : Sem Bool} {CX : CXT} {E : XK} (T : Tx X.K X.mg cR cT cM fM) (D : Mth X.prog X.w X.K X.mg X.base CX cR "words" k ps sp) (hr : Room k X.A) (hx : Passes CX X E) (ho : PE X o ta)
    (ht : eval (.Call (.Attribute o "words" apos) [] [] pos) X.env = (do
      let ov ← eval o X.env
      standAt apos.atName
      let (f, first) ← holding [ov] (getMethod ov "words" pl)
      callWith pos f first (backTo pos (starEach [] X.env)) (backToKw pos (keywordEach [] X.env))) := by rfl) : PE X (.Call (.Attribute o "words" apos) [] [] pos) (tMeth cR "words" sp [] E ta tNil) := by
  obtain ⟨f, fd, M, F, hb⟩ := D.ex
  exact pe_meth0 ho T.clR M F hr hb .nil hx ht
theorem pe_has {pl : Sem Bool} (T : Tx X.K X.mg cR cT cM fM) (D : Mth X.prog X.w X.K X.mg X.base CX0 cR "has" k ps sp) (hr : Room k X.A) (ho : PE X o ta) (ha : PA X (e :: es) t)
    (hst : starEach (e :: es) X.env = (false, eval e X.env) :: starEach es X.env := by rfl) (hpl : (backTo pos (starEach es X.env)).any (·.1) = false := by rfl)
    (ht : eval (.Call (.Attribute o "has" apos) (e :: es) [] pos) X.env = (do
      let ov ← eval o X.env
      standAt apos.atName
      let (f, first) ← holding [ov] (getMethod ov "has" pl)
      callWith pos f first (backTo pos (starEach (e :: es) X.env)) (backToKw pos (keywordEach [] X.env))) := by rfl) : PE X (.Call (.Attribute o "has" apos) (e :: es) [] pos) (tMeth cR "has" sp [] E0 ta t) := by
  obtain ⟨f, fd, M, F, hb⟩ := D.ex
  exact pe_meth ho T.clR M F hr hb .nil pass0 ha hst hpl ht
theorem pe_dim (T : Tx X.K X.mg cR cT cM fM) (D : Dim X.prog X.w X.K X.mg X.base cR k ps sp) (hr : Room (k + 1) X.A) (ho : PE X o ta)
    (hab : attributeBase o "dimension" X.env (eval o X.env) = eval o X.env := by rfl) : PE X (.Attribute o "dimension" pos) (tProp cR sp [] E0 ta) := by
  obtain ⟨q, f, fd, M, F, hb⟩ := D.ex
  exact pe_prop ho T.clR M F hr hb .nil pass0 hab
theorem op_room (T : Tx X.K X.mg cR cT cM fM) (D : Mth X.prog X.w X.K X.mg X.base CX0 cR "__eq__" k ps sp) (hr : Room (k + 1) X.A) : OpR X (compareOp .NotEq) (rNeOwn cR sp E0) := by
  obtain ⟨f, fd, M, F, hb⟩ := D.ex
  exact op_neOwn F hr T.obR T.ne M.at_ M.fn hb pass0
end
/-! ## promises -/
def spToldInit (cT : Addr) : L2.Sp := fun vs H Q _ => ∃ (p dx : Addr) (n : Nat) (b : Addr), vs = [.ref p, wN n, .ref b] ∧ H p = some (.ins cT dx []) ∧ Q .non (upd H p (.ins cT dx (tdF n b)))
/-- what a Room is made of: a Told; places and words -/
def Src (K : PySem.W.Frag) (cT : Addr) (H : Hp) (x y : V) (n : Nat) (B : List Nat) : Prop :=
  (∃ t, x = .ref t ∧ TdAt K cT H t n B) ∨ (∃ a L, x = wN n ∧ y = .ref a ∧ 1 ≤ n ∧ n ≤ 24 ∧ H a = some (.lst (wL L)) ∧ L.length ≤ 48 ∧ (∀ v ∈ L, v < 2 ^ n) ∧ B = pb L)
def spToldRoom (K : PySem.W.Frag) (cT : Addr) : L2.Sp := fun vs H Q _ => ∃ (x y : V) (n : Nat) (B : List Nat), vs = [x, y] ∧ Src K cT H x y n B ∧ ∀ t H', Ext H H' → TdAt K cT H' t n B → Q (.ref t) H'
def spRoomInit (K : PySem.W.Frag) (cR cT : Addr) : L2.Sp := fun vs H Q _ => ∃ (p dx : Addr) (x y : V) (n : Nat) (B : List Nat), vs = [.ref p, x, y] ∧ H p = some (.ins cR dx []) ∧ Src K cT H x y n B ∧
  ∀ H' b, (∀ q o, q ≠ p → H q = some o → H' q = some o) → H' p = some (.ins cR dx (rmF n b)) → SqT K H' b (wL B) → Q .non H'
def spDim (K : PySem.W.Frag) (cR : Addr) : L2.Sp := fun vs H Q _ => ∃ (p : Addr) (n : Nat) (B : List Nat), vs = [.ref p] ∧ RoomAt K cR H p n B ∧ Q (wN B.length) H
def spBasis (K : PySem.W.Frag) (cR : Addr) : L2.Sp := fun vs H Q _ => ∃ (p : Addr) (n : Nat) (B : List Nat), vs = [.ref p] ∧ RoomAt K cR H p n B ∧ ∀ l H', H l = none → Ext H H' → H' l = some (.lst (wL B)) → Q (.ref l) H'
def spWantWord (K : PySem.W.Frag) (cR : Addr) : L2.Sp := fun vs H Q _ => ∃ (p : Addr) (n : Nat) (B : List Nat) (v : Nat), vs = [.ref p, wN v] ∧ RoomAt K cR H p n B ∧ v < 2 ^ n ∧ Q .non H
def spHas (K : PySem.W.Frag) (cR : Addr) : L2.Sp := fun vs H Q _ => ∃ (p : Addr) (n : Nat) (B : List Nat) (v : Nat), vs = [.ref p, wN v] ∧ RoomAt K cR H p n B ∧ v < 2 ^ n ∧ Q (.bl (decide (leftOf B v = 0))) H
def spWords (K : PySem.W.Frag) (cR cM : Addr) : L2.Sp := fun vs H Q E => ∃ (p : Addr) (n : Nat) (B : List Nat), vs = [.ref p] ∧ RoomAt K cR H p n B ∧
  (B.length ≤ 8 → ∀ l H' ys, Ext H H' → H' l = some (.lst ys) → ys.length = 2 ^ B.length → Q (.ref l) H') ∧ (8 < B.length → ∀ d, H d = none → E (.ref cM) (some d) (upd H d (.xd (tmF (.str "dimension") (wN 8)))))
def spEqR (K : PySem.W.Frag) (cR : Addr) : L2.Sp := fun vs H Q _ => ∃ (p q : Addr) (n m : Nat) (B C : List Nat), vs = [.ref p, .ref q] ∧ RoomAt K cR H p n B ∧ RoomAt K cR H q m C ∧ Q (.bl (decide (n = m) && decide (B = C))) H
def spWantRoom (K : PySem.W.Frag) (cR : Addr) : L2.Sp := fun vs H Q _ => ∃ (p : Addr) (n : Nat) (B : List Nat), vs = [.ref p] ∧ RoomAt K cR H p n B ∧ Q .non H
def spRoomBy (K : PySem.W.Frag) (cR : Addr) : L2.Sp := fun vs H Q _ => ∃ (n : Nat) (b : Addr) (B : List Nat), vs = [wN n, .ref b] ∧ SqT K H b (wL B) ∧ ∀ p H', Ext H H' → RoomAt K cR H' p n B → Q (.ref p) H'
def spRoomOf (K : PySem.W.Frag) (cR : Addr) : L2.Sp := fun vs H Q _ => ∃ (n : Nat) (a : Addr) (L : List Nat), vs = [wN n, .ref a] ∧ (SqL K H a (wL L) ∨ SqT K H a (wL L)) ∧ L.length ≤ 100 ∧ ∀ p H', Ext H H' → RoomAt K cR H' p n (pb L) → Q (.ref p) H'
section
variable {K : PySem.W.Frag} {cR cT : Addr} {H : Hp} {Q : VK} {n : Nat} {B : List Nat} {x y : V}
theorem TdAt.ref (h : TdAt K cT H a n B) : ∃ dx fs, H a = some (.ins cT dx fs) := by
  obtain ⟨dx, b, h1, _⟩ := h
  exact ⟨_, _, h1⟩
theorem Src.ext {H' : Hp} (h : Src K cT H x y n B) (e : Ext H H') : Src K cT H' x y n B := by
  rcases h with ⟨t, h1, h2⟩ | ⟨a, L, h1, h2, h3, h4, h5, h6, h7, h8⟩
  · exact .inl ⟨t, h1, h2.ext e⟩
  · exact .inr ⟨a, L, h1, h2, h3, h4, e _ _ h5, h6, h7, h8⟩
/-- Room(x, y), made -/
theorem room_made (h : Src K cT H x y n B) (k : ∀ p H', H p = none → Ext H H' → RoomAt K cR H' p n B → Q (.ref p) H') :
    ∀ p dx, H p = none → H dx = none → dx ≠ p → spRoomInit K cR cT [.ref p, x, y] (upd (upd H dx (.own p)) p (.ins cR dx [])) (fun v H2 => v = .non ∧ Q (.ref p) H2) E0 := fun p dx hp hd ne => by
  have e : Ext H (upd (upd H dx (.own p)) p (.ins cR dx [])) := fun a o z => by
    rw [upd_ne (ne_of_none z hp), upd_ne (ne_of_none z hd)]
    exact z
  exact ⟨p, dx, x, y, n, B, rfl, upd_same, h.ext e, fun H' b keep hp' hb => ⟨rfl, k p H' hp (fun a o z => keep a o (ne_of_none z hp) (e a o z)) ⟨dx, b, hp', hb⟩⟩⟩
/-- Told(n, basis), made -/
theorem told_made {b : Addr} (hb : SqT K H b (wL B)) (k : ∀ p H', H p = none → Ext H H' → TdAt K cT H' p n B → Q (.ref p) H') :
    ∀ p dx, H p = none → H dx = none → dx ≠ p → spToldInit cT [.ref p, wN n, .ref b] (upd (upd H dx (.own p)) p (.ins cT dx [])) (fun v H2 => v = .non ∧ Q (.ref p) H2) E0 := fun p dx hp hd ne => by
  have e : Ext H (upd (upd (upd H dx (.own p)) p (.ins cT dx [])) p (.ins cT dx (tdF n b))) := fun a o z => by
    rw [upd_ne (ne_of_none z hp), upd_ne (ne_of_none z hp), upd_ne (ne_of_none z hd)]
    exact z
  exact ⟨p, dx, n, b, rfl, upd_same, rfl, k p _ hp e ⟨dx, b, upd_same, hb.ext e⟩⟩
end
end OC

namespace OC
open PySem PySem.Spec PyProof.Rows L2
section
variable {P : Program} {w : World} {K : PySem.W.Frag} {mg : Str → Option Value} {base : Heap} {cR cT cM fM : Addr}
theorem i_told (T : Tx K mg cR cT cM fM) : Init P w K mg base cT 1 ["self", "places", "basis"] (spToldInit cT) := by
  obtain ⟨f, fd, M, F⟩ := T.mkT
  refine ⟨f, fd, M, F.ok c_Told_init (fun vs H Q E h => ?_) (fun cdv A outer s H vs Q E hr h => ?_), F.bindsN fun _ _ _ _ _ _ us hl => match us, hl with | [_, _, _], _ => rfl⟩
  · obtain ⟨p, dx, n, b, rfl, _⟩ := h
    rfl
  · obtain ⟨p, dx, n, b, rfl, hp, k⟩ := h
    refine ⟨_, PSs.nox (pss_cons (ps_fld (pv 0) (pv 1) rfl)
    (pss_one (ps_fld (pv 0) (pv 2) rfl))), ?_⟩
    refine ⟨_, rfl, _, rfl, p, cT, dx, _, rfl, hp, T.clT, T.nTp, (by show 0 < 1000; decide), ?_⟩
    refine ⟨_, rfl, _, rfl, p, cT, dx, _, rfl, upd_same, T.clT, T.nTb, put1_len _ _, ?_⟩
    rw [upd_upd]
    exact k
theorem d_told_room (T : Tx K mg cR cT cM fM) : Def P w K mg base CX0 "told_room" 5 ["places", "words"] (spToldRoom K cT) := by
  have d_want_places := d_want_places (P := P) (w := w) (base := base) T
  have d_is_list := d_is_list (P := P) (w := w) (base := base) T
  have d_is_count := d_is_count (P := P) (w := w) (base := base) T
  have d_plain_basis := d_plain_basis (P := P) (w := w) (base := base) T
  have dT := i_told (P := P) (w := w) (base := base) T
  refine T.f_told_room.mk c_told_room (fun _ _ _ _ _ _ us hl => match us, hl with | [_, _], _ => rfl) (fun vs H Q E h => ?_) (fun f cdv A outer s H vs Q E hr h => ?_)
  · obtain ⟨x, y, n, B, rfl, _⟩ := h
    rfl
  · obtain ⟨x, y, n, B, rfl, src, k⟩ := h
    refine ⟨_, (pss_cons (ps_if (pt_val (pe_callB call_isi rfl T.b_isinstance boot_isinstance (pa_cons (pv 0) (pa_cons (pe_glob (v := .ref cT) rfl T.gT rfl) pa_nil)))) (pss_one (ps_ret (pv 0))) pss_nil)
    (pss_cons (ps_expr (pe_def d_want_places (hr.mono (by decide)) (pa_cons (pv 0) pa_nil)))
    (pss_cons (ps_if (PW.pt (pw_or (pt_not (pt_val (pe_def d_is_list (hr.mono (by decide)) (pa_cons (pv 1) pa_nil)))) (pw_or1 (pt_cmpR n_gt (pe_callB call_len_seq rfl T.b_len boot_len (pa_cons (pv 1) pa_nil)) (pe_gint T.i_mw) (nomark _))))) (pss_one ps_never) pss_nil)
    (pss_cons (ps_for PassesOwn.never rfl (pi_enum rfl T.b_enumerate (pa_cons (pv 1) pa_nil)) (pg_tup (by rfl) (pgs_cons (pg_name (i := 2) c_told_room.nd rfl (Or.inl rfl)) (pgs_cons (pg_name (i := 3) c_told_room.nd rfl (Or.inl rfl)) pgs_nil))) (pss_one (ps_if (PW.pt (pw_or (pt_not (pt_val (pe_def d_is_count (hr.mono (by decide)) (pa_cons (pv 3) pa_nil)))) (pw_or1 (pt_cmpR n_ne (pe_op n_shr (pv 3) (pv 0)) (pe_n 0) (nomark _))))) (pss_one ps_never) pss_nil)))
    (pss_one (ps_ret (pe_told T dT (hr.mono (by decide)) (pa_cons (pv 0) (pa_cons (pe_def d_plain_basis (hr.mono (by decide)) (pa_cons (pv 1) pa_nil)) pa_nil))))))))), ?_⟩
    rcases src with ⟨t, rfl, ht⟩ | ⟨a, L, rfl, rfl, h1, h2, ha, hl, hv, rfl⟩
    · obtain ⟨dx, b, ht', hb⟩ := id ht
      refine ⟨_, rfl, .ref t, .ref cT, .ref cT, .ref cT, true, rfl, .own _, .base (.ins ht' T.clT T.kcT T.kg T.kt T.obT), T.isT, true, rfl, iteT ?_⟩
      exact ⟨_, rfl, k t H Ext.rfl' ht⟩
    · refine ⟨_, rfl, wN n, .ref cT, .type "int", .ref cT, false, rfl, .own _, .base (.int _), T.noT, false, rfl, iteF ?_⟩
      refine ⟨_, rfl, n, rfl, h1, h2, ?_⟩
      refine ⟨_, rfl, a, _, rfl, ha, fun H1 e1 => ⟨true, rfl, iteF ?_⟩⟩
      refine ⟨_, rfl, a, _, rfl, .inl (SqL.of (e1 _ _ ha)), L.length, 48, by rw [wL_len], rfl, _, rfl, no_ (decide_eq_false (by omega)) ?_⟩
      refine ⟨_, rfl, a, _, rfl, SqL.of (e1 _ _ ha), for_enum (K := K) (a := a) (xs := wL L) (fun i σ H' => Ext H H' ∧ ∃ v u : Option V, σ = [some (wN n), some (.ref a), v, u]) ⟨e1, none, none, rfl⟩ (fun i σ H' _ c => SqL.of (c.1 _ _ ha)) ?_ ?_⟩
      · rintro i x t σ H' hi ⟨e, v, u, rfl⟩ ht
        obtain ⟨z, hz, rfl⟩ := wL_at hi
        have hzn := hv z (List.mem_of_getElem? hz)
        refine ⟨t, _, rfl, SqT.of upd_same, rfl, _, _, rfl, _, _, rfl, rfl, ?_⟩
        refine ⟨_, rfl, z, rfl, true, rfl, iteF ?_⟩
        refine ⟨_, rfl, _, rfl, z, n, rfl, rfl, _, 0, rfl, rfl, _, rfl, no_ ?_ ⟨e.upd' ht, _, _, rfl⟩⟩
        rw [Nat.div_eq_of_lt hzn]
        rfl
      · rintro σ H' ⟨e, v, u, rfl⟩
        refine ⟨_, rfl, _, rfl, a, L, rfl, .inl (SqL.of (e _ _ ha)), by omega, fun b H2 e2 hb => ?_⟩
        exact told_made hb fun p H3 _ e3 h3 => k p H3 ((e.trans e2).trans e3) h3
theorem i_room (T : Tx K mg cR cT cM fM) : Init P w K mg base cR 6 ["self", "places", "words"] (spRoomInit K cR cT) := by
  have d_told_room := d_told_room (P := P) (w := w) (base := base) T
  obtain ⟨f, fd, M, F⟩ := T.mkR
  refine ⟨f, fd, M, F.ok c_Room_init (fun vs H Q E h => ?_) (fun cdv A outer s H vs Q E hr h => ?_), F.bindsN fun _ _ _ _ _ _ us hl => match us, hl with | [_, _, _], _ => rfl⟩
  · obtain ⟨p, dx, x, y, n, B, rfl, _⟩ := h
    rfl
  · obtain ⟨p, dx, x, y, n, B, rfl, hp, src, k⟩ := h
    refine ⟨_, PSs.nox (pss_cons (ps_set (i := 3) c_Room_init.nd rfl (Or.inl rfl) (pe_def d_told_room (hr.mono (by decide)) (pa_cons (pv 1) (pa_cons (pv 2) pa_nil))))
    (pss_cons (ps_fld (pv 0) (pe_fld (pv 3) rfl) rfl)
    (pss_one (ps_fld (pv 0) (pe_fld (pv 3) rfl) rfl)))), ?_⟩
    refine ⟨_, rfl, _, rfl, x, y, n, B, rfl, src, fun t H1 e1 ⟨dt, b, ht, hb⟩ => ?_⟩
    have hp1 := e1 _ _ hp
    have ntp : t ≠ p := ne_of ht hp1 fun z => by
      injection z with _ _ z3
      exact td_ne _ _ z3
    refine ⟨_, rfl, t, cT, dt, _, _, rfl, ht, T.clT, T.nTp, td_p n b, _, rfl, p, cR, dx, _, rfl, hp1, T.clR, T.nRp, (by show 0 < 1000; decide), ?_⟩
    refine ⟨_, rfl, t, cT, dt, _, _, rfl, (by rw [upd_ne ntp]; exact ht), T.clT, T.nTb, td_b n b, _, rfl, p, cR, dx, _, rfl, upd_same, T.clR, T.nRb, put1_len _ _, ?_⟩
    rw [upd_upd]
    have keep : ∀ q o, q ≠ p → H1 q = some o → upd H1 p (.ins cR dx (rmF n b)) q = some o := fun q o hq z => by
      rw [upd_ne hq]
      exact z
    exact k _ b (fun q o hq z => keep q o hq (e1 _ _ z)) upd_same (sqt_move hb hp1 (fun _ z => nomatch z) (fun _ _ z => nomatch z) keep)
theorem m_dim (T : Tx K mg cR cT cM fM) : Dim P w K mg base cR 1 ["self"] (spDim K cR) := by
  obtain ⟨p0, f, fd, M, F⟩ := T.mDim
  refine ⟨p0, f, fd, M, F.ok c_Room_dimension (fun vs H Q E h => ?_) (fun cdv A outer s H vs Q E hr h => ?_), F.bindsN fun _ _ _ _ _ _ us hl => match us, hl with | [_], _ => rfl⟩
  · obtain ⟨p, n, B, rfl, _⟩ := h
    rfl
  · obtain ⟨p, n, B, rfl, ⟨dx, b, hp, hb⟩, k⟩ := h
    refine ⟨_, PSs.nox (pss_one (ps_ret (pe_callB call_len_seq rfl T.b_len boot_len (pa_cons (pe_fld (pv 0) rfl) pa_nil)))), ?_⟩
    refine ⟨_, rfl, p, cR, dx, _, _, rfl, hp, T.clR, T.nRb, rm_b n b, b, _, rfl, .inr hb, ?_⟩
    rw [wL_len]
    exact k
theorem m_basis (T : Tx K mg cR cT cM fM) : Mth P w K mg base CX0 cR "basis" 1 ["self"] (spBasis K cR) := by
  obtain ⟨f, fd, M, F⟩ := T.mBasis
  refine ⟨f, fd, M, F.ok c_Room_basis (fun vs H Q E h => ?_) (fun cdv A outer s H vs Q E hr h => ?_), F.bindsN fun _ _ _ _ _ _ us hl => match us, hl with | [_], _ => rfl⟩
  · obtain ⟨p, n, B, rfl, _⟩ := h
    rfl
  · obtain ⟨p, n, B, rfl, ⟨dx, b, hp, hb⟩, k⟩ := h
    refine ⟨_, PSs.nox (pss_one (ps_ret (pe_callTy call_list_of rfl T.b_list boot_list (pa_cons (pe_fld (pv 0) rfl) pa_nil)))), ?_⟩
    exact ⟨_, rfl, p, cR, dx, _, _, rfl, hp, T.clR, T.nRb, rm_b n b, b, _, rfl, .inr hb, fun l hl => k l _ hl (Ext.upd hl) upd_same⟩
theorem d_want_word (T : Tx K mg cR cT cM fM) : Def P w K mg base CX0 "want_word" 3 ["room", "value"] (spWantWord K cR) := by
  have d_is_count := d_is_count (P := P) (w := w) (base := base) T
  refine T.f_want_word.mk c_want_word (fun _ _ _ _ _ _ us hl => match us, hl with | [_, _], _ => rfl) (fun vs H Q E h => ?_) (fun f cdv A outer s H vs Q E hr h => ?_)
  · obtain ⟨p, n, B, v, rfl, _⟩ := h
    rfl
  · obtain ⟨p, n, B, v, rfl, ⟨dx, b, hp, hb⟩, hv, k⟩ := h
    refine ⟨_, (pss_one (ps_if (PW.pt (pw_or (pt_not (pt_val (pe_def d_is_count (hr.mono (by decide)) (pa_cons (pv 1) pa_nil)))) (pw_or1 (pt_cmpR n_ne (pe_op n_shr (pv 1) (pe_fld (pv 0) rfl)) (pe_n 0) (nomark _))))) (pss_one ps_never) pss_nil)), ?_⟩
    refine ⟨_, rfl, v, rfl, true, rfl, iteF ?_⟩
    refine ⟨_, rfl, _, rfl, p, cR, dx, _, _, rfl, hp, T.clR, T.nRp, rm_p n b, v, n, rfl, rfl, _, 0, rfl, rfl, _, rfl, no_ ?_ k⟩
    rw [Nat.div_eq_of_lt hv]
    rfl
theorem m_has (T : Tx K mg cR cT cM fM) : Mth P w K mg base CX0 cR "has" 4 ["self", "word"] (spHas K cR) := by
  have d_want_word := d_want_word (P := P) (w := w) (base := base) T
  have d_left_of := d_left_of (P := P) (w := w) (base := base) T
  obtain ⟨f, fd, M, F⟩ := T.mHas
  refine ⟨f, fd, M, F.ok c_Room_has (fun vs H Q E h => ?_) (fun cdv A outer s H vs Q E hr h => ?_), F.bindsN fun _ _ _ _ _ _ us hl => match us, hl with | [_, _], _ => rfl⟩
  · obtain ⟨p, n, B, v, rfl, _⟩ := h
    rfl
  · obtain ⟨p, n, B, v, rfl, hp, hv, k⟩ := h
    refine ⟨_, PSs.nox (pss_cons (ps_expr (pe_def d_want_word (hr.mono (by decide)) (pa_cons (pv 0) (pa_cons (pv 1) pa_nil))))
    (pss_one (ps_ret (pe_cmpR n_eq (pe_def d_left_of (hr.mono (by decide)) (pa_cons (pe_fld (pv 0) rfl) (pa_cons (pv 1) pa_nil))) (pe_n 0) (nomark _))))), ?_⟩
    refine ⟨_, rfl, _, rfl, p, n, B, v, rfl, hp, hv, ?_⟩
    obtain ⟨dx, b, hp, hb⟩ := hp
    exact ⟨_, rfl, p, cR, dx, _, _, rfl, hp, T.clR, T.nRb, rm_b n b, _, rfl, b, B, v, rfl, hb, _, 0, rfl, rfl, k⟩
theorem m_words (T : Tx K mg cR cT cM fM) : Mth P w K mg base (L2.CX P w) cR "words" 4 ["self"] (spWords K cR cM) := by
  have d_want_at_most := d_want_at_most (P := P) (w := w) (base := base) T
  have d_all_words := d_all_words (P := P) (w := w) (base := base) T
  obtain ⟨f, fd, M, F⟩ := T.mWords
  refine ⟨f, fd, M, F.ok c_Room_words (fun vs H Q E h => ?_) (fun cdv A outer s H vs Q E hr h => ?_), F.bindsN fun _ _ _ _ _ _ us hl => match us, hl with | [_], _ => rfl⟩
  · obtain ⟨p, n, B, rfl, _⟩ := h
    rfl
  · obtain ⟨p, n, B, rfl, ⟨dx, b, hp, hb⟩, k1, k2⟩ := h
    have tk := takes_of (X := cxOf (L2.CX P w) P w K mg base ["self"] "Room.words" (defScope s_Room_words) f cdv A outer s H E) (E := E) rfl rfl rfl rfl
    refine ⟨_, (pss_cons (ps_expr (pe_defX d_want_at_most (hr.mono (by decide)) (passes_call tk fun _ _ _ _ h => h) (pa_cons pe_str (pa_cons (pe_gint T.i_md) (pa_cons (pe_callB call_len_seq rfl T.b_len boot_len (pa_cons (pe_fld (pv 0) rfl) pa_nil)) pa_nil)))))
    (pss_one (ps_ret (pe_def d_all_words (hr.mono (by decide)) (pa_cons (pe_fld (pv 0) rfl) pa_nil))))), ?_⟩
    refine ⟨_, rfl, p, cR, dx, _, _, rfl, hp, T.clR, T.nRb, rm_b n b, b, _, rfl, .inr hb, "dimension", 8, B.length, by rw [wL_len]; rfl, fun hl => ?_, fun hl d hd => k2 hl d hd⟩
    exact ⟨_, rfl, p, cR, dx, _, _, rfl, hp, T.clR, T.nRb, rm_b n b, b, B, rfl, hb, hl, fun l H' ys e hy hn => k1 hl l H' ys e hy hn⟩
end
end OC

namespace OC
open PySem PySem.Spec PyProof.Rows L2
/-! ## words as data, to be held against one another -/
def dN (B : List Nat) : List PyData := (B.map fun n : Nat => (n : Int)).map PyData.int
theorem dp_all {K : PySem.W.Frag} {H : Hp} : ∀ B : List Nat, DpAll K H (wL B) (dN B)
  | [] => .nil
  | b :: B => .cons (.int b) (dp_all B)
theorem dp_l {K : PySem.W.Frag} {H : Hp} {a : Addr} {B : List Nat} (h : SqL K H a (wL B)) : Dp K H (.ref a) (.list (dN B)) := .lst h (dp_all B)
theorem dp_t {K : PySem.W.Frag} {H : Hp} {a : Addr} {B : List Nat} (h : SqT K H a (wL B)) : Dp K H (.ref a) (.tuple (dN B)) := .tup h (dp_all B)
theorem sh_l (B : List Nat) : SeqAt.shaped (.list (dN B)) = true := PySem.W.ke_shaped_ints _
theorem sh_t (B : List Nat) : SeqAt.shaped (.tuple (dN B)) = true := by
  have h1 : PyData.canLayAll0 (dN B) = true := PySem.W.ke_canLayAll0 _
  have h2 : PyData.depthAll (dN B) = 0 := PySem.W.ke_depthAll _
  unfold SeqAt.shaped
  simp only [PyData.canLay0, PyData.depth, h1, h2, Bool.true_and, decide_eq_true_eq]
  decide
theorem eq_self {d : PyData} (h : SeqAt.shaped d = true) : PyData.eqv d d = true := SeqAt.eqv_refl d (SeqAt.canLay_of_shaped h)
/-- two lists of the same words, by != -/
theorem ne_lists {K : PySem.W.Frag} {H : Hp} {a b : Addr} {B : List Nat} {Q : VK} (ha : SqL K H a (wL B)) (hb : SqL K H b (wL B)) (q : Q (.bl false) H) : rNeD K (.ref a) (.ref b) H Q :=
  ⟨_, _, dp_l ha, dp_l hb, sh_l B, sh_l B, by rw [eq_self (sh_l B)]; exact q⟩
/-! ## more promises -/
def spEq1 (K : PySem.W.Frag) (cR : Addr) : L2.Sp := fun vs H Q _ => ∃ (p q : Addr) (n : Nat) (B : List Nat), vs = [.ref p, .ref q] ∧ RoomAt K cR H p n B ∧ RoomAt K cR H q n B ∧ Q (.bl true) H
def spSpots : L2.Sp := fun vs H Q _ => ∃ v : Nat, vs = [wN v] ∧ ∀ l H', Ext H H' → H' l = some (.lst (wL ((List.range 24).filter fun k => v.testBit k))) → Q (.ref l) H'
def spWordBy (K : PySem.W.Frag) : L2.Sp := fun vs H Q _ => ∃ (a : Addr) (S : List Nat), vs = [.ref a] ∧ SqL K H a (wL S) ∧ S.length ≤ 100 ∧ (∀ s ∈ S, s ≤ 1000) ∧ ∀ H', Ext H H' → Q (wN (S.map fun s => 2 ^ s).sum) H'
def spAllOn : L2.Sp := fun vs H Q _ => ∃ n : Nat, vs = [wN n] ∧ n ≤ 24 ∧ Q (wN (2 ^ n - 1)) H
def spWantAlike (K : PySem.W.Frag) (cR : Addr) : L2.Sp := fun vs H Q _ => ∃ (p q : Addr) (n : Nat) (B C : List Nat), vs = [.ref p, .ref q] ∧ RoomAt K cR H p n B ∧ RoomAt K cR H q n C ∧ Q .non H
def spBelow (K : PySem.W.Frag) : L2.Sp := fun vs H Q _ => ∃ (a : Addr) (M : List Nat) (n : Nat), vs = [.ref a, wN n] ∧ SqT K H a (wL M) ∧ M.length ≤ 100 ∧ ∀ t H', Ext H H' → SqT K H' t (wL (below M n)) → Q (.ref t) H'
def spCommonB (K : PySem.W.Frag) : L2.Sp := fun vs H Q _ => ∃ (a b : Addr) (B C : List Nat) (n : Nat), vs = [.ref a, .ref b, wN n] ∧ SqT K H a (wL B) ∧ SqT K H b (wL C) ∧ B.length ≤ 40 ∧ C.length ≤ 40 ∧ n ≤ 24 ∧ (∀ v ∈ B, v < 2 ^ n) ∧ (∀ v ∈ C, v < 2 ^ n) ∧
  ∀ t H', Ext H H' → SqT K H' t (wL (below (pb (commonE B C n)) n)) → Q (.ref t) H'
def spShortB (K : PySem.W.Frag) : L2.Sp := fun vs H Q _ => ∃ (a : Addr) (B : List Nat) (v n : Nat), vs = [.ref a, wN v, wN n] ∧ SqT K H a (wL B) ∧ B.length ≤ 40 ∧ n ≤ 24 ∧ (∀ b ∈ B, b < 2 ^ n) ∧
  ∀ t H', Ext H H' → SqT K H' t (wL (below (pb (shortE B ((2 ^ n - 1) ^^^ v) n)) n)) → Q (.ref t) H'
def spLedWord (K : PySem.W.Frag) : L2.Sp := fun vs H Q _ => ∃ (a : Addr) (s : List Nat) (v : Nat), vs = [wN v, .ref a] ∧ SqL K H a (wL s) ∧ s.length ≤ 24 ∧ v < 2 ^ s.length ∧ (∀ j ∈ s, j ≤ 1000) ∧ ∀ H', Ext H H' → Q (wN (led s v)) H'
def spIsSeq : L2.Sp := fun vs H Q _ => ∃ (a : Addr) (s : List Nat) (n : Nat), vs = [.ref a, wN n] ∧ H a = some (.lst (wL s)) ∧ s.Perm (List.range n) ∧ n ≤ 24 ∧ ∀ H', Ext H H' → Q (.bl true) H'
section
variable {P : Program} {w : World} {K : PySem.W.Frag} {mg : Str → Option Value} {base : Heap} {cR cT cM fM : Addr}
theorem m_eq (T : Tx K mg cR cT cM fM) : Mth P w K mg base CX0 cR "__eq__" 2 ["self", "other"] (spEq1 K cR) := by
  obtain ⟨f, fd, M, F⟩ := T.mEq
  refine ⟨f, fd, M, F.ok c_Room_eq (fun vs H Q E h => ?_) (fun cdv A outer s H vs Q E hr h => ?_), F.bindsN fun _ _ _ _ _ _ us hl => match us, hl with | [_, _], _ => rfl⟩
  · obtain ⟨p, q, n, B, rfl, _⟩ := h
    rfl
  · obtain ⟨p, q, n, B, rfl, ⟨dx, b, hp, hb⟩, ⟨dy, c, hq, hc⟩, k⟩ := h
    refine ⟨_, PSs.nox (pss_cons (ps_if (pt_not (pt_val (pe_callB call_isi rfl T.b_isinstance boot_isinstance (pa_cons (pv 1) (pa_cons (pe_glob (v := .ref cR) rfl T.gR rfl) pa_nil))))) (pss_one (ps_ret pe_bl)) pss_nil)
    (pss_one (ps_ret (pe_and (pe_cmpR n_eq (pe_fld (pv 0) rfl) (pe_fld (pv 1) rfl) (nomark _)) (pe_one (pe_cmpR (op_eqD hr.units) (pe_fld (pv 0) rfl) (pe_fld (pv 1) rfl) (nomark _))))))), ?_⟩
    refine ⟨_, rfl, .ref q, .ref cR, .ref cR, .ref cR, true, rfl, .own _, .base (.ins hq T.clR T.kcR T.kg T.kt T.obR), T.isR, true, rfl, iteF ?_⟩
    refine ⟨_, rfl, p, cR, dx, _, _, rfl, hp, T.clR, T.nRp, rm_p n b, _, rfl, q, cR, dy, _, _, rfl, hq, T.clR, T.nRp, rm_p n c, n, n, rfl, rfl, true, by show V.bl (decide (n = n)) = _; rw [decide_eq_true rfl], iteT ?_⟩
    refine ⟨_, rfl, p, cR, dx, _, _, rfl, hp, T.clR, T.nRb, rm_b n b, _, rfl, q, cR, dy, _, _, rfl, hq, T.clR, T.nRb, rm_b n c, _, _, dp_t hb, dp_t hc, sh_t B, sh_t B, ?_⟩
    rw [eq_self (sh_t B)]
    exact k
theorem d_want_room (T : Tx K mg cR cT cM fM) : Def P w K mg base CX0 "want_room" 1 ["value"] (spWantRoom K cR) := by
  refine T.f_want_room.mk c_want_room (fun _ _ _ _ _ _ us hl => match us, hl with | [_], _ => rfl) (fun vs H Q E h => ?_) (fun f cdv A outer s H vs Q E hr h => ?_)
  · obtain ⟨p, n, B, rfl, _⟩ := h
    rfl
  · obtain ⟨p, n, B, rfl, ⟨dx, b, hp, hb⟩, k⟩ := h
    refine ⟨_, (pss_one (ps_if (pt_not (pt_val (pe_callB call_isi rfl T.b_isinstance boot_isinstance (pa_cons (pv 0) (pa_cons (pe_glob (v := .ref cR) rfl T.gR rfl) pa_nil))))) (pss_one ps_never) pss_nil)), ?_⟩
    exact ⟨_, rfl, .ref p, .ref cR, .ref cR, .ref cR, true, rfl, .own _, .base (.ins hp T.clR T.kcR T.kg T.kt T.obR), T.isR, true, rfl, iteF k⟩
theorem made_tr {b : Addr} {n : Nat} {B : List Nat} {H : Hp} {Q : VK} (hb : SqT K H b (wL B)) (k : ∀ p H', Ext H H' → RoomAt K cR H' p n B → Q (.ref p) H') :
    ∀ p dx, H p = none → H dx = none → dx ≠ p → spToldInit cT [.ref p, wN n, .ref b] (upd (upd H dx (.own p)) p (.ins cT dx [])) (fun v H2 => v = .non ∧
      ∀ x dx, H2 x = none → H2 dx = none → dx ≠ x → spRoomInit K cR cT [.ref x, .ref p, .non] (upd (upd H2 dx (.own x)) x (.ins cR dx [])) (fun v H3 => v = .non ∧ Q (.ref x) H3) E0) E0 :=
  told_made (Q := fun v H2 => ∀ x dx, H2 x = none → H2 dx = none → dx ≠ x → spRoomInit K cR cT [.ref x, v, .non] (upd (upd H2 dx (.own x)) x (.ins cR dx [])) (fun v H3 => v = .non ∧ Q (.ref x) H3) E0)
    hb fun t H1 _ e1 ht => room_made (.inl ⟨t, rfl, ht⟩) fun p H2 _ e2 hp => k p H2 (e1.trans e2) hp
theorem d_room_by (T : Tx K mg cR cT cM fM) : Def P w K mg base CX0 "room_by" 8 ["places", "basis"] (spRoomBy K cR) := by
  have dT := i_told (P := P) (w := w) (base := base) T
  have dR := i_room (P := P) (w := w) (base := base) T
  refine T.f_room_by.mk c_room_by (fun _ _ _ _ _ _ us hl => match us, hl with | [_, _], _ => rfl) (fun vs H Q E h => ?_) (fun f cdv A outer s H vs Q E hr h => ?_)
  · obtain ⟨n, b, B, rfl, _⟩ := h
    rfl
  · obtain ⟨n, b, B, rfl, hb, k⟩ := h
    refine ⟨_, (pss_one (ps_ret (pe_room T dR (hr.mono (by decide)) (pa_cons (pe_told T dT (hr.mono (by decide)) (pa_cons (pv 0) (pa_cons (pv 1) pa_nil))) (pa_cons pe_non pa_nil))))), ?_⟩
    refine ⟨_, rfl, _, rfl, ?_⟩
    exact made_tr hb k
theorem d_room_of (T : Tx K mg cR cT cM fM) : Def P w K mg base CX0 "room_of" 8 ["places", "words"] (spRoomOf K cR) := by
  have dT := i_told (P := P) (w := w) (base := base) T
  have dR := i_room (P := P) (w := w) (base := base) T
  have d_plain_basis := d_plain_basis (P := P) (w := w) (base := base) T
  refine T.f_room_of.mk c_room_of (fun _ _ _ _ _ _ us hl => match us, hl with | [_, _], _ => rfl) (fun vs H Q E h => ?_) (fun f cdv A outer s H vs Q E hr h => ?_)
  · obtain ⟨n, a, L, rfl, _⟩ := h
    rfl
  · obtain ⟨n, a, L, rfl, ha, hl, k⟩ := h
    refine ⟨_, (pss_one (ps_ret (pe_room T dR (hr.mono (by decide)) (pa_cons (pe_told T dT (hr.mono (by decide)) (pa_cons (pv 0) (pa_cons (pe_def d_plain_basis (hr.mono (by decide)) (pa_cons (pv 1) pa_nil)) pa_nil))) (pa_cons pe_non pa_nil))))), ?_⟩
    refine ⟨_, rfl, _, rfl, a, L, rfl, ha, hl, fun b H1 e1 hb => ?_⟩
    exact made_tr hb fun p H2 e2 hp => k p H2 (e1.trans e2) hp
theorem d_spots_of (T : Tx K mg cR cT cM fM) : Def P w K mg base CX0 "spots_of" 1 ["word"] spSpots := by
  refine T.f_spots_of.mk c_spots_of (fun _ _ _ _ _ _ us hl => match us, hl with | [_], _ => rfl) (fun vs H Q E h => ?_) (fun f cdv A outer s H vs Q E hr h => ?_)
  · obtain ⟨v, rfl, _⟩ := h
    rfl
  · obtain ⟨v, rfl, k⟩ := h
    refine ⟨_, (pss_one (ps_ret (pe_lc (own := [("place", 1)]) (g := gName 1) rfl c_spots_of.nd (pi_range1 rfl T.b_range (pa_cons (pe_gint T.i_mp) pa_nil)) (blkOk_by (own := [("place", 1)]) (N := ["word", "place"]) (sc := defScope s_spots_of) (by decide +kernel)) (fun _ _ _ _ _ => pg_name (i := 1) c_spots_of.nd rfl (Or.inl rfl)) (fun _ _ _ _ _ => (pts_one (pt_cmpR n_eq (pe_op n_and (pe_op n_shr (pv 0) (pv 1)) (pe_n 1)) (pe_n 1) (nomark _)))) (fun _ _ _ _ _ => (pv 1))))), ?_⟩
    dsimp only [tRet]
    refine lcRN (n := 24) (fun b => v.testBit b) (fun b => wN b) (fun R r => r) (by decide) (fun x => rfl) (fun b hb H1 e1 Q q => ?_) (fun b hb hp H1 e1 Q q => ⟨_, rfl, q H1 Ext.rfl'⟩) fun D H1 hD e1 h1 => k D H1 e1 h1
    refine ⟨_, rfl, _, rfl, v, b, rfl, rfl, _, 1, rfl, rfl, _, 1, rfl, rfl, _, rfl, ?_⟩
    rw [bit_dec]
    exact q
theorem sum_cast (l : List Nat) : (l.map fun n : Nat => (n : Int)).sum = ((l.sum : Nat) : Int) := by
  induction l with
  | nil => rfl
  | cons a l ih => rw [List.map_cons, List.sum_cons, List.sum_cons, ih, Int.natCast_add]
theorem d_word_by (T : Tx K mg cR cT cM fM) : Def P w K mg base CX0 "word_by" 1 ["spots"] (spWordBy K) := by
  refine T.f_word_by.mk c_word_by (fun _ _ _ _ _ _ us hl => match us, hl with | [_], _ => rfl) (fun vs H Q E h => ?_) (fun f cdv A outer s H vs Q E hr h => ?_)
  · obtain ⟨a, S, rfl, _⟩ := h
    rfl
  · obtain ⟨a, S, rfl, ha, hl, hs, k⟩ := h
    refine ⟨_, (pss_one (ps_ret (pe_callB (cr_sum rfl) rfl T.b_sum boot_sum (pa_cons (pe_lc (own := [("place", 1)]) (g := gName 1) rfl c_word_by.nd (pi_list (pv 0)) (blkOk_by (own := [("place", 1)]) (N := ["spots", "place"]) (sc := defScope s_word_by) (by decide +kernel)) (fun _ _ _ _ _ => pg_name (i := 1) c_word_by.nd rfl (Or.inl rfl)) (fun _ _ _ _ _ => pts_nil) (fun _ _ _ _ _ => (pe_op n_shl (pe_n 1) (pv 1)))) pa_nil)))), ?_⟩
    dsimp only [tRet, tCB, tCons, tNil]
    refine lcLN (K := K) (a := a) (B := S) (fun _ => true) (fun b => wN (2 ^ b)) (fun R r => ⟨_, rfl, r⟩) ha (by omega) (fun x => rfl) (fun b hb H1 _ Q q => q) (fun b hb hp H1 e1 Q q => ?_) fun D H1 hD e1 h1 => ?_
    · refine ⟨_, rfl, 1, b, rfl, rfl, ⟨by decide, Nat.le_trans (hs b hb) (by decide)⟩, ?_⟩
      show Q (wN (1 * 2 ^ b)) H1
      rw [Nat.one_mul]
      exact q H1 Ext.rfl'
    · rw [filter_yes, ← wL_map, ints_of] at h1
      refine ⟨D, _, rfl, SqL.of h1, ?_⟩
      rw [sum_cast]
      exact k H1 e1
theorem d_all_on (T : Tx K mg cR cT cM fM) : Def P w K mg base CX0 "all_on" 1 ["places"] spAllOn := by
  refine T.f_all_on.mk c_all_on (fun _ _ _ _ _ _ us hl => match us, hl with | [_], _ => rfl) (fun vs H Q E h => ?_) (fun f cdv A outer s H vs Q E hr h => ?_)
  · obtain ⟨n, rfl, _⟩ := h
    rfl
  · obtain ⟨n, rfl, hn, k⟩ := h
    refine ⟨_, (pss_one (ps_ret (pe_op n_sub (pe_op n_shl (pe_n 1) (pv 0)) (pe_n 1)))), ?_⟩
    refine ⟨_, rfl, 1, n, rfl, rfl, ⟨by decide, by omega⟩, ?_⟩
    dsimp only
    rw [Nat.one_mul]
    exact ⟨2 ^ n, 1, rfl, rfl, Nat.one_le_two_pow, k⟩
theorem d_want_alike (T : Tx K mg cR cT cM fM) : Def P w K mg base CX0 "want_alike" 2 ["room", "other"] (spWantAlike K cR) := by
  have d_want_room := d_want_room (P := P) (w := w) (base := base) T
  refine T.f_want_alike.mk c_want_alike (fun _ _ _ _ _ _ us hl => match us, hl with | [_, _], _ => rfl) (fun vs H Q E h => ?_) (fun f cdv A outer s H vs Q E hr h => ?_)
  · obtain ⟨p, q, n, B, C, rfl, _⟩ := h
    rfl
  · obtain ⟨p, q, n, B, C, rfl, hp, hq, k⟩ := h
    refine ⟨_, (pss_cons (ps_expr (pe_def d_want_room (hr.mono (by decide)) (pa_cons (pv 0) pa_nil)))
    (pss_cons (ps_expr (pe_def d_want_room (hr.mono (by decide)) (pa_cons (pv 1) pa_nil)))
    (pss_one (ps_if (pt_cmpR n_ne (pe_fld (pv 0) rfl) (pe_fld (pv 1) rfl) (nomark _)) (pss_one ps_never) pss_nil)))), ?_⟩
    refine ⟨_, rfl, p, n, B, rfl, hp, _, rfl, q, n, C, rfl, hq, ?_⟩
    obtain ⟨dx, b, hp, hb⟩ := hp
    obtain ⟨dy, c, hq, hc⟩ := hq
    exact ⟨_, rfl, p, cR, dx, _, _, rfl, hp, T.clR, T.nRp, rm_p n b, _, rfl, q, cR, dy, _, _, rfl, hq, T.clR, T.nRp, rm_p n c, n, n, rfl, rfl, _, rfl, no_ (by rw [decide_eq_true rfl]; rfl) k⟩
theorem d_below (T : Tx K mg cR cT cM fM) : Def P w K mg base CX0 "below" 1 ["basis", "places"] (spBelow K) := by
  refine T.f_below.mk c_below (fun _ _ _ _ _ _ us hl => match us, hl with | [_, _], _ => rfl) (fun vs H Q E h => ?_) (fun f cdv A outer s H vs Q E hr h => ?_)
  · obtain ⟨a, M, n, rfl, _⟩ := h
    rfl
  · obtain ⟨a, M, n, rfl, ha, hl, k⟩ := h
    refine ⟨_, (pss_one (ps_ret (pe_callTy call_tuple_of rfl T.b_tuple boot_tuple (pa_cons (pe_lc (own := [("word", 2)]) (g := gName 2) rfl c_below.nd (pi_tup (pv 0)) (blkOk_by (own := [("word", 2)]) (N := ["basis", "places", "word"]) (sc := defScope s_below) (by decide +kernel)) (fun _ _ _ _ _ => pg_name (i := 2) c_below.nd rfl (Or.inl rfl)) (fun _ _ _ _ _ => (pts_one (pt_cmpR n_eq (pe_op n_shr (pv 2) (pv 1)) (pe_n 0) (nomark _)))) (fun _ _ _ _ _ => (pv 2))) pa_nil)))), ?_⟩
    dsimp only [tRet, tCB, tCons, tNil]
    refine lcTN (K := K) (a := a) (B := M) (fun v => v / 2 ^ n == 0) (fun b => wN b) (fun R r => ⟨_, rfl, r⟩) ha (by omega) (fun x => rfl) (fun b hb H1 _ Q q => ?_) (fun b hb hp H1 e1 Q q => ⟨_, rfl, q H1 Ext.rfl'⟩) fun D H1 hD e1 h1 => ?_
    · exact ⟨_, rfl, _, rfl, b, n, rfl, rfl, _, 0, rfl, rfl, _, rfl, q⟩
    · exact ⟨D, _, rfl, .inl ⟨SqL.of h1, fun t ht => k t _ (e1.upd' ht) (SqT.of upd_same)⟩⟩
theorem d_common_basis (T : Tx K mg cR cT cM fM) : Def P w K mg base CX0 "common_basis" 4 ["basis", "other", "places"] (spCommonB K) := by
  have d_plain_basis := d_plain_basis (P := P) (w := w) (base := base) T
  have d_below := d_below (P := P) (w := w) (base := base) T
  refine T.f_common_basis.mk c_common_basis (fun _ _ _ _ _ _ us hl => match us, hl with | [_, _, _], _ => rfl) (fun vs H Q E h => ?_) (fun f cdv A outer s H vs Q E hr h => ?_)
  · obtain ⟨a, b, B, C, n, rfl, _⟩ := h
    rfl
  · obtain ⟨a, b, B, C, n, rfl, ha, hb, lB, lC, hn, vB, vC, k⟩ := h
    refine ⟨_, (pss_cons (ps_setLc (i := 3) (own := [("word", 4)]) (g := gName 4) rfl c_common_basis.nd rfl rfl (sw_true rfl rfl rfl (by decide +kernel)) (pi_tup (pv 0)) (blkOk_by (own := [("word", 4)]) (N := ["basis", "other", "places", "twice", "word"]) (sc := defScope s_common_basis) (by decide +kernel)) (fun _ _ _ _ _ => pg_name (i := 4) c_common_basis.nd rfl (Or.inl rfl)) (fun _ _ _ _ _ => pts_nil) (fun _ _ _ _ _ => (pe_op n_add (pe_op n_shl (pv 4) (pv 2)) (pv 4))))
    (pss_one (ps_ret (pe_def d_below (hr.mono (by decide)) (pa_cons (pe_def d_plain_basis (hr.mono (by decide)) (pa_cons (pe_op op_cat (pv 3) (pe_lc (own := [("word", 4)]) (g := gName 4) rfl c_common_basis.nd (pi_tup (pv 1)) (blkOk_by (own := [("word", 4)]) (N := ["basis", "other", "places", "twice", "word"]) (sc := defScope s_common_basis) (by decide +kernel)) (fun _ _ _ _ _ => pg_name (i := 4) c_common_basis.nd rfl (Or.inl rfl)) (fun _ _ _ _ _ => pts_nil) (fun _ _ _ _ _ => (pe_op n_shl (pv 4) (pv 2))))) pa_nil)) (pa_cons (pv 2) pa_nil)))))), ?_⟩
    have big : ∀ {v : Nat}, v < 2 ^ n → v < 2 ^ 64 := fun h => Nat.lt_of_lt_of_le h (Nat.pow_le_pow_right (by decide) (by omega))
    dsimp only [tSeq, tAsg]
    refine lcTN (K := K) (a := a) (B := B) (fun _ => true) (fun v => wN (v <<< n ^^^ v)) (fun R r => ⟨_, rfl, r⟩) ha (by omega) (fun x => rfl) (fun v hv H1 _ Q q => q) (fun v hv hp H1 e1 Q q => ?_) fun D H1 hD e1 h1 => ?_
    · refine ⟨_, rfl, _, rfl, v, n, rfl, rfl, ⟨big (vB v hv), by omega⟩, _, rfl, _, v, rfl, rfl, ?_⟩
      dsimp only
      rw [pair_add (vB v hv)]
      exact q H1 Ext.rfl'
    · rw [filter_yes, ← wL_map] at h1
      dsimp only [gName, tRet, tCall, tCons, tNil, tOp]
      refine ⟨_, rfl, ?_⟩
      refine lcTN (K := K) (a := b) (B := C) (fun _ => true) (fun v => wN (v <<< n)) (fun R r => ⟨_, rfl, r⟩) (hb.ext e1) (by omega) (fun x => rfl) (fun v hv H1 _ Q q => q) (fun v hv hp H2 e2 Q q => ?_) fun D2 H2 hD2 e2 h2 => ?_
      · refine ⟨_, rfl, _, rfl, v, n, rfl, rfl, ⟨big (vC v hv), by omega⟩, ?_⟩
        dsimp only
        rw [← Nat.shiftLeft_eq]
        exact q H2 Ext.rfl'
      · rw [filter_yes, ← wL_map] at h2
        refine ⟨D, D2, _, _, rfl, rfl, e2 _ _ h1, h2, ?_, fun p hp => ?_⟩
        · refine small ?_
          rw [wL_len, wL_len, List.length_map, List.length_map]
          omega
        · refine ⟨p, commonE B C n, rfl, .inl (SqL.of ?_), ?_, fun t H3 e3 ht => ?_⟩
          · rw [upd_same]
            unfold commonE
            rw [wL_app]
          · unfold commonE
            rw [List.length_append, List.length_map, List.length_map]
            omega
          · refine ⟨_, rfl, t, _, n, rfl, ht, ?_, fun r H4 e4 hr4 => k r H4 ((((e1.trans e2).upd' hp).trans e3).trans e4) hr4⟩
            have z := pb_len_le (commonE B C n)
            unfold commonE at z ⊢
            rw [List.length_append, List.length_map, List.length_map] at z
            omega
theorem d_shortened_basis (T : Tx K mg cR cT cM fM) : Def P w K mg base CX0 "shortened_basis" 4 ["basis", "word", "places"] (spShortB K) := by
  have d_plain_basis := d_plain_basis (P := P) (w := w) (base := base) T
  have d_below := d_below (P := P) (w := w) (base := base) T
  have d_all_on := d_all_on (P := P) (w := w) (base := base) T
  refine T.f_shortened_basis.mk c_shortened_basis (fun _ _ _ _ _ _ us hl => match us, hl with | [_, _, _], _ => rfl) (fun vs H Q E h => ?_) (fun f cdv A outer s H vs Q E hr h => ?_)
  · obtain ⟨a, B, v, n, rfl, _⟩ := h
    rfl
  · obtain ⟨a, B, v, n, rfl, ha, lB, hn, vB, k⟩ := h
    refine ⟨_, (pss_cons (ps_set (i := 3) c_shortened_basis.nd rfl (Or.inr rfl) (pe_op n_xor (pe_def d_all_on (hr.mono (by decide)) (pa_cons (pv 2) pa_nil)) (pv 1)))
    (pss_one (ps_ret (pe_def d_below (hr.mono (by decide)) (pa_cons (pe_def d_plain_basis (hr.mono (by decide)) (pa_cons (pe_lc (own := [("one", 4)]) (g := gName 4) rfl c_shortened_basis.nd (pi_tup (pv 0)) (blkOk_by (own := [("one", 4)]) (N := ["basis", "word", "places", "off", "one"]) (sc := defScope s_shortened_basis) (by decide +kernel)) (fun _ _ _ _ _ => pg_name (i := 4) c_shortened_basis.nd rfl (Or.inl rfl)) (fun _ _ _ _ _ => pts_nil) (fun _ _ _ _ _ => (pe_op n_add (pe_op n_shl (pe_op n_and (pv 4) (pv 3)) (pv 2)) (pv 4)))) pa_nil)) (pa_cons (pv 2) pa_nil)))))), ?_⟩
    have big : ∀ {v : Nat}, v < 2 ^ n → v < 2 ^ 64 := fun h => Nat.lt_of_lt_of_le h (Nat.pow_le_pow_right (by decide) (by omega))
    refine ⟨_, rfl, n, rfl, hn, _, rfl, _, v, rfl, rfl, ?_⟩
    dsimp only [gName, tRet, tCall, tCons, tNil]
    refine lcTN (K := K) (a := a) (B := B) (fun _ => true) (fun b => wN ((b &&& ((2 ^ n - 1) ^^^ v)) <<< n ^^^ b)) (fun R r => ⟨_, rfl, r⟩) ha (by omega) (fun x => rfl) (fun v hv H1 _ Q q => q) (fun b hb hp H1 e1 Q q => ?_) fun D H1 hD e1 h1 => ?_
    · refine ⟨_, rfl, _, rfl, b, _, rfl, rfl, _, rfl, _, n, rfl, rfl, ⟨big (Nat.lt_of_le_of_lt Nat.and_le_left (vB b hb)), by omega⟩, _, rfl, _, b, rfl, rfl, ?_⟩
      dsimp only
      rw [pair_add (vB b hb)]
      exact q H1 Ext.rfl'
    · rw [filter_yes, ← wL_map] at h1
      have z := pb_len_le (shortE B ((2 ^ n - 1) ^^^ v) n)
      unfold shortE at z
      rw [List.length_map] at z
      refine ⟨D, shortE B ((2 ^ n - 1) ^^^ v) n, rfl, .inl (SqL.of h1), ?_, fun t H2 e2 ht => ?_⟩
      · unfold shortE
        rw [List.length_map]
        omega
      · exact ⟨_, rfl, t, _, n, rfl, ht, by unfold shortE; omega, fun r H3 e3 hr3 => k r H3 ((e1.trans e2).trans e3) hr3⟩
theorem d_led_word (T : Tx K mg cR cT cM fM) : Def P w K mg base CX0 "led_word" 2 ["word", "sequence"] (spLedWord K) := by
  have d_spots_of := d_spots_of (P := P) (w := w) (base := base) T
  have d_word_by := d_word_by (P := P) (w := w) (base := base) T
  refine T.f_led_word.mk c_led_word (fun _ _ _ _ _ _ us hl => match us, hl with | [_, _], _ => rfl) (fun vs H Q E h => ?_) (fun f cdv A outer s H vs Q E hr h => ?_)
  · obtain ⟨a, S, v, rfl, _⟩ := h
    rfl
  · obtain ⟨a, S, v, rfl, ha, hl, hv, hj, k⟩ := h
    refine ⟨_, (pss_one (ps_ret (pe_def d_word_by (hr.mono (by decide)) (pa_cons (pe_lc (own := [("place", 2)]) (g := gName 2) rfl c_led_word.nd (pi_list (pe_def d_spots_of (hr.mono (by decide)) (pa_cons (pv 0) pa_nil))) (blkOk_by (own := [("place", 2)]) (N := ["word", "sequence", "place"]) (sc := defScope s_led_word) (by decide +kernel)) (fun _ _ _ _ _ => pg_name (i := 2) c_led_word.nd rfl (Or.inl rfl)) (fun _ _ _ _ _ => pts_nil) (fun _ _ _ _ _ => (pe_ix (r := rIxL K) ix_list (pv 1) (pv 2) (fun _ _ => rfl)))) pa_nil)))), ?_⟩
    have lo := spots_low hv hl
    have at_ : ∀ b, b ∈ (List.range 24).filter (fun k => v.testBit k) → b < S.length := fun b hb => by
      rw [lo] at hb
      exact List.mem_range.mp (List.mem_filter.mp hb).1
    dsimp only [tRet, tCall, tCons, tNil]
    refine lcLW (K := K) (B := (List.range 24).filter fun k => v.testBit k) (fun _ => true) (fun b => wN (S.getD b 0)) (fun R r => ⟨_, rfl, v, rfl, fun l H1 e1 h1 => r l H1 e1 h1⟩) ?_ (fun x => rfl) (fun b hb H1 _ Q q => q) (fun b hb hp H1 e1 Q q => ?_) fun D H1 hD e1 h1 => ?_
    · exact Nat.le_trans (List.length_filter_le _ _) (by rw [List.length_range]; decide)
    · have hb' := at_ b hb
      refine ⟨_, rfl, _, rfl, a, _, b, _, rfl, rfl, ha.ext e1, atI_nat (wL_get (b := S.getD b 0) ?_), q H1 Ext.rfl'⟩
      rw [List.getD_eq_getElem?_getD, List.getElem?_eq_getElem hb']
      rfl
    · rw [filter_yes, ← wL_map (fun b => S.getD b 0)] at h1
      refine ⟨D, _, rfl, SqL.of h1, ?_, fun x hx => ?_, fun H2 e2 => ?_⟩
      · rw [List.length_map]
        exact Nat.le_trans (List.length_filter_le _ _) (by rw [List.length_range]; decide)
      · obtain ⟨b, hb, rfl⟩ := List.mem_map.mp hx
        have hb' := at_ b hb
        refine hj _ ?_
        rw [List.getD_eq_getElem?_getD, List.getElem?_eq_getElem hb']
        exact List.getElem_mem hb'
      · rw [List.map_map, lo]
        have z := led_sum S v S.length
        have e : (((List.range S.length).filter fun k => v.testBit k).map ((fun s => 2 ^ s) ∘ fun b => S.getD b 0)).sum = led S v := z
        rw [e]
        exact k H2 (e1.trans e2)
theorem up_one : ∀ {l k : List Int}, l.Perm k → l.Pairwise (· ≤ ·) → k.Pairwise (· ≤ ·) → l = k
  | [], k, p, _, _ => p.nil_eq
  | a :: l, [], p, _, _ => absurd p.symm.nil_eq (by simp)
  | a :: l, b :: k, p, h1, h2 => by
    have e : a = b := by
      have ma : a ∈ b :: k := p.mem_iff.mp List.mem_cons_self
      have mb : b ∈ a :: l := p.mem_iff.mpr List.mem_cons_self
      have q1 : b ≤ a := by
        rcases List.mem_cons.mp ma with e | m
        · omega
        · exact (List.pairwise_cons.mp h2).1 a m
      have q2 : a ≤ b := by
        rcases List.mem_cons.mp mb with e | m
        · omega
        · exact (List.pairwise_cons.mp h1).1 b m
      omega
    subst e
    rw [up_one (List.Perm.cons_inv p) (List.pairwise_cons.mp h1).2 (List.pairwise_cons.mp h2).2]
theorem range_up (n : Nat) : ((List.range n).map fun i : Nat => (i : Int)).Pairwise (· ≤ ·) := by
  rw [List.pairwise_map]
  exact List.pairwise_lt_range.imp fun h => by
    have : ((_ : Nat) : Int) < ((_ : Nat) : Int) := Int.ofNat_lt.mpr h
    omega
theorem rg_words (n : Nat) : rgV 0 (n : Int) = wL (List.range n) := by
  unfold rgV
  rw [Int.sub_zero, Int.toNat_natCast]
  refine List.map_congr_left fun i _ => ?_
  rw [Int.zero_add]
theorem d_is_sequence (T : Tx K mg cR cT cM fM) : Def P w K mg base CX0 "is_sequence" 3 ["value", "places"] spIsSeq := by
  have d_is_list := d_is_list (P := P) (w := w) (base := base) T
  have d_is_count := d_is_count (P := P) (w := w) (base := base) T
  refine T.f_is_sequence.mk c_is_sequence (fun _ _ _ _ _ _ us hl => match us, hl with | [_, _], _ => rfl) (fun vs H Q E h => ?_) (fun f cdv A outer s H vs Q E hr h => ?_)
  · obtain ⟨a, S, n, rfl, _⟩ := h
    rfl
  · obtain ⟨a, S, n, rfl, ha, hp, hn, k⟩ := h
    refine ⟨_, (pss_cons (ps_if (PW.pt (pw_or (pt_not (pt_val (pe_def d_is_list (hr.mono (by decide)) (pa_cons (pv 0) pa_nil)))) (pw_or (pt_cmpR n_ne (pe_callB call_len_seq rfl T.b_len boot_len (pa_cons (pv 0) pa_nil)) (pv 1) (nomark _)) (pw_or1 (pt_not (pt_val (pe_callB (cr_all rfl) rfl T.b_all boot_all (pa_cons (pe_lc (own := [("place", 2)]) (g := gName 2) rfl c_is_sequence.nd (pi_list (pv 0)) (blkOk_by (own := [("place", 2)]) (N := ["value", "places", "place"]) (sc := defScope s_is_sequence) (by decide +kernel)) (fun _ _ _ _ _ => pg_name (i := 2) c_is_sequence.nd rfl (Or.inl rfl)) (fun _ _ _ _ _ => pts_nil) (fun _ _ _ _ _ => (pe_def d_is_count (hr.mono (by decide)) (pa_cons (pv 2) pa_nil)))) pa_nil)))))))) (pss_one (ps_ret pe_bl)) pss_nil)
    (pss_one (ps_ret (pe_cmpR (op_eqD hr.units) (pe_callB cr_sortedI rfl T.b_sorted boot_sorted (pa_cons (pv 0) pa_nil)) (pe_listRg rfl rfl T.b_list (prg_1 rfl T.b_range (pv 1))) (nomark _))))), ?_⟩
    have hl : S.length = n := by rw [hp.length_eq, List.length_range]
    refine ⟨_, rfl, a, _, rfl, ha, fun H1 e1 => ⟨true, rfl, iteF ?_⟩⟩
    refine ⟨_, rfl, a, _, rfl, .inl (SqL.of (e1 _ _ ha)), _, rfl, S.length, n, by rw [wL_len], rfl, _, rfl, no_ (by rw [hl, decide_eq_true rfl]; rfl) ?_⟩
    dsimp only [tNot, tB, tCB, tCons, tNil]
    refine lcLN (K := K) (a := a) (B := S) (fun _ => true) (fun b => .bl true) (fun R r => ⟨_, rfl, r⟩) (SqL.of (e1 _ _ ha)) (by omega) (fun x => rfl) (fun v hv H1 _ Q q => q) (fun b hb hp H2 e2 Q q => ⟨_, rfl, b, rfl, q H2 Ext.rfl'⟩) fun D H2 hD e2 h2 => ?_
    have eb : S.map (fun _ => V.bl true) = (S.map fun _ => true).map V.bl := by
      rw [List.map_map]
      rfl
    have all_ : (S.map fun _ => true).all id = true := by
      rw [List.all_eq_true]
      intro x hx
      obtain ⟨b, _, rfl⟩ := List.mem_map.mp hx
      rfl
    rw [filter_yes, eb] at h2
    refine ⟨D, _, rfl, SqL.of h2, true, by rw [all_], iteF ?_⟩
    have ha2 := (e1.trans e2) _ _ ha
    rw [ints_of] at ha2
    refine ⟨_, rfl, a, _, rfl, SqL.of ha2, fun ns' p hpn hup hpf => ?_⟩
    have es : ns' = (List.range n).map fun i : Nat => (i : Int) := up_one (hpn.trans (hp.map _)) hup (range_up n)
    subst es
    refine ⟨_, rfl, n, rfl, RgOk.of_le (by decide) (by omega) (by decide) (by omega), fun q hq => ?_⟩
    have hp2 : upd (upd H2 p (.lst (((List.range n).map fun i : Nat => (i : Int)).map V.int))) q (.lst (rgV 0 (n : Int))) p = some (.lst (wL (List.range n))) := by
      rw [upd_ne (ne_of_none upd_same hq), upd_same, ← ints_of]
    refine ⟨_, _, dp_l (SqL.of hp2), dp_l (SqL.of (by rw [upd_same, rg_words])), sh_l _, sh_l _, ?_⟩
    rw [eq_self (sh_l _)]
    exact k _ (((e1.trans e2).upd' hpf).upd' hq)
end
end OC

namespace OC
open PySem PySem.Spec PyProof.Rows L2
/-! ## the six functions of two rooms -/
def spSum (K : PySem.W.Frag) (cR : Addr) : L2.Sp := fun vs H Q _ => ∃ (p q : Addr) (n : Nat) (B C : List Nat), vs = [.ref p, .ref q] ∧ RoomAt K cR H p n B ∧ RoomAt K cR H q n C ∧ B.length ≤ 40 ∧ C.length ≤ 40 ∧ ∀ r H', Ext H H' → RoomAt K cR H' r n (pb (B ++ C)) → Q (.ref r) H'
def spCommon (K : PySem.W.Frag) (cR : Addr) : L2.Sp := fun vs H Q _ => ∃ (p q : Addr) (n : Nat) (B C : List Nat), vs = [.ref p, .ref q] ∧ RoomAt K cR H p n B ∧ RoomAt K cR H q n C ∧ B.length ≤ 40 ∧ C.length ≤ 40 ∧ n ≤ 24 ∧ (∀ v ∈ B, v < 2 ^ n) ∧ (∀ v ∈ C, v < 2 ^ n) ∧
  ∀ r H', Ext H H' → RoomAt K cR H' r n (below (pb (commonE B C n)) n) → Q (.ref r) H'
def spLies (K : PySem.W.Frag) (cR : Addr) : L2.Sp := fun vs H Q _ => ∃ (p q : Addr) (n : Nat) (B C : List Nat), vs = [.ref p, .ref q] ∧ RoomAt K cR H p n B ∧ RoomAt K cR H q n C ∧ B.length ≤ 100 ∧ ∀ H', Ext H H' → Q (.bl (B.all fun b => decide (leftOf C b = 0))) H'
def spShort (K : PySem.W.Frag) (cR : Addr) : L2.Sp := fun vs H Q _ => ∃ (p : Addr) (n : Nat) (B : List Nat) (v : Nat), vs = [.ref p, wN v] ∧ RoomAt K cR H p n B ∧ B.length ≤ 40 ∧ n ≤ 24 ∧ v < 2 ^ n ∧ (∀ b ∈ B, b < 2 ^ n) ∧
  ∀ r H', Ext H H' → RoomAt K cR H' r n (below (pb (shortE B ((2 ^ n - 1) ^^^ v) n)) n) → Q (.ref r) H'
def spCut (K : PySem.W.Frag) (cR : Addr) : L2.Sp := fun vs H Q _ => ∃ (p : Addr) (n : Nat) (B : List Nat) (v : Nat), vs = [.ref p, wN v] ∧ RoomAt K cR H p n B ∧ B.length ≤ 40 ∧ v < 2 ^ n ∧
  ∀ r H', Ext H H' → RoomAt K cR H' r n (pb (B.map fun b => b &&& v)) → Q (.ref r) H'
def spExch (K : PySem.W.Frag) (cR : Addr) : L2.Sp := fun vs H Q _ => ∃ (p a : Addr) (n : Nat) (B s : List Nat), vs = [.ref p, .ref a] ∧ RoomAt K cR H p n B ∧ H a = some (.lst (wL s)) ∧ s.Perm (List.range n) ∧ n ≤ 24 ∧ B.length ≤ 40 ∧ (∀ b ∈ B, b < 2 ^ n) ∧
  ∀ r H', Ext H H' → RoomAt K cR H' r n (pb (B.map (led s))) → Q (.ref r) H'
section
variable {P : Program} {w : World} {K : PySem.W.Frag} {mg : Str → Option Value} {base : Heap} {cR cT cM fM : Addr}
theorem pe_fldK {X : Cx} {K : PySem.W.Frag} {e : Expr} {f : Str} {pos : Pos} {ta : TE} (hK : X.K = K) (he : PE X e ta) (hb : attributeBase e f X.env (eval e X.env) = eval e X.env) : PE X (.Attribute e f pos) (tFld K ta f) := by
  subst hK
  exact pe_fld he hb
theorem pb_nil' : pb ([] : List Nat) = [] := rfl
theorem d_sum_room (T : Tx K mg cR cT cM fM) : Def P w K mg base CX0 "sum_room" 9 ["room", "other"] (spSum K cR) := by
  have d_want_alike := d_want_alike (P := P) (w := w) (base := base) T
  have d_room_of := d_room_of (P := P) (w := w) (base := base) T
  refine T.f_sum_room.mk c_sum_room (fun _ _ _ _ _ _ us hl => match us, hl with | [_, _], _ => rfl) (fun vs H Q E h => ?_) (fun f cdv A outer s H vs Q E hr h => ?_)
  · obtain ⟨p, q, n, B, C, rfl, _⟩ := h
    rfl
  · obtain ⟨p, q, n, B, C, rfl, hp, hq, lB, lC, k⟩ := h
    refine ⟨_, (pss_cons (ps_expr (pe_def d_want_alike (hr.mono (by decide)) (pa_cons (pv 0) (pa_cons (pv 1) pa_nil))))
    (pss_one (ps_ret (pe_def d_room_of (hr.mono (by decide)) (pa_cons (pe_fld (pv 0) rfl) (pa_cons (pe_op op_catA (pe_fld (pv 0) rfl) (pe_fld (pv 1) rfl)) pa_nil)))))), ?_⟩
    refine ⟨_, rfl, _, rfl, p, q, n, B, C, rfl, hp, hq, ?_⟩
    obtain ⟨dx, b, hp, hb⟩ := hp
    obtain ⟨dy, c, hq, hc⟩ := hq
    refine ⟨_, rfl, p, cR, dx, _, _, rfl, hp, T.clR, T.nRp, rm_p n b, _, rfl, p, cR, dx, _, _, rfl, hp, T.clR, T.nRb, rm_b n b, _, rfl, q, cR, dy, _, _, rfl, hq, T.clR, T.nRb, rm_b n c, ?_⟩
    have l' : (B ++ C).length ≤ 100 := by
      rw [List.length_append]
      omega
    refine ⟨b, c, _, _, rfl, rfl, hb, hc, ?_, fun z => ?_, fun z1 z2 => ?_, fun z1 z2 t ht => ?_⟩
    · refine small ?_
      rw [wL_len, wL_len]
      omega
    · have zB : B = [] := List.map_eq_nil_iff.mp z
      subst zB
      exact ⟨n, c, C, rfl, .inr hc, by omega, fun r H1 e1 h1 => k r H1 e1 h1⟩
    · have zC : C = [] := List.map_eq_nil_iff.mp z2
      subst zC
      exact ⟨n, b, B, rfl, .inr hb, by omega, fun r H1 e1 h1 => k r H1 e1 (by rw [List.append_nil]; exact h1)⟩
    · exact ⟨n, t, B ++ C, rfl, .inr (SqT.of (by rw [upd_same, wL_app])), l', fun r H1 e1 h1 => k r H1 ((Ext.upd ht).trans e1) h1⟩
theorem d_common_room (T : Tx K mg cR cT cM fM) : Def P w K mg base CX0 "common_room" 9 ["room", "other"] (spCommon K cR) := by
  have d_want_alike := d_want_alike (P := P) (w := w) (base := base) T
  have d_room_by := d_room_by (P := P) (w := w) (base := base) T
  have d_common_basis := d_common_basis (P := P) (w := w) (base := base) T
  refine T.f_common_room.mk c_common_room (fun _ _ _ _ _ _ us hl => match us, hl with | [_, _], _ => rfl) (fun vs H Q E h => ?_) (fun f cdv A outer s H vs Q E hr h => ?_)
  · obtain ⟨p, q, n, B, C, rfl, _⟩ := h
    rfl
  · obtain ⟨p, q, n, B, C, rfl, hp, hq, lB, lC, hn, vB, vC, k⟩ := h
    refine ⟨_, (pss_cons (ps_expr (pe_def d_want_alike (hr.mono (by decide)) (pa_cons (pv 0) (pa_cons (pv 1) pa_nil))))
    (pss_one (ps_ret (pe_def d_room_by (hr.mono (by decide)) (pa_cons (pe_fld (pv 0) rfl) (pa_cons (pe_def d_common_basis (hr.mono (by decide)) (pa_cons (pe_fld (pv 0) rfl) (pa_cons (pe_fld (pv 1) rfl) (pa_cons (pe_fld (pv 0) rfl) pa_nil)))) pa_nil)))))), ?_⟩
    refine ⟨_, rfl, _, rfl, p, q, n, B, C, rfl, hp, hq, ?_⟩
    obtain ⟨dx, b, hp, hb⟩ := hp
    obtain ⟨dy, c, hq, hc⟩ := hq
    refine ⟨_, rfl, p, cR, dx, _, _, rfl, hp, T.clR, T.nRp, rm_p n b, _, rfl, p, cR, dx, _, _, rfl, hp, T.clR, T.nRb, rm_b n b, _, rfl, q, cR, dy, _, _, rfl, hq, T.clR, T.nRb, rm_b n c, _, rfl, p, cR, dx, _, _, rfl, hp, T.clR, T.nRp, rm_p n b, ?_⟩
    exact ⟨b, c, B, C, n, rfl, hb, hc, lB, lC, hn, vB, vC, fun t H1 e1 ht => ⟨n, t, _, rfl, ht, fun r H2 e2 hr2 => k r H2 (e1.trans e2) hr2⟩⟩
theorem d_lies_in (T : Tx K mg cR cT cM fM) : Def P w K mg base CX0 "lies_in" 3 ["room", "other"] (spLies K cR) := by
  have d_want_alike := d_want_alike (P := P) (w := w) (base := base) T
  have d_left_of := d_left_of (P := P) (w := w) (base := base) T
  refine T.f_lies_in.mk c_lies_in (fun _ _ _ _ _ _ us hl => match us, hl with | [_, _], _ => rfl) (fun vs H Q E h => ?_) (fun f cdv A outer s H vs Q E hr h => ?_)
  · obtain ⟨p, q, n, B, C, rfl, _⟩ := h
    rfl
  · obtain ⟨p, q0, n, B, C, rfl, hp, hq, lB, k⟩ := h
    refine ⟨_, (pss_cons (ps_expr (pe_def d_want_alike (hr.mono (by decide)) (pa_cons (pv 0) (pa_cons (pv 1) pa_nil))))
    (pss_one (ps_ret (pe_callB (cr_all rfl) rfl T.b_all boot_all (pa_cons (pe_lc (own := [("word", 2)]) (g := gName 2) rfl c_lies_in.nd (pi_tup (pe_fldK (K := K) rfl (pv 0) rfl)) (blkOk_by (own := [("word", 2)]) (N := ["room", "other", "word"]) (sc := defScope s_lies_in) (by decide +kernel)) (fun _ _ _ _ _ => pg_name (i := 2) c_lies_in.nd rfl (Or.inl rfl)) (fun _ _ _ _ _ => pts_nil) (fun _ _ _ _ _ => (pe_cmpR n_eq (pe_def d_left_of (hr.mono (by decide)) (pa_cons (pe_fldK (K := K) rfl (pv 1) rfl) (pa_cons (pv 2) pa_nil))) (pe_n 0) (nomark _)))) pa_nil))))), ?_⟩
    refine ⟨_, rfl, _, rfl, p, q0, n, B, C, rfl, hp, hq, ?_⟩
    obtain ⟨dx, b, hp, hb⟩ := hp
    obtain ⟨dy, c, hq, hc⟩ := hq
    dsimp only [tRet, tCB, tCons, tNil]
    refine lcTN (K := K) (a := b) (B := B) (fun _ => true) (fun b => .bl (decide (leftOf C b = 0))) (fun R r => ⟨_, rfl, p, cR, dx, _, _, rfl, hp, T.clR, T.nRb, rm_b n b, r⟩) hb (by omega) (fun x => rfl) (fun v hv H1 _ Q q => q) (fun v hv hpp H1 e1 Q q => ?_) fun D H1 hD e1 h1 => ?_
    · exact ⟨_, rfl, q0, cR, dy, _, _, rfl, e1 _ _ hq, T.clR, T.nRb, rm_b n c, _, rfl, c, C, v, rfl, hc.ext e1, _, 0, rfl, rfl, q H1 Ext.rfl'⟩
    · have eb : B.map (fun b => V.bl (decide (leftOf C b = 0))) = (B.map fun b => decide (leftOf C b = 0)).map V.bl := by
        rw [List.map_map]
        rfl
      rw [filter_yes, eb] at h1
      refine ⟨D, _, rfl, SqL.of h1, ?_⟩
      rw [List.all_map]
      exact k H1 e1
theorem d_shortened (T : Tx K mg cR cT cM fM) : Def P w K mg base CX0 "shortened" 9 ["room", "word"] (spShort K cR) := by
  have d_want_room := d_want_room (P := P) (w := w) (base := base) T
  have d_want_word := d_want_word (P := P) (w := w) (base := base) T
  have d_room_by := d_room_by (P := P) (w := w) (base := base) T
  have d_shortened_basis := d_shortened_basis (P := P) (w := w) (base := base) T
  refine T.f_shortened.mk c_shortened (fun _ _ _ _ _ _ us hl => match us, hl with | [_, _], _ => rfl) (fun vs H Q E h => ?_) (fun f cdv A outer s H vs Q E hr h => ?_)
  · obtain ⟨p, n, B, v, rfl, _⟩ := h
    rfl
  · obtain ⟨p, n, B, v, rfl, hp, lB, hn, hv, vB, k⟩ := h
    refine ⟨_, (pss_cons (ps_expr (pe_def d_want_room (hr.mono (by decide)) (pa_cons (pv 0) pa_nil)))
    (pss_cons (ps_expr (pe_def d_want_word (hr.mono (by decide)) (pa_cons (pv 0) (pa_cons (pv 1) pa_nil))))
    (pss_one (ps_ret (pe_def d_room_by (hr.mono (by decide)) (pa_cons (pe_fld (pv 0) rfl) (pa_cons (pe_def d_shortened_basis (hr.mono (by decide)) (pa_cons (pe_fld (pv 0) rfl) (pa_cons (pv 1) (pa_cons (pe_fld (pv 0) rfl) pa_nil)))) pa_nil))))))), ?_⟩
    refine ⟨_, rfl, p, n, B, rfl, hp, _, rfl, _, rfl, p, n, B, v, rfl, hp, hv, ?_⟩
    obtain ⟨dx, b, hp, hb⟩ := hp
    refine ⟨_, rfl, p, cR, dx, _, _, rfl, hp, T.clR, T.nRp, rm_p n b, _, rfl, p, cR, dx, _, _, rfl, hp, T.clR, T.nRb, rm_b n b, _, rfl, _, rfl, p, cR, dx, _, _, rfl, hp, T.clR, T.nRp, rm_p n b, ?_⟩
    exact ⟨b, B, v, n, rfl, hb, lB, hn, vB, fun t H1 e1 ht => ⟨n, t, _, rfl, ht, fun r H2 e2 hr2 => k r H2 (e1.trans e2) hr2⟩⟩
theorem d_cut (T : Tx K mg cR cT cM fM) : Def P w K mg base CX0 "cut" 9 ["room", "word"] (spCut K cR) := by
  have d_want_room := d_want_room (P := P) (w := w) (base := base) T
  have d_want_word := d_want_word (P := P) (w := w) (base := base) T
  have d_room_of := d_room_of (P := P) (w := w) (base := base) T
  refine T.f_cut.mk c_cut (fun _ _ _ _ _ _ us hl => match us, hl with | [_, _], _ => rfl) (fun vs H Q E h => ?_) (fun f cdv A outer s H vs Q E hr h => ?_)
  · obtain ⟨p, n, B, v, rfl, _⟩ := h
    rfl
  · obtain ⟨p, n, B, v, rfl, hp, lB, hv, k⟩ := h
    refine ⟨_, (pss_cons (ps_expr (pe_def d_want_room (hr.mono (by decide)) (pa_cons (pv 0) pa_nil)))
    (pss_cons (ps_expr (pe_def d_want_word (hr.mono (by decide)) (pa_cons (pv 0) (pa_cons (pv 1) pa_nil))))
    (pss_one (ps_ret (pe_def d_room_of (hr.mono (by decide)) (pa_cons (pe_fld (pv 0) rfl) (pa_cons (pe_lc (own := [("one", 2)]) (g := gName 2) rfl c_cut.nd (pi_tup (pe_fld (pv 0) rfl)) (blkOk_by (own := [("one", 2)]) (N := ["room", "word", "one"]) (sc := defScope s_cut) (by decide +kernel)) (fun _ _ _ _ _ => pg_name (i := 2) c_cut.nd rfl (Or.inl rfl)) (fun _ _ _ _ _ => pts_nil) (fun _ _ _ _ _ => (pe_op n_and (pv 2) (pv 1)))) pa_nil))))))), ?_⟩
    refine ⟨_, rfl, p, n, B, rfl, hp, _, rfl, _, rfl, p, n, B, v, rfl, hp, hv, ?_⟩
    obtain ⟨dx, b, hp, hb⟩ := hp
    refine ⟨_, rfl, p, cR, dx, _, _, rfl, hp, T.clR, T.nRp, rm_p n b, ?_⟩
    dsimp only [gName, tRet, tCall, tCons, tNil]
    refine lcTN (K := K) (a := b) (B := B) (fun _ => true) (fun b => wN (b &&& v)) (fun R r => ⟨_, rfl, p, cR, dx, _, _, rfl, hp, T.clR, T.nRb, rm_b n b, r⟩) hb (by omega) (fun x => rfl) (fun v hv H1 _ Q q => q) (fun u hu hpp H1 e1 Q q => ⟨_, rfl, _, rfl, u, v, rfl, rfl, q H1 Ext.rfl'⟩) fun D H1 hD e1 h1 => ?_
    rw [filter_yes, ← wL_map] at h1
    exact ⟨n, D, _, rfl, .inl (SqL.of h1), by rw [List.length_map]; omega, fun r H2 e2 hr2 => k r H2 (e1.trans e2) hr2⟩
theorem d_exchanged (T : Tx K mg cR cT cM fM) : Def P w K mg base CX0 "exchanged" 9 ["room", "sequence"] (spExch K cR) := by
  have d_want_room := d_want_room (P := P) (w := w) (base := base) T
  have d_is_sequence := d_is_sequence (P := P) (w := w) (base := base) T
  have d_led_word := d_led_word (P := P) (w := w) (base := base) T
  have d_room_of := d_room_of (P := P) (w := w) (base := base) T
  refine T.f_exchanged.mk c_exchanged (fun _ _ _ _ _ _ us hl => match us, hl with | [_, _], _ => rfl) (fun vs H Q E h => ?_) (fun f cdv A outer s H vs Q E hr h => ?_)
  · obtain ⟨p, a, n, B, S, rfl, _⟩ := h
    rfl
  · obtain ⟨p, a, n, B, S, rfl, hp, ha, perm, hn, lB, vB, k⟩ := h
    have lS : S.length = n := by rw [perm.length_eq, List.length_range]
    refine ⟨_, (pss_cons (ps_expr (pe_def d_want_room (hr.mono (by decide)) (pa_cons (pv 0) pa_nil)))
    (pss_cons (ps_if (pt_not (pt_val (pe_def d_is_sequence (hr.mono (by decide)) (pa_cons (pv 1) (pa_cons (pe_fld (pv 0) rfl) pa_nil))))) (pss_one ps_never) pss_nil)
    (pss_one (ps_ret (pe_def d_room_of (hr.mono (by decide)) (pa_cons (pe_fld (pv 0) rfl) (pa_cons (pe_lc (own := [("word", 2)]) (g := gName 2) rfl c_exchanged.nd (pi_tup (pe_fld (pv 0) rfl)) (blkOk_by (own := [("word", 2)]) (N := ["room", "sequence", "word"]) (sc := defScope s_exchanged) (by decide +kernel)) (fun _ _ _ _ _ => pg_name (i := 2) c_exchanged.nd rfl (Or.inl rfl)) (fun _ _ _ _ _ => pts_nil) (fun _ _ _ _ _ => (pe_def d_led_word (hr.mono (by decide)) (pa_cons (pv 2) (pa_cons (pv 1) pa_nil))))) pa_nil))))))), ?_⟩
    refine ⟨_, rfl, p, n, B, rfl, hp, ?_⟩
    obtain ⟨dx, b, hp, hb⟩ := hp
    refine ⟨_, rfl, _, rfl, p, cR, dx, _, _, rfl, hp, T.clR, T.nRp, rm_p n b, a, S, n, rfl, ha, perm, hn, fun H1 e1 => ⟨true, rfl, iteF ?_⟩⟩
    refine ⟨_, rfl, p, cR, dx, _, _, rfl, e1 _ _ hp, T.clR, T.nRp, rm_p n b, ?_⟩
    dsimp only [gName, tRet, tCall, tCons, tNil]
    refine lcTN (K := K) (a := b) (B := B) (fun _ => true) (fun b => wN (led S b)) (fun R r => ⟨_, rfl, p, cR, dx, _, _, rfl, e1 _ _ hp, T.clR, T.nRb, rm_b n b, r⟩) (hb.ext e1) (by omega) (fun x => rfl) (fun v hv H2 _ Q q => q) (fun u hu hpp H2 e2 Q q => ?_) fun D H2 hD e2 h2 => ?_
    · refine ⟨_, rfl, _, rfl, a, S, u, rfl, SqL.of ((e1.trans e2) _ _ ha), by omega, by rw [lS]; exact vB u hu, fun j hj => ?_, fun H3 e3 => q H3 e3⟩
      have := List.mem_range.mp (perm.mem_iff.mp hj)
      omega
    · rw [filter_yes, ← wL_map] at h2
      exact ⟨n, D, _, rfl, .inl (SqL.of h2), by rw [List.length_map]; omega, fun r H3 e3 hr3 => k r H3 ((e1.trans e2).trans e3) hr3⟩
end
end OC

namespace OC
open PySem PySem.Spec PyProof.Rows L2
/-! ## the pot of the law -/
def PotAt (H : Hp) (p : Addr) : Prop := ∃ a b : Nat, H p = some (.lst [wN a, wN b]) ∧ b < 2147483648
/-- all that was there is there, the pot aside; the pot is a pot -/
structure Stp (p : Addr) (H H' : Hp) : Prop where
  keep : ∀ a o, a ≠ p → H a = some o → H' a = some o
  pot : PotAt H' p
section
variable {p a : Addr} {H H' H'' : Hp}
theorem PotAt.ext (h : PotAt H p) (e : Ext H H') : PotAt H' p := by
  obtain ⟨a, b, h1, h2⟩ := h
  exact ⟨a, b, e _ _ h1, h2⟩
theorem Stp.rfl' (h : PotAt H p) : Stp p H H := ⟨fun _ _ _ h => h, h⟩
theorem Stp.trans (h : Stp p H H') (h' : Stp p H' H'') : Stp p H H'' := ⟨fun a o n z => h'.keep a o n (h.keep a o n z), h'.pot⟩
theorem Stp.ext (h : Stp p H H') (e : Ext H' H'') : Stp p H H'' := ⟨fun a o n z => e a o (h.keep a o n z), h.pot.ext e⟩
theorem Stp.of (h : PotAt H p) (e : Ext H H') : Stp p H H' := (Stp.rfl' h).ext e
/-- a thing that H does not know may change -/
theorem Stp.own {q : Addr} {o : HO} (h : Stp p H H') (hq : H q = none) (n : q ≠ p) : Stp p H (upd H' q o) :=
  ⟨fun a u na z => by rw [upd_ne (ne_of_none z hq)]; exact h.keep a u na z, by
    obtain ⟨a, b, h1, h2⟩ := h.pot
    exact ⟨a, b, by rw [upd_ne (Ne.symm n)]; exact h1, h2⟩⟩
theorem PotAt.ne_none (h : PotAt H p) {q : Addr} (hq : H q = none) : q ≠ p := by
  obtain ⟨a, b, h1, h2⟩ := h
  exact Ne.symm (ne_of_none h1 hq)
/-- a list that is not the pot -/
def LsAt (p : Addr) (H : Hp) (l : Addr) (ws : List Nat) : Prop := l ≠ p ∧ H l = some (.lst (wL ws))
theorem LsAt.stp {l : Addr} {ws : List Nat} (h : LsAt p H l ws) (e : Stp p H H') : LsAt p H' l ws := ⟨h.1, e.keep _ _ h.1 h.2⟩
theorem LsAt.ext {l : Addr} {ws : List Nat} (h : LsAt p H l ws) (e : Ext H H') : LsAt p H' l ws := ⟨h.1, e _ _ h.2⟩
end
theorem erase_map : ∀ (l : List Nat) (d : Nat), (l.map fun n : Nat => wN n).eraseIdx d = (l.eraseIdx d).map fun n : Nat => wN n
  | [], _ => rfl
  | _ :: _, 0 => rfl
  | a :: l, d + 1 => by
    show wN a :: (l.map fun n : Nat => wN n).eraseIdx d = wN a :: (l.eraseIdx d).map fun n : Nat => wN n
    rw [erase_map l d]
theorem erase_pm : ∀ (l : List Nat) (i y : Nat), l[i]? = some y → (y :: l.eraseIdx i).Perm l
  | [], i, y, e => nomatch e
  | a :: l, 0, y, e => by
    have q : a = y := Option.some.inj e
    subst q
    exact List.Perm.refl _
  | a :: l, i + 1, y, e => (List.Perm.swap a y (l.eraseIdx i)).trans ((erase_pm l i y e).cons a)
def spDraw : L2.Sp := fun vs H Q _ => ∃ (p : Addr) (m : Nat), vs = [.ref p, wN m] ∧ 1 ≤ m ∧ m ≤ 16777216 ∧ PotAt H p ∧ ∀ d H', d < m → Stp p H H' → Q (wN d) H'
def spPot (K : PySem.W.Frag) : L2.Sp := fun vs H Q _ => ∃ (a : Addr) (xs : List Int), vs = [.ref a, wN 0] ∧ SqL K H a (xs.map V.int) ∧ ∀ p H', PotAt H' p → Q (.ref p) H'
def spLWords : L2.Sp := fun vs H Q _ => ∃ (p : Addr) (n m : Nat), vs = [.ref p, wN n, wN m] ∧ n ≤ 24 ∧ m ≤ 100 ∧ PotAt H p ∧ ∀ l ws H', Stp p H H' → LsAt p H' l ws → ws.length = m → (∀ v ∈ ws, v < 2 ^ n) → Q (.ref l) H'
def spMixed : L2.Sp := fun vs H Q _ => ∃ (p a : Addr) (ws : List Nat), vs = [.ref p, .ref a] ∧ H a = some (.lst (wL ws)) ∧ ws.length ≤ 100 ∧ PotAt H p ∧ ∀ l zs H', Stp p H H' → LsAt p H' l zs → zs.Perm ws → Q (.ref l) H'
def spLed : L2.Sp := fun vs H Q _ => ∃ (a : Addr) (s : List Nat) (v : Nat), vs = [wN v, .ref a] ∧ H a = some (.lst (wL s)) ∧ (∀ j ∈ s, j ≤ 1000) ∧ ∀ H', Ext H H' → Q (wN (led s v)) H'
def spHigh : L2.Sp := fun vs H Q _ => ∃ v : Nat, vs = [wN v] ∧ v ≠ 0 ∧ Q (wN v.log2) H
section
variable {P : Program} {w : World} {K : PySem.W.Frag} {mg : Str → Option Value} {base : Heap} {cR cT cM fM : Addr}
theorem d_law_draw (T : Tx K mg cR cT cM fM) : Def P w K mg base CX0 "_law_draw" 1 ["_law_pot_here", "_law_size"] spDraw := by
  refine T.f_law_draw.mk c_law_draw (fun _ _ _ _ _ _ us hl => match us, hl with | [_, _], _ => rfl) (fun vs H Q E h => ?_) (fun f cdv A outer s H vs Q E hr h => ?_)
  · obtain ⟨p, m, rfl, _⟩ := h
    rfl
  · obtain ⟨p, m, rfl, h1, h2, ⟨a, b, hp, hb⟩, k⟩ := h
    refine ⟨_, (pss_cons (ps_if (pt_cmpR n_gt (pe_ix (r := rIxL K) ix_list (pv 0) (pe_n 0) (fun _ _ => rfl)) (pe_n 0) (nomark _)) (pss_cons (ps_asg (pe_callB call_divmod rfl T.b_divmod boot_divmod (pa_cons (pe_ix (r := rIxL K) ix_list (pv 0) (pe_n 0) (fun _ _ => rfl)) (pa_cons (pv 1) pa_nil))) (pg_tup (by rfl) (pgs_cons (pg_sub (pv 0) (pe_n 0) set_list) (pgs_cons (pg_name (i := 2) c_law_draw.nd rfl (Or.inl rfl)) pgs_nil))))
    (pss_one (ps_ret (pv 2)))) pss_nil)
    (pss_cons (ps_asg (pe_op n_mod (pe_callTy call_int1 rfl T.b_int boot_int (pa_cons (pe_op n_add (pe_op n_mul (pe_ix (r := rIxL K) ix_list (pv 0) (pe_n 1) (fun _ _ => rfl)) (pe_n 48271)) (pe_n 18313)) pa_nil)) (pe_n 2147483587)) (pg_sub (pv 0) (pe_n 1) set_list))
    (pss_one (ps_ret (pe_op n_mod (pe_callTy call_int1 rfl T.b_int boot_int (pa_cons (pe_op n_div (pe_op n_mod (pe_callTy call_int1 rfl T.b_int boot_int (pa_cons (pe_op n_mul (pe_ix (r := rIxL K) ix_list (pv 0) (pe_n 1) (fun _ _ => rfl)) (pe_ix (r := rIxL K) ix_list (pv 0) (pe_n 1) (fun _ _ => rfl))) pa_nil)) (pe_n 2147483549)) (pe_n 13)) pa_nil)) (pv 1)))))), ?_⟩
    refine ⟨_, rfl, p, _, 0, _, rfl, rfl, SqL.of hp, rfl, a, 0, rfl, rfl, _, rfl, ?_⟩
    refine ite2 (fun _ => ?_) (fun _ => ?_)
    · refine ⟨_, rfl, p, _, 0, _, rfl, rfl, SqL.of hp, rfl, _, rfl, (a : Int), (m : Int), rfl, ⟨by omega, by omega⟩, fun t ht => ?_⟩
      have hp' : upd H t (.tup [.int ((a : Int) / (m : Int)), .int ((a : Int) % (m : Int))]) p = some (.lst [wN a, wN b]) := by
        rw [upd_ne (ne_of_none hp ht)]
        exact hp
      refine ⟨t, _, rfl, SqT.of upd_same, rfl, _, _, rfl, ⟨_, rfl, p, _, 0, 0, rfl, rfl, hp', rfl, ?_⟩⟩
      refine ⟨_, _, rfl, rfl, _, rfl, ?_⟩
      have e1 : V.int ((a : Int) % (m : Int)) = wN (a % m) := congrArg V.int (Int.natCast_emod a m).symm
      have e2 : V.int ((a : Int) / (m : Int)) = wN (a / m) := congrArg V.int (Int.natCast_ediv a m).symm
      rw [e1, e2]
      refine k (a % m) _ (Nat.mod_lt _ h1) ⟨fun c o nc hc => ?_, a / m, b, ?_, hb⟩
      · rw [upd_ne nc, upd_ne (ne_of_none hc ht)]
        exact hc
      · rw [upd_same]
        rfl
    · refine ⟨_, rfl, p, _, 1, _, rfl, rfl, SqL.of hp, rfl, b, 48271, rfl, rfl, by omega, _, 18313, rfl, rfl, .inl ⟨_, rfl, _, 2147483587, rfl, rfl, (by show 0 < 2147483587; omega), ?_⟩⟩
      obtain ⟨c, ec, l2⟩ : ∃ c, (b * 48271 + 18313) % 2147483587 = c ∧ c < 2147483648 := ⟨_, rfl, by omega⟩
      show gSub _ _ _ (wN ((b * 48271 + 18313) % 2147483587)) _ _ _
      rw [ec]
      refine ⟨_, rfl, p, _, 1, 1, rfl, rfl, hp, rfl, ?_⟩
      have hp' : upd H p (.lst ([wN a, wN b].set 1 (wN c))) p = some (.lst [wN a, wN c]) := by
        rw [upd_same]
        rfl
      refine ⟨_, rfl, p, _, 1, _, rfl, rfl, SqL.of hp', rfl, _, rfl, p, _, 1, _, rfl, rfl, SqL.of hp', rfl, c, c, rfl, rfl, by omega, .inl ⟨_, rfl, _, 2147483549, rfl, rfl, (by show 0 < 2147483549; omega), _, 13, rfl, rfl, (by show 0 < 13 ∧ 13 < 1073741824; omega), .inl ⟨_, rfl, _, rfl, _, m, rfl, rfl, h1, ?_⟩⟩⟩
      exact k _ _ (Nat.mod_lt _ h1) ⟨fun d o nd hd => by rw [upd_ne nd]; exact hd, a, c, hp', l2⟩
theorem d_law_pot (T : Tx K mg cR cT cM fM) : Def P w K mg base CX0 "_law_pot" 1 ["_law_script", "_law_k"] (spPot K) := by
  refine T.f_law_pot.mk c_law_pot (fun _ _ _ _ _ _ us hl => match us, hl with | [_, _], _ => rfl) (fun vs H Q E h => ?_) (fun f cdv A outer s H vs Q E hr h => ?_)
  · obtain ⟨a, xs, rfl, _⟩ := h
    rfl
  · obtain ⟨a, xs, rfl, ha, k⟩ := h
    refine ⟨_, (pss_cons (ps_set (i := 2) c_law_pot.nd rfl (Or.inl rfl) (pe_op n_add (pe_op n_mul (pe_n 701) (pv 1)) (pe_n 433)))
    (pss_cons (ps_if (pt_cmpR n_lt (pv 1) (pe_callB call_len_seq rfl T.b_len boot_len (pa_cons (pv 0) pa_nil)) (nomark _)) (pss_one (ps_set (i := 2) c_law_pot.nd rfl (Or.inl rfl) (pe_callB call_abs rfl T.b_abs boot_abs (pa_cons (pe_ix (r := rIxL K) ix_list (pv 0) (pv 1) (fun _ _ => rfl)) pa_nil)))) pss_nil)
    (pss_one (ps_ret (pe_lst (pa_cons (pe_callB (call_max2 rfl) rfl T.b_max boot_max (pa_cons (pe_n 0) (pa_cons (pe_op op_sub (pv 2) (pe_op op_pow (pe_n 10) (pe_n 18))) pa_nil))) (pa_cons (pe_op n_add (pe_op n_mod (pe_callTy call_int1 rfl T.b_int boot_int (pa_cons (pe_op n_add (pe_op n_mul (pe_op n_mod (pe_callTy call_int1 rfl T.b_int boot_int (pa_cons (pv 2) pa_nil)) (pe_n 2147483549)) (pe_op n_add (pe_op n_mul (pe_n 2) (pv 1)) (pe_n 373))) (pe_n 1109)) pa_nil)) (pe_n 2147483543)) (pe_n 1)) pa_nil))))))), ?_⟩
    have fin : ∀ (c : Nat) (x y : V) (z : Int) (p : Addr), x = .int (if z > 0 then z else 0) → y = wN (c % 2147483543 + 1) → Q (.ref p) (upd H p (.lst [x, y])) := fun c x y z p ex ey => by
      refine k p _ ⟨(if z > 0 then z else 0).toNat, c % 2147483543 + 1, ?_, by omega⟩
      rw [upd_same, ex, ey]
      have : (0 : Int) ≤ if z > 0 then z else 0 := by
        by_cases h : z > 0
        · rw [if_pos h]
          omega
        · rw [if_neg h]
          exact Int.le_refl 0
      show some (HO.lst [V.int (if z > 0 then z else 0), _]) = some (HO.lst [V.int (((if z > 0 then z else 0).toNat : Nat) : Int), _])
      rw [Int.toNat_of_nonneg this]
    refine ⟨_, rfl, 701, 0, rfl, rfl, (by show 701 ≤ 4294967296; omega), _, 433, rfl, rfl, ?_⟩
    refine ⟨_, rfl, _, rfl, a, _, rfl, .inl ha, 0, xs.length, rfl, by rw [List.length_map], _, rfl, ?_⟩
    refine ite2 (fun h => ?_) (fun _ => ?_)
    · obtain ⟨x, xs, rfl⟩ : ∃ x r, xs = x :: r := by
        cases xs with
        | nil => exact absurd (of_decide_eq_true h) (Nat.lt_irrefl 0)
        | cons x r => exact ⟨x, r, rfl⟩
      have eabs : V.int (if x < 0 then -x else x) = wN x.natAbs := by
        refine congrArg V.int ?_
        by_cases q : x < 0
        · rw [if_pos q]
          omega
        · rw [if_neg q]
          omega
      refine ⟨_, rfl, _, rfl, a, _, 0, _, rfl, rfl, ha, atI_nat (xs := (x :: xs).map V.int) (j := 0) (v := .int x) rfl, x, rfl, ?_⟩
      refine ⟨_, rfl, 10, 18, rfl, rfl, ⟨by decide, by decide, by decide⟩, _, _, rfl, rfl, 0, _, rfl, ?_⟩
      exact ⟨_, rfl, .inl ⟨_, rfl, x.natAbs, 2147483549, eabs, rfl, (by show 0 < 2147483549; omega), _, rfl, 2, 0, rfl, rfl, (by show 2 ≤ 4294967296; omega), _, 373, rfl, rfl, _, _, rfl, rfl, by omega, _, 1109, rfl, rfl, .inl ⟨_, rfl, _, 2147483543, rfl, rfl, (by show 0 < 2147483543; omega), _, 1, rfl, rfl, (by show 2 ≤ sizeLine; decide), fun p _ => fin _ _ _ _ p rfl rfl⟩⟩⟩
    · refine ⟨_, rfl, 10, 18, rfl, rfl, ⟨by decide, by decide, by decide⟩, _, _, rfl, rfl, 0, _, rfl, ?_⟩
      exact ⟨_, rfl, .inl ⟨_, rfl, _, 2147483549, rfl, rfl, (by show 0 < 2147483549; omega), _, rfl, 2, 0, rfl, rfl, (by show 2 ≤ 4294967296; omega), _, 373, rfl, rfl, _, _, rfl, rfl, by omega, _, 1109, rfl, rfl, .inl ⟨_, rfl, _, 2147483543, rfl, rfl, (by show 0 < 2147483543; omega), _, 1, rfl, rfl, (by show 2 ≤ sizeLine; decide), fun p _ => fin _ _ _ _ p rfl rfl⟩⟩⟩
theorem d_law_words (T : Tx K mg cR cT cM fM) : Def P w K mg base CX0 "_law_words" 2 ["_law_pot_here", "_law_places", "_law_many"] spLWords := by
  have d_law_draw := d_law_draw (P := P) (w := w) (base := base) T
  refine T.f_law_words.mk c_law_words (fun _ _ _ _ _ _ us hl => match us, hl with | [_, _, _], _ => rfl) (fun vs H Q E h => ?_) (fun f cdv A outer s H vs Q E hr h => ?_)
  · obtain ⟨p, n, m, rfl, _⟩ := h
    rfl
  · obtain ⟨p, n, m, rfl, hn, hm, hp, k⟩ := h
    refine ⟨_, (pss_cons (ps_set (i := 3) c_law_words.nd rfl (Or.inl rfl) (pe_lst pa_nil))
    (pss_cons (ps_for PassesOwn.never rfl (pi_range1 rfl T.b_range (pa_cons (pv 2) pa_nil)) (pg_name (i := 4) c_law_words.nd rfl (Or.inl rfl)) (pss_one (ps_expr (pe_bm PySem.F.plainAttrs_list PySem.F.slot_list_append PySem.F.type_list_append mt_append (pv 3) (pa_cons (pe_def d_law_draw (hr.mono (by decide)) (pa_cons (pv 0) (pa_cons (pe_op n_shl (pe_n 1) (pv 1)) pa_nil))) pa_nil)))))
    (pss_one (ps_ret (pv 3))))), ?_⟩
    have two : 2 ^ n ≤ 16777216 := Nat.le_trans (Nat.pow_le_pow_right (by decide) hn) (by decide)
    refine ⟨(by show 0 ≤ sizeLine; decide), fun l hl => ?_⟩
    refine ⟨_, rfl, m, rfl, by omega, by omega, for_range (lo := 0) (n := m) (fun i σ H' => ∃ (ws : List Nat) (v : Option V), σ = [some (.ref p), some (wN n), some (wN m), some (.ref l), v] ∧ Stp p H H' ∧ LsAt p H' l ws ∧ ws.length = i ∧ ∀ v ∈ ws, v < 2 ^ n)
      ⟨[], none, rfl, ⟨fun a o na z => by rw [upd_ne (ne_of_none z hl)]; exact z, hp.ext (Ext.upd hl)⟩, ⟨hp.ne_none hl, upd_same⟩, rfl, fun _ h => nomatch h⟩ ?_ ?_⟩
    · rintro i σ H' hi ⟨ws, v, rfl, e, hw, hlen, hv⟩
      refine ⟨_, rfl, .inl ⟨rfl, _, SqL.of hw.2⟩, _, rfl, _, rfl, 1, n, rfl, rfl, (by show 1 < 2 ^ 64 ∧ n ≤ 1000000; omega), p, 1 * 2 ^ n, rfl, (by rw [Nat.one_mul]; exact Nat.one_le_two_pow), (by rw [Nat.one_mul]; exact two), e.pot, fun d H2 hd e2 => ?_⟩
      rw [Nat.one_mul] at hd
      have hw2 := hw.stp e2
      refine ⟨l, _, _, rfl, rfl, hw2.2, ?_, ?_⟩
      · refine small' ?_
        rw [wL_len]
        omega
      · have es : wL ws ++ [wN d] = wL (ws ++ [d]) := by
          rw [wL_app]
          rfl
        rw [es]
        refine ⟨ws ++ [d], _, rfl, (e.trans e2).own hl hw.1, ⟨hw.1, upd_same⟩, by rw [List.length_append, hlen]; rfl, fun v hv' => ?_⟩
        rcases List.mem_append.mp hv' with q | q
        · exact hv v q
        · rw [List.mem_singleton.mp q]
          exact hd
    · rintro σ H' ⟨ws, v, rfl, e, hw, hlen, hv⟩
      exact ⟨_, rfl, k l ws H' e hw hlen hv⟩
theorem d_law_mixed (T : Tx K mg cR cT cM fM) : Def P w K mg base CX0 "_law_mixed" 2 ["_law_pot_here", "_law_some"] spMixed := by
  have d_law_draw := d_law_draw (P := P) (w := w) (base := base) T
  refine T.f_law_mixed.mk c_law_mixed (fun _ _ _ _ _ _ us hl => match us, hl with | [_, _], _ => rfl) (fun vs H Q E h => ?_) (fun f cdv A outer s H vs Q E hr h => ?_)
  · obtain ⟨p, a, ws, rfl, _⟩ := h
    rfl
  · obtain ⟨p, a, ws, rfl, ha, hlen, hp, k⟩ := h
    refine ⟨_, (pss_cons (ps_par (i := 2) (j := 3) (by rfl) c_law_mixed.nd rfl rfl (by decide) rfl rfl (pa_cons (pe_callTy call_list_of rfl T.b_list boot_list (pa_cons (pv 1) pa_nil)) (pa_cons (pe_lst pa_nil) pa_nil)) (by rfl))
    (pss_cons (ps_for PassesOwn.never rfl (pi_range1 rfl T.b_range (pa_cons (pe_callB call_len_seq rfl T.b_len boot_len (pa_cons (pv 2) pa_nil)) pa_nil)) (pg_name (i := 4) c_law_mixed.nd rfl (Or.inl rfl)) (pss_one (ps_expr (pe_bm PySem.F.plainAttrs_list PySem.F.slot_list_append PySem.F.type_list_append mt_append (pv 3) (pa_cons (pe_bm PySem.F.plainAttrs_list PySem.F.slot_list_pop PySem.F.type_list_pop mt_popAt (pv 2) (pa_cons (pe_def d_law_draw (hr.mono (by decide)) (pa_cons (pv 0) (pa_cons (pe_callB call_len_seq rfl T.b_len boot_len (pa_cons (pv 2) pa_nil)) pa_nil))) pa_nil)) pa_nil)))))
    (pss_one (ps_ret (pv 3))))), ?_⟩
    refine ⟨_, rfl, a, _, rfl, .inl (SqL.of ha), fun L hL => ⟨(by show 0 ≤ sizeLine; decide), fun l hl => ⟨_, _, rfl, ?_⟩⟩⟩
    have hl0 : H l = none := ext_free (Ext.upd hL) hl
    have nLl : L ≠ l := ne_of_none upd_same hl
    have hL1 : upd (upd H L (.lst (wL ws))) l (.lst []) L = some (.lst (wL ws)) := by
      rw [upd_ne nLl]
      exact upd_same
    refine ⟨_, rfl, L, _, rfl, .inl (SqL.of hL1), ws.length, by rw [wL_len], by omega, by omega, for_range (lo := 0) (n := ws.length) (fun i σ H' => ∃ (rest fnd : List Nat) (v : Option V), σ = [some (.ref p), some (.ref a), some (.ref L), some (.ref l), v] ∧ Stp p H H' ∧ LsAt p H' L rest ∧ LsAt p H' l fnd ∧ fnd.length = i ∧ rest.length = ws.length - i ∧ (fnd ++ rest).Perm ws)
      ⟨ws, [], none, rfl, Stp.of hp ((Ext.upd hL).trans (Ext.upd hl)), ⟨hp.ne_none hL, hL1⟩, ⟨hp.ne_none hl0, upd_same⟩, rfl, rfl, List.Perm.refl _⟩ ?_ ?_⟩
    · rintro i σ H' hi ⟨rest, fnd, v, rfl, e, hr1, hf1, lf, lr, pm⟩
      refine ⟨_, rfl, .inl ⟨rfl, _, SqL.of hf1.2⟩, _, rfl, .inl ⟨rfl, _, SqL.of hr1.2⟩, _, rfl, _, rfl, L, _, rfl, .inl (SqL.of hr1.2), p, rest.length, by rw [wL_len]; rfl, by omega, by omega, e.pot, fun d H2 hd e2 => ?_⟩
      have hr2 := hr1.stp e2
      have hf2 := hf1.stp e2
      have hd' : rest[d]? = some rest[d] := List.getElem?_eq_getElem hd
      have er : (wL rest).eraseIdx d = wL (rest.eraseIdx d) := by
        show (rest.map fun n : Nat => wN n).eraseIdx d = (rest.eraseIdx d).map fun n : Nat => wN n
        exact erase_map rest d
      refine ⟨L, _, (d : Int), d, _, rfl, rfl, hr2.2, by omega, by omega, by rw [wL_len]; exact (seqIndex_of (by omega) (by omega)).trans (by rw [Int.toNat_natCast]), wL_get hd', ?_⟩
      have nlL : l ≠ L := Ne.symm nLl
      refine ⟨l, _, _, rfl, rfl, (by rw [upd_ne nlL]; exact hf2.2), ?_, ?_⟩
      · refine small' ?_
        rw [wL_len]
        omega
      · have es : wL fnd ++ [wN rest[d]] = wL (fnd ++ [rest[d]]) := by
          rw [wL_app]
          rfl
        rw [es, er]
        refine ⟨rest.eraseIdx d, fnd ++ [rest[d]], _, rfl, ((e.trans e2).own hL hr1.1).own hl0 hf1.1, ⟨hr1.1, by rw [upd_ne nLl]; exact upd_same⟩, ⟨hf1.1, upd_same⟩, by rw [List.length_append, lf]; rfl, ?_, ?_⟩
        · rw [List.length_eraseIdx, if_pos hd]
          omega
        · rw [List.append_assoc]
          exact ((erase_pm rest d rest[d] hd').append_left fnd).trans pm
    · rintro σ H' ⟨rest, fnd, v, rfl, e, hr1, hf1, lf, lr, pm⟩
      have : rest = [] := List.eq_nil_of_length_eq_zero (by omega)
      subst this
      rw [List.append_nil] at pm
      exact ⟨_, rfl, k l fnd H' e hf1 pm⟩
theorem d_law_led (T : Tx K mg cR cT cM fM) : Def P w K mg base CX0 "_law_led" 1 ["_law_word", "_law_sequence"] spLed := by
  refine T.f_law_led.mk c_law_led (fun _ _ _ _ _ _ us hl => match us, hl with | [_, _], _ => rfl) (fun vs H Q E h => ?_) (fun f cdv A outer s H vs Q E hr h => ?_)
  · obtain ⟨a, S, v, rfl, _⟩ := h
    rfl
  · obtain ⟨a, S, v, rfl, ha, hj, k⟩ := h
    refine ⟨_, (pss_cons (ps_set (i := 2) c_law_led.nd rfl (Or.inl rfl) (pe_n 0))
    (pss_cons (ps_for PassesOwn.never rfl (pi_enum rfl T.b_enumerate (pa_cons (pv 1) pa_nil)) (pg_tup (by rfl) (pgs_cons (pg_name (i := 3) c_law_led.nd rfl (Or.inl rfl)) (pgs_cons (pg_name (i := 4) c_law_led.nd rfl (Or.inl rfl)) pgs_nil))) (pss_one (ps_if (pt_cmpR n_eq (pe_op n_and (pe_op n_shr (pv 0) (pv 3)) (pe_n 1)) (pe_n 1) (nomark _)) (pss_one (ps_set (i := 2) c_law_led.nd rfl (Or.inl rfl) (pe_op n_add (pv 2) (pe_op n_shl (pe_n 1) (pv 4))))) pss_nil)))
    (pss_one (ps_ret (pv 2))))), ?_⟩
    refine ⟨_, rfl, a, _, rfl, SqL.of ha, for_enum (K := K) (a := a) (xs := wL S) (fun i σ H' => ∃ x y : Option V, σ = [some (wN v), some (.ref a), some (wN (ledTo S v i)), x, y] ∧ Ext H H') ⟨none, none, rfl, Ext.rfl'⟩ (fun i σ H' _ c => by obtain ⟨_, _, _, e⟩ := c; exact SqL.of (e _ _ ha)) ?_ ?_⟩
    · rintro i y T2 σ H' hi ⟨x0, y0, rfl, e⟩ hT
      obtain ⟨j, hj', rfl⟩ := wL_at hi
      have hjm : j ≤ 1000 := hj j (List.mem_of_getElem? hj')
      have eg : S.getD i 0 = j := by
        rw [List.getD_eq_getElem?_getD, hj']
        rfl
      refine ⟨T2, _, rfl, SqT.of upd_same, rfl, _, _, rfl, _, _, rfl, rfl, ?_⟩
      refine ⟨_, rfl, _, rfl, v, i, rfl, rfl, _, 1, rfl, rfl, _, 1, rfl, rfl, _, rfl, ?_⟩
      rw [bit_dec]
      refine ite2 (fun h => ?_) (fun h => ?_)
      · refine ⟨_, rfl, _, rfl, 1, j, rfl, rfl, (by show 1 < 2 ^ 64 ∧ j ≤ 1000000; omega), _, _, rfl, rfl, some (wN i), some (wN j), ?_, e.trans (Ext.upd hT)⟩
        rw [ledTo_succ, if_pos h, eg]
        show [some (wN v), some (V.ref a), some (wN (ledTo S v i + 1 * 2 ^ j)), some (wN i), some (wN j)] = _
        rw [Nat.one_mul]
      · refine ⟨some (wN i), some (wN j), ?_, e.trans (Ext.upd hT)⟩
        rw [ledTo_succ, if_neg h]
        rfl
    · rintro σ H' ⟨x0, y0, rfl, e⟩
      rw [wL_len]
      exact ⟨_, rfl, k H' e⟩
theorem d_law_high (T : Tx K mg cR cT cM fM) : Def P w K mg base CX0 "_law_high" 1 ["_law_word"] spHigh := by
  refine T.f_law_high.mk c_law_high (fun _ _ _ _ _ _ us hl => match us, hl with | [_], _ => rfl) (fun vs H Q E h => ?_) (fun f cdv A outer s H vs Q E hr h => ?_)
  · obtain ⟨v, rfl, _⟩ := h
    rfl
  · obtain ⟨v, rfl, hv, k⟩ := h
    refine ⟨_, (pss_cons (ps_set (i := 1) c_law_high.nd rfl (Or.inl rfl) (pe_n 0))
    (pss_cons (ps_while PassesOwn.never (pt_cmpR n_gt (pe_op n_shr (pv 0) (pv 1)) (pe_n 1) (nomark _)) (pss_one (ps_set (i := 1) c_law_high.nd rfl (Or.inl rfl) (pe_op n_add (pv 1) (pe_n 1)))))
    (pss_one (ps_ret (pv 1))))), ?_⟩
    refine ⟨fun m σ H' => H' = H ∧ ∃ i, i ≤ v.log2 ∧ m = v.log2 - i ∧ σ = [some (wN v), some (wN i)], ⟨_, rfl, 0, Nat.zero_le _, rfl, rfl⟩, ?_⟩
    rintro m σ H' ⟨rfl, i, hi, rfl, rfl⟩
    have lo : 2 ^ i ≤ v := Nat.le_trans (Nat.pow_le_pow_right (by decide) hi) (top_le hv)
    refine ⟨_, rfl, _, rfl, v, i, rfl, rfl, _, 1, rfl, rfl, _, rfl, ?_⟩
    refine ite2 (fun h => ?_) (fun h => ?_)
    · have h1 : 1 < v / 2 ^ i := of_decide_eq_true h
      have h2 : 2 ^ (i + 1) ≤ v := by
        rw [Nat.pow_succ, Nat.mul_comm]
        exact (Nat.le_div_iff_mul_le (Nat.two_pow_pos i)).mp h1
      have h3 : i + 1 ≤ v.log2 := (Nat.le_log2 hv).mpr h2
      exact ⟨_, fun _ _ q => q, _, rfl, i, 1, rfl, rfl, v.log2 - (i + 1), by omega, rfl, i + 1, h3, rfl, rfl⟩
    · have h1 : ¬ 1 < v / 2 ^ i := fun z => h (decide_eq_true z)
      have h2 : v < 2 ^ (i + 1) := by
        rw [Nat.pow_succ, Nat.mul_comm]
        refine (Nat.div_lt_iff_lt_mul (Nat.two_pow_pos i)).mp ?_
        omega
      have e : v.log2 = i := top_eq lo h2
      rw [e] at k
      exact ⟨_, rfl, k⟩
end
end OC

namespace OC
open PySem PySem.Spec PyProof.Rows L2
/-! ## a dict of words by their tops -/
abbrev DD := List (Nat × Nat)
def dk (D : DD) : List (Key × V) := D.map fun p => (Sum.inl ((p.1 : Nat) : Int), wN p.2)
def tops (B : List Nat) : DD := B.map fun b => (b.log2, b)
def keys (D : DD) : List Nat := D.map fun p => p.1
theorem keys_tops (B : List Nat) : keys (tops B) = B.map Nat.log2 := by
  unfold keys tops
  rw [List.map_map]
  rfl
theorem keys_perm {D : DD} {B : List Nat} (p : D.Perm (tops B)) : (keys D).Perm (B.map Nat.log2) := by
  rw [← keys_tops]
  exact p.map _
theorem tops_nodup {B : List Nat} (h : Plain B) : (B.map Nat.log2).Nodup := h.tops.imp fun {a b} q => by omega
theorem keys_nodup {D : DD} {B : List Nat} (h : Plain B) (p : D.Perm (tops B)) : (keys D).Nodup := (keys_perm p).nodup_iff.mpr (tops_nodup h)
theorem mem_tops {D : DD} {B : List Nat} (p : D.Perm (tops B)) {b : Nat} (hb : b ∈ B) : (b.log2, b) ∈ D := p.mem_iff.mpr (List.mem_map.mpr ⟨b, hb, rfl⟩)
theorem of_tops {D : DD} {B : List Nat} (p : D.Perm (tops B)) {k v : Nat} (h : (k, v) ∈ D) : v ∈ B ∧ k = v.log2 := by
  obtain ⟨b, hb, e⟩ := List.mem_map.mp (p.mem_iff.mp h)
  injection e with e1 e2
  subst e2
  exact ⟨hb, e1.symm⟩
theorem key_one {D : DD} (h : (keys D).Nodup) {k v u : Nat} (h1 : (k, v) ∈ D) (h2 : (k, u) ∈ D) : v = u := by
  induction D with
  | nil => cases h1
  | cons p D ih =>
    have hn := List.nodup_cons.mp (show (p.1 :: keys D).Nodup from h)
    have no : ∀ {x : Nat}, (p.1, x) ∈ D → False := fun hx => hn.1 (List.mem_map.mpr ⟨_, hx, rfl⟩)
    rcases List.mem_cons.mp h1 with e1 | m1
    · rcases List.mem_cons.mp h2 with e2 | m2
      · exact (Prod.mk.inj (e1.trans e2.symm)).2
      · subst e1
        exact (no m2).elim
    · rcases List.mem_cons.mp h2 with e2 | m2
      · subst e2
        exact (no m1).elim
      · exact ih hn.2 m1 m2
theorem key_ne {a b : Nat} (h : ¬ a = b) : ¬ (Sum.inl ((a : Nat) : Int) : Key) = Sum.inl ((b : Nat) : Int) := fun e => h (by
  injection e with e
  omega)
theorem val_dk {D : DD} (h : (keys D).Nodup) {k v : Nat} (hm : (k, v) ∈ D) : valV (dk D) (Sum.inl ((k : Nat) : Int)) = some (wN v) := by
  induction D with
  | nil => cases hm
  | cons p D ih =>
    have hn := List.nodup_cons.mp (show (p.1 :: keys D).Nodup from h)
    by_cases e : p.1 = k
    · have ep : p = (k, v) := by
        rcases List.mem_cons.mp hm with e1 | m1
        · exact e1.symm
        · exact absurd (List.mem_map.mpr ⟨_, m1, e.symm⟩) hn.1
      subst ep
      exact valV_pos (p := (Sum.inl ((k : Nat) : Int), wN v)) rfl
    · have m1 : (k, v) ∈ D := by
        rcases List.mem_cons.mp hm with e1 | m1
        · subst e1
          exact absurd rfl e
        · exact m1
      exact (valV_neg (p := (Sum.inl ((p.1 : Nat) : Int), wN p.2)) (key_ne e)).trans (ih hn.2 m1)
theorem any_dk {D : DD} {k : Nat} : ((dk D).any fun kv => decide (kv.1 = (Sum.inl ((k : Nat) : Int) : Key))) = true ↔ k ∈ keys D := by
  rw [List.any_eq_true]
  constructor
  · rintro ⟨kv, hm, e⟩
    obtain ⟨p, hp, rfl⟩ := List.mem_map.mp hm
    refine List.mem_map.mpr ⟨p, hp, ?_⟩
    by_cases q : p.1 = k
    · exact q
    · exact absurd (of_decide_eq_true e) (key_ne q)
  · intro hm
    obtain ⟨p, hp, rfl⟩ := List.mem_map.mp hm
    exact ⟨_, List.mem_map.mpr ⟨p, hp, rfl⟩, decide_eq_true rfl⟩
/-- a put at a key that is there -/
def putAtN (D : DD) (k y : Nat) : DD := D.map fun p => if p.1 = k then (p.1, y) else p
theorem put_old {D : DD} {k y : Nat} (h : k ∈ keys D) : putK (dk D) (Sum.inl ((k : Nat) : Int)) (wN y) = dk (putAtN D k y) := by
  unfold putK
  rw [if_pos (any_dk.mpr h)]
  unfold dk putAtN
  rw [List.map_map, List.map_map]
  refine List.map_congr_left fun p _ => ?_
  show (if (Sum.inl ((p.1 : Nat) : Int) : Key) = Sum.inl ((k : Nat) : Int) then _ else _) = (fun p : Nat × Nat => ((Sum.inl ((p.1 : Nat) : Int) : Key), wN p.2)) (if p.1 = k then (p.1, y) else p)
  by_cases e : p.1 = k
  · rw [if_pos e, if_pos (by rw [e])]
  · rw [if_neg e, if_neg (key_ne e)]
theorem put_new {D : DD} {k y : Nat} (h : k ∉ keys D) : putK (dk D) (Sum.inl ((k : Nat) : Int)) (wN y) = dk (D ++ [(k, y)]) := by
  unfold putK
  rw [if_neg fun z => h (any_dk.mp z)]
  unfold dk
  rw [List.map_append]
  rfl
theorem keys_dk (D : DD) : (dk D).map (·.1) = ((keys D).map fun n : Nat => (n : Int)).map Sum.inl := by
  unfold dk keys
  rw [List.map_map, List.map_map, List.map_map]
  rfl
def look (D : DD) (k : Nat) : Nat := match D.find? fun p => p.1 == k with
  | some p => p.2
  | none => 0
theorem look_is {D : DD} (h : (keys D).Nodup) {k v : Nat} (hm : (k, v) ∈ D) : look D k = v := by
  unfold look
  cases e : D.find? fun p => p.1 == k with
  | none => exact absurd (beq_self_eq_true k) (by simpa using List.find?_eq_none.mp e _ hm)
  | some p =>
    have hp := List.mem_of_find?_eq_some e
    have hk : p.1 = k := by simpa using List.find?_some e
    subst hk
    exact key_one h hp hm
/-! ## the turn of the inner loop -/
def chg (l : Nat) (S : List Nat) (p : Nat × Nat) : Nat × Nat := if p.1 ∈ S then (p.1, min p.2 (p.2 ^^^ l)) else p
theorem chg_fst (l : Nat) (S : List Nat) (p : Nat × Nat) : (chg l S p).1 = p.1 := by
  unfold chg
  by_cases h : p.1 ∈ S
  · rw [if_pos h]
  · rw [if_neg h]
theorem chg_nil (l : Nat) (D : DD) : D.map (chg l []) = D := by
  rw [show chg l [] = id from funext fun p => by
    unfold chg
    rw [if_neg (by simp)]
    rfl, List.map_id]
theorem chg_keys (l : Nat) (S : List Nat) (D : DD) : keys (D.map (chg l S)) = keys D := by
  unfold keys
  rw [List.map_map]
  exact List.map_congr_left fun p _ => chg_fst l S p
theorem chg_at {D : DD} {l k v : Nat} {S : List Nat} (hm : (k, v) ∈ D) (hk : k ∉ S) : (k, v) ∈ D.map (chg l S) := List.mem_map.mpr ⟨(k, v), hm, by
  unfold chg
  rw [if_neg hk]⟩
theorem chg_put {D : DD} (h : (keys D).Nodup) {l k v : Nat} {S : List Nat} (hm : (k, v) ∈ D) : D.map (chg l (S ++ [k])) = putAtN (D.map (chg l S)) k (min v (v ^^^ l)) := by
  unfold putAtN
  rw [List.map_map]
  refine List.map_congr_left fun p hp => ?_
  obtain ⟨a, b⟩ := p
  show chg l (S ++ [k]) (a, b) = if (chg l S (a, b)).1 = k then ((chg l S (a, b)).1, _) else chg l S (a, b)
  rw [chg_fst]
  by_cases e : a = k
  · subst e
    have eb := key_one h hp hm
    subst eb
    rw [if_pos rfl]
    unfold chg
    rw [if_pos (show a ∈ S ++ [a] by simp)]
  · rw [if_neg e]
    unfold chg
    by_cases q : a ∈ S
    · rw [if_pos (show (a, b).1 ∈ S ++ [k] from List.mem_append_left _ q), if_pos (show (a, b).1 ∈ S from q)]
    · rw [if_neg (show ¬ (a, b).1 ∈ S ++ [k] by simp [q, e]), if_neg (show ¬ (a, b).1 ∈ S from q)]
theorem chg_same {D : DD} (h : (keys D).Nodup) {l k v : Nat} {S : List Nat} (hm : (k, v) ∈ D) (hv : min v (v ^^^ l) = v) : D.map (chg l (S ++ [k])) = D.map (chg l S) := by
  refine List.map_congr_left fun p hp => ?_
  obtain ⟨a, b⟩ := p
  unfold chg
  by_cases e : a = k
  · subst e
    have eb := key_one h hp hm
    subst eb
    rw [if_pos (show (a, b).1 ∈ S ++ [a] by simp)]
    show (a, min b (b ^^^ l)) = if a ∈ S then (a, min b (b ^^^ l)) else (a, b)
    rw [hv, ite_self]
  · by_cases q : a ∈ S
    · rw [if_pos (show (a, b).1 ∈ S ++ [k] from List.mem_append_left _ q), if_pos (show (a, b).1 ∈ S from q)]
    · rw [if_neg (show ¬ (a, b).1 ∈ S ++ [k] by simp [q, e]), if_neg (show ¬ (a, b).1 ∈ S from q)]
/-- what the dict is when a word with something left over has been put in -/
theorem tops_more {D : DD} {B zs : List Nat} {x : Nat} (h : Plain B) (p : D.Perm (tops B)) (hz : zs.Perm (keys D)) (ne : leftOf B x ≠ 0) :
    (leftOf B x).log2 ∉ keys (D.map (chg (leftOf B x) zs)) ∧ (D.map (chg (leftOf B x) zs) ++ [((leftOf B x).log2, leftOf B x)]).Perm (tops (withW B x)) := by
  have off : ∀ b ∈ B, (leftOf B x).testBit b.log2 = false := leftOf_off x h
  generalize hl : leftOf B x = l at ne off
  refine ⟨?_, ?_⟩
  · rw [chg_keys]
    intro hm
    obtain ⟨b, hb, e⟩ := List.mem_map.mp ((keys_perm p).mem_iff.mp hm)
    have := off b hb
    rw [e, top_on ne] at this
    cases this
  · have e1 : D.map (chg l zs) = D.map fun q => (q.1, min q.2 (q.2 ^^^ l)) := List.map_congr_left fun q hq => by
      unfold chg
      rw [if_pos (hz.mem_iff.mpr (List.mem_map.mpr ⟨q, hq, rfl⟩))]
    have e2 : (tops B).map (fun q => (q.1, min q.2 (q.2 ^^^ l))) = tops (B.map fun b => min b (b ^^^ l)) := by
      unfold tops
      rw [List.map_map, List.map_map]
      refine List.map_congr_left fun b hb => ?_
      show (b.log2, min b (b ^^^ l)) = ((min b (b ^^^ l)).log2, min b (b ^^^ l))
      rw [(min_top (h.nz b hb) ne (off b hb)).2]
    have e3 : tops (B.map fun b => min b (b ^^^ l)) ++ [(l.log2, l)] = tops (B.map (fun b => min b (b ^^^ l)) ++ [l]) := by
      unfold tops
      rw [List.map_append]
      rfl
    unfold withW
    rw [hl, if_neg ne, e1]
    refine List.Perm.trans ?_ ((sortD_perm _).symm.map _)
    show List.Perm _ (tops (B.map (fun b => min b (b ^^^ l)) ++ [l]))
    rw [← e3, ← e2]
    exact (p.map _).append_right _
end OC

namespace OC
open PySem PySem.Spec PyProof.Rows L2
theorem up_back {k : List Nat} (h : (k.map fun n : Nat => (n : Int)).Pairwise (· ≤ ·)) : k.Pairwise fun a b => a ≤ b := by
  rw [List.pairwise_map] at h
  exact h.imp fun z => by
    have q : ((_ : Nat) : Int) ≤ ((_ : Nat) : Int) := z
    omega
/-- sorted(d)[::-1]: the tops, from above -/
theorem sort_rev {D : DD} {B : List Nat} {ys : List Int} (p : D.Perm (tops B)) (h : Plain B) (hd : ys.Perm ((keys D).map fun n : Nat => (n : Int))) (hup : ys.Pairwise (· ≤ ·)) :
    (ys.map V.int).reverse = wL (B.map Nat.log2) := by
  obtain ⟨zs, rfl, pz⟩ := ints_back hd
  have up := up_back hup
  have e : zs.reverse = B.map Nat.log2 := down_one ((List.reverse_perm zs).trans (pz.trans (keys_perm p))) (List.pairwise_reverse.mpr up) (h.tops.imp fun {a b} q => Nat.le_of_lt q)
  rw [← ints_of, ← e]
  show (zs.map wN).reverse = zs.reverse.map wN
  rw [List.map_reverse]
def DicAt (H : Hp) (a : Addr) (D : DD) (B : List Nat) : Prop := H a = some (.dK (dk D)) ∧ D.Perm (tops B) ∧ Plain B ∧ B.length ≤ 40
theorem DicAt.len {H : Hp} {a : Addr} {D : DD} {B : List Nat} (h : DicAt H a D B) : D.length = B.length := by
  rw [h.2.1.length_eq]
  unfold tops
  rw [List.length_map]
theorem DicAt.ext {H H' : Hp} {a : Addr} {D : DD} {B : List Nat} (h : DicAt H a D B) (e : Ext H H') : DicAt H' a D B := ⟨e _ _ h.1, h.2⟩
theorem DicAt.get {H : Hp} {a : Addr} {D : DD} {B : List Nat} (h : DicAt H a D B) {b : Nat} (hb : b ∈ B) : DGet H a (wN b.log2) (some (wN b)) := by
  have := DGet.k (k := Sum.inl ((b.log2 : Nat) : Int)) h.1
  rw [val_dk (keys_nodup h.2.2.1 h.2.1) (mem_tops h.2.1 hb)] at this
  exact this
def spLLeft : L2.Sp := fun vs H Q _ => ∃ (a : Addr) (D : DD) (B : List Nat) (v : Nat), vs = [.ref a, wN v] ∧ DicAt H a D B ∧ ∀ H', Ext H H' → Q (wN (leftOf B v)) H'
def spTops (K : PySem.W.Frag) : L2.Sp := fun vs H Q _ => ∃ (a : Addr) (L : List Nat), vs = [.ref a] ∧ SqL K H a (wL L) ∧ L.length ≤ 40 ∧ ∀ d D H', H d = none → Ext H H' → DicAt H' d D (pb L) → Q (.ref d) H'
def spLPlain (K : PySem.W.Frag) : L2.Sp := fun vs H Q _ => ∃ (a : Addr) (L : List Nat), vs = [.ref a] ∧ SqL K H a (wL L) ∧ L.length ≤ 40 ∧ ∀ l H', H l = none → Ext H H' → H' l = some (.lst (wL (pb L))) → Q (.ref l) H'
section
variable {P : Program} {w : World} {K : PySem.W.Frag} {mg : Str → Option Value} {base : Heap} {cR cT cM fM : Addr}
theorem d_law_left (T : Tx K mg cR cT cM fM) : Def P w K mg base CX0 "_law_left" 2 ["_law_tops_here", "_law_word"] spLLeft := by
  refine T.f_law_left.mk c_law_left (fun _ _ _ _ _ _ us hl => match us, hl with | [_, _], _ => rfl) (fun vs H Q E h => ?_) (fun f cdv A outer s H vs Q E hr h => ?_)
  · obtain ⟨a, D, B, v, rfl, _⟩ := h
    rfl
  · obtain ⟨a, D, B, v, rfl, hd, k⟩ := h
    refine ⟨_, (pss_cons (ps_set (i := 2) c_law_left.nd rfl (Or.inl rfl) (pv 1))
    (pss_cons (ps_for PassesOwn.never rfl (pi_list (pe_revL (pe_callB (call_sortedDI rfl) rfl T.b_sorted boot_sorted (pa_cons (pv 0) pa_nil)))) (pg_name (i := 3) c_law_left.nd rfl (Or.inl rfl)) (pss_one (ps_if (pt_cmpR n_eq (pe_op n_and (pe_op n_shr (pv 2) (pv 3)) (pe_n 1)) (pe_n 1) (nomark _)) (pss_one (ps_set (i := 2) c_law_left.nd rfl (Or.inl rfl) (pe_op n_xor (pv 2) (pe_dget (hu_of hr) (pv 0) (pv 3) (fun _ _ => rfl))))) pss_nil)))
    (pss_one (ps_ret (pv 2))))), ?_⟩
    have nz : ∀ b ∈ B, b ≠ 0 := hd.2.2.1.nz
    refine ⟨_, rfl, _, rfl, a, dk D, _, rfl, .inl hd.1, keys_dk D, ?_, fun ys p hpn hup hp => ?_⟩
    · rw [List.length_map]
      unfold keys
      rw [List.length_map, hd.len]
      have := hd.2.2.2
      omega
    refine ⟨p, _, rfl, SqL.of upd_same, fun q hq => ?_⟩
    rw [sort_rev hd.2.1 hd.2.2.1 hpn hup]
    have e0 : Ext H (upd (upd H p (.lst (ys.map V.int))) q (.lst (wL (B.map Nat.log2)))) := (Ext.upd hp).upd' hq
    refine ⟨q, rfl, ⟨_, SqL.of upd_same⟩, for_list (K := K) (a := q) (xs := wL (B.map Nat.log2)) (fun i σ H' => H' = upd (upd H p (.lst (ys.map V.int))) q (.lst (wL (B.map Nat.log2))) ∧ ∃ x : Option V, σ = [some (.ref a), some (wN v), some (wN (leftOf (B.take i) v)), x]) ⟨rfl, none, rfl⟩ (fun i σ H' _ c => by rw [c.1]; exact SqL.of upd_same) ?_ ?_⟩
    · rintro i y σ H' hi ⟨rfl, x, rfl⟩
      obtain ⟨t, ht, rfl⟩ := wL_at hi
      obtain ⟨b, hb, rfl⟩ := map_at ht
      have hbm : b ∈ B := List.mem_of_getElem? hb
      refine ⟨_, rfl, _, rfl, leftOf (B.take i) v, b.log2, rfl, rfl, _, 1, rfl, rfl, _, 1, rfl, rfl, _, rfl, ?_⟩
      rw [bit_dec]
      have em := min_xor (w := leftOf (B.take i) v) (nz b hbm)
      refine ite2 (fun h => ?_) (fun h => ?_)
      · rw [if_pos h] at em
        refine ⟨_, rfl, _, rfl, _, rfl, a, _, rfl, (hd.ext e0).get hbm, _, _, rfl, rfl, rfl, some (wN b.log2), ?_⟩
        rw [leftOf_take hb, em]
        rfl
      · rw [if_neg h] at em
        refine ⟨rfl, some (wN b.log2), ?_⟩
        rw [leftOf_take hb, em]
        rfl
    · rintro σ H' ⟨rfl, x, rfl⟩
      rw [wL_len, List.length_map, List.take_length]
      exact ⟨_, rfl, k _ e0⟩
theorem d_law_tops (T : Tx K mg cR cT cM fM) : Def P w K mg base CX0 "_law_tops" 3 ["_law_words_here"] (spTops K) := by
  have d_law_left := d_law_left (P := P) (w := w) (base := base) T
  have d_law_high := d_law_high (P := P) (w := w) (base := base) T
  refine T.f_law_tops.mk c_law_tops (fun _ _ _ _ _ _ us hl => match us, hl with | [_], _ => rfl) (fun vs H Q E h => ?_) (fun f cdv A outer s H vs Q E hr h => ?_)
  · obtain ⟨a, L, rfl, _⟩ := h
    rfl
  · obtain ⟨a, L, rfl, ha, hl, k⟩ := h
    refine ⟨_, (pss_cons (ps_set (i := 1) c_law_tops.nd rfl (Or.inl rfl) pe_dnewK)
    (pss_cons (ps_for PassesOwn.never rfl (pi_list (pv 0)) (pg_name (i := 2) c_law_tops.nd rfl (Or.inl rfl)) (pss_cons (ps_set (i := 3) c_law_tops.nd rfl (Or.inl rfl) (pe_def d_law_left (hr.mono (by decide)) (pa_cons (pv 1) (pa_cons (pv 2) pa_nil))))
    (pss_one (ps_if (pt_cmpR n_ne (pv 3) (pe_n 0) (nomark _)) (pss_cons (ps_set (i := 4) c_law_tops.nd rfl (Or.inl rfl) (pe_def d_law_high (hr.mono (by decide)) (pa_cons (pv 3) pa_nil)))
    (pss_cons (ps_for PassesOwn.never rfl (pi_list (pe_callB (call_sortedDI rfl) rfl T.b_sorted boot_sorted (pa_cons (pv 1) pa_nil))) (pg_name (i := 5) c_law_tops.nd rfl (Or.inl rfl)) (pss_one (ps_if (pt_cmpR n_eq (pe_op n_and (pe_op n_shr (pe_dget (hu_of hr) (pv 1) (pv 5) (fun _ _ => rfl)) (pv 4)) (pe_n 1)) (pe_n 1) (nomark _)) (pss_one (ps_dput (hu_of hr) (pv 1) (pv 5) (pe_op n_xor (pe_dget (hu_of hr) (pv 1) (pv 5) (fun _ _ => rfl)) (pv 3)) rfl)) pss_nil)))
    (pss_one (ps_dput (hu_of hr) (pv 1) (pv 4) (pv 3) rfl)))) pss_nil))))
    (pss_one (ps_ret (pv 1))))), ?_⟩
    refine fun d hdn => ⟨_, rfl, a, rfl, ⟨_, ha.ext (Ext.upd hdn)⟩, for_list (K := K) (a := a) (xs := wL L) (fun i σ H' => ∃ (D : DD) (x y z t : Option V), σ = [some (.ref a), some (.ref d), x, y, z, t] ∧ Ext H H' ∧ DicAt H' d D (pb (L.take i))) ?_ ?_ ?_ ?_⟩
    · exact ⟨[], none, none, none, none, rfl, Ext.upd hdn, upd_same, List.Perm.refl _, plain_nil, Nat.zero_le 40⟩
    · rintro i σ H' hi ⟨D, x, y, z, t, rfl, e, _⟩
      exact ha.ext e
    · rintro i u σ H' hi ⟨D, x, y, z, t, rfl, e, hd⟩
      obtain ⟨v, hv, rfl⟩ := wL_at hi
      have hlen : (pb (L.take (i + 1))).length ≤ 40 := by
        refine Nat.le_trans (pb_len_le _) ?_
        rw [List.length_take]
        omega
      rw [pb_take hv] at hlen ⊢
      refine ⟨_, rfl, _, rfl, d, D, _, v, rfl, hd, fun H1 e1 => ?_⟩
      have hd1 := hd.ext e1
      refine ⟨_, rfl, leftOf (pb (L.take i)) v, 0, rfl, rfl, _, rfl, ?_⟩
      by_cases ne : leftOf (pb (L.take i)) v = 0
      · refine no_ (by rw [decide_eq_true ne]; rfl) ⟨D, _, _, z, t, rfl, e.trans e1, ?_⟩
        unfold withW
        rw [if_pos ne]
        exact hd1
      · refine yes_ (by rw [decide_eq_false ne]; rfl) ?_
        have off : ∀ b ∈ pb (L.take i), (leftOf (pb (L.take i)) v).testBit b.log2 = false := leftOf_off v hd.2.2.1
        have nd : (keys D).Nodup := keys_nodup hd.2.2.1 hd.2.1
        have lD : D.length ≤ 40 := by rw [hd.len]; exact hd.2.2.2
        refine ⟨_, rfl, _, rfl, ne, ?_⟩
        refine ⟨_, rfl, d, dk D, _, rfl, .inl hd1.1, keys_dk D, ?_, fun ys p hpn hup hp => ?_⟩
        · rw [List.length_map]
          unfold keys
          rw [List.length_map]
          omega
        obtain ⟨zs, rfl, pz⟩ := ints_back hpn
        have zn : zs.Nodup := pz.nodup_iff.mpr nd
        rw [← ints_of]
        have dp : d ≠ p := ne_of_none hd1.1 hp
        generalize hlw : leftOf (pb (L.take i)) v = l at ne off ⊢
        refine ⟨p, rfl, ⟨_, SqL.of upd_same⟩, for_list (K := K) (a := p) (xs := wL zs) (fun j σ H' => ∃ x : Option V, σ = [some (.ref a), some (.ref d), some (wN v), some (wN l), some (wN l.log2), x] ∧ Ext H H' ∧ H' d = some (.dK (dk (D.map (chg l (zs.take j))))) ∧ H' p = some (.lst (wL zs))) ?_ ?_ ?_ ?_⟩
        · refine ⟨t, rfl, (e.trans e1).trans (Ext.upd hp), ?_, upd_same⟩
          rw [List.take_zero, chg_nil, upd_ne dp]
          exact hd1.1
        · rintro j σ H2 hj ⟨x, rfl, _, _, q⟩
          exact SqL.of q
        · rintro j u σ H2 hj ⟨x, rfl, e2, hd2, hp2⟩
          obtain ⟨c, hc, rfl⟩ := wL_at hj
          have hcm : c ∈ keys D := pz.mem_iff.mp (List.mem_of_getElem? hc)
          obtain ⟨⟨c', b⟩, hb, rfl⟩ := List.mem_map.mp hcm
          have hbB := of_tops hd.2.1 hb
          have nz : b ≠ 0 := hd.2.2.1.nz b hbB.1
          have nin : c' ∉ zs.take j := fun m => by
            obtain ⟨j', hj'⟩ := List.mem_iff_getElem?.mp m
            rw [List.getElem?_take] at hj'
            by_cases q : j' < j
            · rw [if_pos q] at hj'
              obtain ⟨l1, g1⟩ := List.getElem?_eq_some_iff.mp hj'
              obtain ⟨l2, g2⟩ := List.getElem?_eq_some_iff.mp hc
              exact List.pairwise_iff_getElem.mp zn j' j l1 l2 q (g1.trans g2.symm)
            · rw [if_neg q] at hj'
              cases hj'
          have nd2 : (keys (D.map (chg l (zs.take j)))).Nodup := by
            rw [chg_keys]
            exact nd
          have m2 : (c', b) ∈ D.map (chg l (zs.take j)) := chg_at hb nin
          have g2 : DGet H2 d (wN c') (some (wN b)) := by
            have := DGet.k (k := Sum.inl ((c' : Nat) : Int)) hd2
            rw [val_dk nd2 m2] at this
            exact this
          have em := min_xor (w := b) ne
          refine ⟨_, rfl, _, rfl, d, _, rfl, g2, _, rfl, b, l.log2, rfl, rfl, _, 1, rfl, rfl, _, 1, rfl, rfl, _, rfl, ?_⟩
          rw [bit_dec, take_more hc]
          refine ite2 (fun h => ?_) (fun h => ?_)
          · rw [if_pos h] at em
            refine ⟨_, rfl, _, rfl, d, _, rfl, g2, _, rfl, b, l, rfl, rfl, _, rfl, _, rfl, d, _, rfl, DPut.k (k := Sum.inl ((c' : Nat) : Int)) hd2 ?_, ?_⟩
            · refine small' ?_
              unfold dk
              rw [List.length_map, List.length_map]
              omega
            · refine ⟨some (wN c'), rfl, ext_own e2 hdn, ?_, ?_⟩
              · rw [upd_same, chg_put nd hb, em]
                have hin : c' ∈ keys (D.map (chg l (zs.take j))) := by
                  rw [chg_keys]
                  exact hcm
                exact congrArg (fun x => some (HO.dK x)) (put_old hin)
              · rw [upd_ne (Ne.symm dp)]
                exact hp2
          · rw [if_neg h] at em
            exact ⟨some (wN c'), rfl, e2, by rw [chg_same nd hb em]; exact hd2, hp2⟩
        · rintro σ H2 ⟨x, rfl, e2, hd2, hp2⟩
          rw [wL_len, List.take_length] at hd2
          have more := tops_more (x := v) hd.2.2.1 hd.2.1 pz (by rw [hlw]; exact ne)
          rw [hlw] at more
          refine ⟨_, rfl, _, rfl, _, rfl, d, _, rfl, DPut.k (k := Sum.inl ((l.log2 : Nat) : Int)) hd2 ?_, ?_⟩
          · refine small' ?_
            unfold dk
            rw [List.length_map, List.length_map]
            omega
          · refine ⟨_, _, _, _, x, rfl, ext_own e2 hdn, ?_, more.2, withW_plain hd.2.2.1 v, hlen⟩
            rw [upd_same]
            exact congrArg (fun x => some (HO.dK x)) (put_new more.1)
    · rintro σ H' ⟨D, x, y, z, t, rfl, e, hd⟩
      rw [wL_len, List.take_length] at hd
      exact ⟨_, rfl, k d D H' hdn e hd⟩
theorem d_law_plain (T : Tx K mg cR cT cM fM) : Def P w K mg base CX0 "_law_plain" 4 ["_law_words_here"] (spLPlain K) := by
  have d_law_tops := d_law_tops (P := P) (w := w) (base := base) T
  refine T.f_law_plain.mk c_law_plain (fun _ _ _ _ _ _ us hl => match us, hl with | [_], _ => rfl) (fun vs H Q E h => ?_) (fun f cdv A outer s H vs Q E hr h => ?_)
  · obtain ⟨a, L, rfl, _⟩ := h
    rfl
  · obtain ⟨a, L, rfl, ha, hl, k⟩ := h
    refine ⟨_, (pss_cons (ps_set (i := 1) c_law_plain.nd rfl (Or.inr rfl) (pe_def d_law_tops (hr.mono (by decide)) (pa_cons (pv 0) pa_nil)))
    (pss_one (ps_ret (pe_lc (own := [("_law_place", 2)]) (g := gName 2) rfl c_law_plain.nd (pi_list (pe_revL (pe_callB (call_sortedDI rfl) rfl T.b_sorted boot_sorted (pa_cons (pv 1) pa_nil)))) (blkOk_by (own := [("_law_place", 2)]) (N := ["_law_words_here", "_law_tops_here", "_law_place"]) (sc := defScope s_law_plain) (by decide +kernel)) (fun _ _ _ _ _ => pg_name (i := 2) c_law_plain.nd rfl (Or.inl rfl)) (fun _ _ _ _ _ => pts_nil) (fun _ _ _ _ _ => (pe_dget (hu_of hr) (pv 1) (pv 2) (fun _ _ => rfl))))))), ?_⟩
    refine ⟨_, rfl, a, L, rfl, ha, hl, fun d D H1 hdn e1 hd => ?_⟩
    have nd : (keys D).Nodup := keys_nodup hd.2.2.1 hd.2.1
    dsimp only [tRet]
    refine lcLW (K := K) (B := (pb L).map Nat.log2) (fun _ => true) (fun c => wN (look D c)) (fun R r => ?_) (by rw [List.length_map]; have := hd.2.2.2; omega) (fun x => rfl) (fun b hb H2 _ Q q => q) (fun c hc hp H2 e2 Q q => ?_) fun D2 H2 hD2 e2 h2 => ?_
    · refine ⟨_, rfl, d, dk D, _, rfl, .inl hd.1, keys_dk D, ?_, fun ys p hpn hup hp => ?_⟩
      · rw [List.length_map]
        unfold keys
        rw [List.length_map, hd.len]
        have := hd.2.2.2
        omega
      · refine ⟨p, _, rfl, SqL.of upd_same, fun q hq => ?_⟩
        rw [sort_rev hd.2.1 hd.2.2.1 hpn hup]
        exact r q _ ((Ext.upd hp).upd' hq) upd_same
    · obtain ⟨b, hb, rfl⟩ := List.mem_map.mp hc
      have el : look D b.log2 = b := look_is nd (mem_tops hd.2.1 hb)
      refine ⟨_, rfl, _, rfl, d, _, rfl, (hd.ext e2).get hb, ?_⟩
      rw [el] at q
      exact q H2 Ext.rfl'
    · rw [filter_yes, List.map_map] at h2
      refine k D2 H2 (ext_free e1 hD2) (e1.trans e2) (h2.trans ?_)
      refine congrArg (fun x => some (HO.lst x)) (List.map_congr_left fun b hb => ?_)
      show wN (look D b.log2) = wN b
      rw [look_is nd (mem_tops hd.2.1 hb)]
end
end OC

namespace OC
open PySem PySem.Spec PyProof.Rows L2
/-! ## o.m(), its exceptions by the slots -/
def tMeth0S (C : Addr) (m : Str) (sp : L2.Sp) (E : L2.St → XK) (ta : TE) : TE := fun σ H Q => ta σ H fun x H1 => ∃ a dx fs, x = .ref a ∧ H1 a = some (.ins C dx fs) ∧ fs.lookup m = none ∧ sp [x] H1 Q (E σ)
def rLenS (K : PySem.W.Frag) : List V → Hp → VK → Prop := fun xs H Q => ∃ p ys, xs = [.ref p] ∧ (SqL K H p ys ∨ SqT K H p ys) ∧ Q (.int ys.length) H
section
variable {X : Cx} {CX : CXT} {k : Nat} {f C cR cT cM fM : Addr} {fd : FuncData} {ps : List Str} {sp : L2.Sp} {E : L2.St → XK} {m : Str} {pos apos : Pos} {o : Expr} {ta : TE}
theorem pe_meth0S {pl : Sem Bool} (he : PE X o ta) (c : Cls X.K C) (hm : Meth X.K C m f) (F : FnOk X.prog X.w X.K X.mg X.base CX k f fd ps sp) (hr : Room k X.A) (hb : Binds X.K fd ps []) (hx : ∀ σ, PassesAt CX X σ (E σ))
    (ht : eval (.Call (.Attribute o m apos) [] [] pos) X.env = (do
      let ov ← eval o X.env
      standAt apos.atName
      let (f, first) ← holding [ov] (getMethod ov m pl)
      callWith pos f first (backTo pos (starEach [] X.env)) (backToKw pos (keywordEach [] X.env))) := by rfl) :
    PE X (.Call (.Attribute o m apos) [] [] pos) (tMeth0S C m sp E ta) := by
  refine ⟨fun pins s σ H Q I h => ?_⟩
  refine PySem.W.methodCall_KW (pl := pl) (thn (he.run pins s σ H _ I h) fun u s1 ⟨x, H1, I1, rx, a, dx, fs, ex, ea, l, q⟩ => ?_) ht
  subst ex
  obtain rfl : u = Value.ref a := rx
  refine getmeth_ok I1 ea c hm l ?_
  exact PySem.W.callWith_K0 (first := [.ref a]) I1.kIn hm.kp (run_fnS (us := [.ref a]) (vs := [.ref a]) F hr hb (hx σ) I1 (.cons rfl .nil) q)
theorem pe_wordsS {pl : Sem Bool} (T : Tx X.K X.mg cR cT cM fM) (D : Mth X.prog X.w X.K X.mg X.base CX cR "words" k ps sp) (hr : Room k X.A) (hx : ∀ σ, PassesAt CX X σ (E σ)) (ho : PE X o ta)
    (ht : eval (.Call (.Attribute o "words" apos) [] [] pos) X.env = (do
      let ov ← eval o X.env
      standAt apos.atName
      let (f, first) ← holding [ov] (getMethod ov "words" pl)
      callWith pos f first (backTo pos (starEach [] X.env)) (backToKw pos (keywordEach [] X.env))) := by rfl) : PE X (.Call (.Attribute o "words" apos) [] [] pos) (tMeth0S cR "words" sp E ta) := by
  obtain ⟨f, fd, M, F, hb⟩ := D.ex
  exact pe_meth0S ho T.clR M F hr hb hx ht
end
/-! ## what a room's words are told as -/
def heardOf (n : Nat) : List V := if n ≤ 8 then [wN (2 ^ n)] else [.str "dimension", wN 8]
def spHeard (K : PySem.W.Frag) (cR : Addr) : L2.Sp := fun vs H Q _ => ∃ (p : Addr) (n : Nat) (B : List Nat), vs = [.ref p] ∧ RoomAt K cR H p n B ∧ ∀ l H', Ext H H' → H' l = some (.lst (heardOf B.length)) → Q (.ref l) H'
section
variable {P : Program} {w : World} {K : PySem.W.Frag} {mg : Str → Option Value} {base : Heap} {cR cT cM fM : Addr}
theorem d_law_heard (T : Tx K mg cR cT cM fM) : Def P w K mg base CX0 "_law_heard" 5 ["_law_room"] (spHeard K cR) := by
  have dWords := m_words (P := P) (w := w) (base := base) T
  refine T.f_law_heard.mk c_law_heard (fun _ _ _ _ _ _ us hl => match us, hl with | [_], _ => rfl) (fun vs H Q E h => ?_) (fun f cdv A outer s H vs Q E hr h => ?_)
  · obtain ⟨p, n, B, rfl, _⟩ := h
    rfl
  · obtain ⟨p, n, B, rfl, ⟨dx, b, hp, hb⟩, k⟩ := h
    refine ⟨_, pss_cons (ps_set (i := 1) c_law_heard.nd rfl (Or.inl rfl) (pe_lst pa_nil))
      (pss_cons (ps_try_as (i := 2) (tb := fun W => tAsg (tLst (tCons (tCB (rLenS K) (tCons (tMeth0S cR "words" (spWords K cR cM) (WE W) (tVar 0)) tNil)) tNil)) (gName 1))
          (ts := fun a cls d => tAsg (tLst (tCons (tXf a cls d cM "what" (tVar 2)) (tCons (tXf a cls d cM "limit" (tVar 2)) tNil))) (gName 1)) (Wout := fun _ _ _ _ => False) rfl rfl c_law_heard.nd rfl rfl ⟨rfl, by decide, .inl T.gM⟩ takes0
        (fun W pn xe tk _ => pss_one (ps_set (i := 1) c_law_heard.nd rfl (Or.inl rfl) (by exact (pe_lst (pa_cons (pe_callB (r := rLenS K) (by exact call_len_seq) rfl T.b_len boot_len (pa_cons (pe_wordsS T dWords (hr.mono (by decide)) (fun σ => passAt tk σ) (pv 0)) pa_nil)) pa_nil)))))
        (fun a oe cls d pn hz hf => pss_one (ps_set (i := 1) c_law_heard.nd rfl (Or.inl rfl) (by exact (pe_lst (pa_cons (pe_xf T.xf T.tm.noW hz hf (pv 2)) (pa_cons (pe_xf T.xf T.tm.noL hz hf (pv 2)) pa_nil)))))))
      (pss_one (ps_ret (pv 1)))), ?_⟩
    refine ⟨(by show 0 ≤ sizeLine; decide), fun l0 hl0 => ?_⟩
    have e0 : Ext H (upd H l0 (.lst [])) := Ext.upd hl0
    refine ⟨_, rfl, p, dx, _, rfl, e0 _ _ hp, rfl, p, n, B, rfl, ⟨dx, b, e0 _ _ hp, hb.ext e0⟩, fun h8 l H1 ys e1 hl hy => ?_, fun h8 d hd => ?_⟩
    · refine ⟨l, ys, rfl, .inl (SqL.of hl), (by show 1 ≤ sizeLine; decide), fun q hq => ?_⟩
      refine ⟨_, rfl, k q _ ((e0.trans e1).upd' hq) ?_⟩
      rw [upd_same, hy]
      unfold heardOf
      rw [if_pos h8]
    · refine ⟨true, T.tm.te, fun _ a ha => ?_, fun q => Bool.noConfusion q⟩
      refine ⟨_, rfl, rfl, rfl, d, _, _, rfl, upd_same, rfl, _, rfl, rfl, rfl, d, _, _, rfl, upd_same, rfl, (by show 2 ≤ sizeLine; decide), fun q hq => ?_⟩
      refine ⟨_, rfl, k q _ ((e0.upd' hd).upd' hq) ?_⟩
      rw [upd_same]
      unfold heardOf
      rw [if_neg (by omega)]
end
end OC

namespace OC
open PySem PySem.Spec PyProof.Rows L2
theorem pss_imp {X : Cx} {sts : List Stmt} {t u : TS} (h : PSs X sts t) (k : ∀ D σ H, u D σ H → t D σ H) : PSs X sts u := ⟨fun pins s σ H D I q => h.run pins s σ H D I (k D σ H q)⟩
section
variable {K : PySem.W.Frag} {cR : Addr} {H H' : Hp} {p q : Addr} {n : Nat} {B : List Nat}
theorem RoomAt.keepAt {xs : List V} (h : RoomAt K cR H q n B) (hp : H p = some (.lst xs)) (e : ∀ a o, a ≠ p → H a = some o → H' a = some o) : RoomAt K cR H' q n B := by
  obtain ⟨dx, b, h1, h2⟩ := h
  exact ⟨dx, b, e _ _ (ne_of h1 hp fun z => by cases z) h1, sqt_move h2 hp (fun _ z => by cases z) (fun _ _ z => by cases z) e⟩
theorem RoomAt.stp (h : RoomAt K cR H q n B) (hp : PotAt H p) (e : Stp p H H') : RoomAt K cR H' q n B := by
  obtain ⟨a, b, h1, h2⟩ := hp
  exact h.keepAt h1 e.keep
theorem DicAt.stp {D : DD} (h : DicAt H q D B) (hp : PotAt H p) (e : Stp p H H') : DicAt H' q D B := by
  obtain ⟨a, b, h1, h2⟩ := hp
  exact ⟨e.keep _ _ (ne_of h.1 h1 fun z => by cases z) h.1, h.2⟩
/-- the room of the first words, and the list of its basis -/
structure Bs (K : PySem.W.Frag) (cR : Addr) (H : Hp) (p : Addr) (n : Nat) (B : List Nat) (r ab : Addr) : Prop where
  pot : PotAt H p
  n1 : 13 ≤ n
  n2 : n ≤ 24
  pl : Plain B
  lt : ∀ b ∈ B, b < 2 ^ n
  len : B.length ≤ 20
  rm : RoomAt K cR H r n B
  ls : LsAt p H ab B
theorem Bs.stp {r ab : Addr} (h : Bs K cR H p n B r ab) (e : Stp p H H') : Bs K cR H' p n B r ab :=
  ⟨e.pot, h.n1, h.n2, h.pl, h.lt, h.len, h.rm.stp h.pot e, h.ls.stp e⟩
theorem Bs.ext {r ab : Addr} (h : Bs K cR H p n B r ab) (e : Ext H H') : Bs K cR H' p n B r ab :=
  ⟨h.pot.ext e, h.n1, h.n2, h.pl, h.lt, h.len, h.rm.ext e, h.ls.ext e⟩
/-- Room(x, y), at its address -/
theorem room_init {cT dx r : Addr} {x y : V} {R : Hp → Prop} (h : Src K cT H x y n B) (hp : H r = none) (hd : H dx = none) (ne : dx ≠ r) (k : ∀ H', Ext H H' → RoomAt K cR H' r n B → R H') :
    spRoomInit K cR cT [.ref r, x, y] (upd (upd H dx (.own r)) r (.ins cR dx [])) (fun v H2 => v = .non ∧ R H2) E0 := by
  have e : Ext H (upd (upd H dx (.own r)) r (.ins cR dx [])) := fun a o z => by
    rw [upd_ne (ne_of_none z hp), upd_ne (ne_of_none z hd)]
    exact z
  exact ⟨r, dx, x, y, n, B, rfl, upd_same, h.ext e, fun H' b keep hp' hb => ⟨rfl, k H' (fun a o z => keep a o (ne_of_none z hp) (e a o z)) ⟨dx, b, hp', hb⟩⟩⟩
theorem two_le {n : Nat} (h : n ≤ 24) : 1 * 2 ^ n ≤ 16777216 := by
  rw [Nat.one_mul]
  exact Nat.le_trans (Nat.pow_le_pow_right (by decide) h) (by decide)
theorem cut_to (xs : List Nat) (k : Nat) : cutV (wL xs) none (some (k : Int)) = wL (xs.take k) := by
  have h : HT.sIx (wL xs).length (wL xs).length (some (k : Int)) = min k xs.length := by
    show (if (k : Int) < 0 then ((k : Int) + (wL xs).length).toNat else min (k : Int).toNat (wL xs).length) = _
    rw [if_neg (by omega), Int.toNat_natCast, wL_len]
  have h0 : HT.sIx (wL xs).length 0 none = 0 := rfl
  unfold cutV
  rw [h, h0, List.drop_zero, Nat.sub_zero]
  show (xs.map wN).take _ = (xs.take k).map wN
  rw [List.map_take]
  rcases Nat.le_total k xs.length with q | q
  · rw [Nat.min_eq_left q]
  · rw [Nat.min_eq_right q, List.take_of_length_le (by rw [List.length_map]; exact Nat.le_refl _), List.take_of_length_le (by rw [List.length_map]; exact q)]
/-- two lists, by == -/
theorem eq_heard {a b : Addr} {k m : Nat} {Q : VK} (ha : H a = some (.lst (heardOf k))) (hb : H b = some (.lst (heardOf m))) (e : k = m) (q : Q (.bl true) H) : rEqD K (.ref a) (.ref b) H Q := by
  subst e
  unfold heardOf at ha hb
  by_cases h : k ≤ 8
  · rw [if_pos h] at ha hb
    refine ⟨_, _, dp_l (B := [2 ^ k]) (SqL.of ha), dp_l (B := [2 ^ k]) (SqL.of hb), sh_l _, sh_l _, ?_⟩
    rw [eq_self (sh_l _)]
    exact q
  · rw [if_neg h] at ha hb
    have sh : SeqAt.shaped (.list [.str "dimension", .int ((8 : Nat) : Int)]) = true := by decide +kernel
    refine ⟨_, _, .lst (SqL.of ha) (.cons (.str _) (.cons (.int _) .nil)), .lst (SqL.of hb) (.cons (.str _) (.cons (.int _) .nil)), sh, sh, ?_⟩
    rw [eq_self sh]
    exact q
end
def G17 (K : PySem.W.Frag) (cR : Addr) (σ : L2.St) (H : Hp) : Prop := ∃ (p r ab rs : Addr) (n : Nat) (B : List Nat) (y2 y3 y4 y6 y8 y9 y10 y11 y12 y13 y14 y15 y16 y17 y18 y19 : Option V), σ = [some (.ref p), some (wN n), y2, y3, y4, some (.ref r), y6, some (.ref ab), y8, y9, y10, y11, y12, y13, y14, y15, y16, y17, y18, y19, some (.ref rs)] ∧ Bs K cR H p n B r ab ∧ RoomAt K cR H rs n (B.take 8)
def G16 (K : PySem.W.Frag) (cR : Addr) (σ : L2.St) (H : Hp) : Prop := ∃ (p r ab : Addr) (n : Nat) (B : List Nat) (y2 y3 y4 y6 y8 y9 y10 y11 y12 y13 y14 y15 y16 y17 y18 y19 y20 : Option V), σ = [some (.ref p), some (wN n), y2, y3, y4, some (.ref r), y6, some (.ref ab), y8, y9, y10, y11, y12, y13, y14, y15, y16, y17, y18, y19, y20] ∧ Bs K cR H p n B r ab
def G15 (K : PySem.W.Frag) (cR : Addr) (σ : L2.St) (H : Hp) : Prop := ∃ (p r ab rs rl : Addr) (n v : Nat) (B : List Nat) (y2 y3 y4 y6 y8 y10 y11 y12 y13 y14 y15 y16 y17 y20 : Option V), σ = [some (.ref p), some (wN n), y2, y3, y4, some (.ref r), y6, some (.ref ab), y8, some (wN v), y10, y11, y12, y13, y14, y15, y16, y17, some (.ref rs), some (.ref rl), y20] ∧ Bs K cR H p n B r ab ∧ v < 2 ^ n ∧ RoomAt K cR H rs n (below (pb (shortE B ((2 ^ n - 1) ^^^ v) n)) n) ∧ RoomAt K cR H rl n (pb (B.map fun b => b &&& ((2 ^ n - 1) ^^^ v)))
def G14 (K : PySem.W.Frag) (cR : Addr) (σ : L2.St) (H : Hp) : Prop := ∃ (p r ab : Addr) (n v : Nat) (B : List Nat) (y2 y3 y4 y6 y8 y10 y11 y12 y13 y14 y15 y16 y17 y18 y19 y20 : Option V), σ = [some (.ref p), some (wN n), y2, y3, y4, some (.ref r), y6, some (.ref ab), y8, some (wN v), y10, y11, y12, y13, y14, y15, y16, y17, y18, y19, y20] ∧ Bs K cR H p n B r ab ∧ v < 2 ^ n
section
variable {P : Program} {w : World} {K : PySem.W.Frag} {mg : Str → Option Value} {base : Heap} {cR cT cM fM : Addr} {f : Addr} {cdv : Value} {A : Around} {outer : List Env} {s : Shared} {H0 : Hp} {E : XK}
theorem st17 (T : Tx K mg cR cT cM fM) (hr : Room 10 (A.deeper (envOfC "_law_right" (defScope s_law_right) s.heap.objs.size f cdv))) : PSs (cxOf CX0 P w K mg base ["_law_pot_here", "_law_places", "_law_one", "_law_two", "_law_passed", "_law_first", "_law_second", "_law_basis", "_law_tops_here", "_law_word", "_law_both", "_law_shared", "_law_sequence", "_law_told", "_law_back", "_law_at", "_law_to", "_law_line", "_law_short", "_law_less", "_law_some"] "_law_right" (defScope s_law_right) f cdv A outer s H0 E).nox ((defBody s_law_right).drop 17) (fun D σ H => G17 K cR σ H ∧ ∀ H', D.rt (.bl true) H') := by
  have d_law_heard := d_law_heard (P := P) (w := w) (base := base) T
  have dR := i_room (P := P) (w := w) (base := base) T
  have dDim := m_dim (P := P) (w := w) (base := base) T
  refine pss_imp (pss_one (ps_ret (pe_and (pe_cmpR (op_eqD hr.units) (pe_def d_law_heard (hr.mono (by decide)) (pa_cons (pv 20) pa_nil)) (pe_lst (pa_cons (pe_op n_shl (pe_n 1) (pe_dim T dDim (hr.mono (by decide)) (pv 20))) pa_nil)) (nomark _)) (pe_one (pe_cmpR (op_eqD hr.units) (pe_def d_law_heard (hr.mono (by decide)) (pa_cons (pe_room T dR (hr.mono (by decide)) (pa_cons (pv 1) (pa_cons (pe_slice sl_list (pv 7) po_none (po_some (pe_n 9))) pa_nil))) pa_nil)) (pe_ifExp (pt_cmpR n_gt (pe_callB call_len_seq rfl T.b_len boot_len (pa_cons (pv 7) pa_nil)) (pe_n 8) (nomark _)) (pe_lst (pa_cons pe_str (pa_cons (pe_n 8) pa_nil))) (pe_lst (pa_cons (pe_op n_shl (pe_n 1) (pe_callB call_len_seq rfl T.b_len boot_len (pa_cons (pv 7) pa_nil))) pa_nil))) (nomark _)))))) ?_
  rintro D σ H ⟨⟨p, r, ab, rs, n, B, y2, y3, y4, y6, y8, y9, y10, y11, y12, y13, y14, y15, y16, y17, y18, y19, rfl, hB, hs⟩, k⟩
  have n1 := hB.n1
  have n2 := hB.n2
  have len := hB.len
  have lt8 : (B.take 8).length ≤ 8 := List.length_take_le 8 B
  refine ⟨_, rfl, rs, n, B.take 8, rfl, hs, fun l1 H1 e1 h1 => ?_⟩
  have hs1 := hs.ext e1
  obtain ⟨dx, b, hi, hb⟩ := hs1
  refine ⟨_, rfl, rs, dx, _, rfl, hi, rs, n, B.take 8, rfl, ⟨dx, b, hi, hb⟩, 1, _, rfl, rfl, (by show 1 < 2 ^ 64 ∧ (B.take 8).length ≤ 1000000; omega), (by show 1 ≤ sizeLine; decide), fun q hq => ?_⟩
  have hq1 : upd H1 q (.lst [wN (1 * 2 ^ (B.take 8).length)]) q = some (.lst (heardOf (B.take 8).length)) := by
    rw [upd_same, Nat.one_mul]
    unfold heardOf
    rw [if_pos lt8]
  have e2 : Ext H1 (upd H1 q (.lst [wN (1 * 2 ^ (B.take 8).length)])) := Ext.upd hq
  refine eq_heard (e2 _ _ h1) hq1 rfl ⟨true, rfl, iteT ?_⟩
  have hB2 := (hB.ext e1).ext e2
  refine ⟨_, rfl, _, rfl, _, rfl, ab, _, rfl, SqL.of hB2.ls.2, fun c hc => ?_⟩
  rw [cut_to B 9]
  have pt9 := pb_take_self hB.pl 9
  have hB3 := hB2.ext (Ext.upd (o := .lst (wL (B.take 9))) hc)
  refine fun t dx0 ht0 hd0 ne0 => ?_
  refine room_init (n := n) (B := B.take 9) (.inr ⟨c, B.take 9, rfl, rfl, by omega, n2, upd_same, ?_, fun v hv => hB.lt v (List.mem_of_mem_take hv), pt9.symm⟩) ht0 hd0 ne0 fun H4 e4 ht => ?_
  · rw [List.length_take]
    omega
  have hB4 := hB3.ext e4
  refine ⟨t, n, B.take 9, rfl, ht, fun l5 H5 e5 h5 => ?_⟩
  have hB5 := hB4.ext e5
  have l9 : (B.take 9).length = min 9 B.length := List.length_take
  refine ⟨_, rfl, ab, _, rfl, .inl (SqL.of hB5.ls.2), B.length, 8, by rw [wL_len], rfl, _, rfl, ?_⟩
  refine ite2 (fun h => ?_) (fun h => ?_)
  · have h8 : 8 < B.length := of_decide_eq_true h
    refine ⟨(by show 2 ≤ sizeLine; decide), fun q2 hq2 => ?_⟩
    refine eq_heard ((Ext.upd hq2) _ _ h5) (m := (B.take 9).length) ?_ rfl (k _)
    rw [upd_same, l9]
    unfold heardOf
    rw [if_neg (by omega)]
  · have h8 : ¬ 8 < B.length := fun z => h (decide_eq_true z)
    have e9 : (B.take 9).length = B.length := by omega
    refine ⟨_, rfl, ab, _, rfl, .inl (SqL.of hB5.ls.2), 1, B.length, rfl, by rw [wL_len], (by show 1 < 2 ^ 64 ∧ B.length ≤ 1000000; omega), (by show 1 ≤ sizeLine; decide), fun q2 hq2 => ?_⟩
    refine eq_heard ((Ext.upd hq2) _ _ h5) (m := (B.take 9).length) ?_ rfl (k _)
    rw [upd_same, e9]
    unfold heardOf
    rw [if_pos (by omega)]
    show some (HO.lst [wN (1 * 2 ^ B.length)]) = _
    rw [Nat.one_mul]
theorem st16 (T : Tx K mg cR cT cM fM) (hr : Room 10 (A.deeper (envOfC "_law_right" (defScope s_law_right) s.heap.objs.size f cdv))) : PSs (cxOf CX0 P w K mg base ["_law_pot_here", "_law_places", "_law_one", "_law_two", "_law_passed", "_law_first", "_law_second", "_law_basis", "_law_tops_here", "_law_word", "_law_both", "_law_shared", "_law_sequence", "_law_told", "_law_back", "_law_at", "_law_to", "_law_line", "_law_short", "_law_less", "_law_some"] "_law_right" (defScope s_law_right) f cdv A outer s H0 E).nox ((defBody s_law_right).drop 16) (fun D σ H => G16 K cR σ H ∧ ∀ H', D.rt (.bl true) H') := by
  have dR := i_room (P := P) (w := w) (base := base) T
  refine pss_imp (pss_cons (ps_set (i := 20) c_law_right.nd rfl (Or.inl rfl) (pe_room T dR (hr.mono (by decide)) (pa_cons (pv 1) (pa_cons (pe_slice sl_list (pv 7) po_none (po_some (pe_n 8))) pa_nil)))) (st17 (P := P) (w := w) (base := base) T hr)) ?_
  rintro D σ H ⟨⟨p, r, ab, n, B, y2, y3, y4, y6, y8, y9, y10, y11, y12, y13, y14, y15, y16, y17, y18, y19, y20, rfl, hB⟩, k⟩
  have n1 := hB.n1
  have n2 := hB.n2
  have pt8 := pb_take_self hB.pl 8
  refine ⟨_, rfl, _, rfl, _, rfl, ab, _, rfl, SqL.of hB.ls.2, fun c hc => ?_⟩
  rw [cut_to B 8]
  have e1 : Ext H (upd H c (.lst (wL (B.take 8)))) := Ext.upd hc
  refine fun t dx0 ht0 hd0 ne0 => ?_
  refine room_init (n := n) (B := B.take 8) (.inr ⟨c, B.take 8, rfl, rfl, by omega, n2, upd_same, ?_, fun v hv => hB.lt v (List.mem_of_mem_take hv), pt8.symm⟩) ht0 hd0 ne0 fun H4 e4 ht => ?_
  · rw [List.length_take]
    omega
  exact ⟨⟨p, r, ab, t, n, B, _, _, _, _, _, _, _, _, _, _, _, _, _, _, _, _, rfl,  (hB.ext e1).ext e4, ht⟩, k⟩
theorem st15 (T : Tx K mg cR cT cM fM) (hr : Room 10 (A.deeper (envOfC "_law_right" (defScope s_law_right) s.heap.objs.size f cdv))) : PSs (cxOf CX0 P w K mg base ["_law_pot_here", "_law_places", "_law_one", "_law_two", "_law_passed", "_law_first", "_law_second", "_law_basis", "_law_tops_here", "_law_word", "_law_both", "_law_shared", "_law_sequence", "_law_told", "_law_back", "_law_at", "_law_to", "_law_line", "_law_short", "_law_less", "_law_some"] "_law_right" (defScope s_law_right) f cdv A outer s H0 E).nox ((defBody s_law_right).drop 15) (fun D σ H => G15 K cR σ H ∧ ∀ H', D.rt (.bl true) H') := by
  have d_lies_in := d_lies_in (P := P) (w := w) (base := base) T
  have dBasis := m_basis (P := P) (w := w) (base := base) T
  have dDim := m_dim (P := P) (w := w) (base := base) T
  refine pss_imp (pss_cons (ps_if (PW.pt (pw_or (pt_cmpR n_ne (pe_op n_add (pe_dim T dDim (hr.mono (by decide)) (pv 18)) (pe_dim T dDim (hr.mono (by decide)) (pv 19))) (pe_dim T dDim (hr.mono (by decide)) (pv 5)) (nomark _)) (pw_or (pt_not (pt_val (pe_def d_lies_in (hr.mono (by decide)) (pa_cons (pv 18) (pa_cons (pv 5) pa_nil))))) (pw_or1 (pt_val (pe_callB (cr_any rfl) rfl T.b_any boot_any (pa_cons (pe_lc (own := [("_law_line", 17)]) (g := gName 17) rfl c_law_right.nd (pi_list (pe_basis T dBasis (hr.mono (by decide)) (pv 18))) (blkOk_by (own := [("_law_line", 17)]) (N := ["_law_pot_here", "_law_places", "_law_one", "_law_two", "_law_passed", "_law_first", "_law_second", "_law_basis", "_law_tops_here", "_law_word", "_law_both", "_law_shared", "_law_sequence", "_law_told", "_law_back", "_law_at", "_law_to", "_law_line", "_law_short", "_law_less", "_law_some"]) (sc := defScope s_law_right) (by decide +kernel)) (fun _ _ _ _ _ => pg_name (i := 17) c_law_right.nd rfl (Or.inl rfl)) (fun _ _ _ _ _ => pts_nil) (fun _ _ _ _ _ => (pe_cmpR n_ne (pe_op n_and (pv 17) (pv 9)) (pv 17) (nomark _)))) pa_nil))))))) (pss_one (ps_ret pe_bl)) pss_nil) (st16 (P := P) (w := w) (base := base) T hr)) ?_
  rintro D σ H ⟨⟨p, r, ab, rs, rl, n, v, B, y2, y3, y4, y6, y8, y10, y11, y12, y13, y14, y15, y16, y17, y20, rfl, hB, hv, hs, hl⟩, k⟩
  have n1 := hB.n1
  have n2 := hB.n2
  have dim := short_len (off := (2 ^ n - 1) ^^^ v) hB.pl hB.lt
  have mem : ∀ x ∈ below (pb (shortE B ((2 ^ n - 1) ^^^ v) n)) n, Spn B x ∧ x &&& ((2 ^ n - 1) ^^^ v) = 0 := fun x hx => short_mem hB.lt hx
  have low : ∀ x ∈ below (pb (shortE B ((2 ^ n - 1) ^^^ v) n)) n, x < 2 ^ n := fun x hx => (mem_below.mp hx).2
  have slen : (below (pb (shortE B ((2 ^ n - 1) ^^^ v) n)) n).length ≤ 20 := by
    have := hB.len
    omega
  generalize below (pb (shortE B ((2 ^ n - 1) ^^^ v) n)) n = S at hs dim mem low slen
  generalize pb (B.map fun b => b &&& ((2 ^ n - 1) ^^^ v)) = L at hl dim
  obtain ⟨d1, b1, i1, t1⟩ := hs
  obtain ⟨d2, b2, i2, t2⟩ := hl
  obtain ⟨d3, b3, i3, t3⟩ := hB.rm
  refine ⟨_, rfl, rs, d1, _, rfl, i1, rs, n, S, rfl, ⟨d1, b1, i1, t1⟩, _, rfl, rl, d2, _, rfl, i2, rl, n, L, rfl, ⟨d2, b2, i2, t2⟩, _, _, rfl, rfl, _, rfl, r, d3, _, rfl, i3, r, n, B, rfl, ⟨d3, b3, i3, t3⟩, _, _, rfl, rfl, false, ?_, iteF ?_⟩
  · show V.bl (!decide (S.length + L.length = B.length)) = _
    rw [decide_eq_true dim]
    rfl
  refine ⟨_, rfl, _, rfl, rs, r, n, S, B, rfl, ⟨d1, b1, i1, t1⟩, ⟨d3, b3, i3, t3⟩, by omega, fun H1 e1 => ⟨true, ?_, iteF ?_⟩⟩
  · rw [all_lie hB.pl fun x hx => (mem x hx).1]
  dsimp only [tB, tCB, tCons, tNil]
  refine lcLW (K := K) (B := S) (fun _ => true) (fun x => .bl (!decide (x &&& v = x))) (fun R q => ?_) (by omega) (fun x => rfl) (fun x hx H2 _ Q q => q) (fun x hx hp H2 e2 Q q => ?_) fun D2 H2 hD2 e2 h2 => ?_
  · exact ⟨_, rfl, rs, d1, _, rfl, e1 _ _ i1, rfl, rs, n, S, rfl, ⟨d1, b1, e1 _ _ i1, t1.ext e1⟩, fun l H2 _ e2 hl => q l H2 e2 hl⟩
  · exact ⟨_, rfl, _, rfl, x, v, rfl, rfl, _, rfl, _, x, rfl, rfl, q H2 Ext.rfl'⟩
  · have eb : S.map (fun x => V.bl (!decide (x &&& v = x))) = (S.map fun _ => false).map V.bl := by
      rw [List.map_map]
      refine List.map_congr_left fun x hx => ?_
      rw [decide_eq_true (and_off (low x hx) (mem x hx).2)]
      rfl
    have any_ : (S.map fun _ => false).any id = false := by
      rw [List.any_eq_false]
      intro x hx
      obtain ⟨b, _, rfl⟩ := List.mem_map.mp hx
      exact Bool.false_ne_true
    rw [filter_yes, eb] at h2
    refine ⟨D2, _, rfl, SqL.of h2, false, by rw [any_], iteF ?_⟩
    exact ⟨⟨p, r, ab, n, B, _, _, _, _, _, _, _, _, _, _, _, _, _, _, _, _, _, rfl,  (hB.ext e1).ext e2⟩, k⟩
theorem st14 (T : Tx K mg cR cT cM fM) (hr : Room 10 (A.deeper (envOfC "_law_right" (defScope s_law_right) s.heap.objs.size f cdv))) : PSs (cxOf CX0 P w K mg base ["_law_pot_here", "_law_places", "_law_one", "_law_two", "_law_passed", "_law_first", "_law_second", "_law_basis", "_law_tops_here", "_law_word", "_law_both", "_law_shared", "_law_sequence", "_law_told", "_law_back", "_law_at", "_law_to", "_law_line", "_law_short", "_law_less", "_law_some"] "_law_right" (defScope s_law_right) f cdv A outer s H0 E).nox ((defBody s_law_right).drop 14) (fun D σ H => G14 K cR σ H ∧ ∀ H', D.rt (.bl true) H') := by
  have d_cut := d_cut (P := P) (w := w) (base := base) T
  have d_shortened := d_shortened (P := P) (w := w) (base := base) T
  refine pss_imp (pss_cons (ps_par (i := 18) (j := 19) (by rfl) c_law_right.nd rfl rfl (by decide) rfl rfl (pa_cons (pe_def d_shortened (hr.mono (by decide)) (pa_cons (pv 5) (pa_cons (pv 9) pa_nil))) (pa_cons (pe_def d_cut (hr.mono (by decide)) (pa_cons (pv 5) (pa_cons (pe_op n_xor (pe_op n_sub (pe_op n_shl (pe_n 1) (pv 1)) (pe_n 1)) (pv 9)) pa_nil))) pa_nil)) (by rfl)) (st15 (P := P) (w := w) (base := base) T hr)) ?_
  rintro D σ H ⟨⟨p, r, ab, n, v, B, y2, y3, y4, y6, y8, y10, y11, y12, y13, y14, y15, y16, y17, y18, y19, y20, rfl, hB, hv⟩, k⟩
  have n1 := hB.n1
  have n2 := hB.n2
  have lenB := hB.len
  refine ⟨_, rfl, _, rfl, r, n, B, v, rfl, hB.rm, by omega, n2, hv, hB.lt, fun rs H1 e1 hs => ?_⟩
  have hB1 := hB.ext e1
  have low : (2 ^ n - 1) ^^^ v < 2 ^ n := Nat.xor_lt_two_pow (by have := Nat.two_pow_pos n; omega) hv
  refine ⟨_, rfl, _, rfl, 1, n, rfl, rfl, (by show 1 < 2 ^ 64 ∧ n ≤ 1000000; omega), _, 1, rfl, rfl, (by show 1 ≤ 1 * 2 ^ n; rw [Nat.one_mul]; exact Nat.one_le_two_pow), _, rfl, _, v, rfl, rfl, ?_⟩
  dsimp only
  rw [Nat.one_mul]
  refine ⟨r, n, B, _, rfl, hB1.rm, by omega, low, fun rl H2 e2 hl => ?_⟩
  refine ⟨_, _, rfl, ?_⟩
  exact ⟨⟨p, r, ab, rs, rl, n, v, B, _, _, _, _, _, _, _, _, _, _, _, _, _, _, rfl,  hB1.ext e2, hv, hs.ext e2, hl⟩, k⟩
end
end OC

namespace OC
open PySem PySem.Spec PyProof.Rows L2
theorem ixN_nat {n j : Nat} (h : j < n) : ixN n (j : Int) = some j := by
  unfold ixN
  rw [if_pos (by omega), if_pos (by omega), Int.toNat_natCast]
theorem wL_set (t : List Nat) (j i : Nat) : (wL t).set j (wN i) = wL (t.set j i) := by
  show (t.map wN).set j (wN i) = (t.set j i).map wN
  rw [List.map_set]
theorem zeros (n : Nat) : (List.replicate ((n : Int)).toNat [wN 0]).flatten = wL (List.replicate n 0) := by
  rw [Int.toNat_natCast, List.flatten_replicate_singleton]
  show List.replicate n (wN 0) = (List.replicate n 0).map wN
  rw [List.map_replicate]
def G13 (K : PySem.W.Frag) (cR : Addr) (σ : L2.St) (H : Hp) : Prop := ∃ (p r ab sq rt bk : Addr) (n v : Nat) (B S t : List Nat) (y2 y3 y4 y6 y8 y10 y11 y15 y16 y17 y18 y19 y20 : Option V), σ = [some (.ref p), some (wN n), y2, y3, y4, some (.ref r), y6, some (.ref ab), y8, some (wN v), y10, y11, some (.ref sq), some (.ref rt), some (.ref bk), y15, y16, y17, y18, y19, y20] ∧ Bs K cR H p n B r ab ∧ v < 2 ^ n ∧ LsAt p H sq S ∧ S.Perm (List.range n) ∧ RoomAt K cR H rt n (pb (B.map (led S))) ∧ H bk = some (.lst (wL t)) ∧ t.length = n ∧ ∀ k, k < n → t.getD (S.getD k 0) 0 = k
def G12 (K : PySem.W.Frag) (cR : Addr) (σ : L2.St) (H : Hp) : Prop := ∃ (p r ab sq rt bk : Addr) (n v : Nat) (B S : List Nat) (y2 y3 y4 y6 y8 y10 y11 y15 y16 y17 y18 y19 y20 : Option V), σ = [some (.ref p), some (wN n), y2, y3, y4, some (.ref r), y6, some (.ref ab), y8, some (wN v), y10, y11, some (.ref sq), some (.ref rt), some (.ref bk), y15, y16, y17, y18, y19, y20] ∧ Bs K cR H p n B r ab ∧ v < 2 ^ n ∧ LsAt p H sq S ∧ S.Perm (List.range n) ∧ RoomAt K cR H rt n (pb (B.map (led S))) ∧ H bk = some (.lst (wL (List.replicate n 0))) ∧ bk ≠ p ∧ bk ≠ ab ∧ bk ≠ sq
def G11 (K : PySem.W.Frag) (cR : Addr) (σ : L2.St) (H : Hp) : Prop := ∃ (p r ab sq : Addr) (n v : Nat) (B S : List Nat) (y2 y3 y4 y6 y8 y10 y11 y13 y14 y15 y16 y17 y18 y19 y20 : Option V), σ = [some (.ref p), some (wN n), y2, y3, y4, some (.ref r), y6, some (.ref ab), y8, some (wN v), y10, y11, some (.ref sq), y13, y14, y15, y16, y17, y18, y19, y20] ∧ Bs K cR H p n B r ab ∧ v < 2 ^ n ∧ LsAt p H sq S ∧ S.Perm (List.range n)
def G10 (K : PySem.W.Frag) (cR : Addr) (σ : L2.St) (H : Hp) : Prop := ∃ (p r ab : Addr) (n : Nat) (B : List Nat) (y2 y3 y4 y6 y8 y9 y10 y11 y12 y13 y14 y15 y16 y17 y18 y19 y20 : Option V), σ = [some (.ref p), some (wN n), y2, y3, y4, some (.ref r), y6, some (.ref ab), y8, y9, y10, y11, y12, y13, y14, y15, y16, y17, y18, y19, y20] ∧ Bs K cR H p n B r ab
def G9 (K : PySem.W.Frag) (cR : Addr) (σ : L2.St) (H : Hp) : Prop := ∃ (p r ab r2 rb rs : Addr) (n : Nat) (B C : List Nat) (y2 y3 y4 y8 y9 y12 y13 y14 y15 y16 y17 y18 y19 y20 : Option V), σ = [some (.ref p), some (wN n), y2, y3, y4, some (.ref r), some (.ref r2), some (.ref ab), y8, y9, some (.ref rb), some (.ref rs), y12, y13, y14, y15, y16, y17, y18, y19, y20] ∧ Bs K cR H p n B r ab ∧ Plain C ∧ (∀ b ∈ C, b < 2 ^ n) ∧ C.length ≤ 14 ∧ RoomAt K cR H r2 n C ∧ RoomAt K cR H rb n (pb (B ++ C)) ∧ RoomAt K cR H rs n (below (pb (commonE B C n)) n)
def G8 (K : PySem.W.Frag) (cR : Addr) (σ : L2.St) (H : Hp) : Prop := ∃ (p r ab r2 rb rs a1 a2 : Addr) (n : Nat) (L M : List Nat) (y4 y8 y9 y12 y13 y14 y15 y16 y17 y18 y19 y20 : Option V), σ = [some (.ref p), some (wN n), some (.ref a1), some (.ref a2), y4, some (.ref r), some (.ref r2), some (.ref ab), y8, y9, some (.ref rb), some (.ref rs), y12, y13, y14, y15, y16, y17, y18, y19, y20] ∧ Bs K cR H p n (pb L) r ab ∧ (∀ b ∈ pb M, b < 2 ^ n) ∧ L.length ≤ 20 ∧ M.length ≤ 14 ∧ LsAt p H a1 L ∧ LsAt p H a2 M ∧ RoomAt K cR H r2 n (pb M) ∧ RoomAt K cR H rb n (pb (pb L ++ pb M)) ∧ RoomAt K cR H rs n (below (pb (commonE (pb L) (pb M) n)) n)
section
variable {P : Program} {w : World} {K : PySem.W.Frag} {mg : Str → Option Value} {base : Heap} {cR cT cM fM : Addr} {f : Addr} {cdv : Value} {A : Around} {outer : List Env} {s : Shared} {H0 : Hp} {E : XK}
theorem st13 (T : Tx K mg cR cT cM fM) (hr : Room 10 (A.deeper (envOfC "_law_right" (defScope s_law_right) s.heap.objs.size f cdv))) : PSs (cxOf CX0 P w K mg base ["_law_pot_here", "_law_places", "_law_one", "_law_two", "_law_passed", "_law_first", "_law_second", "_law_basis", "_law_tops_here", "_law_word", "_law_both", "_law_shared", "_law_sequence", "_law_told", "_law_back", "_law_at", "_law_to", "_law_line", "_law_short", "_law_less", "_law_some"] "_law_right" (defScope s_law_right) f cdv A outer s H0 E).nox ((defBody s_law_right).drop 13) (fun D σ H => G13 K cR σ H ∧ ∀ H', D.rt (.bl true) H') := by
  have d_exchanged := d_exchanged (P := P) (w := w) (base := base) T
  have d_law_led := d_law_led (P := P) (w := w) (base := base) T
  have d_law_plain := d_law_plain (P := P) (w := w) (base := base) T
  have dBasis := m_basis (P := P) (w := w) (base := base) T
  have dEq := m_eq (P := P) (w := w) (base := base) T
  refine pss_imp (pss_cons (ps_if (PW.pt (pw_or (pt_cmpR (op_neD hr.units) (pe_basis T dBasis (hr.mono (by decide)) (pv 13)) (pe_def d_law_plain (hr.mono (by decide)) (pa_cons (pe_lc (own := [("_law_line", 17)]) (g := gName 17) rfl c_law_right.nd (pi_list (pv 7)) (blkOk_by (own := [("_law_line", 17)]) (N := ["_law_pot_here", "_law_places", "_law_one", "_law_two", "_law_passed", "_law_first", "_law_second", "_law_basis", "_law_tops_here", "_law_word", "_law_both", "_law_shared", "_law_sequence", "_law_told", "_law_back", "_law_at", "_law_to", "_law_line", "_law_short", "_law_less", "_law_some"]) (sc := defScope s_law_right) (by decide +kernel)) (fun _ _ _ _ _ => pg_name (i := 17) c_law_right.nd rfl (Or.inl rfl)) (fun _ _ _ _ _ => pts_nil) (fun _ _ _ _ _ => (pe_def d_law_led (hr.mono (by decide)) (pa_cons (pv 17) (pa_cons (pv 12) pa_nil))))) pa_nil)) (nomark _)) (pw_or1 (pt_cmpR (op_room T dEq (hr.mono (by decide))) (pe_def d_exchanged (hr.mono (by decide)) (pa_cons (pv 13) (pa_cons (pv 14) pa_nil))) (pv 5) (nomark _))))) (pss_one (ps_ret pe_bl)) pss_nil) (st14 (P := P) (w := w) (base := base) T hr)) ?_
  rintro D σ H ⟨⟨p, r, ab, sq, rt, bk, n, v, B, S, t, y2, y3, y4, y6, y8, y10, y11, y15, y16, y17, y18, y19, y20, rfl, hB, hv, hq, hS, ht, hk, lt, ft⟩, k⟩
  have n1 := hB.n1
  have n2 := hB.n2
  have lenB := hB.len
  have lowS : ∀ j ∈ S, j < n := fun j hj => List.mem_range.mp (hS.mem_iff.mp hj)
  have low : ∀ x ∈ pb (B.map (led S)), x < 2 ^ n := pb_lt fun x hx => by
    obtain ⟨b, _, rfl⟩ := List.mem_map.mp hx
    exact led_low hS b
  have lm : (B.map (led S)).length ≤ 40 := by
    rw [List.length_map]
    omega
  have lp : (pb (B.map (led S))).length ≤ 40 := Nat.le_trans (pb_len_le _) lm
  have back := exch_back hB.pl hB.lt hS lt ft
  have permt := (back_at hS lt ft).2
  obtain ⟨d1, b1, i1, t1⟩ := ht
  refine ⟨_, rfl, rt, d1, _, rfl, i1, rfl, rt, n, _, rfl, ⟨d1, b1, i1, t1⟩, fun l H1 _ e1 hl => ?_⟩
  have hB1 := hB.ext e1
  dsimp only [tCall, tCons, tNil]
  refine lcLN (K := K) (a := ab) (B := B) (fun _ => true) (fun x => wN (led S x)) (fun R q => ⟨_, rfl, q⟩) (SqL.of hB1.ls.2) (by omega) (fun x => rfl) (fun x hx H2 _ Q q => q) (fun x hx hp H2 e2 Q q => ?_) fun D2 H2 hD2 e2 h2 => ?_
  · refine ⟨_, rfl, _, rfl, sq, S, x, rfl, (hq.ext (e1.trans e2)).2, fun j hj => ?_, fun H3 e3 => q H3 e3⟩
    have := lowS j hj
    omega
  rw [filter_yes, ← wL_map] at h2
  refine ⟨D2, _, rfl, SqL.of h2, lm, fun l2 H3 _ e3 hl2 => ?_⟩
  refine ne_lists (SqL.of ((e2.trans e3) _ _ hl)) (SqL.of hl2) ⟨false, rfl, iteF ?_⟩
  have e := (e1.trans e2).trans e3
  refine ⟨_, rfl, _, rfl, rt, bk, n, _, t, rfl, ⟨d1, b1, e _ _ i1, t1.ext e⟩, e _ _ hk, permt, n2, lp, low, fun r2 H4 e4 hr2 => ?_⟩
  rw [back] at hr2
  have hB4 := hB.ext (e.trans e4)
  obtain ⟨d2, b2, i2, t2⟩ := hr2
  obtain ⟨d3, b3, i3, t3⟩ := hB4.rm
  refine ⟨_, rfl, r2, r, d2, d3, _, _, rfl, rfl, i2, i3, r2, r, n, B, rfl, ⟨d2, b2, i2, t2⟩, ⟨d3, b3, i3, t3⟩, true, rfl, false, rfl, iteF ?_⟩
  exact ⟨⟨p, r, ab, n, v, B, _, _, _, _, _, _, _, _, _, _, _, _, _, _, _, _, rfl,  hB4, hv⟩, k⟩
theorem st12 (T : Tx K mg cR cT cM fM) (hr : Room 10 (A.deeper (envOfC "_law_right" (defScope s_law_right) s.heap.objs.size f cdv))) : PSs (cxOf CX0 P w K mg base ["_law_pot_here", "_law_places", "_law_one", "_law_two", "_law_passed", "_law_first", "_law_second", "_law_basis", "_law_tops_here", "_law_word", "_law_both", "_law_shared", "_law_sequence", "_law_told", "_law_back", "_law_at", "_law_to", "_law_line", "_law_short", "_law_less", "_law_some"] "_law_right" (defScope s_law_right) f cdv A outer s H0 E).nox ((defBody s_law_right).drop 12) (fun D σ H => G12 K cR σ H ∧ ∀ H', D.rt (.bl true) H') := by
  refine pss_imp (pss_cons (ps_for PassesOwn.never rfl (pi_enum rfl T.b_enumerate (pa_cons (pv 12) pa_nil)) (pg_tup (by rfl) (pgs_cons (pg_name (i := 15) c_law_right.nd rfl (Or.inl rfl)) (pgs_cons (pg_name (i := 16) c_law_right.nd rfl (Or.inl rfl)) pgs_nil))) (pss_one (ps_asg (pv 15) (pg_sub (pv 14) (pv 16) set_list)))) (st13 (P := P) (w := w) (base := base) T hr)) ?_
  rintro D σ H ⟨⟨p, r, ab, sq, rt, bk, n, v, B, S, y2, y3, y4, y6, y8, y10, y11, y15, y16, y17, y18, y19, y20, rfl, hB, hv, hq, hS, ht, hk, np, na, ns⟩, k⟩
  have hn : S.length = n := by rw [hS.length_eq, List.length_range]
  have nd : S.Nodup := (List.Perm.nodup_iff hS).mpr List.nodup_range
  refine ⟨_, rfl, sq, _, rfl, SqL.of hq.2, for_enum (K := K) (a := sq) (xs := wL S) (fun i σ H' => ∃ (t : List Nat) (x15 x16 : Option V), σ = [some (.ref p), some (wN n), y2, y3, y4, some (.ref r), y6, some (.ref ab), y8, some (wN v), y10, y11, some (.ref sq), some (.ref rt), some (.ref bk), x15, x16, y17, y18, y19, y20] ∧
    H' bk = some (.lst (wL t)) ∧ t.length = n ∧ (∀ k, k < i → t.getD (S.getD k 0) 0 = k) ∧ ∀ a o, a ≠ bk → H a = some o → H' a = some o) ?_ ?_ ?_ ?_⟩
  · exact ⟨_, y15, y16, rfl, hk, List.length_replicate, fun k h => absurd h (Nat.not_lt_zero k), fun a o _ h => h⟩
  · rintro i σ H' hi ⟨t, x15, x16, rfl, h1, h2, h3, keep⟩
    exact SqL.of (keep _ _ (Ne.symm ns) hq.2)
  · rintro i y T2 σ H' hi ⟨t, x15, x16, rfl, h1, h2, h3, keep⟩ hT
    obtain ⟨j, hj, rfl⟩ := wL_at hi
    have jn : j < n := List.mem_range.mp (hS.mem_iff.mp (List.mem_of_getElem? hj))
    refine ⟨T2, _, rfl, SqT.of upd_same, rfl, _, _, rfl, _, _, rfl, rfl, ?_⟩
    have hk' : upd H' T2 (.tup [wN i, wN j]) bk = some (.lst (wL t)) := by
      rw [upd_ne (ne_of_none h1 hT)]
      exact h1
    refine ⟨_, rfl, _, rfl, _, rfl, bk, _, (j : Int), j, rfl, rfl, hk', ixN_nat (by rw [wL_len, h2]; exact jn), ?_⟩
    refine ⟨t.set j i, some (wN i), some (wN j), rfl, ?_, ?_, back_turn (n := n) nd hj (by rw [h2]; exact jn) h3, fun a o na ha => ?_⟩
    · rw [upd_same]
      exact congrArg (fun x => some (HO.lst x)) (wL_set t j i)
    · rw [List.length_set]
      exact h2
    · have := keep a o na ha
      rw [upd_ne na, upd_ne (ne_of_none this hT)]
      exact this
  · rintro σ H' ⟨t, x15, x16, rfl, h1, h2, h3, keep⟩
    rw [wL_len, hn] at h3
    have pot' : PotAt H' p := by
      obtain ⟨a, b, q1, q2⟩ := hB.pot
      exact ⟨a, b, keep _ _ (Ne.symm np) q1, q2⟩
    have hB' : Bs K cR H' p n B r ab := ⟨pot', hB.n1, hB.n2, hB.pl, hB.lt, hB.len, hB.rm.keepAt hk keep, ⟨hB.ls.1, keep _ _ (Ne.symm na) hB.ls.2⟩⟩
    exact ⟨⟨p, r, ab, sq, rt, bk, n, v, B, S, t, _, _, _, _, _, _, _, _, _, _, _, _, _, rfl,  hB', hv, ⟨hq.1, keep _ _ (Ne.symm ns) hq.2⟩, hS, ht.keepAt hk keep, h1, h2, h3⟩, k⟩
theorem st11 (T : Tx K mg cR cT cM fM) (hr : Room 10 (A.deeper (envOfC "_law_right" (defScope s_law_right) s.heap.objs.size f cdv))) : PSs (cxOf CX0 P w K mg base ["_law_pot_here", "_law_places", "_law_one", "_law_two", "_law_passed", "_law_first", "_law_second", "_law_basis", "_law_tops_here", "_law_word", "_law_both", "_law_shared", "_law_sequence", "_law_told", "_law_back", "_law_at", "_law_to", "_law_line", "_law_short", "_law_less", "_law_some"] "_law_right" (defScope s_law_right) f cdv A outer s H0 E).nox ((defBody s_law_right).drop 11) (fun D σ H => G11 K cR σ H ∧ ∀ H', D.rt (.bl true) H') := by
  have d_exchanged := d_exchanged (P := P) (w := w) (base := base) T
  refine pss_imp (pss_cons (ps_par (i := 13) (j := 14) (by rfl) c_law_right.nd rfl rfl (by decide) rfl rfl (pa_cons (pe_def d_exchanged (hr.mono (by decide)) (pa_cons (pv 5) (pa_cons (pv 12) pa_nil))) (pa_cons (pe_op op_rep (pe_lst (pa_cons (pe_n 0) pa_nil)) (pv 1)) pa_nil)) (by rfl)) (st12 (P := P) (w := w) (base := base) T hr)) ?_
  rintro D σ H ⟨⟨p, r, ab, sq, n, v, B, S, y2, y3, y4, y6, y8, y10, y11, y13, y14, y15, y16, y17, y18, y19, y20, rfl, hB, hv, hq, hS⟩, k⟩
  have n1 := hB.n1
  have n2 := hB.n2
  have lenB := hB.len
  refine ⟨_, rfl, _, rfl, r, sq, n, B, S, rfl, hB.rm, hq.2, hS, n2, by omega, hB.lt, fun rt H1 e1 ht => ?_⟩
  have hB1 := hB.ext e1
  have hq1 := hq.ext e1
  refine ⟨(by show 1 ≤ sizeLine; decide), fun l hl => ⟨_, rfl, l, (n : Int), _, rfl, rfl, upd_same, by omega, by omega, ?_, fun bk hbk => ⟨_, _, rfl, ?_⟩⟩⟩
  · refine small ?_
    rw [Int.toNat_natCast]
    show 1 * n ≤ 100000
    omega
  have e2 : Ext H1 (upd H1 l (.lst [wN 0])) := Ext.upd hl
  have e3 := Ext.upd (o := .lst (List.replicate ((n : Int)).toNat [wN 0]).flatten) hbk
  have hB2 := hB1.ext e2
  have hq2 := hq1.ext e2
  refine ⟨⟨p, r, ab, sq, rt, bk, n, v, B, S, _, _, _, _, _, _, _, _, _, _, _, _, _, rfl,  hB2.ext e3, hv, hq2.ext e3, hS, ht.ext (e2.trans e3), ?_, hB2.pot.ne_none hbk, Ne.symm (ne_of_none hB2.ls.2 hbk), Ne.symm (ne_of_none hq2.2 hbk)⟩, k⟩
  rw [upd_same]
  exact congrArg (fun x => some (HO.lst x)) (zeros n)
theorem st10 (T : Tx K mg cR cT cM fM) (hr : Room 10 (A.deeper (envOfC "_law_right" (defScope s_law_right) s.heap.objs.size f cdv))) : PSs (cxOf CX0 P w K mg base ["_law_pot_here", "_law_places", "_law_one", "_law_two", "_law_passed", "_law_first", "_law_second", "_law_basis", "_law_tops_here", "_law_word", "_law_both", "_law_shared", "_law_sequence", "_law_told", "_law_back", "_law_at", "_law_to", "_law_line", "_law_short", "_law_less", "_law_some"] "_law_right" (defScope s_law_right) f cdv A outer s H0 E).nox ((defBody s_law_right).drop 10) (fun D σ H => G10 K cR σ H ∧ ∀ H', D.rt (.bl true) H') := by
  have d_law_draw := d_law_draw (P := P) (w := w) (base := base) T
  have d_law_mixed := d_law_mixed (P := P) (w := w) (base := base) T
  refine pss_imp (pss_cons (ps_asg (pe_tup (pa_cons (pe_def d_law_mixed (hr.mono (by decide)) (pa_cons (pv 0) (pa_cons (pe_listRg rfl rfl T.b_list (prg_1 rfl T.b_range (pv 1))) pa_nil))) (pa_cons (pe_def d_law_draw (hr.mono (by decide)) (pa_cons (pv 0) (pa_cons (pe_op n_shl (pe_n 1) (pv 1)) pa_nil))) pa_nil))) (pg_tup (by rfl) (pgs_cons (pg_name (i := 12) c_law_right.nd rfl (Or.inr rfl)) (pgs_cons (pg_name (i := 9) c_law_right.nd rfl (Or.inr rfl)) pgs_nil)))) (st11 (P := P) (w := w) (base := base) T hr)) ?_
  rintro D σ H ⟨⟨p, r, ab, n, B, y2, y3, y4, y6, y8, y9, y10, y11, y12, y13, y14, y15, y16, y17, y18, y19, y20, rfl, hB⟩, k⟩
  have n1 := hB.n1
  have n2 := hB.n2
  refine ⟨_, rfl, _, rfl, n, rfl, RgOk.of_le (by decide) (by omega) (by decide) (by omega), fun q hq => ?_⟩
  have hB1 := hB.ext (Ext.upd (o := .lst (rgV 0 (n : Int))) hq)
  refine ⟨p, q, List.range n, rfl, by rw [upd_same, rg_words], by rw [List.length_range]; omega, hB1.pot, fun sq S H1 e1 hsq hS => ?_⟩
  have hB2 := hB1.stp e1
  refine ⟨_, rfl, _, rfl, 1, n, rfl, rfl, (by show 1 < 2 ^ 64 ∧ n ≤ 1000000; omega), p, _, rfl, ?_, ?_, hB2.pot, fun v H2 hv e2 => ?_⟩
  · rw [Nat.one_mul]
    exact Nat.one_le_two_pow
  · exact two_le n2
  rw [Nat.one_mul] at hv
  have hB3 := hB2.stp e2
  refine ⟨(by show 2 ≤ sizeLine; decide), fun t ht => ⟨t, _, rfl, SqT.of upd_same, rfl, _, _, rfl, _, _, rfl, rfl, ?_⟩⟩
  have e3 := Ext.upd (o := .tup [.ref sq, wN v]) ht
  exact ⟨⟨p, r, ab, sq, n, v, B, S, _, _, _, _, _, _, _, _, _, _, _, _, _, _, _, rfl,  hB3.ext e3, hv, (hsq.stp e2).ext e3, hS⟩, k⟩
theorem st9 (T : Tx K mg cR cT cM fM) (hr : Room 10 (A.deeper (envOfC "_law_right" (defScope s_law_right) s.heap.objs.size f cdv))) : PSs (cxOf CX0 P w K mg base ["_law_pot_here", "_law_places", "_law_one", "_law_two", "_law_passed", "_law_first", "_law_second", "_law_basis", "_law_tops_here", "_law_word", "_law_both", "_law_shared", "_law_sequence", "_law_told", "_law_back", "_law_at", "_law_to", "_law_line", "_law_short", "_law_less", "_law_some"] "_law_right" (defScope s_law_right) f cdv A outer s H0 E).nox ((defBody s_law_right).drop 9) (fun D σ H => G9 K cR σ H ∧ ∀ H', D.rt (.bl true) H') := by
  have d_lies_in := d_lies_in (P := P) (w := w) (base := base) T
  refine pss_imp (pss_cons (ps_if (PW.pt (pw_or (pt_not (pt_val (pe_def d_lies_in (hr.mono (by decide)) (pa_cons (pv 11) (pa_cons (pv 5) pa_nil))))) (pw_or (pt_not (pt_val (pe_def d_lies_in (hr.mono (by decide)) (pa_cons (pv 11) (pa_cons (pv 6) pa_nil))))) (pw_or1 (pt_not (pt_val (pe_def d_lies_in (hr.mono (by decide)) (pa_cons (pv 6) (pa_cons (pv 10) pa_nil))))))))) (pss_one (ps_ret pe_bl)) pss_nil) (st10 (P := P) (w := w) (base := base) T hr)) ?_
  rintro D σ H ⟨⟨p, r, ab, r2, rb, rs, n, B, C, y2, y3, y4, y8, y9, y12, y13, y14, y15, y16, y17, y18, y19, y20, rfl, hB, pC, vC, lC, h2, hb, hs⟩, k⟩
  have lenB := hB.len
  have lenS := (common_dim hB.pl pC hB.lt vC).2
  have mem : ∀ x ∈ below (pb (commonE B C n)) n, Spn B x ∧ Spn C x := fun x hx => common_mem hB.lt hx
  generalize below (pb (commonE B C n)) n = S at hs lenS mem
  have lS : S.length ≤ 100 := by omega
  refine ⟨_, rfl, _, rfl, rs, r, n, S, B, rfl, hs, hB.rm, lS, fun H1 e1 => ⟨true, ?_, iteF ?_⟩⟩
  · rw [all_lie hB.pl fun x hx => (mem x hx).1]
  refine ⟨_, rfl, _, rfl, rs, r2, n, S, C, rfl, hs.ext e1, h2.ext e1, lS, fun H2 e2 => ⟨true, ?_, iteF ?_⟩⟩
  · rw [all_lie pC fun x hx => (mem x hx).2]
  have e := e1.trans e2
  refine ⟨_, rfl, _, rfl, r2, rb, n, C, _, rfl, h2.ext e, hb.ext e, by omega, fun H3 e3 => ⟨true, ?_, iteF ?_⟩⟩
  · rw [all_lie (pb_plain _) fun x hx => in_both B C x hx]
  exact ⟨⟨p, r, ab, n, B, _, _, _, _, _, _, _, _, _, _, _, _, _, _, _, _, _, rfl,  hB.ext (e.trans e3)⟩, k⟩
theorem st8 (T : Tx K mg cR cT cM fM) (hr : Room 10 (A.deeper (envOfC "_law_right" (defScope s_law_right) s.heap.objs.size f cdv))) : PSs (cxOf CX0 P w K mg base ["_law_pot_here", "_law_places", "_law_one", "_law_two", "_law_passed", "_law_first", "_law_second", "_law_basis", "_law_tops_here", "_law_word", "_law_both", "_law_shared", "_law_sequence", "_law_told", "_law_back", "_law_at", "_law_to", "_law_line", "_law_short", "_law_less", "_law_some"] "_law_right" (defScope s_law_right) f cdv A outer s H0 E).nox ((defBody s_law_right).drop 8) (fun D σ H => G8 K cR σ H ∧ ∀ H', D.rt (.bl true) H') := by
  have d_law_plain := d_law_plain (P := P) (w := w) (base := base) T
  have dBasis := m_basis (P := P) (w := w) (base := base) T
  have dDim := m_dim (P := P) (w := w) (base := base) T
  refine pss_imp (pss_cons (ps_if (PW.pt (pw_or (pt_cmpR (op_neD hr.units) (pe_basis T dBasis (hr.mono (by decide)) (pv 10)) (pe_def d_law_plain (hr.mono (by decide)) (pa_cons (pe_op op_cat (pv 2) (pv 3)) pa_nil)) (nomark _)) (pw_or1 (pt_cmpR n_ne (pe_dim T dDim (hr.mono (by decide)) (pv 11)) (pe_op n_sub (pe_op n_add (pe_dim T dDim (hr.mono (by decide)) (pv 5)) (pe_dim T dDim (hr.mono (by decide)) (pv 6))) (pe_dim T dDim (hr.mono (by decide)) (pv 10))) (nomark _))))) (pss_one (ps_ret pe_bl)) pss_nil) (st9 (P := P) (w := w) (base := base) T hr)) ?_
  rintro D σ H ⟨⟨p, r, ab, r2, rb, rs, a1, a2, n, L, M, y4, y8, y9, y12, y13, y14, y15, y16, y17, y18, y19, y20, rfl, hB, vC, lL, lM, h1, h3, h2, hb, hs⟩, k⟩
  have lenB := hB.len
  have pC := pb_plain M
  have lC : (pb M).length ≤ 14 := Nat.le_trans (pb_len_le M) lM
  have dims := common_dim hB.pl pC hB.lt vC
  obtain ⟨d1, b1, i1, t1⟩ := hb
  refine ⟨_, rfl, rb, d1, _, rfl, i1, rfl, rb, n, _, rfl, ⟨d1, b1, i1, t1⟩, fun l H1 _ e1 hl => ?_⟩
  refine ⟨_, rfl, _, rfl, a1, a2, _, _, rfl, rfl, (h1.ext e1).2, (h3.ext e1).2, ?_, fun q hq => ?_⟩
  · refine small ?_
    rw [wL_len, wL_len]
    omega
  have e2 := Ext.upd (o := .lst (wL L ++ wL M)) hq
  refine ⟨q, L ++ M, rfl, SqL.of (by rw [upd_same, wL_app]), by rw [List.length_append]; omega, fun l2 H3 _ e3 hl2 => ?_⟩
  rw [← pb_two] at hl2
  refine ne_lists (SqL.of ((e2.trans e3) _ _ hl)) (SqL.of hl2) ⟨false, rfl, iteF ?_⟩
  have e := (e1.trans e2).trans e3
  have hB3 := hB.ext e
  have hs3 := hs.ext e
  obtain ⟨d2, b2, i2, t2⟩ := hs3
  obtain ⟨d3, b3, i3, t3⟩ := hB3.rm
  have h23 := h2.ext e
  obtain ⟨d4, b4, i4, t4⟩ := h23
  refine ⟨_, rfl, rs, d2, _, rfl, i2, rs, n, _, rfl, ⟨d2, b2, i2, t2⟩, _, rfl, r, d3, _, rfl, i3, r, n, _, rfl, ⟨d3, b3, i3, t3⟩, _, rfl, r2, d4, _, rfl, i4, r2, n, _, rfl, ⟨d4, b4, i4, t4⟩, _, _, rfl, rfl,
    _, rfl, rb, d1, _, rfl, e _ _ i1, rb, n, _, rfl, ⟨d1, b1, e _ _ i1, t1.ext e⟩, _, _, rfl, rfl, dims.1, _, _, rfl, rfl, false, ?_, iteF ?_⟩
  · show V.bl (!decide (_ = _)) = _
    rw [decide_eq_true dims.2]
    rfl
  exact ⟨⟨p, r, ab, r2, rb, rs, n, pb L, pb M, _, _, _, _, _, _, _, _, _, _, _, _, _, _, rfl,  hB3, pC, vC, lC, ⟨d4, b4, i4, t4⟩, ⟨d1, b1, e _ _ i1, t1.ext e⟩, ⟨d2, b2, i2, t2⟩⟩, k⟩
end
end OC

namespace OC
open PySem PySem.Spec PyProof.Rows L2
/-- what the law starts from: the words of two rooms -/
structure Fw (H : Hp) (p : Addr) (n : Nat) (L M : List Nat) (a1 a2 : Addr) : Prop where
  pot : PotAt H p
  n1 : 13 ≤ n
  n2 : n ≤ 24
  l1 : 12 ≤ L.length
  l2 : L.length ≤ 20
  m2 : M.length ≤ 14
  v1 : ∀ v ∈ L, v < 2 ^ n
  v2 : ∀ v ∈ M, v < 2 ^ n
  h1 : LsAt p H a1 L
  h2 : LsAt p H a2 M
section
variable {H H' : Hp} {p a1 a2 : Addr} {n : Nat} {L M : List Nat}
theorem Fw.stp (h : Fw H p n L M a1 a2) (e : Stp p H H') : Fw H' p n L M a1 a2 := ⟨e.pot, h.n1, h.n2, h.l1, h.l2, h.m2, h.v1, h.v2, h.h1.stp e, h.h2.stp e⟩
theorem Fw.ext (h : Fw H p n L M a1 a2) (e : Ext H H') : Fw H' p n L M a1 a2 := ⟨h.pot.ext e, h.n1, h.n2, h.l1, h.l2, h.m2, h.v1, h.v2, h.h1.ext e, h.h2.ext e⟩
end
theorem last_at {L : List Nat} (h : L ≠ []) : atI (wL L) (-1) = some (wN (L.getLast h)) := by
  have e : wL L = wL L.dropLast ++ [wN (L.getLast h)] := by
    have := congrArg wL (List.dropLast_concat_getLast h)
    rw [wL_app] at this
    exact this.symm
  rw [e]
  exact atI_last _ _
def G7 (K : PySem.W.Frag) (cR : Addr) (σ : L2.St) (H : Hp) : Prop := ∃ (p r ab r2 a1 a2 : Addr) (n : Nat) (L M : List Nat) (y4 y8 y9 y10 y11 y12 y13 y14 y15 y16 y17 y18 y19 y20 : Option V), σ = [some (.ref p), some (wN n), some (.ref a1), some (.ref a2), y4, some (.ref r), some (.ref r2), some (.ref ab), y8, y9, y10, y11, y12, y13, y14, y15, y16, y17, y18, y19, y20] ∧ Fw H p n L M a1 a2 ∧ Bs K cR H p n (pb L) r ab ∧ RoomAt K cR H r2 n (pb M)
def G6 (K : PySem.W.Frag) (cR : Addr) (σ : L2.St) (H : Hp) : Prop := ∃ (p r ab r2 a1 a2 ad : Addr) (n : Nat) (L M : List Nat) (DC : DD) (y4 y9 y10 y11 y12 y13 y14 y15 y16 y17 y18 y19 y20 : Option V), σ = [some (.ref p), some (wN n), some (.ref a1), some (.ref a2), y4, some (.ref r), some (.ref r2), some (.ref ab), some (.ref ad), y9, y10, y11, y12, y13, y14, y15, y16, y17, y18, y19, y20] ∧ Fw H p n L M a1 a2 ∧ Bs K cR H p n (pb L) r ab ∧ RoomAt K cR H r2 n (pb M) ∧ DicAt H ad DC (pb L)
def G5 (K : PySem.W.Frag) (cR : Addr) (σ : L2.St) (H : Hp) : Prop := ∃ (p r ab r2 a1 a2 ad : Addr) (n : Nat) (L M : List Nat) (DC : DD) (y4 y9 y10 y11 y12 y13 y14 y15 y16 y17 y18 y19 y20 : Option V), σ = [some (.ref p), some (wN n), some (.ref a1), some (.ref a2), y4, some (.ref r), some (.ref r2), some (.ref ab), some (.ref ad), y9, y10, y11, y12, y13, y14, y15, y16, y17, y18, y19, y20] ∧ Fw H p n L M a1 a2 ∧ Bs K cR H p n (pb L) r ab ∧ RoomAt K cR H r2 n (pb M) ∧ DicAt H ad DC (pb L)
def G4 (K : PySem.W.Frag) (cR : Addr) (σ : L2.St) (H : Hp) : Prop := ∃ (p r r2 a1 a2 : Addr) (n : Nat) (L M : List Nat) (y4 y7 y8 y9 y10 y11 y12 y13 y14 y15 y16 y17 y18 y19 y20 : Option V), σ = [some (.ref p), some (wN n), some (.ref a1), some (.ref a2), y4, some (.ref r), some (.ref r2), y7, y8, y9, y10, y11, y12, y13, y14, y15, y16, y17, y18, y19, y20] ∧ Fw H p n L M a1 a2 ∧ RoomAt K cR H r n (pb L) ∧ RoomAt K cR H r2 n (pb M)
def G3 (K : PySem.W.Frag) (cR : Addr) (σ : L2.St) (H : Hp) : Prop := ∃ (p a1 a2 ap : Addr) (n : Nat) (L M z : List Nat) (y5 y6 y7 y8 y9 y10 y11 y12 y13 y14 y15 y16 y17 y18 y19 y20 : Option V), σ = [some (.ref p), some (wN n), some (.ref a1), some (.ref a2), some (.ref ap), y5, y6, y7, y8, y9, y10, y11, y12, y13, y14, y15, y16, y17, y18, y19, y20] ∧ Fw H p n L M a1 a2 ∧ LsAt p H ap z ∧ z.Perm (L ++ L.take 12)
def G2 (K : PySem.W.Frag) (cR : Addr) (σ : L2.St) (H : Hp) : Prop := ∃ (p a1 a2 : Addr) (n : Nat) (L M : List Nat) (y4 y5 y6 y7 y8 y9 y10 y11 y12 y13 y14 y15 y16 y17 y18 y19 y20 : Option V), σ = [some (.ref p), some (wN n), some (.ref a1), some (.ref a2), y4, y5, y6, y7, y8, y9, y10, y11, y12, y13, y14, y15, y16, y17, y18, y19, y20] ∧ Fw H p n L M a1 a2
def G1 (K : PySem.W.Frag) (cR : Addr) (σ : L2.St) (H : Hp) : Prop := ∃ (p : Addr) (n : Nat) (y2 y3 y4 y5 y6 y7 y8 y9 y10 y11 y12 y13 y14 y15 y16 y17 y18 y19 y20 : Option V), σ = [some (.ref p), some (wN n), y2, y3, y4, y5, y6, y7, y8, y9, y10, y11, y12, y13, y14, y15, y16, y17, y18, y19, y20] ∧ PotAt H p ∧ 13 ≤ n ∧ n ≤ 24
def G0 (K : PySem.W.Frag) (cR : Addr) (σ : L2.St) (H : Hp) : Prop := ∃ (p : Addr) (y1 y2 y3 y4 y5 y6 y7 y8 y9 y10 y11 y12 y13 y14 y15 y16 y17 y18 y19 y20 : Option V), σ = [some (.ref p), y1, y2, y3, y4, y5, y6, y7, y8, y9, y10, y11, y12, y13, y14, y15, y16, y17, y18, y19, y20] ∧ PotAt H p
section
variable {P : Program} {w : World} {K : PySem.W.Frag} {mg : Str → Option Value} {base : Heap} {cR cT cM fM : Addr} {f : Addr} {cdv : Value} {A : Around} {outer : List Env} {s : Shared} {H0 : Hp} {E : XK}
theorem st7 (T : Tx K mg cR cT cM fM) (hr : Room 10 (A.deeper (envOfC "_law_right" (defScope s_law_right) s.heap.objs.size f cdv))) : PSs (cxOf CX0 P w K mg base ["_law_pot_here", "_law_places", "_law_one", "_law_two", "_law_passed", "_law_first", "_law_second", "_law_basis", "_law_tops_here", "_law_word", "_law_both", "_law_shared", "_law_sequence", "_law_told", "_law_back", "_law_at", "_law_to", "_law_line", "_law_short", "_law_less", "_law_some"] "_law_right" (defScope s_law_right) f cdv A outer s H0 E).nox ((defBody s_law_right).drop 7) (fun D σ H => G7 K cR σ H ∧ ∀ H', D.rt (.bl true) H') := by
  have d_common_room := d_common_room (P := P) (w := w) (base := base) T
  have d_sum_room := d_sum_room (P := P) (w := w) (base := base) T
  refine pss_imp (pss_cons (ps_par (i := 10) (j := 11) (by rfl) c_law_right.nd rfl rfl (by decide) rfl rfl (pa_cons (pe_def d_sum_room (hr.mono (by decide)) (pa_cons (pv 5) (pa_cons (pv 6) pa_nil))) (pa_cons (pe_def d_common_room (hr.mono (by decide)) (pa_cons (pv 5) (pa_cons (pv 6) pa_nil))) pa_nil)) (by rfl)) (st8 (P := P) (w := w) (base := base) T hr)) ?_
  rintro D σ H ⟨⟨p, r, ab, r2, a1, a2, n, L, M, y4, y8, y9, y10, y11, y12, y13, y14, y15, y16, y17, y18, y19, y20, rfl, hF, hB, h2⟩, k⟩
  have lenB := hB.len
  have m2 := hF.m2
  have lC : (pb M).length ≤ 14 := Nat.le_trans (pb_len_le M) m2
  have vC := pb_lt hF.v2
  refine ⟨_, rfl, _, rfl, r, r2, n, _, _, rfl, hB.rm, h2, by omega, by omega, fun rb H1 e1 hb => ?_⟩
  refine ⟨_, rfl, _, rfl, r, r2, n, _, _, rfl, hB.rm.ext e1, h2.ext e1, by omega, by omega, hF.n2, hB.lt, vC, fun rs H2 e2 hs => ?_⟩
  have e := e1.trans e2
  have hF2 := hF.ext e
  refine ⟨_, _, rfl, ?_⟩
  exact ⟨⟨p, r, ab, r2, rb, rs, a1, a2, n, L, M, _, _, _, _, _, _, _, _, _, _, _, _, rfl,  hB.ext e, vC, hF.l2, m2, hF2.h1, hF2.h2, h2.ext e, hb.ext e2, hs⟩, k⟩
theorem st6 (T : Tx K mg cR cT cM fM) (hr : Room 10 (A.deeper (envOfC "_law_right" (defScope s_law_right) s.heap.objs.size f cdv))) : PSs (cxOf CX0 P w K mg base ["_law_pot_here", "_law_places", "_law_one", "_law_two", "_law_passed", "_law_first", "_law_second", "_law_basis", "_law_tops_here", "_law_word", "_law_both", "_law_shared", "_law_sequence", "_law_told", "_law_back", "_law_at", "_law_to", "_law_line", "_law_short", "_law_less", "_law_some"] "_law_right" (defScope s_law_right) f cdv A outer s H0 E).nox ((defBody s_law_right).drop 6) (fun D σ H => G6 K cR σ H ∧ ∀ H', D.rt (.bl true) H') := by
  have d_law_left := d_law_left (P := P) (w := w) (base := base) T
  have d_law_words := d_law_words (P := P) (w := w) (base := base) T
  have dHas := m_has (P := P) (w := w) (base := base) T
  refine pss_imp (pss_cons (ps_for PassesOwn.never rfl (pi_list (pe_op op_cat (pe_def d_law_words (hr.mono (by decide)) (pa_cons (pv 0) (pa_cons (pv 1) (pa_cons (pe_n 2) pa_nil)))) (pe_lst (pa_cons (pe_op n_xor (pe_op n_xor (pe_ix (r := rIxL K) ix_list (pv 2) (pe_n 0) (fun _ _ => rfl)) (pe_ix (r := rIxL K) ix_list (pv 2) (pe_un un_neg pe_int) (fun _ _ => rfl))) (pe_ix (r := rIxL K) ix_list (pv 2) (pe_n 1) (fun _ _ => rfl))) pa_nil)))) (pg_name (i := 9) c_law_right.nd rfl (Or.inr rfl)) (pss_one (ps_if (pt_cmpR op_ne (pe_callB c_reprB rfl T.b_repr boot_repr (pa_cons (pe_has T dHas (hr.mono (by decide)) (pv 5) (pa_cons (pv 9) pa_nil)) pa_nil)) (pe_callB c_reprB rfl T.b_repr boot_repr (pa_cons (pe_cmpR n_eq (pe_def d_law_left (hr.mono (by decide)) (pa_cons (pv 8) (pa_cons (pv 9) pa_nil))) (pe_n 0) (nomark _)) pa_nil)) (nomark _)) (pss_one (ps_ret pe_bl)) pss_nil))) (st7 (P := P) (w := w) (base := base) T hr)) ?_
  rintro D σ H ⟨⟨p, r, ab, r2, a1, a2, ad, n, L, M, DC, y4, y9, y10, y11, y12, y13, y14, y15, y16, y17, y18, y19, y20, rfl, hF, hB, h2, hd⟩, k⟩
  have l1 := hF.l1
  have n2 := hF.n2
  refine ⟨_, rfl, _, rfl, p, n, 2, rfl, n2, by decide, hF.pot, fun l ws H1 e1 hl lw vw => ?_⟩
  have hF1 := hF.stp e1
  have nL : L ≠ [] := fun z => by
    rw [z] at l1
    exact absurd l1 (by decide)
  have g0 : L[0]? = some (L[0]'(by omega)) := List.getElem?_eq_getElem _
  have g1 : L[1]? = some (L[1]'(by omega)) := List.getElem?_eq_getElem _
  have v0 := hF.v1 _ (List.mem_of_getElem? g0)
  have v1 := hF.v1 _ (List.mem_of_getElem? g1)
  have vl := hF.v1 _ (List.getLast_mem nL)
  have gl := last_at nL
  generalize (L[0]'(by omega)) = x0 at g0 v0
  generalize (L[1]'(by omega)) = x1 at g1 v1
  generalize L.getLast nL = xl at vl gl
  refine ⟨_, rfl, a1, _, ((0 : Nat) : Int), _, rfl, rfl, SqL.of hF1.h1.2, atI_nat (wL_get g0), _, rfl, 1, rfl, a1, _, -1, _, rfl, rfl, SqL.of hF1.h1.2, gl, x0, xl, rfl, rfl, _, rfl, a1, _, ((1 : Nat) : Int), _, rfl, rfl, SqL.of hF1.h1.2, atI_nat (wL_get g1), _, x1, rfl, rfl,
    (by show 1 ≤ sizeLine; decide), fun q hq => ?_⟩
  have vz : x0 ^^^ xl ^^^ x1 < 2 ^ n := Nat.xor_lt_two_pow (Nat.xor_lt_two_pow v0 vl) v1
  generalize hz : x0 ^^^ xl ^^^ x1 = z at vz
  have hq1 : upd H1 q (.lst [wN (x0 ^^^ xl ^^^ x1)]) q = some (.lst [wN z]) := by
    rw [upd_same, hz]
  have e2 : Ext H1 (upd H1 q (.lst [wN (x0 ^^^ xl ^^^ x1)])) := Ext.upd hq
  refine ⟨l, q, _, _, rfl, rfl, e2 _ _ hl.2, hq1, ?_, fun c hc => ⟨c, rfl, ⟨_, SqL.of upd_same⟩, ?_⟩⟩
  · refine small ?_
    rw [wL_len, lw]
    show 2 + 1 ≤ 100000
    decide
  have e3 := Ext.upd (o := .lst (wL ws ++ [wN z])) hc
  have hcc : upd (upd H1 q (.lst [wN (x0 ^^^ xl ^^^ x1)])) c (.lst (wL ws ++ [wN z])) c = some (.lst (wL (ws ++ [z]))) := by
    rw [upd_same, wL_app]
    rfl
  have st := e1.ext (e2.trans e3)
  have hF3 := hF.stp st
  have hB3 := hB.stp st
  have h23 := h2.stp hF.pot st
  have hd3 := hd.stp hF.pot st
  refine for_list (K := K) (a := c) (xs := wL (ws ++ [z])) (fun i σ H' => ∃ x9 : Option V, σ = [some (.ref p), some (wN n), some (.ref a1), some (.ref a2), y4, some (.ref r), some (.ref r2), some (.ref ab), some (.ref ad), x9, y10, y11, y12, y13, y14, y15, y16, y17, y18, y19, y20] ∧
    Ext (upd (upd H1 q (.lst [wN (x0 ^^^ xl ^^^ x1)])) c (.lst (wL ws ++ [wN z]))) H') ⟨y9, rfl, Ext.rfl'⟩ ?_ ?_ ?_
  · rintro i σ H' hi ⟨x9, rfl, e⟩
    exact SqL.of (e _ _ hcc)
  · rintro i y σ H' hi ⟨x9, rfl, e⟩
    obtain ⟨v, hv, rfl⟩ := wL_at hi
    have vv : v < 2 ^ n := by
      rcases List.mem_append.mp (List.mem_of_getElem? hv) with m | m
      · exact vw v m
      · rw [List.mem_singleton.mp m]
        exact vz
    have hB4 := hB3.ext e
    obtain ⟨d1, b1, i1, t1⟩ := hB4.rm
    refine ⟨_, rfl, r, d1, _, rfl, i1, rfl, _, rfl, r, n, _, v, rfl, ⟨d1, b1, i1, t1⟩, vv, _, rfl, _, rfl, _, rfl, ad, DC, _, v, rfl, hd3.ext e, fun H5 e5 => ?_⟩
    refine ⟨leftOf (pb L) v, 0, rfl, rfl, _, rfl, rfl, false, ?_, iteF ?_⟩
    · rw [decide_eq_true rfl]
      rfl
    · exact ⟨some (wN v), rfl, e.trans e5⟩
  · rintro σ H' ⟨x9, rfl, e⟩
    exact ⟨⟨p, r, ab, r2, a1, a2, n, L, M, _, _, _, _, _, _, _, _, _, _, _, _, _, _, rfl,  hF3.ext e, hB3.ext e, h23.ext e⟩, k⟩
theorem st5 (T : Tx K mg cR cT cM fM) (hr : Room 10 (A.deeper (envOfC "_law_right" (defScope s_law_right) s.heap.objs.size f cdv))) : PSs (cxOf CX0 P w K mg base ["_law_pot_here", "_law_places", "_law_one", "_law_two", "_law_passed", "_law_first", "_law_second", "_law_basis", "_law_tops_here", "_law_word", "_law_both", "_law_shared", "_law_sequence", "_law_told", "_law_back", "_law_at", "_law_to", "_law_line", "_law_short", "_law_less", "_law_some"] "_law_right" (defScope s_law_right) f cdv A outer s H0 E).nox ((defBody s_law_right).drop 5) (fun D σ H => G5 K cR σ H ∧ ∀ H', D.rt (.bl true) H') := by
  have d_law_mixed := d_law_mixed (P := P) (w := w) (base := base) T
  have d_law_plain := d_law_plain (P := P) (w := w) (base := base) T
  have dR := i_room (P := P) (w := w) (base := base) T
  have dBasis := m_basis (P := P) (w := w) (base := base) T
  have dDim := m_dim (P := P) (w := w) (base := base) T
  have dEq := m_eq (P := P) (w := w) (base := base) T
  refine pss_imp (pss_cons (ps_if (PW.pt (pw_or (pt_cmpR (op_neD hr.units) (pe_basis T dBasis (hr.mono (by decide)) (pv 5)) (pv 7) (nomark _)) (pw_or (pt_cmpR (op_neD hr.units) (pe_basis T dBasis (hr.mono (by decide)) (pv 6)) (pe_def d_law_plain (hr.mono (by decide)) (pa_cons (pv 3) pa_nil)) (nomark _)) (pw_or (pt_cmpR n_ne (pe_dim T dDim (hr.mono (by decide)) (pv 5)) (pe_callB call_len_seq rfl T.b_len boot_len (pa_cons (pv 7) pa_nil)) (nomark _)) (pw_or1 (pt_cmpR (op_room T dEq (hr.mono (by decide))) (pe_room T dR (hr.mono (by decide)) (pa_cons (pv 1) (pa_cons (pe_def d_law_mixed (hr.mono (by decide)) (pa_cons (pv 0) (pa_cons (pv 7) pa_nil))) pa_nil))) (pv 5) (nomark _))))))) (pss_one (ps_ret pe_bl)) pss_nil) (st6 (P := P) (w := w) (base := base) T hr)) ?_
  rintro D σ H ⟨⟨p, r, ab, r2, a1, a2, ad, n, L, M, DC, y4, y9, y10, y11, y12, y13, y14, y15, y16, y17, y18, y19, y20, rfl, hF, hB, h2, hd⟩, k⟩
  have n1 := hB.n1
  have n2 := hB.n2
  have lenB := hB.len
  have m2 := hF.m2
  obtain ⟨d1, b1, i1, t1⟩ := hB.rm
  obtain ⟨d2, b2, i2, t2⟩ := h2
  refine ⟨_, rfl, r, d1, _, rfl, i1, rfl, r, n, _, rfl, ⟨d1, b1, i1, t1⟩, fun l H1 _ e1 hl => ⟨_, rfl, ne_lists (SqL.of hl) (SqL.of (hB.ext e1).ls.2) ⟨false, rfl, iteF ?_⟩⟩⟩
  refine ⟨_, rfl, r2, d2, _, rfl, e1 _ _ i2, rfl, r2, n, _, rfl, ⟨d2, b2, e1 _ _ i2, t2.ext e1⟩, fun l2 H2 _ e2 hl2 => ?_⟩
  have e12 := e1.trans e2
  refine ⟨_, rfl, a2, M, rfl, SqL.of (hF.ext e12).h2.2, by omega, fun l3 H3 _ e3 hl3 => ne_lists (SqL.of (e3 _ _ hl2)) (SqL.of hl3) ⟨false, rfl, iteF ?_⟩⟩
  have e := e12.trans e3
  have hB3 := hB.ext e
  refine ⟨_, rfl, r, d1, _, rfl, e _ _ i1, r, n, _, rfl, ⟨d1, b1, e _ _ i1, t1.ext e⟩, _, rfl, ab, _, rfl, .inl (SqL.of hB3.ls.2), (pb L).length, (pb L).length, rfl, by rw [wL_len], false, ?_, iteF ?_⟩
  · show V.bl (!decide (_ = _)) = _
    rw [decide_eq_true rfl]
    rfl
  refine ⟨_, rfl, _, rfl, _, rfl, p, ab, _, rfl, hB3.ls.2, by omega, hB3.pot, fun lz zs H4 e4 hlz perm => ?_⟩
  refine fun t dx0 ht0 hd0 ne0 => ?_
  refine room_init (n := n) (B := pb L) (.inr ⟨lz, zs, rfl, rfl, by omega, n2, hlz.2, ?_, fun v hv => hB.lt v (perm.mem_iff.mp hv), (pb_perm hB.pl perm).symm⟩) ht0 hd0 ne0 fun H5 e5 ht => ?_
  · rw [perm.length_eq]
    omega
  have st := (Stp.of hF.pot e).trans (e4.ext e5)
  have hB5 := hB.stp st
  obtain ⟨d3, b3, i3, t3⟩ := ht
  obtain ⟨d4, b4, i4, t4⟩ := hB5.rm
  refine ⟨_, rfl, t, r, d3, d4, _, _, rfl, rfl, i3, i4, t, r, n, _, rfl, ⟨d3, b3, i3, t3⟩, ⟨d4, b4, i4, t4⟩, true, rfl, false, rfl, iteF ?_⟩
  exact ⟨⟨p, r, ab, r2, a1, a2, ad, n, L, M, DC, _, _, _, _, _, _, _, _, _, _, _, _, _, rfl,  hF.stp st, hB5, (show RoomAt K cR H r2 n (pb M) from ⟨d2, b2, i2, t2⟩).stp hF.pot st, hd.stp hF.pot st⟩, k⟩
theorem st4 (T : Tx K mg cR cT cM fM) (hr : Room 10 (A.deeper (envOfC "_law_right" (defScope s_law_right) s.heap.objs.size f cdv))) : PSs (cxOf CX0 P w K mg base ["_law_pot_here", "_law_places", "_law_one", "_law_two", "_law_passed", "_law_first", "_law_second", "_law_basis", "_law_tops_here", "_law_word", "_law_both", "_law_shared", "_law_sequence", "_law_told", "_law_back", "_law_at", "_law_to", "_law_line", "_law_short", "_law_less", "_law_some"] "_law_right" (defScope s_law_right) f cdv A outer s H0 E).nox ((defBody s_law_right).drop 4) (fun D σ H => G4 K cR σ H ∧ ∀ H', D.rt (.bl true) H') := by
  have d_law_plain := d_law_plain (P := P) (w := w) (base := base) T
  have d_law_tops := d_law_tops (P := P) (w := w) (base := base) T
  refine pss_imp (pss_cons (ps_par (i := 7) (j := 8) (by rfl) c_law_right.nd rfl rfl (by decide) rfl rfl (pa_cons (pe_def d_law_plain (hr.mono (by decide)) (pa_cons (pv 2) pa_nil)) (pa_cons (pe_def d_law_tops (hr.mono (by decide)) (pa_cons (pv 2) pa_nil)) pa_nil)) (by rfl)) (st5 (P := P) (w := w) (base := base) T hr)) ?_
  rintro D σ H ⟨⟨p, r, r2, a1, a2, n, L, M, y4, y7, y8, y9, y10, y11, y12, y13, y14, y15, y16, y17, y18, y19, y20, rfl, hF, hr1, h2⟩, k⟩
  have l2 := hF.l2
  refine ⟨_, rfl, a1, L, rfl, SqL.of hF.h1.2, by omega, fun ab H1 hf e1 hl => ?_⟩
  refine ⟨_, rfl, a1, L, rfl, SqL.of (hF.ext e1).h1.2, by omega, fun ad DC H2 _ e2 hd => ⟨_, _, rfl, ?_⟩⟩
  have e := e1.trans e2
  have hF2 := hF.ext e
  have hB : Bs K cR H2 p n (pb L) r ab := ⟨hF2.pot, hF.n1, hF.n2, pb_plain L, pb_lt hF.v1, Nat.le_trans (pb_len_le L) l2, hr1.ext e, ⟨hF.pot.ne_none hf, e2 _ _ hl⟩⟩
  exact ⟨⟨p, r, ab, r2, a1, a2, ad, n, L, M, DC, _, _, _, _, _, _, _, _, _, _, _, _, _, rfl,  hF2, hB, h2.ext e, hd⟩, k⟩
theorem st3 (T : Tx K mg cR cT cM fM) (hr : Room 10 (A.deeper (envOfC "_law_right" (defScope s_law_right) s.heap.objs.size f cdv))) : PSs (cxOf CX0 P w K mg base ["_law_pot_here", "_law_places", "_law_one", "_law_two", "_law_passed", "_law_first", "_law_second", "_law_basis", "_law_tops_here", "_law_word", "_law_both", "_law_shared", "_law_sequence", "_law_told", "_law_back", "_law_at", "_law_to", "_law_line", "_law_short", "_law_less", "_law_some"] "_law_right" (defScope s_law_right) f cdv A outer s H0 E).nox ((defBody s_law_right).drop 3) (fun D σ H => G3 K cR σ H ∧ ∀ H', D.rt (.bl true) H') := by
  have dR := i_room (P := P) (w := w) (base := base) T
  refine pss_imp (pss_cons (ps_par (i := 5) (j := 6) (by rfl) c_law_right.nd rfl rfl (by decide) rfl rfl (pa_cons (pe_room T dR (hr.mono (by decide)) (pa_cons (pv 1) (pa_cons (pv 4) pa_nil))) (pa_cons (pe_room T dR (hr.mono (by decide)) (pa_cons (pv 1) (pa_cons (pv 3) pa_nil))) pa_nil)) (by rfl)) (st4 (P := P) (w := w) (base := base) T hr)) ?_
  rintro D σ H ⟨⟨p, a1, a2, ap, n, L, M, z, y5, y6, y7, y8, y9, y10, y11, y12, y13, y14, y15, y16, y17, y18, y19, y20, rfl, hF, hz, pm⟩, k⟩
  have n1 := hF.n1
  have n2 := hF.n2
  have l2 := hF.l2
  have m2 := hF.m2
  refine ⟨_, rfl, _, rfl, fun t dx0 ht0 hd0 ne0 => ?_⟩
  refine room_init (n := n) (B := pb L) (.inr ⟨ap, z, rfl, rfl, by omega, n2, hz.2, ?_, fun v hv => ?_, (pb_passed pm).symm⟩) ht0 hd0 ne0 fun H1 e1 h1 => ?_
  · rw [pm.length_eq, List.length_append, List.length_take]
    omega
  · rcases List.mem_append.mp (pm.mem_iff.mp hv) with m | m
    · exact hF.v1 v m
    · exact hF.v1 v (List.mem_of_mem_take m)
  have hF1 := hF.ext e1
  refine ⟨_, rfl, _, rfl, fun t2 dx2 ht2 hd2 ne2 => ?_⟩
  refine room_init (n := n) (B := pb M) (.inr ⟨a2, M, rfl, rfl, by omega, n2, hF1.h2.2, by omega, hF.v2, rfl⟩) ht2 hd2 ne2 fun H2 e2 h2 => ?_
  refine ⟨_, _, rfl, ?_⟩
  exact ⟨⟨p, t, t2, a1, a2, n, L, M, _, _, _, _, _, _, _, _, _, _, _, _, _, _, _, rfl,  hF1.ext e2, h1.ext e2, h2⟩, k⟩
theorem st2 (T : Tx K mg cR cT cM fM) (hr : Room 10 (A.deeper (envOfC "_law_right" (defScope s_law_right) s.heap.objs.size f cdv))) : PSs (cxOf CX0 P w K mg base ["_law_pot_here", "_law_places", "_law_one", "_law_two", "_law_passed", "_law_first", "_law_second", "_law_basis", "_law_tops_here", "_law_word", "_law_both", "_law_shared", "_law_sequence", "_law_told", "_law_back", "_law_at", "_law_to", "_law_line", "_law_short", "_law_less", "_law_some"] "_law_right" (defScope s_law_right) f cdv A outer s H0 E).nox ((defBody s_law_right).drop 2) (fun D σ H => G2 K cR σ H ∧ ∀ H', D.rt (.bl true) H') := by
  have d_law_mixed := d_law_mixed (P := P) (w := w) (base := base) T
  refine pss_imp (pss_cons (ps_set (i := 4) c_law_right.nd rfl (Or.inl rfl) (pe_def d_law_mixed (hr.mono (by decide)) (pa_cons (pv 0) (pa_cons (pe_op op_cat (pv 2) (pe_slice sl_list (pv 2) po_none (po_some (pe_n 12)))) pa_nil)))) (st3 (P := P) (w := w) (base := base) T hr)) ?_
  rintro D σ H ⟨⟨p, a1, a2, n, L, M, y4, y5, y6, y7, y8, y9, y10, y11, y12, y13, y14, y15, y16, y17, y18, y19, y20, rfl, hF⟩, k⟩
  have l2 := hF.l2
  refine ⟨_, rfl, _, rfl, _, rfl, _, rfl, a1, _, rfl, SqL.of hF.h1.2, fun c hc => ?_⟩
  rw [cut_to L 12]
  have e1 := Ext.upd (o := .lst (wL (L.take 12))) hc
  have hF1 := hF.ext e1
  refine ⟨a1, c, _, _, rfl, rfl, hF1.h1.2, upd_same, ?_, fun q hq => ?_⟩
  · refine small ?_
    rw [wL_len, wL_len, List.length_take]
    omega
  have e2 := Ext.upd (o := .lst (wL L ++ wL (L.take 12))) hq
  refine ⟨p, q, L ++ L.take 12, rfl, by rw [upd_same, wL_app], ?_, (hF1.ext e2).pot, fun l zs H3 e3 hl pm => ?_⟩
  · rw [List.length_append, List.length_take]
    omega
  exact ⟨⟨p, a1, a2, l, n, L, M, zs, _, _, _, _, _, _, _, _, _, _, _, _, _, _, _, _, rfl,  (hF1.ext e2).stp e3, hl, pm⟩, k⟩
theorem st1 (T : Tx K mg cR cT cM fM) (hr : Room 10 (A.deeper (envOfC "_law_right" (defScope s_law_right) s.heap.objs.size f cdv))) : PSs (cxOf CX0 P w K mg base ["_law_pot_here", "_law_places", "_law_one", "_law_two", "_law_passed", "_law_first", "_law_second", "_law_basis", "_law_tops_here", "_law_word", "_law_both", "_law_shared", "_law_sequence", "_law_told", "_law_back", "_law_at", "_law_to", "_law_line", "_law_short", "_law_less", "_law_some"] "_law_right" (defScope s_law_right) f cdv A outer s H0 E).nox ((defBody s_law_right).drop 1) (fun D σ H => G1 K cR σ H ∧ ∀ H', D.rt (.bl true) H') := by
  have d_law_draw := d_law_draw (P := P) (w := w) (base := base) T
  have d_law_words := d_law_words (P := P) (w := w) (base := base) T
  refine pss_imp (pss_cons (ps_par (i := 2) (j := 3) (by rfl) c_law_right.nd rfl rfl (by decide) rfl rfl (pa_cons (pe_def d_law_words (hr.mono (by decide)) (pa_cons (pv 0) (pa_cons (pv 1) (pa_cons (pe_op n_add (pe_n 12) (pe_def d_law_draw (hr.mono (by decide)) (pa_cons (pv 0) (pa_cons (pe_n 9) pa_nil)))) pa_nil)))) (pa_cons (pe_def d_law_words (hr.mono (by decide)) (pa_cons (pv 0) (pa_cons (pv 1) (pa_cons (pe_op n_add (pe_n 12) (pe_def d_law_draw (hr.mono (by decide)) (pa_cons (pv 0) (pa_cons (pe_n 3) pa_nil)))) pa_nil)))) pa_nil)) (by rfl)) (st2 (P := P) (w := w) (base := base) T hr)) ?_
  rintro D σ H ⟨⟨p, n, y2, y3, y4, y5, y6, y7, y8, y9, y10, y11, y12, y13, y14, y15, y16, y17, y18, y19, y20, rfl, hp, n1, n2⟩, k⟩
  refine ⟨_, rfl, _, rfl, _, rfl, p, 9, rfl, by decide, by decide, hp, fun d H1 hd e1 => ⟨12, d, rfl, rfl, p, n, _, rfl, n2, by omega, e1.pot, fun a1 L H2 e2 h1 lL vL => ?_⟩⟩
  refine ⟨_, rfl, _, rfl, _, rfl, p, 3, rfl, by decide, by decide, e2.pot, fun d2 H3 hd2 e3 => ⟨12, d2, rfl, rfl, p, n, _, rfl, n2, by omega, e3.pot, fun a2 M H4 e4 h2 lM vM => ⟨_, _, rfl, ?_⟩⟩⟩
  exact ⟨⟨p, a1, a2, n, L, M, _, _, _, _, _, _, _, _, _, _, _, _, _, _, _, _, _, rfl,  ⟨e4.pot, n1, n2, by omega, by omega, by omega, vL, vM, (h1.stp e3).stp e4, h2⟩⟩, k⟩
theorem st0 (T : Tx K mg cR cT cM fM) (hr : Room 10 (A.deeper (envOfC "_law_right" (defScope s_law_right) s.heap.objs.size f cdv))) : PSs (cxOf CX0 P w K mg base ["_law_pot_here", "_law_places", "_law_one", "_law_two", "_law_passed", "_law_first", "_law_second", "_law_basis", "_law_tops_here", "_law_word", "_law_both", "_law_shared", "_law_sequence", "_law_told", "_law_back", "_law_at", "_law_to", "_law_line", "_law_short", "_law_less", "_law_some"] "_law_right" (defScope s_law_right) f cdv A outer s H0 E).nox ((defBody s_law_right).drop 0) (fun D σ H => G0 K cR σ H ∧ ∀ H', D.rt (.bl true) H') := by
  have d_law_draw := d_law_draw (P := P) (w := w) (base := base) T
  refine pss_imp (pss_cons (ps_set (i := 1) c_law_right.nd rfl (Or.inl rfl) (pe_op n_add (pe_n 13) (pe_def d_law_draw (hr.mono (by decide)) (pa_cons (pv 0) (pa_cons (pe_n 12) pa_nil))))) (st1 (P := P) (w := w) (base := base) T hr)) ?_
  rintro D σ H ⟨⟨p, y1, y2, y3, y4, y5, y6, y7, y8, y9, y10, y11, y12, y13, y14, y15, y16, y17, y18, y19, y20, rfl, hp⟩, k⟩
  refine ⟨_, rfl, p, 12, rfl, by decide, by decide, hp, fun d H1 hd e1 => ⟨13, d, rfl, rfl, ?_⟩⟩
  exact ⟨⟨p, 13 + d, _, _, _, _, _, _, _, _, _, _, _, _, _, _, _, _, _, _, _, rfl,  e1.pot, by omega, by omega⟩, k⟩
def spRight : L2.Sp := fun vs H Q _ => ∃ p : Addr, vs = [.ref p] ∧ PotAt H p ∧ ∀ H', Q (.bl true) H'
def spLaw (K : PySem.W.Frag) : L2.Sp := fun vs H Q _ => ∃ (a : Addr) (xs : List Int), vs = [.ref a] ∧ SqL K H a (xs.map V.int) ∧ ∀ H', Q (.bl true) H'
theorem d_law_right (T : Tx K mg cR cT cM fM) : Def P w K mg base CX0 "_law_right" 11 ["_law_pot_here"] spRight := by
  refine T.f_law_right.mk c_law_right (fun _ _ _ _ _ _ us hl => match us, hl with | [_], _ => rfl) (fun vs H Q E h => ?_) (fun f cdv A outer s H vs Q E hr h => ?_)
  · obtain ⟨p, rfl, _⟩ := h
    rfl
  · obtain ⟨p, rfl, hp, k⟩ := h
    exact ⟨_, st0 (P := P) (w := w) (base := base) T hr, ⟨⟨p, _, _, _, _, _, _, _, _, _, _, _, _, _, _, _, _, _, _, _, _, rfl,  hp⟩, k⟩⟩
end
section
variable {P : Program} {w : World} {K : PySem.W.Frag} {mg : Str → Option Value} {base : Heap} {cR cT cM fM : Addr}
theorem d_law (T : Tx K mg cR cT cM fM) : Def P w K mg base CX0 "law" 12 ["_law_script"] (spLaw K) := by
  have d_law_right := d_law_right (P := P) (w := w) (base := base) T
  have d_law_pot := d_law_pot (P := P) (w := w) (base := base) T
  refine T.f_law.mk c_law (fun _ _ _ _ _ _ us hl => match us, hl with | [_], _ => rfl) (fun vs H Q E h => ?_) (fun f cdv A outer s H vs Q E hr h => ?_)
  · obtain ⟨a, xs, rfl, _⟩ := h
    rfl
  · obtain ⟨a, xs, rfl, ha, k⟩ := h
    refine ⟨_, (pss_one (ps_ret (pe_def d_law_right (hr.mono (by decide)) (pa_cons (pe_def d_law_pot (hr.mono (by decide)) (pa_cons (pv 0) (pa_cons (pe_n 0) pa_nil))) pa_nil)))), ?_⟩
    exact ⟨_, rfl, a, xs, rfl, ha, fun p H' hp => ⟨p, rfl, hp, k⟩⟩
end
end OC

namespace OC
open PySem PySem.Spec PyProof.Rows L2
section
variable {P : Program} {w : World} {K : PySem.W.Frag} {mg : Str → Option Value} {base : Heap} {cR cT cM fM f : Addr} {fd : FuncData}
theorem law_ok (T : Tx K mg cR cT cM fM) (F : FunD K "law" "law" (defArgs s_law) (defBody s_law) (defScope s_law) [] [] f fd) : FnOk P w K mg base CX0 12 f fd ["_law_script"] (spLaw K) := by
  have d_law_right := d_law_right (P := P) (w := w) (base := base) T
  have d_law_pot := d_law_pot (P := P) (w := w) (base := base) T
  refine F.ok c_law (fun vs H Q E h => ?_) (fun cdv A outer s H vs Q E hr h => ?_)
  · obtain ⟨a, xs, rfl, _⟩ := h
    rfl
  · obtain ⟨a, xs, rfl, ha, k⟩ := h
    refine ⟨_, PSs.nox (pss_one (ps_ret (pe_def d_law_right (hr.mono (by decide)) (pa_cons (pe_def d_law_pot (hr.mono (by decide)) (pa_cons (pv 0) (pa_cons (pe_n 0) pa_nil))) pa_nil)))), ?_⟩
    exact ⟨_, rfl, a, xs, rfl, ha, fun p H' hp => ⟨p, rfl, hp, k⟩⟩
end
end OC
open PySem PySem.W PySem.Calls PyProof.Rows
theorem PySem.Challenge.cw_owncontraries_k18_whole_great_rooms_holds : PySem.Challenge.rw_owncontraries_k18_whole_great_rooms.Holds := by
  w_on; o_law
  refine HandSHeadRun.head_any (r := OpenLaw.row PySem.Challenge.rw_owncontraries_k18_whole_great_rooms) (q := view (OpenLaw.row PySem.Challenge.rw_owncontraries_k18_whole_great_rooms).prog [62]) (H := OC.hk) (ob := OC.ob) (M := 6000) (loose := OC.nm1 ++ OC.nm2) (d := HandSHeadRun.topDef (OpenLaw.row PySem.Challenge.rw_owncontraries_k18_whole_great_rooms).prog 62) (kwd := []) OC.ob_eq
    (by kernel_rfl) (fun s => by kernel_rfl) OC.run (by kernel_rfl) (by kernel_rfl) (by kernel_rfl) (by rfl) (by first | assumption | decide +kernel) (by decide +kernel) ⟨rfl, rfl, rfl, rfl, rfl, by decide +kernel⟩ ?hw ?hc
  case hw => w_witness2
  case hc =>
    refine L2.walk_ofE (l := PySem.Challenge.rw_owncontraries_k18_whole_great_rooms) (n := 63) (k := 12) (x := "_law_script") (CX := L2.CX0) rfl (by decide) (by kernel_rfl) ⟨rfl, by decide, by decide⟩ ?F (fun _ _ _ _ z => z)
    intro w mg fa h Y G hmg0
    obtain ⟨K, KX, c⟩ := Y
    have hmg : mg ("law" : PySem.Str) = some (.ref fa) := by
      have e : (HandSHeadRun.topDef (OpenLaw.row PySem.Challenge.rw_owncontraries_k18_whole_great_rooms).prog 62).name = ("law" : PySem.Str) := by kernel_rfl
      rw [← e]
      exact hmg0
    have T := OC.tx_of KX G c
    obtain ⟨f, fd, F, hf⟩ := T.f_law
    have e := hmg.symm.trans hf
    cases e
    have b := L2.FunD.bindsA (ps := ["_law_script"]) F fun _ _ _ _ _ _ us hl => match us, hl with | [_], _ => rfl
    exact ⟨K, fd, OC.spLaw K, KX, fun s v => b s [v] rfl, fun H a ns hl _ hS => ⟨a, ns, rfl, hS, fun _ => rfl⟩, fun base _ _ => OC.law_ok T F⟩

