import PyProof.Rows.All
import Wide.All
import OpenK.AllK
import Wide.FinOn
import Open.SpecLaws
import KE.OsGo
import HandS.ForSpec
import HandS.Comp
import HandS.Strs
import HandS.SetFor
import HandS.TupSets
import HandS.Deep
import HandS.Conv
import HandS.Iter
import HandS.Walk
import HandS.NoneIn
import HandS.Evl
import PyFlatLaws
import PySem.Challenge.RW_firstseat_s01_answers
set_option Elab.async false
set_option linter.all false
set_option maxRecDepth 100000
set_option maxHeartbeats 4000000
namespace Fs
open Kg75
/-! ### the mirror -/
def compI : Option Nat → Int
  | none => -1
  | some j => (j : Int)
structure WF (s : State) : Prop where
  len : s.guests.length ≤ 9
  home : s.home ≤ 30
  rank : ∀ g ∈ s.guests, g.rank ≤ 10
  since : ∀ g ∈ s.guests, g.since ≤ 100000
  country : ∀ g ∈ s.guests, g.country ≤ 30
  sex : ∀ g ∈ s.guests, g.sex ≤ 1
  speaks : ∀ g ∈ s.guests, g.speaks.length ≤ 1300
  mates : ∀ i j, i < s.guests.length → (s.guest i).with_ = some j → j < s.guests.length ∧ j ≠ i ∧ (s.guest j).with_ = some i
  apartLen : s.apart.length ≤ 40
  apart : ∀ x ∈ s.apart, x.1 < s.guests.length ∧ x.2 < s.guests.length ∧ x.1 ≠ x.2
  hostsLen : s.hosts.length ≤ 2
  hosts : ∀ x ∈ s.hosts, x.1 < s.guests.length ∧ x.2 < s.guests.length
  hostG : (s.hosts.map (·.1)).Nodup
  hostS : (s.hosts.map (·.2)).Nodup
theorem guest_lt {s : State} {i : Nat} (h : i < s.guests.length) : s.guest i = s.guests[i] := by
  unfold State.guest
  rw [List.getD_eq_getElem?_getD, List.getElem?_eq_getElem h]; rfl
theorem guest_mem {s : State} {i : Nat} (h : i < s.guests.length) : s.guest i ∈ s.guests := by
  rw [guest_lt h]; exact List.getElem_mem h
theorem guest_ge {s : State} {i : Nat} (h : s.guests.length ≤ i) : s.guest i = ⟨NONE, 0, 0, 0, none, []⟩ := by
  unfold State.guest
  rw [List.getD_eq_getElem?_getD, List.getElem?_eq_none h]; rfl
/-! ### who follows -/
def follows (s : State) (i : Nat) : Bool :=
  if (s.guest i).rank < 10 then false else match (s.guest i).with_ with
    | none => false
    | some j => decide ((s.guest j).rank < 10)
def ownL (s : State) (i : Nat) : List Nat := [(s.guest i).rank, if (s.guest i).country = s.home then 1 else 0, (s.guest i).since, i]
/-- whom a guest brings along -/
def block (s : State) (i : Nat) : List Nat := match (s.guest i).with_ with
  | none => [i]
  | some j => if follows s j = true then [i, j] else [i]
/-! ### less -/
theorem less_irrefl : ∀ a : List Nat, less a a = false
  | [] => rfl
  | x :: a => by unfold less; rw [less_irrefl a]; simp
theorem less_trans : ∀ {a b c : List Nat}, less a b = true → less b c = true → less a c = true
  | x :: a, y :: b, z :: c, h1, h2 => by
    unfold less at h1 h2 ⊢
    simp only [Bool.or_eq_true, decide_eq_true_eq, Bool.and_eq_true, beq_iff_eq] at h1 h2 ⊢
    rcases h1 with h1 | ⟨rfl, h1⟩
    · rcases h2 with h2 | ⟨rfl, h2⟩
      · exact .inl (by omega)
      · exact .inl h1
    · rcases h2 with h2 | ⟨rfl, h2⟩
      · exact .inl h2
      · exact .inr ⟨rfl, less_trans h1 h2⟩
  | [], _, _, h1, _ => by unfold less at h1; cases h1
  | _ :: _, [], _, h1, _ => by unfold less at h1; cases h1
  | _ :: _, _ :: _, [], _, h2 => by unfold less at h2; cases h2
theorem less_total : ∀ {a b : List Nat}, a.length = b.length → less a b = true ∨ a = b ∨ less b a = true
  | [], [], _ => .inr (.inl rfl)
  | x :: a, y :: b, h => by
    have ih := less_total (a := a) (b := b) (by simpa using h)
    unfold less
    simp only [Bool.or_eq_true, decide_eq_true_eq, Bool.and_eq_true, beq_iff_eq]
    rcases Nat.lt_trichotomy x y with q | rfl | q
    · exact .inl (.inl q)
    · rcases ih with ih | rfl | ih
      · exact .inl (.inr ⟨rfl, ih⟩)
      · exact .inr (.inl rfl)
      · exact .inr (.inr (.inr ⟨rfl, ih⟩))
    · exact .inr (.inr (.inl q))
theorem less_append : ∀ {a b : List Nat} (c d : List Nat), a.length = b.length → less a b = true → less (a ++ c) (b ++ d) = true
  | [], [], _, _, _, h => by unfold less at h; cases h
  | x :: a, y :: b, c, d, hl, h => by
    rw [List.cons_append, List.cons_append]
    unfold less at h ⊢
    simp only [Bool.or_eq_true, decide_eq_true_eq, Bool.and_eq_true, beq_iff_eq] at h ⊢
    rcases h with h | ⟨rfl, h⟩
    · exact .inl h
    · exact .inr ⟨rfl, less_append c d (by simpa using hl) h⟩
theorem less_append_same : ∀ (a c d : List Nat), less c d = true → less (a ++ c) (a ++ d) = true
  | [], _, _, h => h
  | x :: a, c, d, h => by
    rw [List.cons_append, List.cons_append]
    unfold less
    simp only [Bool.or_eq_true, decide_eq_true_eq, Bool.and_eq_true, beq_iff_eq]
    exact .inr ⟨trivial, less_append_same a c d h⟩
/-! ### the key -/
theorem own_eq (s : State) (i : Nat) : own s i = ownL s i := rfl
theorem key_follows {s : State} {i j : Nat} (hr : (s.guest i).rank ≤ 10) (hw : (s.guest i).with_ = some j) (hf : follows s i = true) : s.key i = ownL s j ++ [1, i] := by
  unfold follows at hf
  rw [hw] at hf
  split at hf
  · cases hf
  · rename_i h
    have h10 : (s.guest i).rank = NONE := by unfold NONE; omega
    have hj : (s.guest j).rank < NONE := by simpa [NONE] using hf
    unfold State.key
    simp only [hw]
    rw [if_pos ⟨h10, hj⟩]
    rfl
theorem key_def (s : State) (i : Nat) : s.key i = (match (s.guest i).with_ with
  | some j => if (s.guest i).rank = NONE ∧ (s.guest j).rank < NONE then ownL s j ++ [1, i] else ownL s i ++ [0, i]
  | none => ownL s i ++ [0, i]) := rfl
theorem key_not {s : State} {i : Nat} (hf : follows s i = false) : s.key i = ownL s i ++ [0, i] := by
  rw [key_def]
  unfold follows at hf
  cases hw : (s.guest i).with_ with
  | none => rfl
  | some j =>
    rw [hw] at hf
    simp only
    rw [if_neg]
    rintro ⟨h1, h2⟩
    rw [if_neg (by rw [h1]; decide)] at hf
    have : ¬ (s.guest j).rank < 10 := by simpa using hf
    exact this h2
theorem follows_some {s : State} {i : Nat} (hf : follows s i = true) : ∃ j, (s.guest i).with_ = some j ∧ (s.guest j).rank < 10 ∧ ¬ (s.guest i).rank < 10 := by
  unfold follows at hf
  split at hf
  · cases hf
  · rename_i h
    cases hw : (s.guest i).with_ with
    | none => rw [hw] at hf; cases hf
    | some j => rw [hw] at hf; exact ⟨j, rfl, by simpa using hf, h⟩
theorem key_len (s : State) (i : Nat) : (s.key i).length = 6 := by
  rw [key_def]
  cases hw : (s.guest i).with_ with
  | none => rfl
  | some j => simp only; split <;> rfl
theorem key_last (s : State) (i : Nat) : (s.key i)[5]? = some i := by
  rw [key_def]
  cases hw : (s.guest i).with_ with
  | none => rfl
  | some j => simp only; split <;> rfl
theorem key_inj {s : State} {i j : Nat} (h : s.key i = s.key j) : i = j := by
  have a := key_last s i
  rw [h, key_last s j] at a
  exact (Option.some.inj a).symm
def kLt (s : State) (i j : Nat) : Prop := less (s.key i) (s.key j) = true
theorem kLt_total (s : State) (i j : Nat) : kLt s i j ∨ i = j ∨ kLt s j i := by
  rcases less_total (a := s.key i) (b := s.key j) (by rw [key_len, key_len]) with h | h | h
  · exact .inl h
  · exact .inr (.inl (key_inj h))
  · exact .inr (.inr h)
theorem kLt_irrefl (s : State) (i : Nat) : ¬ kLt s i i := by unfold kLt; rw [less_irrefl]; decide
/-! ### the order of the specification -/
theorem put_mem (s : State) (i : Nat) : ∀ (l : List Nat) (x : Nat), x ∈ put s i l ↔ x = i ∨ x ∈ l
  | [], x => by simp [put]
  | j :: l, x => by
    unfold put
    split
    · simp
    · simp only [List.mem_cons, put_mem s i l x]
      constructor
      · rintro (h | h | h)
        · exact .inr (.inl h)
        · exact .inl h
        · exact .inr (.inr h)
      · rintro (h | h | h)
        · exact .inr (.inl h)
        · exact .inl h
        · exact .inr (.inr h)
theorem put_sorted (s : State) (i : Nat) : ∀ (l : List Nat), i ∉ l → l.Pairwise (kLt s) → (put s i l).Pairwise (kLt s)
  | [], _, _ => by simp [put]
  | j :: l, hi, h => by
    have h' := List.pairwise_cons.mp h
    unfold put
    split
    · rename_i hlt
      refine List.pairwise_cons.mpr ⟨fun x hx => ?_, h⟩
      rcases List.mem_cons.mp hx with rfl | hx
      · exact hlt
      · exact less_trans hlt (h'.1 x hx)
    · rename_i hlt
      have hij : i ≠ j := fun e => hi (by rw [e]; exact List.mem_cons_self)
      have hji : kLt s j i := by
        rcases kLt_total s i j with q | q | q
        · exact absurd q hlt
        · exact absurd q hij
        · exact q
      refine List.pairwise_cons.mpr ⟨fun x hx => ?_, put_sorted s i l (fun q => hi (List.mem_cons_of_mem _ q)) h'.2⟩
      rcases (put_mem s i l x).mp hx with rfl | hx
      · exact hji
      · exact h'.1 x hx
theorem fold_put (s : State) : ∀ (is l : List Nat), is.Nodup → (∀ x ∈ is, x ∉ l) → l.Pairwise (kLt s) →
    (is.foldl (fun l i => put s i l) l).Pairwise (kLt s) ∧ ∀ x, x ∈ is.foldl (fun l i => put s i l) l ↔ x ∈ is ∨ x ∈ l
  | [], l, _, _, h => ⟨h, fun x => by simp⟩
  | i :: is, l, hn, hd, h => by
    have hn' := List.nodup_cons.mp hn
    have ih := fold_put s is (put s i l) hn'.2 (fun x hx q => by
      rcases (put_mem s i l x).mp q with rfl | q
      · exact hn'.1 hx
      · exact hd x (List.mem_cons_of_mem _ hx) q) (put_sorted s i l (hd i List.mem_cons_self) h)
    refine ⟨ih.1, fun x => ?_⟩
    rw [List.foldl_cons, ih.2, put_mem, List.mem_cons]
    constructor
    · rintro (q | q | q)
      · exact .inl (.inr q)
      · exact .inl (.inl q)
      · exact .inr q
    · rintro ((q | q) | q)
      · exact .inr (.inl q)
      · exact .inl q
      · exact .inr (.inr q)
theorem order_sorted (s : State) : s.order.Pairwise (kLt s) := (fold_put s _ [] List.nodup_range (by simp) List.Pairwise.nil).1
theorem order_mem (s : State) (x : Nat) : x ∈ s.order ↔ x < s.guests.length := by
  have h := (fold_put s (List.range s.guests.length) [] List.nodup_range (by simp) List.Pairwise.nil).2 x
  unfold State.order
  rw [h]; simp
theorem nodup_of_kLt {s : State} {l : List Nat} (h : l.Pairwise (kLt s)) : l.Nodup := List.Pairwise.imp (S := (· ≠ ·)) (fun {a b} q (e : a = b) => kLt_irrefl s a (by rw [← e] at q; exact q)) h
/-- the order is known by its members and its being in order -/
theorem order_unique {s : State} {l : List Nat} (h : l.Pairwise (kLt s)) (hm : ∀ x, x ∈ l ↔ x < s.guests.length) : l = s.order := by
  refine List.Perm.eq_of_pairwise (le := kLt s) (fun a b _ _ q1 q2 => ?_) h (order_sorted s) ?_
  · exact absurd (less_trans q1 q2) (kLt_irrefl s a)
  · exact (List.perm_ext_iff_of_nodup (nodup_of_kLt h) (nodup_of_kLt (order_sorted s))).mpr fun x => by rw [hm, order_mem]
/-! ### the order of the program -/
theorem block_mem {s : State} {i x : Nat} (h : x ∈ block s i) : x = i ∨ ((s.guest i).with_ = some x ∧ follows s x = true) := by
  unfold block at h
  cases hw : (s.guest i).with_ with
  | none => rw [hw] at h; simp at h; exact .inl h
  | some j =>
    rw [hw] at h
    simp only at h
    split at h
    · rename_i hf
      simp at h
      rcases h with rfl | rfl
      · exact .inl rfl
      · exact .inr ⟨rfl, hf⟩
    · simp at h; exact .inl h
theorem self_block (s : State) (i : Nat) : i ∈ block s i := by
  unfold block
  cases (s.guest i).with_ with
  | none => simp
  | some j => simp only; split <;> simp
theorem follower_block {s : State} {i j : Nat} (hw : (s.guest i).with_ = some j) (hf : follows s j = true) : j ∈ block s i := by
  unfold block
  rw [hw]
  simp [hf]
theorem key_block {s : State} (W : WF s) {i x : Nat} (hi : i < s.guests.length) (hfi : follows s i = false) (h : x ∈ block s i) : s.key x = ownL s i ++ (if x = i then [0, i] else [1, x]) := by
  rcases block_mem h with rfl | ⟨hw, hf⟩
  · rw [if_pos rfl]; exact key_not hfi
  · obtain ⟨h1, h2, h3⟩ := W.mates i x hi hw
    rw [if_neg h2]
    exact key_follows (W.rank _ (guest_mem h1)) h3 hf
theorem own_len (s : State) (i : Nat) : (ownL s i).length = 4 := rfl
theorem own_inj {s : State} {i j : Nat} (h : ownL s i = ownL s j) : i = j := by
  have a : (ownL s i)[3]? = some i := rfl
  rw [h] at a
  exact (Option.some.inj a).symm
theorem order_law {s : State} (W : WF s) {is : List Nat} (hp : ∀ x, x ∈ is ↔ x < s.guests.length ∧ follows s x = false) (hs : is.Pairwise fun i j => less (ownL s i) (ownL s j) = true) :
    is.flatMap (block s) = s.order := by
  refine order_unique ?_ fun x => ?_
  · rw [List.pairwise_flatMap]
    refine ⟨fun i hi => ?_, List.Pairwise.imp_of_mem (fun {i j} hi hj q x hx y hy => ?_) hs⟩
    · obtain ⟨h1, h2⟩ := (hp i).mp hi
      unfold block
      cases hw : (s.guest i).with_ with
      | none => simp
      | some j =>
        simp only
        split
        · rename_i hf
          have hj : j ∈ block s i := follower_block hw hf
          obtain ⟨g1, g2, g3⟩ := W.mates i j h1 hw
          refine List.pairwise_cons.mpr ⟨fun y hy => ?_, by simp⟩
          have e : y = j := by simpa using hy
          subst e
          unfold kLt
          rw [key_block W h1 h2 hj, key_block W h1 h2 (self_block s i), if_pos rfl, if_neg g2]
          exact less_append_same _ _ _ rfl
        · simp
    · obtain ⟨h1, h2⟩ := (hp i).mp hi
      obtain ⟨h3, h4⟩ := (hp j).mp hj
      unfold kLt
      rw [key_block W h1 h2 hx, key_block W h3 h4 hy]
      exact less_append _ _ rfl q
  · rw [List.mem_flatMap]
    constructor
    · rintro ⟨i, hi, hx⟩
      obtain ⟨h1, h2⟩ := (hp i).mp hi
      rcases block_mem hx with rfl | ⟨hw, _⟩
      · exact h1
      · exact (W.mates i x h1 hw).1
    · intro hx
      cases hf : follows s x with
      | false => exact ⟨x, (hp x).mpr ⟨hx, hf⟩, self_block s x⟩
      | true =>
        obtain ⟨j, hw, hr, _⟩ := follows_some hf
        obtain ⟨g1, g2, g3⟩ := W.mates x j hx hw
        refine ⟨j, (hp j).mpr ⟨g1, ?_⟩, follower_block g3 hf⟩
        unfold follows
        rw [if_pos hr]
end Fs
namespace Fs
open Kg75
/-! ### whom one mayn't sit beside -/
def mayNot (s : State) (i j : Nat) : Bool :=
  (s.apart.any fun x => decide (min x.1 x.2 = min i j) && decide (max x.1 x.2 = max i j)) ||
    ((s.rules.together && decide ((s.guest i).with_ = some j)) || ((s.rules.sexes && decide ((s.guest i).sex = (s.guest j).sex)) || (s.rules.countries && decide ((s.guest i).country = (s.guest j).country))))
theorem any_congr_mem {α : Type} {f g : α → Bool} : ∀ {l : List α}, (∀ x ∈ l, f x = g x) → l.any f = l.any g
  | [], _ => rfl
  | x :: l, h => by rw [List.any_cons, List.any_cons, h x List.mem_cons_self, any_congr_mem fun y hy => h y (List.mem_cons_of_mem _ hy)]
theorem mayNot_eq {s : State} (W : WF s) {i j : Nat} (hi : i < s.guests.length) (hj : j < s.guests.length) : mayNot s i j = !s.mayBeside i j := by
  have h1 : (s.apart.any fun x => (x.1 == i && x.2 == j) || (x.1 == j && x.2 == i)) = s.apart.any fun x => decide (min x.1 x.2 = min i j) && decide (max x.1 x.2 = max i j) := by
    refine any_congr_mem fun x _ => ?_
    rw [Bool.eq_iff_iff]
    simp only [Bool.or_eq_true, Bool.and_eq_true, beq_iff_eq, decide_eq_true_eq]
    omega
  have h2 : ((s.guest i).with_ == some j || (s.guest j).with_ == some i) = decide ((s.guest i).with_ = some j) := by
    rw [Bool.eq_iff_iff]
    simp only [Bool.or_eq_true, beq_iff_eq, decide_eq_true_eq]
    constructor
    · rintro (h | h)
      · exact h
      · exact (W.mates j i hj h).2.2
    · exact .inl
  unfold mayNot State.mayBeside
  simp only
  rw [h1, h2]
  have h3 : ((s.guest i).sex != (s.guest j).sex) = !decide ((s.guest i).sex = (s.guest j).sex) := by
    rw [bne]; congr 1
  have h4 : ((s.guest i).country != (s.guest j).country) = !decide ((s.guest i).country = (s.guest j).country) := by
    rw [bne]; congr 1
  rw [h3, h4]
  generalize (s.apart.any fun x => decide (min x.1 x.2 = min i j) && decide (max x.1 x.2 = max i j)) = a
  generalize decide ((s.guest i).with_ = some j) = b
  generalize decide ((s.guest i).sex = (s.guest j).sex) = c
  generalize decide ((s.guest i).country = (s.guest j).country) = d
  cases a <;> cases b <;> cases c <;> cases d <;> cases s.rules.together <;> cases s.rules.sexes <;> cases s.rules.countries <;> rfl
theorem mayNot_symm {s : State} (W : WF s) {i j : Nat} (hi : i < s.guests.length) (hj : j < s.guests.length) : mayNot s i j = mayNot s j i := by
  unfold mayNot
  have e1 : min i j = min j i := Nat.min_comm _ _
  have e2 : max i j = max j i := Nat.max_comm _ _
  have e3 : decide ((s.guest i).with_ = some j) = decide ((s.guest j).with_ = some i) := by
    rw [Bool.eq_iff_iff]
    simp only [decide_eq_true_eq]
    exact ⟨fun h => (W.mates i j hi h).2.2, fun h => (W.mates j i hj h).2.2⟩
  have e4 : decide ((s.guest i).sex = (s.guest j).sex) = decide ((s.guest j).sex = (s.guest i).sex) := by rw [Bool.eq_iff_iff]; simp only [decide_eq_true_eq]; exact ⟨Eq.symm, Eq.symm⟩
  have e5 : decide ((s.guest i).country = (s.guest j).country) = decide ((s.guest j).country = (s.guest i).country) := by rw [Bool.eq_iff_iff]; simp only [decide_eq_true_eq]; exact ⟨Eq.symm, Eq.symm⟩
  rw [e1, e2, e3, e4, e5]
theorem share_symm (s : State) (i j : Nat) : s.share i j = s.share j i := by
  unfold State.share
  rw [Bool.eq_iff_iff]
  simp only [List.any_eq_true, List.contains_iff_mem]
  constructor <;> rintro ⟨x, h1, h2⟩ <;> exact ⟨x, h2, h1⟩
/-! ### what a plan breaks -/
/-- who sits to the left, to the right -/
def nbL (n seat : Nat) : Nat := (seat + n - 1) % n
def nbR (n seat : Nat) : Nat := (seat + 1) % n
def gAt (sit : List Nat) (k : Nat) : Nat := sit.getD k 0
def breaksM (s : State) (sit : List Nat) : List (Nat × Nat) :=
  let n := sit.length
  ((List.range n).filter fun k => mayNot s (gAt sit k) (gAt sit (nbR n k))).map (fun k => (gAt sit k, gAt sit (nbR n k))) ++
    (if s.rules.languages = true then ((List.range n).filter fun k => !s.share (gAt sit k) (gAt sit (nbL n k)) && !s.share (gAt sit k) (gAt sit (nbR n k))).map (fun k => (gAt sit k, gAt sit k)) else [])
theorem at_zip {sit : List Nat} {k : Nat} (h : k < sit.length) : ∀ (b : Nat), (((sit.zipIdx b).map fun x => (x.2, x.1)).find? fun x => x.1 == b + k).map (fun x => x.2) = some sit[k] := by
  induction sit generalizing k with
  | nil => exact absurd h (Nat.not_lt_zero _)
  | cons g r ih =>
    intro b
    rw [List.zipIdx_cons, List.map_cons]
    cases k with
    | zero => simp
    | succ k =>
      rw [List.find?_cons_of_neg (by simp only [beq_iff_eq]; omega)]
      have := ih (k := k) (by simpa using h) (b + 1)
      rw [show b + (k + 1) = b + 1 + k by omega]
      simpa using this
theorem filterMap_filter_map {α β : Type} {f : α → Option β} {p : α → Bool} {g : α → β} : ∀ {l : List α}, (∀ x ∈ l, f x = if p x = true then some (g x) else none) → l.filterMap f = (l.filter p).map g
  | [], _ => rfl
  | x :: l, h => by
    have ih := filterMap_filter_map (l := l) fun y hy => h y (List.mem_cons_of_mem _ hy)
    have hx := h x List.mem_cons_self
    by_cases c : p x = true
    · rw [if_pos c] at hx
      rw [List.filterMap_cons_some hx, List.filter_cons_of_pos c, List.map_cons, ih]
    · rw [if_neg c] at hx
      rw [List.filterMap_cons_none hx, List.filter_cons_of_neg c, ih]
theorem right_one (n k : Nat) : right n k 1 = nbR n k := rfl
theorem left_one (n k : Nat) : left n k 1 = nbL n k := by unfold left nbL; rw [Nat.mul_one]
theorem orNot (a b : Bool) (z : Nat × Nat) : (if (a || b) = true then none else some z) = if (!b && !a) = true then some z else none := by
  cases a <;> cases b <;> rfl
theorem breaks_law {s : State} (W : WF s) {sit : List Nat} (hl : sit.length = s.guests.length) (hg : ∀ g ∈ sit, g < s.guests.length) :
    s.breaks (sit.zipIdx.map fun x => (x.2, x.1)) = breaksM s sit := by
  have hat : ∀ k, k < sit.length → at_ (sit.zipIdx.map fun x => (x.2, x.1)) k = some (gAt sit k) := fun k hk => by
    have := at_zip hk 0
    rw [Nat.zero_add] at this
    unfold at_
    rw [this]
    unfold gAt
    rw [List.getD_eq_getElem?_getD, List.getElem?_eq_getElem hk]; rfl
  have hgt : ∀ k, k < sit.length → gAt sit k < s.guests.length := fun k hk => by
    unfold gAt
    rw [List.getD_eq_getElem?_getD, List.getElem?_eq_getElem hk]
    exact hg _ (List.getElem_mem hk)
  have hR : ∀ k, k < sit.length → nbR sit.length k < sit.length := fun k hk => Nat.mod_lt _ (by omega)
  have hL : ∀ k, k < sit.length → nbL sit.length k < sit.length := fun k hk => Nat.mod_lt _ (by omega)
  unfold State.breaks breaksM
  simp only [State.size, ← hl, right_one]
  congr 1
  · refine filterMap_filter_map fun k hk => ?_
    have hk : k < sit.length := List.mem_range.mp hk
    rw [hat k hk, hat _ (hR k hk)]
    simp only
    rw [mayNot_eq W (hgt k hk) (hgt _ (hR k hk))]
    cases s.mayBeside (gAt sit k) (gAt sit (nbR sit.length k)) <;> rfl
  · split
    · refine filterMap_filter_map fun k hk => ?_
      have hk : k < sit.length := List.mem_range.mp hk
      rw [hat k hk]
      simp only [neighbours, right_one, left_one, List.any_cons, List.any_nil, Bool.or_false]
      rw [hat _ (hR k hk), hat _ (hL k hk)]
      simp only
      exact orNot _ _ _
    · rfl
end Fs
namespace Fs
open Kg75
abbrev Sit := List (Option Nat)
def sAt (sit : Sit) (k : Nat) : Option Nat := sit.getD k none
def barredM (s : State) (sit : Sit) (x : Nat) : Bool := match sAt sit x with
  | none => false
  | some g => [nbL sit.length x, nbR sit.length x].any fun k => match sAt sit k with
    | none => false
    | some h => mayNot s g h
def lonelyM (s : State) (sit : Sit) (x : Nat) : Bool := match sAt sit x, sAt sit (nbL sit.length x), sAt sit (nbR sit.length x) with
  | some g, some a, some b => !s.share g a && !s.share g b
  | _, _, _ => false
def wellM (s : State) (sit : Sit) (x : Nat) : Bool :=
  !barredM s sit x && (!s.rules.languages || [nbL sit.length x, x, nbR sit.length x].all fun k => !lonelyM s sit k)
def seatedM (s : State) (seats : List Nat) : List Nat → Sit → Option Sit
  | [], sit => some sit
  | g :: r, sit => seats.findSome? fun x => if sAt sit x = none then (if wellM s (sit.set x (some g)) x = true then seatedM s seats r (sit.set x (some g)) else none) else none
def sitOf (n : Nat) (p : Plan) : Sit := (List.range n).map (at_ p)
def startM (s : State) : Sit := s.hosts.foldl (fun sit x => sit.set x.2 (some x.1)) (List.replicate s.guests.length none)
def planM (s : State) : Option Sit :=
  if s.hosts.all (fun x => wellM s (startM s) x.2) = true then seatedM s s.seats s.others (startM s) else none
theorem sitOf_len (n : Nat) (p : Plan) : (sitOf n p).length = n := by simp [sitOf]
theorem sAt_sitOf {n : Nat} {p : Plan} {k : Nat} (h : k < n) : sAt (sitOf n p) k = at_ p k := by
  unfold sAt sitOf
  rw [List.getD_eq_getElem?_getD, List.getElem?_map, List.getElem?_range h]; rfl
def PlanOk (n : Nat) (p : Plan) : Prop := ∀ x ∈ p, x.1 < n ∧ x.2 < n
theorem at_some {p : Plan} {k g : Nat} (h : at_ p k = some g) : (k, g) ∈ p := by
  unfold at_ at h
  obtain ⟨x, hx, rfl⟩ := Option.map_eq_some_iff.mp h
  have h1 := List.mem_of_find?_eq_some hx
  have h2 : x.1 = k := by simpa using List.find?_some hx
  rw [← h2]; exact h1
theorem at_append (p : Plan) (x g k : Nat) : at_ (p ++ [(x, g)]) k = match at_ p k with
    | some h => some h
    | none => if x = k then some g else none := by
  unfold at_
  rw [List.find?_append]
  cases hp : p.find? fun x => x.1 == k with
  | some y => rfl
  | none =>
    by_cases e : x = k
    · subst e; simp
    · simp [e]
theorem set_map_range {α : Type} (f : Nat → α) (n x : Nat) (a : α) : ((List.range n).map f).set x a = (List.range n).map fun k => if k = x then a else f k := by
  apply List.ext_getElem?
  intro i
  rw [List.getElem?_set]
  by_cases hi : i < n
  · rw [List.getElem?_map, List.getElem?_range hi]
    by_cases e : x = i
    · subst e; simp [hi]
    · have e' : ¬ i = x := fun q => e q.symm
      rw [if_neg e, List.getElem?_map, List.getElem?_range hi]
      simp [e']
  · rw [List.getElem?_eq_none (l := (List.range n).map fun k => if k = x then a else f k) (by simpa using hi)]
    by_cases e : x = i
    · subst e; simp [hi]
    · rw [if_neg e, List.getElem?_eq_none (by simpa using hi)]
theorem sitOf_append {n : Nat} {p : Plan} {x g : Nat} (h : at_ p x = none) : sitOf n (p ++ [(x, g)]) = (sitOf n p).set x (some g) := by
  unfold sitOf
  rw [set_map_range]
  refine List.map_congr_left fun k _ => ?_
  rw [at_append]
  by_cases e : k = x
  · subst e; rw [h, if_pos rfl]
  · rw [if_neg e, if_neg fun q => e q.symm]
    cases at_ p k <;> rfl
theorem nbL_lt {n k : Nat} (h : k < n) : nbL n k < n := Nat.mod_lt _ (by omega)
theorem nbR_lt {n k : Nat} (h : k < n) : nbR n k < n := Nat.mod_lt _ (by omega)
theorem nb_inv {n k x : Nat} (hk : k < n) (h : nbL n k = x) : k = nbR n x := by
  subst h
  unfold nbL nbR
  by_cases e : k = 0
  · subst e
    rw [Nat.mod_eq_of_lt (a := 0 + n - 1) (by omega), show 0 + n - 1 + 1 = n by omega, Nat.mod_self]
  · rw [show k + n - 1 = (k - 1) + n by omega, Nat.add_mod_right, Nat.mod_eq_of_lt (a := k - 1) (by omega), show k - 1 + 1 = k by omega, Nat.mod_eq_of_lt hk]
theorem nb_inv' {n k x : Nat} (hk : k < n) (h : nbR n k = x) : k = nbL n x := by
  subst h
  unfold nbL nbR
  by_cases e : k + 1 = n
  · rw [e, Nat.mod_self, show 0 + n - 1 = k by omega, Nat.mod_eq_of_lt hk]
  · rw [Nat.mod_eq_of_lt (a := k + 1) (by omega), show k + 1 + n - 1 = k + n by omega, Nat.add_mod_right, Nat.mod_eq_of_lt hk]
theorem well_eq {s : State} (W : WF s) {p : Plan} (hp : PlanOk s.guests.length p) {k : Nat} (hk : k < s.guests.length) :
    s.well p k = match at_ p k with
      | none => true
      | some _ => !barredM s (sitOf s.guests.length p) k && (!s.rules.languages || !lonelyM s (sitOf s.guests.length p) k) := by
  unfold State.well barredM lonelyM
  simp only [sitOf_len, sAt_sitOf hk, sAt_sitOf (nbL_lt hk), sAt_sitOf (nbR_lt hk)]
  cases hg : at_ p k with
  | none => rfl
  | some g =>
    have gl : g < s.guests.length := (hp _ (at_some hg)).2
    have ml : ∀ {j h}, at_ p j = some h → s.mayBeside g h = !mayNot s g h := fun {j h} e => by
      rw [mayNot_eq W gl (hp _ (at_some e)).2, Bool.not_not]
    simp only [neighbours, right_one, left_one, State.size, List.any_cons, List.any_nil, Bool.or_false, sAt_sitOf (nbL_lt hk), sAt_sitOf (nbR_lt hk)]
    cases hL : at_ p (nbL s.guests.length k) with
    | none =>
      cases hR : at_ p (nbR s.guests.length k) with
      | none => simp [hL, hR]
      | some b => simp [hL, hR, ml hR]
    | some a =>
      cases hR : at_ p (nbR s.guests.length k) with
      | none => simp [hL, hR, ml hL]
      | some b =>
        simp only [List.filterMap_cons, hL, hR, List.filterMap_nil, List.all_cons, List.all_nil, List.any_cons, List.any_nil, ml hL, ml hR, List.length_cons, List.length_nil]
        cases mayNot s g a <;> cases mayNot s g b <;> cases s.share g a <;> cases s.share g b <;> cases s.rules.languages <;> rfl
theorem fine_iff {s : State} (W : WF s) {p : Plan} (hp : PlanOk s.guests.length p) : s.fine p = true ↔ ∀ k, k < s.guests.length → ∀ g, at_ p k = some g →
    barredM s (sitOf s.guests.length p) k = false ∧ (s.rules.languages = true → lonelyM s (sitOf s.guests.length p) k = false) := by
  unfold State.fine State.size
  rw [List.all_eq_true]
  constructor
  · intro h k hk g hg
    have := h k (List.mem_range.mpr hk)
    rw [well_eq W hp hk, hg] at this
    simp only [Bool.and_eq_true, Bool.or_eq_true, Bool.not_eq_true'] at this
    exact ⟨this.1, fun e => this.2.resolve_left (by rw [e]; decide)⟩
  · intro h k hk
    have hk := List.mem_range.mp hk
    rw [well_eq W hp hk]
    cases hg : at_ p k with
    | none => rfl
    | some g =>
      obtain ⟨h1, h2⟩ := h k hk g hg
      simp only [h1, Bool.not_false, Bool.true_and, Bool.or_eq_true, Bool.not_eq_true']
      cases hl : s.rules.languages with
      | false => exact .inl rfl
      | true => exact .inr (h2 hl)
theorem wellM_iff (s : State) (sit : Sit) (x : Nat) : wellM s sit x = true ↔ barredM s sit x = false ∧ (s.rules.languages = true → lonelyM s sit (nbL sit.length x) = false ∧ lonelyM s sit x = false ∧ lonelyM s sit (nbR sit.length x) = false) := by
  unfold wellM
  simp only [List.all_cons, List.all_nil, Bool.and_true, Bool.and_eq_true, Bool.or_eq_true, Bool.not_eq_true']
  refine and_congr_right fun _ => ?_
  cases s.rules.languages <;> simp
theorem lonely_none {s : State} {sit : Sit} {x : Nat} (h : sAt sit x = none) : lonelyM s sit x = false := by
  unfold lonelyM; rw [h]
/-- where hosts sit -/
theorem fine_hosts {s : State} (W : WF s) {p : Plan} (hp : PlanOk s.guests.length p) (xs : List Nat) (hx : ∀ k, k ∈ xs ↔ ∃ g, at_ p k = some g) : s.fine p = xs.all (wellM s (sitOf s.guests.length p)) := by
  rw [Bool.eq_iff_iff, fine_iff W hp, List.all_eq_true]
  have lt : ∀ {k g}, at_ p k = some g → k < s.guests.length := fun h => (hp _ (at_some h)).1
  constructor
  · intro h x hxm
    obtain ⟨g, hg⟩ := (hx x).mp hxm
    have hk := lt hg
    rw [wellM_iff, sitOf_len]
    refine ⟨(h x hk g hg).1, fun hl => ?_⟩
    have all : ∀ k, k < s.guests.length → lonelyM s (sitOf s.guests.length p) k = false := fun k hk => by
      cases e : at_ p k with
      | none => exact lonely_none (by rw [sAt_sitOf hk]; exact e)
      | some g => exact (h k hk g e).2 hl
    exact ⟨all _ (nbL_lt hk), all _ hk, all _ (nbR_lt hk)⟩
  · intro h k hk g hg
    have := (wellM_iff _ _ _).mp (h k ((hx k).mpr ⟨g, hg⟩))
    exact ⟨this.1, fun hl => (this.2 hl).2.1⟩
/-- one guest more -/
theorem fine_more {s : State} (W : WF s) {p : Plan} (hp : PlanOk s.guests.length p) (hf : s.fine p = true) {x g : Nat} (hx : x < s.guests.length) (hg : g < s.guests.length) (hn : at_ p x = none) :
    s.fine (p ++ [(x, g)]) = wellM s ((sitOf s.guests.length p).set x (some g)) x := by
  have hp' : PlanOk s.guests.length (p ++ [(x, g)]) := fun y hy => by
    rcases List.mem_append.mp hy with hy | hy
    · exact hp y hy
    · have e : y = (x, g) := by simpa using hy
      subst e; exact ⟨hx, hg⟩
  rw [← sitOf_append hn, Bool.eq_iff_iff, fine_iff W hp']
  have old := (fine_iff W hp).mp hf
  have ax : at_ (p ++ [(x, g)]) x = some g := by rw [at_append, hn]; simp
  have other : ∀ {k}, k ≠ x → at_ (p ++ [(x, g)]) k = at_ p k := fun {k} e => by
    rw [at_append, if_neg (fun q => e q.symm)]
    cases at_ p k <;> rfl
  constructor
  · intro h
    rw [wellM_iff, sitOf_len]
    refine ⟨(h x hx g ax).1, fun hl => ?_⟩
    have all : ∀ k, k < s.guests.length → lonelyM s (sitOf s.guests.length (p ++ [(x, g)])) k = false := fun k hk => by
      cases e : at_ (p ++ [(x, g)]) k with
      | none => exact lonely_none (by rw [sAt_sitOf hk]; exact e)
      | some g => exact (h k hk g e).2 hl
    exact ⟨all _ (nbL_lt hx), all _ hx, all _ (nbR_lt hx)⟩
  · intro h k hk h' hh'
    rw [wellM_iff, sitOf_len] at h
    by_cases e : k = x
    · subst e
      exact ⟨h.1, fun hl => (h.2 hl).2.1⟩
    · rw [other e] at hh'
      obtain ⟨o1, o2⟩ := old k hk h' hh'
      have hlt : h' < s.guests.length := (hp _ (at_some hh')).2
      have hL := nbL_lt hk
      have hR := nbR_lt hk
      -- the neighbours of k that are x
      have ng : ∀ j, j < s.guests.length → (j = x → (k = nbL s.guests.length x ∨ k = nbR s.guests.length x)) → mayNot s g h' = false → (match at_ p j with | none => false | some h => mayNot s h' h) = false →
          (match at_ (p ++ [(x, g)]) j with | none => false | some h => mayNot s h' h) = false := fun j hj _ hb ho => by
        by_cases ej : j = x
        · subst ej
          rw [ax]
          exact (mayNot_symm W hlt hg).trans hb
        · rw [other ej]; exact ho
      have bx := h.1
      unfold barredM at bx o1 ⊢
      simp only [sitOf_len, sAt_sitOf hx, sAt_sitOf hk, ax, List.any_cons, List.any_nil, Bool.or_false, Bool.or_eq_false_iff, sAt_sitOf (nbL_lt hx), sAt_sitOf (nbR_lt hx), sAt_sitOf hL, sAt_sitOf hR, hh', other e] at bx o1 ⊢
      have one : ∀ j, j < s.guests.length → (j = x → (nbL s.guests.length x = k ∨ nbR s.guests.length x = k)) → (match at_ p j with | none => false | some h => mayNot s h' h) = false →
          (match at_ (p ++ [(x, g)]) j with | none => false | some h => mayNot s h' h) = false := fun j hj hjx ho => by
        by_cases ej : j = x
        · subst ej
          rw [ax]
          show mayNot s h' g = false
          rw [mayNot_symm W hlt hg]
          rcases hjx rfl with q | q
          · have z := bx.1
            rw [q, other e, hh'] at z; exact z
          · have z := bx.2
            rw [q, other e, hh'] at z; exact z
        · rw [other ej]; exact ho
      refine ⟨⟨one _ hL (fun q => .inr (nb_inv hk q).symm) o1.1, one _ hR (fun q => .inl (nb_inv' hk q).symm) o1.2⟩, fun hl => ?_⟩
      by_cases eL : nbL s.guests.length k = x
      · have := (h.2 hl).2.2
        rw [← nb_inv hk eL] at this; exact this
      · by_cases eR : nbR s.guests.length k = x
        · have := (h.2 hl).1
          rw [← nb_inv' hk eR] at this; exact this
        · have := o2 hl
          unfold lonelyM at this ⊢
          simp only [sitOf_len, sAt_sitOf hk, sAt_sitOf hL, sAt_sitOf hR] at this ⊢
          rw [other e, other eL, other eR]
          exact this
/-! ### the search -/
theorem findSome_filter {α β : Type} (q : α → Bool) (f : α → Option β) : ∀ l : List α, (l.filter q).findSome? f = l.findSome? fun x => if q x = true then f x else none
  | [] => rfl
  | x :: l => by
    have ih := findSome_filter q f l
    by_cases c : q x = true
    · rw [List.filter_cons_of_pos c, List.findSome?_cons, List.findSome?_cons, if_pos c, ih]
    · rw [List.filter_cons_of_neg c, List.findSome?_cons, if_neg c, ih]
theorem map_findSome {α β γ : Type} (g : β → γ) (f : α → Option β) : ∀ l : List α, (l.findSome? f).map g = l.findSome? fun x => (f x).map g
  | [] => rfl
  | x :: l => by
    rw [List.findSome?_cons, List.findSome?_cons]
    cases f x with
    | none => exact map_findSome g f l
    | some b => rfl
theorem findSome_congr {α β : Type} {f g : α → Option β} : ∀ {l : List α}, (∀ x ∈ l, f x = g x) → l.findSome? f = l.findSome? g
  | [], _ => rfl
  | x :: l, h => by
    rw [List.findSome?_cons, List.findSome?_cons, h x List.mem_cons_self, findSome_congr fun y hy => h y (List.mem_cons_of_mem _ hy)]
theorem search_law {s : State} (W : WF s) {seats : List Nat} (hs : ∀ x ∈ seats, x < s.guests.length) : ∀ (gs : List Nat) (p : Plan), (∀ g ∈ gs, g < s.guests.length) → PlanOk s.guests.length p → s.fine p = true →
    (s.search gs (seats.filter fun x => (at_ p x).isNone) p).map (sitOf s.guests.length) = seatedM s seats gs (sitOf s.guests.length p)
  | [], p, _, _, _ => rfl
  | g :: r, p, hg, hp, hf => by
    unfold State.search seatedM
    rw [map_findSome, findSome_filter]
    refine findSome_congr fun x hx => ?_
    have hxn := hs x hx
    rw [sAt_sitOf hxn]
    cases e : at_ p x with
    | some h => simp
    | none =>
      have hgn := hg g List.mem_cons_self
      have fm := fine_more W hp hf hxn hgn e
      simp only [Option.isNone_none, if_true]
      rw [← fm]
      by_cases c : s.fine (p ++ [(x, g)]) = true
      · rw [if_pos c, if_pos c, ← sitOf_append e]
        have hp' : PlanOk s.guests.length (p ++ [(x, g)]) := fun y hy => by
          rcases List.mem_append.mp hy with hy | hy
          · exact hp y hy
          · have e : y = (x, g) := by simpa using hy
            subst e; exact ⟨hxn, hgn⟩
        rw [← search_law W hs r (p ++ [(x, g)]) (fun y hy => hg y (List.mem_cons_of_mem _ hy)) hp' c]
        congr 2
        rw [List.filter_filter]
        refine List.filter_congr fun y _ => ?_
        rw [at_append]
        by_cases q : x = y
        · subst q; simp [e]
        · have q' : (y != x) = true := by simp; exact fun z => q z.symm
          rw [q', if_neg q]
          cases at_ p y <;> rfl
      · rw [if_neg c, if_neg c]; rfl
end Fs
/-! ### rules that the layer lacks -/
namespace FsR
open PySem PySem.Spec PyProof.Rows L2
section
variable {X : Cx}
/-- a reading that asks for more -/
theorem pe_imp {e : Expr} {t t' : TE} (h : PE X e t) (f : ∀ σ H Q, t' σ H Q → t σ H Q) : PE X e t' := ⟨fun pins s σ H Q I q => h.run pins s σ H Q I (f σ H Q q)⟩
/-! #### a written dict with keys that are ints -/
def IntsLit (es : Array DictEntry) : Prop := ∀ e ∈ es, ∃ k : Int, Value.isInt k e.key = true ∧ e.hash = hashInt k
def rIxKI (K : PySem.W.Frag) : R2 := fun x y H Q => ∃ (p : Addr) (i : Int) (v : V) (es : Array DictEntry) (n : Nat) (u : Value), x = .ref p ∧ y = .int i ∧ K.lookup p = some ⟨.type "dict", none, .dict es n, #[]⟩ ∧ IntsLit es ∧
  findBy Value.isInt es i = some u ∧ RelV v u ∧ Q v H
theorem ix_kint : IxR X (rIxKI X.K) := by
  intro value slice pins s σ H x y v u Q I rx ry h hs
  obtain ⟨p, i, z, es, n, u0, rfl, rfl, lk, lit, fd, rz, q⟩ := h
  obtain ⟨t, rfl⟩ := ry
  cases rx
  have hm : s.heap.MapOf (PySem.intKind X.prog X.w) p (fun k => findBy Value.isInt es k) := ⟨_, es, n, I.kIn _ _ lk, ⟨rfl, rfl, rfl⟩, rfl, lit, fun _ => rfl⟩
  exact tail_any hm.typeIs slot_dict_getitem.lookup (wpAny_getItem_of (intKind_is X.prog X.w i t) hm fd ⟨z, H, I.tok _, rz, q⟩) hs
end
/-! #### set(xs) of a list of ints -/
section
variable {P : Program} {w : World} {A : Around} {E : Value → Shared → Prop} {s : Shared}
theorem two_not {a b c : Addr} (h : a ≠ b) (h' : a ≠ c) : a ∉ [b, c] := by
  simp only [List.mem_cons, List.not_mem_nil, or_false, not_or]
  exact ⟨h, h'⟩
/-- the empty set as it is laid -/
abbrev eSet (w : World) : Obj := { cls := .type "set", dict := none, data := .set #[] 0 (.fresh 0 0 (!w.params.followText "set-order")) }
/-- set(xs): its members are those of xs -/
theorem call_set_ints {l : Addr} {xs : Array Value} {ns : List Int} {Q : Value → Shared → Prop} (hh : A.handled = none) (hl : s.heap.IsList l xs) (hi : IntsAre xs.toList ns) (hb : ns.length + 1 < scanBound)
    (h : ∀ (g : Heap) (tk c : Nat), SetR w g s.heap.objs.size (fun j => decide (j ∈ ns)) c → (∀ b o, s.heap.get? b = some o → g.get? b = some o) → Q (.ref s.heap.objs.size) { s with heap := g, toks := tk }) :
    wpAny (model P w) A (call (.type "set") [.ref l]) Q E s := by
  have size_eq : xs.size = ns.length := (Array.length_toList (xs := xs)).symm.trans hi.length
  have item : ∀ (i : Nat) (v : Value), xs[i]? = some v → ∃ k t, ns[i]? = some k ∧ v = .int k t := fun i v e => by
    obtain ⟨lt, _⟩ := Array.getElem?_eq_some_iff.mp e
    have lt' : i < ns.length := size_eq ▸ lt
    obtain ⟨t, r⟩ := IntsAre.int_at hi i v (Array.getElem?_toList.trans e)
    exact ⟨ns[i], t, List.getElem?_eq_getElem lt', r.trans (by rw [List.getD_eq_getElem?_getD, List.getElem?_eq_getElem lt']; rfl)⟩
  -- the heap with the new set, with its iterator
  generalize hS : s.heap.objs.size = S at h
  obtain ⟨g1, hg1⟩ : ∃ g1, g1 = s.heap.push (eSet w) := ⟨_, rfl⟩
  have s1 : g1.get? S = some (eSet w) := by rw [hg1, ← hS]; exact Heap.get?_push_size _ rfl
  have k1 : ∀ b o, s.heap.get? b = some o → g1.get? b = some o := fun b o e => by rw [hg1]; exact Heap.get?_push_of_some _ e
  have z1 : g1.objs.size = S + 1 := by rw [hg1, Heap.size_push, hS]
  have lS : l < S := by obtain ⟨o, e, _⟩ := hl; rw [← hS]; exact Heap.lt_size e
  have l1 : g1.IsList l xs := by obtain ⟨o, e, r⟩ := hl; exact ⟨o, k1 _ _ e, r⟩
  obtain ⟨m0, ml, mro⟩ := F.called_set.mro
  refine wpAny_call (codeAny_of_tree ?_)
  show wpAny _ _ (callAny (.type "set") _) _ _ _
  refine wpAny_pure ⟨Code.quiet_builtin _ (by decide +kernel), codeAny_builtin F.entry_type_call ?_⟩
  rw [Around.under_plain (weight_type_call_type "set" _ []) rfl]
  have f1 := F.called_set.notType
  have f2 := F.called_set.canCreate
  have f3 := F.called_set.made
  have f4 := F.called_set.sub
  have f5 := F.typeCall_set_1 (.ref l)
  repeat (any_goals (first | assumption | wp_step))
  refine codeAny_mono (code_set_led1 (.ref l) (E := E) (Q₁ := fun v s' => v = .ref S ∧ s' = { s with heap := g1 }) ⟨by rw [hS], by rw [hg1]⟩) ?_
  rintro (_ | fl) s2 q
  · exact q
  cases fl with
  | ret v =>
    obtain ⟨rfl, rfl⟩ := q
    have ty : Shared.TypeIs { s with heap := g1 } (.ref S) "set" := ⟨_, s1, rfl⟩
    have f6 := F.called_set.init.lookup
    have f7 := F.called_set.init.bind (.ref S)
    repeat (any_goals (first | assumption | wp_step))
    refine codeAny_mono (codeAny_call_builtin (R := wants (fun r s3 => r = .none ∧ Q (.ref S) s3) E) F.called_set.init.plain F.entry_set_init (check_set_init_1 ty ?_)) ?_
    · obtain ⟨⟨oc, od, odat, osl⟩, ho, rfl, len, rfl⟩ := l1
      have f8 := F.sub_list_set
      have f9 := F.sub_list_frozenset
      have fa : (Value.type "list" == Value.type "dict") = false := by decide
      have lst : g1.IsList l xs := ⟨_, ho, rfl, len, rfl⟩
      unfold Builtin.«set.__init__» noKeywords Builtin.Frozenset.updateFrom
      generalize ep : pyIter = ip
      wp_walk
      subst ep
      refine wpAny_pyIter_list lst (wpAny_bind (wpAny_runValue ?_))
      obtain ⟨g2, hg2⟩ : ∃ g2, g2 = g1.push { cls := .type "list_iterator", data := .fields #[.ref l, .int 0 0] } := ⟨_, rfl⟩
      have k2 : ∀ b o, g1.get? b = some o → g2.get? b = some o := fun b o e => by rw [hg2]; exact Heap.get?_push_of_some _ e
      have si : g2.get? (S + 1) = some { cls := .type "list_iterator", data := .fields #[.ref l, .int 0 0] } := by rw [hg2, ← z1]; exact Heap.get?_push_size _ rfl
      have l2 : g2.IsList l xs := ⟨_, k2 _ _ ho, rfl, len, rfl⟩
      show codeAny _ _ (.builtin "set.update.loop" ⟨[.ref S, .ref g1.objs.size], []⟩) _ { s with heap := g1.push _ }
      rw [← hg2, z1]
      refine set_update_ints ((Walks.list (I := S + 1) (by simp [hh]) l (Nat.ne_of_lt (Nat.lt_succ_of_lt lS)) xs).toS) S (two_not (Nat.ne_of_lt (Nat.lt_succ_self S)) (Nat.ne_of_gt lS)) ns size_eq hb item (xs.size - 0) 0 _ rfl (Nat.zero_le _) ⟨⟨_, si, rfl, rfl⟩, l2⟩ ⟨0, Nat.le_refl _, setR_new_at (k2 _ _ s1)⟩ ?_
      intro s3 c mv _ R
      have e : s3 = { s with heap := s3.heap, toks := s3.toks } := by
        have a := mv.gens
        have b := mv.drawn
        have d := mv.os
        cases s3
        simp only at a b d
        subst a b d
        rfl
      refine wpAny_pure (wpAny_pure ⟨rfl, ?_⟩)
      rw [e]
      refine h _ _ c R fun b o q => mv.heap b o ?_ (k2 _ _ (k1 _ _ q))
      have lt : b < S := by rw [← hS]; exact Heap.lt_size q
      exact two_not (Nat.ne_of_lt lt) (Nat.ne_of_lt (Nat.lt_succ_of_lt lt))
    · rintro (_ | fl) s3 q
      · exact q
      cases fl with
      | ret v =>
        obtain ⟨rfl, q⟩ := q
        repeat (any_goals (first | assumption | wp_step))
      | _ => exact q.elim
  | _ => exact q.elim
end
end FsR
namespace FsR
open PySem PySem.Spec PyProof.Rows L2
theorem nodup_of_len : ∀ {ns ks : List Int}, ks.Nodup → (∀ k ∈ ks, k ∈ ns) → ns.length ≤ ks.length → ns.Nodup
  | [], _, _, _, _ => List.nodup_nil
  | a :: t, ks, hn, hs, hl => by
    have ha : a ∉ t := fun ha => by
      have : ks.length ≤ t.length := hn.length_le_of_subset fun k hk => by
        rcases List.mem_cons.mp (hs k hk) with rfl | q
        · exact ha
        · exact q
      rw [List.length_cons] at hl
      omega
    refine List.nodup_cons.mpr ⟨ha, nodup_of_len (ks := ks.erase a) (hn.erase a) (fun k hk => ?_) ?_⟩
    · have h1 := (List.Nodup.mem_erase_iff hn).mp hk
      rcases List.mem_cons.mp (hs k h1.2) with q | q
      · exact absurd q h1.1
      · exact q
    · have : ks.length - 1 ≤ (ks.erase a).length := by
        rw [List.length_erase]; split <;> omega
      rw [List.length_cons] at hl
      omega
theorem setR_count {w : World} {h : Heap} {a : Addr} {ns : List Int} {c : Nat} (R : SetR w h a (fun j => decide (j ∈ ns)) c) : c ≤ ns.length ∧ (c = ns.length ↔ ns.Nodup) := by
  obtain ⟨o, es, ep, t, ho, hx, hd, hg, hn, hm, hb, hf, hc, _⟩ := R
  have len : (es.toList.map keyOf).length = c := by rw [List.length_map, Array.length_toList, hc]
  have mem : ∀ k, k ∈ es.toList.map keyOf ↔ k ∈ ns := fun k => by
    have := hm k
    simp only [decide_eq_true_eq] at this
    exact this.symm
  have le : c ≤ ns.length := by rw [← len]; exact hn.length_le_of_subset fun k hk => (mem k).mp hk
  refine ⟨le, fun e => nodup_of_len hn (fun k hk => (mem k).mp hk) (by rw [len, e]; exact Nat.le_refl _), fun h => Nat.le_antisymm le ?_⟩
  rw [← len]
  exact h.length_le_of_subset fun k hk => (mem k).mpr hk
section
variable {X : Cx}
/-- set(xs), xs a list of ints -/
def rSetI (K : PySem.W.Frag) (w : World) : List V → Hp → VK → Prop := fun xs H Q => ∃ (l : Addr) (ns : List Int), xs = [.ref l] ∧ SqL K H l (ns.map V.int) ∧ ns.length ≤ 4000 ∧
  ∀ (p : Addr) (c : Nat), H p = none → c ≤ ns.length → (c = ns.length ↔ ns.Nodup) → Q (.ref p) (upd H p (SetO w p (fun j => decide (j ∈ ns)) c))
theorem cr_setI (hc : X.calm = true) : CallR X (.type "set") (rSetI X.K X.w) := by
  intro pins s σ H xs us Q I r h
  obtain ⟨l, ns, rfl, hq, hl, q⟩ := h
  rw [Vals.ref1 r]
  obtain ⟨its, rv, pl, hz⟩ := I.list hq
  refine call_set_ints (I.ok.hd hc) pl.isList (ns := ns) (by simpa using intsAre_of rv) (by unfold scanBound; omega) fun g tk c R k => ?_
  have hp : H s.heap.objs.size = none := I.hok.fresh (Nat.le_refl _)
  obtain ⟨h1, h2⟩ := setR_count R
  exact ⟨.ref _, _, I.laid (t' := tk) k (Nat.le_refl _) (setO_new R), rfl, q _ c hp h1 h2⟩
/-- len(t), t such a set -/
def rLenSet (w : World) : List V → Hp → VK → Prop := fun xs H Q => ∃ (a : Addr) (S : Int → Bool) (n : Nat), xs = [.ref a] ∧ H a = some (SetO w a S n) ∧ Q (.int n) H
theorem cr_lenS : CallR X (.builtin "len") (rLenSet X.w) := by
  intro pins s σ H xs us Q I r h
  obtain ⟨a, S, n, rfl, ha, q⟩ := h
  rw [Vals.ref1 r]
  obtain ⟨o, es, ep, t, ho, hx, hd, hg, hn, hm, hb, hf, hc, _⟩ := setO_get I ha
  exact call_len_set ho hx hd hf (by unfold scanBound at hb; omega) ⟨.int es.size, H, I.tok _, ⟨_, rfl⟩, by rw [hc]; exact q⟩
end
/-! ### a def of the module, called by its name -/
structure FnAt (P : Program) (w : World) (K : PySem.W.Frag) (mg : Str → Option Value) (base : Heap) (x : Str) (k : Nat) (ps : List Str) (sp : Sp) : Prop where
  ex : ∃ (f : Addr) (fd : FuncData), FnOk P w K mg base CX0 k f fd ps sp ∧ mg x = some (.ref f) ∧ PySem.W.keepIn K (.ref f) = true ∧ Binds K fd ps []
def tCallF (sp : Sp) (t : TA) : TE := fun σ H Q => t σ H fun vs H1 => sp vs H1 Q E0
/-- a class of the module, made by its __init__ -/
structure MkAt (P : Program) (w : World) (K : PySem.W.Frag) (mg : Str → Option Value) (base : Heap) (x : Str) (k : Nat) (ps : List Str) (C : Addr) (sp : Sp) : Prop where
  ex : ∃ (f : Addr) (fd : FuncData), Mk K C f ∧ FnOk P w K mg base CX0 k f fd ps sp ∧ mg x = some (.ref C) ∧ Binds K fd ps []
def tMakeF (C : Addr) (sp : Sp) (t : TA) : TE := fun σ H Q => t σ H fun vs H1 => ∀ x dx, H1 x = none → H1 dx = none → dx ≠ x → sp (.ref x :: vs) (upd (upd H1 dx (.own x)) x (.ins C dx [])) (fun v H2 => v = .non ∧ Q (.ref x) H2) E0
section
variable {X : Cx} {x : Str} {p pos : Pos} {e : Expr} {es : List Expr} {t : TA} {k j : Nat} {ps : List Str} {sp : Sp} {C : Addr}
theorem pe_callF (G : FnAt X.prog X.w X.K X.mg X.base x k ps sp) (hr : Room j X.A) (hj : k ≤ j) (hg : Gl X x) (ha : PA X (e :: es) t) (hdb : (x == ("__debug__" : Str)) = false := by decide)
    (he : starEach (e :: es) X.env = (false, eval e X.env) :: starEach es X.env := by rfl) (hpl : (backTo pos (starEach es X.env)).any (·.1) = false := by rfl) :
    PE X (.Call (.Name x p) (e :: es) [] pos) (tCallF sp t) := by
  obtain ⟨f, fd, F, hm, hk, hb⟩ := G.ex
  have h := pe_call (p := p) (pos := pos) (E := E0) F (hr.mono hj) hg hm hk hb .nil pass0 ha hdb he hpl
  refine ⟨fun pins s σ H Q I q => h.run pins s σ H Q I ?_⟩
  show t σ H fun vs H1 => sp (vs ++ []) H1 Q E0
  have e1 : (fun vs H1 => sp (vs ++ []) H1 Q E0) = fun vs H1 => sp vs H1 Q E0 := by
    funext vs H1
    rw [List.append_nil]
  rw [e1]
  exact q
theorem pe_makeF (G : MkAt X.prog X.w X.K X.mg X.base x k ps C sp) (hr : Room j X.A) (hj : k + 1 ≤ j) (hg : Gl X x) (ha : PA X (e :: es) t) (hdb : (x == ("__debug__" : Str)) = false := by decide)
    (he : starEach (e :: es) X.env = (false, eval e X.env) :: starEach es X.env := by rfl) (hpl : (backTo pos (starEach es X.env)).any (·.1) = false := by rfl) :
    PE X (.Call (.Name x p) (e :: es) [] pos) (tMakeF C sp t) := by
  obtain ⟨f, fd, M, F, hm, hb⟩ := G.ex
  have h := pe_make (p := p) (pos := pos) (E := E0) M F (hr.mono hj) hg hm hb .nil pass0 ha hdb he hpl
  refine ⟨fun pins s σ H Q I q => h.run pins s σ H Q I ?_⟩
  have e1 : (fun vs H1 => ∀ x dx, H1 x = none → H1 dx = none → dx ≠ x → sp (.ref x :: (vs ++ [])) (upd (upd H1 dx (.own x)) x (.ins C dx [])) (fun v H2 => v = .non ∧ Q (.ref x) H2) E0) =
      fun vs H1 => ∀ x dx, H1 x = none → H1 dx = none → dx ≠ x → sp (.ref x :: vs) (upd (upd H1 dx (.own x)) x (.ins C dx [])) (fun v H2 => v = .non ∧ Q (.ref x) H2) E0 := by
    funext vs H1
    rw [List.append_nil]
  show t σ H fun vs H1 => ∀ x dx, H1 x = none → H1 dx = none → dx ≠ x → sp (.ref x :: (vs ++ [])) (upd (upd H1 dx (.own x)) x (.ins C dx [])) (fun v H2 => v = .non ∧ Q (.ref x) H2) E0
  rw [e1]
  exact q
theorem pe_makeF0 (G : MkAt X.prog X.w X.K X.mg X.base x k ps C sp) (hr : Room j X.A) (hj : k + 1 ≤ j) (hg : Gl X x) (hdb : (x == ("__debug__" : Str)) = false := by decide) :
    PE X (.Call (.Name x p) [] [] pos) (tMakeF C sp tNil) := by
  obtain ⟨f, fd, M, F, hm, hb⟩ := G.ex
  exact pe_make0 (p := p) (pos := pos) (E := E0) M F (hr.mono hj) hg hm hb .nil pass0 hdb
end
/-- a def's promise, from its text -/
theorem fnAt_of {P : Program} {w : World} {K : PySem.W.Frag} {mg : Str → Option Value} {base : Heap} {x qual : Str} {st : Stmt} {f : Addr} {fd : FuncData} {k : Nat} {ps : List Str} {sp : Sp} (F : Fun K x qual st f fd) (hm : mg x = some (.ref f))
    (hb : Binds K fd ps []) (h : FnOk P w K mg base CX0 k f fd ps sp) : FnAt P w K mg base x k ps sp := ⟨f, fd, h, hm, F.kp, hb⟩
end FsR
namespace FsR
open PySem PySem.Spec PyProof.Rows L2 Evl
section
variable {K : PySem.W.Frag} {σ : L2.St} {H H' : Hp} {ta tb te tx : TE} {t u : TT} {x y z v : V} {r : R2} {D : Ends}
theorem ev_fld {a C dx : Addr} {fs : List (Str × V)} {f : Str} (h : Ev ta σ H (.ref a)) (ho : H a = some (.ins C dx fs)) (hc : Cls K C) (hn : NoAttr K C f) (hl : fs.lookup f = some v) : Ev (tFld K ta f) σ H v := fun H1 e Q q =>
  h H1 e _ fun H2 e2 => ⟨a, C, dx, fs, v, rfl, e2 _ _ (e _ _ ho), hc, hn, hl, q H2 e2⟩
theorem ev_callF {sp : Sp} {vs : List V} {ts : TA} (h : EvA ts σ H vs) (hs : SpV sp vs H z) : Ev (tCallF sp ts) σ H z := fun H1 e Q q =>
  h H1 e _ fun H2 e2 => hs H2 (e.trans e2) _ (fun H3 e3 => q H3 (e2.trans e3)) _
theorem el_callF {sp : Sp} {vs xs : List V} {ts : TA} (h : EvA ts σ H vs) (hs : SpL sp vs H xs) : EvL (tCallF sp ts) σ H xs := fun H1 e Q q =>
  h H1 e _ fun H2 e2 => hs H2 (e.trans e2) _ (fun p H3 hp e3 h3 => q p H3 (fresh_back e2 hp) (e2.trans e3) h3) _
def SpU (sp : Sp) (vs : List V) (H : Hp) (xs : List V) : Prop := ∀ H1, Ex H H1 → ∀ Q : VK, (∀ p H2, H1 p = none → Ex H1 H2 → H2 p = some (.tup xs) → Q (.ref p) H2) → ∀ E : XK, sp vs H1 Q E
theorem eu_callF {sp : Sp} {vs xs : List V} {ts : TA} (h : EvA ts σ H vs) (hs : SpU sp vs H xs) : EvU (tCallF sp ts) σ H xs := fun H1 e Q q =>
  h H1 e _ fun H2 e2 => hs H2 (e.trans e2) _ (fun p H3 hp e3 h3 => q p H3 (fresh_back e2 hp) (e2.trans e3) h3) _
/-- the most general: what is known of the value and the heap behind -/
def EvH (te : TE) (σ : L2.St) (H : Hp) (R : Hp → V → Hp → Prop) : Prop := ∀ H1, Ex H H1 → ∀ Q : VK, (∀ v H2, Ex H1 H2 → R H1 v H2 → Q v H2) → te σ H1 Q
theorem s_asgH {i : Nat} {R : Hp → V → Hp → Prop} (h : EvH te σ H R) (k : ∀ v H1, Ex H H1 → R H v H1 → D.nx (σ.set i (some v)) H1) : tAsg te (gName i) D σ H := h H (Ex.refl H) _ fun v H1 e r => k v H1 e r
theorem et_val {b : Bool} (h : Ev te σ H (.bl b)) : EvT (tB te) σ H b := et_B h
theorem ev_len1 {p : Addr} {xs : List V} (ha : Ev ta σ H (.ref p)) (h : SqL K H p xs) : Ev (tCB (rLenS K) (tCons ta tNil)) σ H (.int (xs.length : Int)) := ev_len ha h
theorem len1 {X : Cx} : CallR X (.builtin "len") (rLenS X.K) := call_len_seq
theorem list1 {X : Cx} : CallR X (.type "list") (rListS X.K) := call_list_of
def rInt1 : List V → Hp → VK → Prop := fun xs H Q => ∃ k, xs = [.bl k] ∧ Q (.int (if k = true then 1 else 0)) H
theorem int1 {X : Cx} : CallR X (.type "int") rInt1 := fun pins s σ H xs us Q I r ⟨k, e, q⟩ => call_int1 pins s σ H xs us Q I r (.inr ⟨k, e, q⟩)
theorem ev_int1 {k : Bool} (ha : Ev ta σ H (.bl k)) : Ev (tCB rInt1 (tCons ta tNil)) σ H (.int (if k = true then 1 else 0)) := ev_cb (ea_cons ha ea_nil) fun H1 _ Q q => ⟨k, rfl, q H1 (Ex.refl H1)⟩
def rMin2 : List V → Hp → VK → Prop := fun xs H Q => ∃ i j : Int, xs = [.int i, .int j] ∧ Q (.int (if j < i then j else i)) H
theorem min2 {X : Cx} (hc : X.calm = true) : CallR X (.builtin "min") rMin2 := call_min2 hc
theorem max2 {X : Cx} (hc : X.calm = true) : CallR X (.builtin "max") rMax2 := call_max2 hc
theorem ev_min2 {i j : Int} (ha : Ev ta σ H (.int i)) (hb : Ev tb σ H (.int j)) : Ev (tCB rMin2 (tCons ta (tCons tb tNil))) σ H (.int (if j < i then j else i)) := ev_cb (ea_cons ha (ea_cons hb ea_nil)) fun H1 _ Q q => ⟨i, j, rfl, q H1 (Ex.refl H1)⟩
/-- list(range(n)) -/
theorem el_range {n : Nat} (h : Ev ta σ H (.int n)) (hn : n ≤ 100000) : EvL (tLstRg (tRg1 ta)) σ H ((List.range n).map fun (i : Nat) => V.int (i : Int)) := fun H1 e Q q =>
  h H1 e _ fun H2 e2 => ⟨n, rfl, ⟨by omega, by omega, by omega, by omega, by omega⟩, fun p hp => q p _ (fresh_back e2 hp) (e2.trans (Ex.new hp)) (by
    rw [upd_same]
    unfold rgV
    simp)⟩
theorem rcat {xs zs : List V} {l b : Addr} (h1 : H l = some (.lst xs)) (h2 : H b = some (.lst zs)) (hz : xs.length + zs.length ≤ 100000) : ∀ H1, Ex H H1 → ∀ Q : VK, (∀ p H2, H1 p = none → Ex H1 H2 → H2 p = some (.lst (xs ++ zs)) → Q (.ref p) H2) → rCat (.ref l) (.ref b) H1 Q := fun H1 e Q q =>
  ⟨l, b, xs, zs, rfl, rfl, e _ _ h1, e _ _ h2, sz_of hz, fun p hp => q p _ hp (Ex.new hp) upd_same⟩
/-- xs + ys, both new or standing -/
theorem el_cat {xs zs : List V} {l b : Addr} (ha : Ev ta σ H (.ref l)) (hb : Ev tb σ H (.ref b)) (h1 : H l = some (.lst xs)) (h2 : H b = some (.lst zs)) (hz : xs.length + zs.length ≤ 100000) : EvL (tOp rCat ta tb) σ H (xs ++ zs) := fun H1 e Q q =>
  ha H1 e _ fun H2 e2 => hb H2 (e.trans e2) _ fun H3 e3 => ⟨l, b, xs, zs, rfl, rfl, e3 _ _ (e2 _ _ (e _ _ h1)), e3 _ _ (e2 _ _ (e _ _ h2)), sz_of hz, fun p hp => q p _ (fresh_back (e2.trans e3) hp) ((e2.trans e3).trans (Ex.new hp)) upd_same⟩
theorem el_catLL {xs zs : List V} (ha : EvL ta σ H xs) (hb : ∀ H1, Ex H H1 → EvL tb σ H1 zs) (hz : xs.length + zs.length ≤ 100000) : EvL (tOp rCat ta tb) σ H (xs ++ zs) := fun H1 e Q q =>
  ha H1 e _ fun l H2 hl e2 h2 => hb H2 (e.trans e2) H2 (Ex.refl _) _ fun b H3 hb' e3 h3 => ⟨l, b, xs, zs, rfl, rfl, e3 _ _ h2, h3, sz_of hz, fun p hp => q p _ (fresh_back (e2.trans e3) hp) ((e2.trans e3).trans (Ex.new hp)) upd_same⟩
theorem el_catLV {xs zs : List V} {b : Addr} (ha : EvL ta σ H xs) (hb : Ev tb σ H (.ref b)) (h2 : H b = some (.lst zs)) (hz : xs.length + zs.length ≤ 100000) : EvL (tOp rCat ta tb) σ H (xs ++ zs) := fun H1 e Q q =>
  ha H1 e _ fun l H2 hl e2 h => hb H2 (e.trans e2) _ fun H3 e3 => ⟨l, b, xs, zs, rfl, rfl, e3 _ _ h, e3 _ _ (e2 _ _ (e _ _ h2)), sz_of hz, fun p hp => q p _ (fresh_back (e2.trans e3) hp) ((e2.trans e3).trans (Ex.new hp)) upd_same⟩
/-- [x] * n -/
theorem el_rep {xs : List V} {n : Nat} (ha : EvL ta σ H xs) (hb : Ev tb σ H (.int n)) (hn : xs.length * n ≤ 100000) (hn2 : n ≤ 100000) : EvL (tOp rRep ta tb) σ H (List.replicate n xs).flatten := fun H1 e Q q =>
  ha H1 e _ fun l H2 hl e2 h => hb H2 (e.trans e2) _ fun H3 e3 => ⟨l, n, xs, rfl, rfl, e3 _ _ h, by omega, by omega, sz_of (by simpa using hn), fun p hp => q p _ (fresh_back (e2.trans e3) hp) ((e2.trans e3).trans (Ex.new hp)) (by rw [upd_same]; simp)⟩
/-- == and != of data, both sides known -/
theorem Dp_ex {v : V} {d : PyData} (h : Dp K H v d) (e : Ex H H') : Dp K H' v d := by
  refine Dp.rec (motive_1 := fun v d _ => Dp K H' v d) (motive_2 := fun vs ds _ => DpAll K H' vs ds) ?_ ?_ ?_ ?_ ?_ ?_ ?_ ?_ h
  · exact .non
  · exact .bl
  · exact .int
  · exact .str
  · intro a xs ds h1 _ ih; exact .lst (ex_l e h1) ih
  · intro a xs ds h1 _ ih; exact .tup (ex_t e h1) ih
  · exact .nil
  · intro v vs d ds _ _ i1 i2; exact .cons i1 i2
theorem rv_eqD {d e : PyData} (h1 : Dp K H x d) (h2 : Dp K H y e) (s1 : SeqAt.shaped d = true) (s2 : SeqAt.shaped e = true) : RV (rEqD K) x y H (.bl (PyData.eqv d e)) := fun H1 a _ q => ⟨d, e, Dp_ex h1 a, Dp_ex h2 a, s1, s2, q H1 (Ex.refl H1)⟩
theorem rv_neD {d e : PyData} (h1 : Dp K H x d) (h2 : Dp K H y e) (s1 : SeqAt.shaped d = true) (s2 : SeqAt.shaped e = true) : RV (rNeD K) x y H (.bl (!PyData.eqv d e)) := fun H1 a _ q => ⟨d, e, Dp_ex h1 a, Dp_ex h2 a, s1, s2, q H1 (Ex.refl H1)⟩
theorem rv_inD {d : PyData} {ds : List PyData} (h1 : Dp K H x d) (h2 : Dp K H y (.list ds)) (s1 : SeqAt.shaped d = true) (s2 : SeqAt.shaped (.list ds) = true) : RV (rInD K) x y H (.bl (ds.any fun z => PyData.eqv z d)) := fun H1 a _ q => ⟨d, ds, Dp_ex h1 a, Dp_ex h2 a, s1, s2, q H1 (Ex.refl H1)⟩
end
/-! #### data of ints and of pairs of ints -/
theorem dp_ints {K : PySem.W.Frag} {H : Hp} : ∀ ns : List Int, DpAll K H (ns.map V.int) (ns.map PyData.int)
  | [] => .nil
  | n :: ns => .cons (.int n) (dp_ints ns)
theorem lay_ints : ∀ ns : List Int, PyData.canLayAll0 (ns.map PyData.int) = true
  | [] => by simp [PyData.canLayAll0]
  | n :: ns => by simp [PyData.canLayAll0, PyData.canLay0, lay_ints ns]
theorem depth_ints : ∀ ns : List Int, PyData.depthAll (ns.map PyData.int) = 0
  | [] => by simp [PyData.depthAll]
  | n :: ns => by simp [PyData.depthAll, PyData.depth, depth_ints ns]
theorem shaped_ints (ns : List Int) : SeqAt.shaped (.list (ns.map PyData.int)) = true := by
  show (PyData.canLay0 (.list (ns.map PyData.int)) && decide (PyData.depth (.list (ns.map PyData.int)) ≤ 64)) = true
  rw [Bool.and_eq_true]
  refine ⟨by simp only [PyData.canLay0]; exact lay_ints ns, decide_eq_true ?_⟩
  simp only [PyData.depth, depth_ints]
  omega
theorem eqv_ints : ∀ ns ms : List Int, PyData.eqvAll (ns.map PyData.int) (ms.map PyData.int) = decide (ns = ms)
  | [], [] => by simp [PyData.eqvAll]
  | [], m :: ms => by simp [PyData.eqvAll]
  | n :: ns, [] => by simp [PyData.eqvAll]
  | n :: ns, m :: ms => by
    simp only [List.map_cons, PyData.eqvAll, eqv_ints ns ms, PyData.eqv]
    rw [Bool.eq_iff_iff]
    simp
theorem eqv_lints (ns ms : List Int) : PyData.eqv (.list (ns.map PyData.int)) (.list (ms.map PyData.int)) = decide (ns = ms) := by
  simp only [PyData.eqv]
  exact eqv_ints ns ms
/-- pairs -/
def prd (z : Int × Int) : PyData := .tuple [.int z.1, .int z.2]
theorem prd_lay (z : Int × Int) : (prd z).canLay0 = true := by simp [prd, PyData.canLay0, PyData.canLayAll0]
theorem prd_depth (z : Int × Int) : (prd z).depth = 1 := by simp [prd, PyData.depth, PyData.depthAll]
theorem prds_lay : ∀ zs : List (Int × Int), PyData.canLayAll0 (zs.map prd) = true
  | [] => by simp [PyData.canLayAll0]
  | z :: zs => by simp [PyData.canLayAll0, prd_lay z, prds_lay zs]
theorem prds_depth : ∀ zs : List (Int × Int), PyData.depthAll (zs.map prd) ≤ 1
  | [] => by simp [PyData.depthAll]
  | z :: zs => by
    have h1 := prds_depth zs
    have h2 := prd_depth z
    simp only [List.map_cons, PyData.depthAll]
    omega
theorem prd_shaped (z : Int × Int) : SeqAt.shaped (prd z) = true := by
  have h := prd_depth z
  show ((prd z).canLay0 && decide ((prd z).depth ≤ 64)) = true
  rw [Bool.and_eq_true]
  exact ⟨prd_lay z, decide_eq_true (by omega)⟩
theorem prds_shaped (zs : List (Int × Int)) : SeqAt.shaped (.list (zs.map prd)) = true := by
  have h1 := prds_depth zs
  show (PyData.canLay0 (.list (zs.map prd)) && decide (PyData.depth (.list (zs.map prd)) ≤ 64)) = true
  rw [Bool.and_eq_true]
  refine ⟨by simp only [PyData.canLay0]; exact prds_lay zs, decide_eq_true ?_⟩
  simp only [PyData.depth]
  omega
theorem prd_eqv (z w : Int × Int) : PyData.eqv (prd z) (prd w) = decide (z = w) := by
  obtain ⟨a, b⟩ := z
  obtain ⟨c, d⟩ := w
  simp only [prd, PyData.eqv, PyData.eqvAll]
  rw [Bool.eq_iff_iff]
  simp
theorem prds_eqv_nil (zs : List (Int × Int)) : PyData.eqv (.list (zs.map prd)) (.list []) = zs.isEmpty := by
  cases zs with
  | nil => simp [PyData.eqv, PyData.eqvAll]
  | cons z zs => simp [PyData.eqv, PyData.eqvAll]
end FsR
namespace FsR
open PySem PySem.Spec PyProof.Rows L2 Evl
open Fs (compI WF)
/-! ### the house in the heap -/
/-- the heap without what may be changed -/
def off (F : List Addr) (H : Hp) : Hp := fun b => if b ∈ F then none else H b
theorem off_get {F : List Addr} {H : Hp} {b : Addr} {o : HO} (h : off F H b = some o) : H b = some o ∧ b ∉ F := by
  unfold off at h
  split at h
  · cases h
  · rename_i q; exact ⟨h, q⟩
theorem off_of {F : List Addr} {H : Hp} {b : Addr} {o : HO} (h : H b = some o) (q : b ∉ F) : off F H b = some o := by
  unfold off; rw [if_neg q]; exact h
theorem off_ex {F : List Addr} {H H' : Hp} (e : Ex H H') : Ex (off F H) (off F H') := fun b o h => by
  obtain ⟨h1, h2⟩ := off_get h
  exact off_of (e b o h1) h2
theorem off_upd {F : List Addr} {H : Hp} {a : Addr} {o : HO} (h : a ∈ F) : off F (upd H a o) = off F H := by
  funext b
  unfold off
  split
  · rfl
  · rename_i q
    exact upd_ne fun e => q (by rw [e]; exact h)
theorem ex_off {F : List Addr} {H : Hp} : Ex (off F H) H := fun b o h => (off_get h).1
/-- all that stands apart from F stands on -/
def ExF (F : List Addr) (H H' : Hp) : Prop := Ex (off F H) H'
theorem ExF.of {F : List Addr} {H H' : Hp} (e : Ex H H') : ExF F H H' := fun b o h => e b o (off_get h).1
theorem ExF.ex {F : List Addr} {H H' : Hp} (e : ExF F H H') {b : Addr} {o : HO} (h : H b = some o) (q : b ∉ F) : H' b = some o := e b o (off_of h q)
theorem ExF.trans {F : List Addr} {H H1 H2 : Hp} (a : ExF F H H1) (b : ExF F H1 H2) : ExF F H H2 := fun c o h => b c o (off_of (a c o h) (off_get h).2)
theorem ExF.refl {F : List Addr} {H : Hp} : ExF F H H := ExF.of (Ex.refl H)
theorem ExF.upd {F : List Addr} {H H' : Hp} {a : Addr} {o : HO} (e : ExF F H H') (h : a ∈ F ∨ H a = none) : ExF F H (upd H' a o) := fun b u q => by
  obtain ⟨q1, q2⟩ := off_get q
  have : b ≠ a := fun z => by
    subst z
    rcases h with h | h
    · exact q2 h
    · rw [h] at q1; cases q1
  rw [upd_ne this]
  exact e b u q
theorem ExF.mono {F F' : List Addr} {H H' : Hp} (e : ExF F H H') (s : ∀ b ∈ F, b ∈ F') : ExF F' H H' := fun b o h => e b o (off_of (off_get h).1 fun q => (off_get h).2 (s b q))
theorem lk_here {k : Str} {v : V} {r : List (Str × V)} : List.lookup k ((k, v) :: r) = some v := by
  have e : (k == k) = true := beq_self_eq_true k
  simp only [List.lookup, e]
theorem lk_past {k g : Str} {v : V} {r : List (Str × V)} (h : (k == g) = false) : List.lookup k ((g, v) :: r) = List.lookup k r := by
  simp only [List.lookup, h]
theorem put_here {f : Str} {v x : V} {r : List (Str × V)} : putF f v ((f, x) :: r) = (f, v) :: r := if_pos rfl
theorem put_past {f g : Str} {v x : V} {r : List (Str × V)} (h : ¬ g = f) : putF f v ((g, x) :: r) = (g, x) :: putF f v r := if_neg h
def b2 (b : Bool) : Int := if b = true then 1 else 0
/-- a guest's fields -/
def gF (g : Kg75.Guest) (l : Addr) : List (Str × V) := [("rank", .int g.rank), ("day", .int g.since), ("country", .int g.country), ("sex", .int g.sex), ("companion", .int (compI g.with_)), ("languages", .ref l)]
theorem gF_rank (g : Kg75.Guest) (l : Addr) : (gF g l).lookup ("rank" : Str) = some (.int g.rank) := lk_here
theorem gF_day (g : Kg75.Guest) (l : Addr) : (gF g l).lookup ("day" : Str) = some (.int g.since) := (lk_past (by decide +kernel)).trans lk_here
theorem gF_country (g : Kg75.Guest) (l : Addr) : (gF g l).lookup ("country" : Str) = some (.int g.country) := (lk_past (by decide +kernel)).trans ((lk_past (by decide +kernel)).trans lk_here)
theorem gF_sex (g : Kg75.Guest) (l : Addr) : (gF g l).lookup ("sex" : Str) = some (.int g.sex) := (lk_past (by decide +kernel)).trans ((lk_past (by decide +kernel)).trans ((lk_past (by decide +kernel)).trans lk_here))
theorem gF_companion (g : Kg75.Guest) (l : Addr) : (gF g l).lookup ("companion" : Str) = some (.int (compI g.with_)) := (lk_past (by decide +kernel)).trans ((lk_past (by decide +kernel)).trans ((lk_past (by decide +kernel)).trans ((lk_past (by decide +kernel)).trans lk_here)))
theorem gF_languages (g : Kg75.Guest) (l : Addr) : (gF g l).lookup ("languages" : Str) = some (.ref l) := (lk_past (by decide +kernel)).trans ((lk_past (by decide +kernel)).trans ((lk_past (by decide +kernel)).trans ((lk_past (by decide +kernel)).trans ((lk_past (by decide +kernel)).trans lk_here))))
theorem gF_put (g : Kg75.Guest) (l : Addr) (w : Option Nat) : putF "companion" (.int (compI w)) (gF g l) = gF { g with with_ := w } l :=
  (put_past (by decide +kernel)).trans (congrArg _ ((put_past (by decide +kernel)).trans (congrArg _ ((put_past (by decide +kernel)).trans (congrArg _ ((put_past (by decide +kernel)).trans (congrArg _ put_here)))))))
structure Parts where
  lg : Addr
  la : Addr
  lh : Addr
  lr : Addr
  gs : List Addr
def Parts.mut (p : Parts) (a : Addr) : List Addr := a :: p.lg :: p.la :: p.lh :: p.gs
def hF (home : Nat) (p : Parts) : List (Str × V) := [("country", .int home), ("guests", .ref p.lg), ("apart", .ref p.la), ("hosts", .ref p.lh), ("rules", .ref p.lr)]
theorem hF_country (h : Nat) (p : Parts) : (hF h p).lookup ("country" : Str) = some (.int h) := lk_here
theorem hF_guests (h : Nat) (p : Parts) : (hF h p).lookup ("guests" : Str) = some (.ref p.lg) := (lk_past (by decide +kernel)).trans lk_here
theorem hF_apart (h : Nat) (p : Parts) : (hF h p).lookup ("apart" : Str) = some (.ref p.la) := (lk_past (by decide +kernel)).trans ((lk_past (by decide +kernel)).trans lk_here)
theorem hF_hosts (h : Nat) (p : Parts) : (hF h p).lookup ("hosts" : Str) = some (.ref p.lh) := (lk_past (by decide +kernel)).trans ((lk_past (by decide +kernel)).trans ((lk_past (by decide +kernel)).trans lk_here))
theorem hF_rules (h : Nat) (p : Parts) : (hF h p).lookup ("rules" : Str) = some (.ref p.lr) := (lk_past (by decide +kernel)).trans ((lk_past (by decide +kernel)).trans ((lk_past (by decide +kernel)).trans ((lk_past (by decide +kernel)).trans lk_here)))
theorem hF_put (h : Nat) (p : Parts) (r : Addr) : putF "rules" (.ref r) (hF h p) = hF h { p with lr := r } :=
  (put_past (by decide +kernel)).trans (congrArg _ ((put_past (by decide +kernel)).trans (congrArg _ ((put_past (by decide +kernel)).trans (congrArg _ ((put_past (by decide +kernel)).trans (congrArg _ put_here)))))))
def PairsAt (H : Hp) (ts : List Addr) (zs : List (Int × Int)) : Prop := ts.length = zs.length ∧ ∀ (i : Nat) (t : Addr) (z : Int × Int), ts[i]? = some t → zs[i]? = some z → H t = some (.tup [.int z.1, .int z.2])
theorem PairsAt.ex {H H' : Hp} {ts : List Addr} {zs : List (Int × Int)} (h : PairsAt H ts zs) (e : Ex H H') : PairsAt H' ts zs := ⟨h.1, fun i t z a b => e _ _ (h.2 i t z a b)⟩
theorem PairsAt.nil {H : Hp} : PairsAt H [] [] := ⟨rfl, fun i t z a _ => by simp at a⟩
theorem PairsAt.snoc {H : Hp} {ts : List Addr} {zs : List (Int × Int)} {t : Addr} {z : Int × Int} (h : PairsAt H ts zs) (ht : H t = some (.tup [.int z.1, .int z.2])) : PairsAt H (ts ++ [t]) (zs ++ [z]) := by
  refine ⟨by simp [h.1], fun i t' z' a b => ?_⟩
  by_cases hi : i < ts.length
  · rw [List.getElem?_append_left hi] at a
    rw [List.getElem?_append_left (by rw [← h.1]; exact hi)] at b
    exact h.2 i t' z' a b
  · have hi : ts.length ≤ i := Nat.le_of_not_lt hi
    rw [List.getElem?_append_right hi] at a
    rw [List.getElem?_append_right (by rw [← h.1]; exact hi), ← h.1] at b
    obtain ⟨k, hk⟩ : ∃ k, i - ts.length = k := ⟨_, rfl⟩
    rw [hk] at a b
    cases k with
    | zero =>
      simp at a b
      subst a b
      exact ht
    | succ k => simp at a
theorem PairsAt.dp {K : PySem.W.Frag} {H : Hp} : ∀ {ts : List Addr} {zs : List (Int × Int)}, PairsAt H ts zs → DpAll K H (ts.map V.ref) (zs.map prd)
  | [], [], _ => .nil
  | [], z :: zs, h => by have := h.1; simp at this
  | t :: ts, [], h => by have := h.1; simp at this
  | t :: ts, z :: zs, h => .cons (.tup (st_of (h.2 0 t z rfl rfl)) (.cons (.int _) (.cons (.int _) .nil)))
      (PairsAt.dp ⟨by have := h.1; simpa using this, fun i t' z' a b => h.2 (i + 1) t' z' (by simpa using a) (by simpa using b)⟩)
def apartI (s : Kg75.State) : List (Int × Int) := s.apart.map fun x => (((min x.1 x.2 : Nat) : Int), ((max x.1 x.2 : Nat) : Int))
def hostsI (s : Kg75.State) : List (Int × Int) := s.hosts.map fun x => ((x.1 : Int), (x.2 : Int))
def rulesV (r : Kg75.Rules) : List V := [.int (b2 r.together), .int (b2 r.sexes), .int (b2 r.countries), .int (b2 r.languages)]
structure HouseP (CG CH : Addr) (H : Hp) (a : Addr) (s : Kg75.State) (p : Parts) : Prop where
  ob : ∃ dx, H a = some (.ins CH dx (hF s.home p))
  og : H p.lg = some (.lst (p.gs.map V.ref))
  gl : p.gs.length = s.guests.length
  gat : ∀ (i : Nat) (ga : Addr), p.gs[i]? = some ga → ∃ dx l, H ga = some (.ins CG dx (gF (s.guest i) l)) ∧ off (p.mut a) H l = some (.lst ((s.guest i).speaks.map fun (n : Nat) => V.int (n : Int)))
  oa : ∃ ts, H p.la = some (.lst (ts.map V.ref)) ∧ PairsAt (off (p.mut a) H) ts (apartI s)
  oh : ∃ ts, H p.lh = some (.lst (ts.map V.ref)) ∧ PairsAt (off (p.mut a) H) ts (hostsI s)
  or : off (p.mut a) H p.lr = some (.lst (rulesV s.rules))
  nd : (p.mut a).Nodup
def HouseAt (CG CH : Addr) (H : Hp) (a : Addr) (s : Kg75.State) : Prop := ∃ p, HouseP CG CH H a s p
section
variable {CG CH : Addr} {H H' : Hp} {a : Addr} {s : Kg75.State} {p : Parts}
theorem HouseP.ex (h : HouseP CG CH H a s p) (e : Ex H H') : HouseP CG CH H' a s p := by
  refine ⟨?_, e _ _ h.og, h.gl, fun i ga hi => ?_, ?_, ?_, off_ex e _ _ h.or, h.nd⟩
  · obtain ⟨dx, q⟩ := h.ob; exact ⟨dx, e _ _ q⟩
  · obtain ⟨dx, l, q1, q2⟩ := h.gat i ga hi; exact ⟨dx, l, e _ _ q1, off_ex e _ _ q2⟩
  · obtain ⟨ts, q1, q2⟩ := h.oa; exact ⟨ts, e _ _ q1, q2.ex (off_ex e)⟩
  · obtain ⟨ts, q1, q2⟩ := h.oh; exact ⟨ts, e _ _ q1, q2.ex (off_ex e)⟩
theorem HouseAt.ex (h : HouseAt CG CH H a s) (e : Ex H H') : HouseAt CG CH H' a s := let ⟨p, q⟩ := h; ⟨p, q.ex e⟩
theorem HouseP.guest (h : HouseP CG CH H a s p) {i : Nat} (hi : i < s.guests.length) : ∃ ga dx l, (p.gs.map V.ref)[i]? = some (V.ref ga) ∧ p.gs[i]? = some ga ∧ H ga = some (.ins CG dx (gF (s.guest i) l)) ∧ H l = some (.lst ((s.guest i).speaks.map fun (n : Nat) => V.int (n : Int))) := by
  have hi' : i < p.gs.length := by rw [h.gl]; exact hi
  obtain ⟨dx, l, q1, q2⟩ := h.gat i _ (List.getElem?_eq_getElem hi')
  exact ⟨_, dx, l, by rw [List.getElem?_map, List.getElem?_eq_getElem hi']; rfl, List.getElem?_eq_getElem hi', q1, (off_get q2).1⟩
end
end FsR
namespace FsR
open PySem PySem.Spec PyProof.Rows L2 Evl
open Fs (compI WF)
/-! ### the promises -/
/-- the classes -/
structure Ad where
  G : Addr
  H : Addr
  S : Addr
  D : Addr
  W : Addr
  T : Addr
def natsV (l : List Nat) : List V := l.map fun (n : Nat) => V.int (n : Int)
def intsV (l : List Int) : List V := l.map V.int
def RetU (xs : List V) (H : Hp) (Q : VK) : Prop := ∀ p H2, H p = none → Ex H H2 → H2 p = some (.tup xs) → Q (.ref p) H2
def RetP (ps : List (Int × Int)) (H : Hp) (Q : VK) : Prop := ∀ p H2 ts, H p = none → Ex H H2 → H2 p = some (.lst (ts.map V.ref)) → PairsAt H2 ts ps → Q (.ref p) H2
def areLangs (l : List Int) : Bool := decide l.Nodup && l.all fun z => Kg75.within z 0 7
def guestTold (r d c x w : Int) (l : List Int) : Bool := Kg75.within r 0 10 && (Kg75.within d 0 100000 && (Kg75.within c 0 30 && (Kg75.within x 0 1 && (Kg75.within w (-1) 99 && areLangs l))))
def mayCome (s : Kg75.State) (w : Int) : Bool := decide (w = -1) || (Kg75.isGuest s w && decide ((s.guest w.toNat).with_ = none))
def ownV (s : Kg75.State) (i : Nat) : List V := natsV (Fs.ownL s i)
abbrev SpT := PySem.W.Frag → Ad → Sp
def sp_within : SpT := fun _ _ vs H Q _ => ∃ n lo hi : Int, vs = [.int n, .int lo, .int hi] ∧ RetV (.bl (Kg75.within n lo hi)) H Q
def sp_are_languages : SpT := fun K _ vs H Q _ => ∃ (a : Addr) (l : List Int), vs = [.ref a] ∧ SqL K H a (intsV l) ∧ l.length ≤ 1300 ∧ RetV (.bl (areLangs l)) H Q
def sp_is_guest_told : SpT := fun K _ vs H Q _ => ∃ (aw al : Addr) (r d c x w : Int) (l : List Int), vs = [.ref aw, .ref al] ∧ SqL K H aw (intsV [r, d, c, x, w]) ∧ SqL K H al (intsV l) ∧ l.length ≤ 1300 ∧ RetV (.bl (guestTold r d c x w l)) H Q
def sp_is_guest : SpT := fun _ ad vs H Q _ => ∃ (a : Addr) (s : Kg75.State) (z : Int), vs = [.ref a, .int z] ∧ HouseAt ad.G ad.H H a s ∧ RetV (.bl (Kg75.isGuest s z)) H Q
def sp_may_come_with : SpT := fun _ ad vs H Q _ => ∃ (a : Addr) (s : Kg75.State) (w : Int), vs = [.ref a, .int w] ∧ HouseAt ad.G ad.H H a s ∧ RetV (.bl (mayCome s w)) H Q
def sp_key_of : SpT := fun _ ad vs H Q _ => ∃ (a : Addr) (s : Kg75.State) (i : Nat), vs = [.ref a, .int i] ∧ HouseAt ad.G ad.H H a s ∧ i < s.guests.length ∧ RetU (ownV s i) H Q
def sp_follows : SpT := fun _ ad vs H Q _ => ∃ (a : Addr) (s : Kg75.State) (i : Nat), vs = [.ref a, .int i] ∧ HouseAt ad.G ad.H H a s ∧ WF s ∧ i < s.guests.length ∧ RetV (.bl (Fs.follows s i)) H Q
def sp_order_of : SpT := fun _ ad vs H Q _ => ∃ (a : Addr) (s : Kg75.State), vs = [.ref a] ∧ HouseAt ad.G ad.H H a s ∧ WF s ∧ RetL (natsV s.order) H Q
def sp_flags_of : SpT := fun _ ad vs H Q _ => ∃ (a : Addr) (s : Kg75.State) (way : Int), vs = [.ref a, .int way] ∧ HouseAt ad.G ad.H H a s ∧ WF s ∧ 0 ≤ way ∧ way ≤ 2 ∧ RetL (natsV (s.flags way.toNat)) H Q
def sp_seats_of : SpT := fun _ ad vs H Q _ => ∃ (a : Addr) (s : Kg75.State), vs = [.ref a] ∧ HouseAt ad.G ad.H H a s ∧ WF s ∧ RetL (natsV s.seats) H Q
def sp_may_not : SpT := fun _ ad vs H Q _ => ∃ (a : Addr) (s : Kg75.State) (i j : Nat), vs = [.ref a, .int i, .int j] ∧ HouseAt ad.G ad.H H a s ∧ i < s.guests.length ∧ j < s.guests.length ∧ RetV (.bl (Fs.mayNot s i j)) H Q
def sp_do_share : SpT := fun _ ad vs H Q _ => ∃ (a : Addr) (s : Kg75.State) (i j : Nat), vs = [.ref a, .int i, .int j] ∧ HouseAt ad.G ad.H H a s ∧ WF s ∧ i < s.guests.length ∧ j < s.guests.length ∧ RetV (.bl (s.share i j)) H Q
def sp_right_of : SpT := fun K _ vs H Q _ => ∃ (l : Addr) (xs : List V) (k : Nat) (v : V), vs = [.ref l, .int k] ∧ SqL K H l xs ∧ k < xs.length ∧ xs[Fs.nbR xs.length k]? = some v ∧ RetV v H Q
def sp_left_of : SpT := fun K _ vs H Q _ => ∃ (l : Addr) (xs : List V) (k : Nat) (v : V), vs = [.ref l, .int k] ∧ SqL K H l xs ∧ k < xs.length ∧ xs[Fs.nbL xs.length k]? = some v ∧ RetV v H Q
def sp_is_lonely : SpT := fun K ad vs H Q _ => ∃ (a l : Addr) (s : Kg75.State) (sit : List Nat) (k : Nat), vs = [.ref a, .ref l, .int k] ∧ HouseAt ad.G ad.H H a s ∧ WF s ∧ SqL K H l (natsV sit) ∧ (∀ g ∈ sit, g < s.guests.length) ∧ k < sit.length ∧
  RetV (.bl (!s.share (Fs.gAt sit k) (Fs.gAt sit (Fs.nbL sit.length k)) && !s.share (Fs.gAt sit k) (Fs.gAt sit (Fs.nbR sit.length k)))) H Q
def pairI (l : List (Nat × Nat)) : List (Int × Int) := l.map fun x => ((x.1 : Int), (x.2 : Int))
def sp_breaks_of : SpT := fun K ad vs H Q _ => ∃ (a l : Addr) (s : Kg75.State) (sit : List Nat), vs = [.ref a, .ref l] ∧ HouseAt ad.G ad.H H a s ∧ WF s ∧ SqL K H l (natsV sit) ∧ (∀ g ∈ sit, g < s.guests.length) ∧ sit.length = s.guests.length ∧ RetP (pairI (Fs.breaksM s sit)) H Q
/-! #### a search -/
def sitV (sit : Fs.Sit) : List V := sit.map fun o => V.int (compI o)
def MatAt (H : Hp) (rows : List Addr) (n : Nat) (f : Nat → Nat → Bool) : Prop := rows.length = n ∧ ∀ (i : Nat) (r : Addr), rows[i]? = some r → H r = some (.lst ((List.range n).map fun j => V.bl (f i j)))
def sF (a lgs lse lba lsh lsit : Addr) : List (Str × V) := [("house", .ref a), ("guests", .ref lgs), ("seats", .ref lse), ("barred", .ref lba), ("shared", .ref lsh), ("sitting", .ref lsit)]
structure SearchS (ad : Ad) (H : Hp) (sa lsit : Addr) (s : Kg75.State) (gs : List Nat) (dx a lgs lse lba lsh : Addr) (rb rs : List Addr) : Prop where
  ob : H sa = some (.ins ad.S dx (sF a lgs lse lba lsh lsit))
  ho : HouseAt ad.G ad.H H a s
  gu : H lgs = some (.lst (natsV gs))
  se : H lse = some (.lst (natsV s.seats))
  ba : H lba = some (.lst (rb.map V.ref))
  sh : H lsh = some (.lst (rs.map V.ref))
  mb : MatAt H rb s.guests.length (Fs.mayNot s)
  ms : MatAt H rs s.guests.length s.share
def SearchAt (ad : Ad) (H : Hp) (sa lsit : Addr) (s : Kg75.State) (gs : List Nat) (sit : Fs.Sit) : Prop :=
  (∃ dx a lgs lse lba lsh rb rs, SearchS ad (off [lsit] H) sa lsit s gs dx a lgs lse lba lsh rb rs) ∧ H lsit = some (.lst (sitV sit)) ∧ sit.length = s.guests.length ∧ ∀ k g, Fs.sAt sit k = some g → g < s.guests.length
def sp_Search : SpT := fun K ad vs H Q _ => ∃ (sa dx a lgs lse : Addr) (s : Kg75.State) (gs : List Nat), vs = [.ref sa, .ref a, .ref lgs, .ref lse] ∧ H sa = some (.ins ad.S dx []) ∧ HouseAt ad.G ad.H (off [sa] H) a s ∧ WF s ∧ off [sa] H lgs = some (.lst (natsV gs)) ∧ off [sa] H lse = some (.lst (natsV s.seats)) ∧
  ∀ H' lsit, SearchAt ad H' sa lsit s gs (List.replicate s.guests.length none) → ExF [sa] H H' → H lsit = none → Q .non H'
def sp_is_barred : SpT := fun K ad vs H Q _ => ∃ (sa lsit : Addr) (s : Kg75.State) (gs : List Nat) (sit : Fs.Sit) (k : Nat) (g : Nat), vs = [.ref sa, .int k] ∧ SearchAt ad H sa lsit s gs sit ∧ WF s ∧ Fs.sAt sit k = some g ∧ RetV (.bl (Fs.barredM s sit k)) H Q
def sp_has_nobody_to_talk_to : SpT := fun K ad vs H Q _ => ∃ (sa lsit : Addr) (s : Kg75.State) (gs : List Nat) (sit : Fs.Sit) (k : Nat), vs = [.ref sa, .int k] ∧ SearchAt ad H sa lsit s gs sit ∧ WF s ∧ k < s.guests.length ∧ RetV (.bl (Fs.lonelyM s sit k)) H Q
def sp_is_well : SpT := fun K ad vs H Q _ => ∃ (sa lsit : Addr) (s : Kg75.State) (gs : List Nat) (sit : Fs.Sit) (k : Nat) (g : Nat), vs = [.ref sa, .int k] ∧ SearchAt ad H sa lsit s gs sit ∧ WF s ∧ Fs.sAt sit k = some g ∧ RetV (.bl (Fs.wellM s sit k)) H Q
def sp_is_seated (d : Nat) : SpT := fun K ad vs H Q _ => ∃ (sa lsit : Addr) (s : Kg75.State) (gs : List Nat) (sit : Fs.Sit) (k : Nat), vs = [.ref sa, .int k] ∧ SearchAt ad H sa lsit s gs sit ∧ WF s ∧ k ≤ gs.length ∧ gs.length - k < d ∧ (∀ g ∈ gs, g < s.guests.length) ∧
  (Fs.seatedM s s.seats (gs.drop k) sit = none → ∀ H', ExF [lsit] H H' → H' lsit = some (.lst (sitV sit)) → Q (.bl false) H') ∧
  (∀ sit', Fs.seatedM s s.seats (gs.drop k) sit = some sit' → ∀ H', ExF [lsit] H H' → H' lsit = some (.lst (sitV sit')) → Q (.bl true) H')
def sp_plan_of : SpT := fun K ad vs H Q _ => ∃ (a : Addr) (s : Kg75.State), vs = [.ref a] ∧ HouseAt ad.G ad.H H a s ∧ WF s ∧ (Fs.planM s = none → RetV .non H Q) ∧ (∀ sit, Fs.planM s = some sit → RetL (sitV sit) H Q)
/-! #### what makes and changes -/
def sp_Guest : SpT := fun K ad vs H Q _ => ∃ (x dx aw l : Addr) (g : Kg75.Guest), vs = [.ref x, .ref aw, .ref l] ∧ H x = some (.ins ad.G dx []) ∧ SqL K (off [x] H) aw (intsV [(g.rank : Int), g.since, g.country, g.sex, compI g.with_]) ∧
  ∀ H', H' x = some (.ins ad.G dx (gF g l)) → ExF [x] H H' → Q .non H'
def freshS (home : Nat) : Kg75.State := { Kg75.init with home := home }
def sp_House : SpT := fun _ ad vs H Q _ => ∃ (x dx : Addr) (h : Nat), vs = [.ref x, .int h] ∧ H x = some (.ins ad.H dx []) ∧
  ∀ H' p, (∀ F : List Addr, (∀ b ∈ F, b ≠ x ∧ H b ≠ none) → HouseP ad.G ad.H (off F H') x (freshS h) p) → ExF [x] H H' → (∀ b ∈ p.mut x, b = x ∨ H b = none) → Q .non H'
def DeskP (ad : Ad) (H : Hp) (d a : Addr) (s : Kg75.State) (p : Parts) : Prop := (∃ dx, H d = some (.ins ad.D dx [("house", .ref a)])) ∧ HouseP ad.G ad.H H a s p ∧ d ∉ p.mut a
def sp_Desk : SpT := fun _ ad vs H Q _ => ∃ (x dx : Addr), vs = [.ref x] ∧ H x = some (.ins ad.D dx []) ∧
  ∀ H' a p, DeskP ad H' x a Kg75.init p → ExF [x] H H' → (∀ b ∈ p.mut a, H b = none) → Q .non H'
def ansV (x : Kg75.Ans) : List V := .int x.value :: intsV x.out
/-- a house is changed, an answer given; what stood apart from some places stands apart from them -/
def RetH (ad : Ad) (H : Hp) (a : Addr) (s : Kg75.State) (p : Parts) (x : Kg75.State × Kg75.Ans) (Q : VK) : Prop := ∀ H' r p', HouseP ad.G ad.H H' a x.1 p' → ExF (p.mut a) H H' → (∀ b ∈ p'.mut a, b ∈ p.mut a ∨ H b = none) → H r = none → H' r = some (.lst (ansV x.2)) →
  (∀ F : List Addr, (∀ b ∈ F, H b ≠ none) → HouseP ad.G ad.H (off F H) a s p → HouseP ad.G ad.H (off F H') a x.1 p') → Q (.ref r) H'
def RetS (ad : Ad) (H : Hp) (d a : Addr) (s : Kg75.State) (p : Parts) (x : Kg75.State × Kg75.Ans) (Q : VK) : Prop := ∀ H' r a' p', DeskP ad H' d a' x.1 p' → ExF (d :: p.mut a) H H' → (∀ b ∈ p'.mut a', b ∈ p.mut a ∨ H b = none) → H r = none → H' r = some (.lst (ansV x.2)) →
  (∀ F : List Addr, (∀ b ∈ F, H b ≠ none) → DeskP ad (off F H) d a s p → DeskP ad (off F H') d a' x.1 p') → Q (.ref r) H'
def sp_begin : SpT := fun _ ad vs H Q _ => ∃ (d a : Addr) (s : Kg75.State) (p : Parts) (h : Int), vs = [.ref d, .int h] ∧ DeskP ad H d a s p ∧ RetS ad H d a s p (Kg75.spec s (.begin_ h)) Q
def sp_put_guest : SpT := fun K ad vs H Q _ => ∃ (a aw al : Addr) (s : Kg75.State) (p : Parts) (r d c x w : Int) (l : List Int), vs = [.ref a, .ref aw, .ref al] ∧ HouseP ad.G ad.H H a s p ∧ WF s ∧ SqL K (off (p.mut a) H) aw (intsV [r, d, c, x, w]) ∧ SqL K (off (p.mut a) H) al (intsV l) ∧ l.length ≤ 1300 ∧
  RetH ad H a s p (Kg75.spec s (.guest r d c x w l)) Q
def sp_put_apart : SpT := fun _ ad vs H Q _ => ∃ (a : Addr) (s : Kg75.State) (p : Parts) (i j : Int), vs = [.ref a, .int i, .int j] ∧ HouseP ad.G ad.H H a s p ∧ WF s ∧ RetH ad H a s p (Kg75.spec s (.apart i j)) Q
def sp_put_host : SpT := fun _ ad vs H Q _ => ∃ (a : Addr) (s : Kg75.State) (p : Parts) (i j : Int), vs = [.ref a, .int i, .int j] ∧ HouseP ad.G ad.H H a s p ∧ WF s ∧ RetH ad H a s p (Kg75.spec s (.host i j)) Q
def sp_put_rules : SpT := fun K ad vs H Q _ => ∃ (a al : Addr) (s : Kg75.State) (p : Parts) (x0 x1 x2 x3 : Int), vs = [.ref a, .ref al] ∧ HouseP ad.G ad.H H a s p ∧ WF s ∧ SqL K (off (p.mut a) H) al (intsV [x0, x1, x2, x3]) ∧ RetH ad H a s p (Kg75.spec s (.rules x0 x1 x2 x3)) Q
def sp_told : SpT := fun K _ vs H Q _ => ∃ (l : Addr) (xs : List V), vs = [.ref l] ∧ SqL K H l xs ∧ xs.length ≤ 50000 ∧ RetL (.int xs.length :: xs) H Q
def sp_seats : SpT := fun _ ad vs H Q _ => ∃ (a : Addr) (s : Kg75.State), vs = [.ref a] ∧ HouseAt ad.G ad.H H a s ∧ WF s ∧ RetL (ansV (Kg75.spec s .seats).2) H Q
def sp_plan : SpT := fun _ ad vs H Q _ => ∃ (a : Addr) (s : Kg75.State), vs = [.ref a] ∧ HouseAt ad.G ad.H H a s ∧ WF s ∧ RetL (ansV (Kg75.spec s .plan).2) H Q
def sp_check : SpT := fun K ad vs H Q _ => ∃ (a al : Addr) (s : Kg75.State) (l : List Int), vs = [.ref a, .ref al] ∧ HouseAt ad.G ad.H H a s ∧ WF s ∧ SqL K H al (intsV l) ∧ l.length ≤ 12 ∧ RetL (ansV (Kg75.spec s (.check l)).2) H Q
def sp_flags : SpT := fun _ ad vs H Q _ => ∃ (a : Addr) (s : Kg75.State) (way : Int), vs = [.ref a, .int way] ∧ HouseAt ad.G ad.H H a s ∧ WF s ∧ RetL (ansV (Kg75.spec s (.flags way)).2) H Q
/-- the call that its kind, its numbers, its list tell -/
def CallIs (kind : Int) (W R : List Int) : Kg75.Call → Prop
  | .begin_ h => kind = 1 ∧ W = [h]
  | .guest r d c x w l => kind = 2 ∧ W = [r, d, c, x, w] ∧ R = l
  | .apart i j => kind = 3 ∧ W = [i, j]
  | .host i j => kind = 4 ∧ W = [i, j]
  | .rules a b c d => kind = 5 ∧ W = [a, b, c, d]
  | .order => kind = 6
  | .seats => kind = 7
  | .plan => kind = 8
  | .check l => kind = 9 ∧ R = l ∧ l.length ≤ 12
  | .flags w => kind = 10 ∧ W = [w]
def Reads : Kg75.Call → Prop
  | .order | .seats | .plan | .check _ | .flags _ => True
  | _ => False
def sp_asked : SpT := fun K ad vs H Q _ => ∃ (a aw ar : Addr) (s : Kg75.State) (kind : Int) (W R : List Int) (c : Kg75.Call), vs = [.ref a, .int kind, .ref aw, .ref ar] ∧ HouseAt ad.G ad.H H a s ∧ WF s ∧ SqL K H aw (intsV W) ∧ SqL K H ar (intsV R) ∧ CallIs kind W R c ∧ Reads c ∧ RetL (ansV (Kg75.spec s c).2) H Q
def sp_answered : SpT := fun K ad vs H Q _ => ∃ (d a aw ar : Addr) (s : Kg75.State) (p : Parts) (kind : Int) (W R : List Int) (c : Kg75.Call), vs = [.ref d, .int kind, .ref aw, .ref ar] ∧ DeskP ad H d a s p ∧ WF s ∧ SqL K (off (d :: p.mut a) H) aw (intsV W) ∧ SqL K (off (d :: p.mut a) H) ar (intsV R) ∧ R.length ≤ 1300 ∧
  CallIs kind W R c ∧ RetS ad H d a s p (Kg75.spec s c) Q
end FsR
namespace FsR
open PySem PySem.Spec PyProof.Rows L2 Evl
open Fs (compI WF)
/-! ### the text: scopes, readings, derivations (printed by gen.py) -/
def top (i : Nat) : Stmt := PySem.Challenge.pw_firstseat_s01_answers.main.body.getD i (.Pass ⟨0, 0, 0, 0⟩)
def lcSc (e : Expr) : Scope := match e with
  | .ListComp _ _ sc _ => sc
  | _ => { kind := .function, names := [], isGenerator := false, isCoroutine := false }
def asgVal (s : Stmt) : Expr := match s with
  | .Assign _ e _ => e
  | _ => .Name "x" ⟨0, 0, 0, 0⟩
abbrev rAddI : R2 := rI0 fun i j => .int (i + j)
abbrev rSubI : R2 := rI0 fun i j => .int (i - j)
abbrev rModI : R2 := rI (fun _ j => 0 < j) fun i j => .int (i % j)
abbrev rLtI : R2 := rI0 fun i j => .bl (decide (i < j))
abbrev rLeI : R2 := rI0 fun i j => .bl (decide (i ≤ j))
abbrev rGtI : R2 := rI0 fun i j => .bl (decide (j < i))
abbrev rGeI : R2 := rI0 fun i j => .bl (decide (j ≤ i))
def rIsN1 : R2 := fun x y H Q => y = .non ∧ Q (.bl (decide (x = .non))) H
theorem units65 {A : Around} {k : Nat} (hr : Room k A) : A.units + 65 < cLine := by have := hr.un; omega
/-- a module's constant -/
def CI (mg : Str → Option Value) (x : Str) (i : Int) : Prop := ∃ t, mg x = some (.int i t)
theorem pe_ci {X : Cx} {x : Str} {i : Int} {pos : Pos} (hg : Gl X x) (h : CI X.mg x i) (hd : (x == ("__debug__" : Str)) = false := by decide) : PE X (.Name x pos) (tC (.int i)) := by
  obtain ⟨t, h⟩ := h
  exact pe_glob hg h ⟨t, rfl⟩ hd
def wTable : List (Int × Int) := [(1, 1), (2, 5), (3, 2), (4, 2), (5, 4), (6, 0), (7, 0), (8, 0), (9, 0), (10, 1)]
/-- what the top has written -/
structure Txt (K : PySem.W.Frag) (mg : Str → Option Value) (ad : Ad) : Prop where
  cG : Cls K ad.G
  cH : Cls K ad.H
  cS : Cls K ad.S
  cD : Cls K ad.D
  gRank : NoAttr K ad.G "rank"
  gDay : NoAttr K ad.G "day"
  gCountry : NoAttr K ad.G "country"
  gSex : NoAttr K ad.G "sex"
  gCompanion : NoAttr K ad.G "companion"
  gLanguages : NoAttr K ad.G "languages"
  hCountry : NoAttr K ad.H "country"
  hGuests : NoAttr K ad.H "guests"
  hApart : NoAttr K ad.H "apart"
  hHosts : NoAttr K ad.H "hosts"
  hRules : NoAttr K ad.H "rules"
  sHouse : NoAttr K ad.S "house"
  sGuests : NoAttr K ad.S "guests"
  sSeats : NoAttr K ad.S "seats"
  sBarred : NoAttr K ad.S "barred"
  sShared : NoAttr K ad.S "shared"
  sSitting : NoAttr K ad.S "sitting"
  dHouse : NoAttr K ad.D "house"
  NOBODY : CI mg "NOBODY" (-1)
  NO_RANK : CI mg "NO_RANK" 10
  MOST_GUESTS : CI mg "MOST_GUESTS" 9
  MOST_APART : CI mg "MOST_APART" 40
  MOST_HOSTS : CI mg "MOST_HOSTS" 2
  MOST_COUNTRY : CI mg "MOST_COUNTRY" 30
  NOT_RIGHT : CI mg "NOT_RIGHT" (-1)
  NO_HOST : CI mg "NO_HOST" (-2)
  HAS_HOST : CI mg "HAS_HOST" (-3)
  NOT_SO : CI mg "NOT_SO" (-4)
  FULL : CI mg "FULL" (-5)
  NONE : CI mg "NONE" (-6)
  WHOLES : mg "WHOLES" = some (.ref ad.W)
  WITH_LIST : mg "WITH_LIST" = some (.ref ad.T)
  dW : ∃ es n, K.lookup ad.W = some ⟨.type "dict", none, .dict es n, #[]⟩ ∧ IntsLit es ∧ ∀ z ∈ wTable, ∃ u, findBy Value.isInt es z.1 = some u ∧ RelV (.int z.2) u
  tW : ∀ H, SqT K H ad.T [.int 2, .int 9]
  len : mg "len" = none
  set : mg "set" = none
  list : mg "list" = none
  range : mg "range" = none
  sorted : mg "sorted" = none
  int : mg "int" = none
  min : mg "min" = none
  max : mg "max" = none
abbrev cxA (P : Program) (w : World) (K : PySem.W.Frag) (mg : Str → Option Value) (base : Heap) (N : List Str) (qual : Str) (st : Stmt) (f : Addr) (cdv : Value) (A : Around) (outer : List Env) (s : Shared) (H : Hp) (E : XK) : Cx :=
  (cxOf CX0 P w K mg base N qual (defScope st) f cdv A outer s H E).nox
section
variable {P : Program} {w : World} {K : PySem.W.Frag} {mg : Str → Option Value} {base : Heap} {ad : Ad} {f : Addr} {cdv : Value} {A : Around} {outer : List Env} {s : Shared} {H : Hp} {E : XK}
/-- Guest.__init__ -/
abbrev st_Guest : Stmt := inClass (top 7) 0
abbrev N_Guest : List Str := ["self", "wholes", "languages"]
abbrev P_Guest : List Str := ["self", "wholes", "languages"]
theorem sc_Guest : FnScope N_Guest P_Guest (defScope st_Guest) := ⟨rfl, rfl, rfl, by decide +kernel, rfl, by decide +kernel, by decide +kernel⟩
def t_Guest (w : World) (K : PySem.W.Frag) (ad : Ad) : TS :=
  (tSeq (sFld K (tVar 0) (tOp (rIxL K) (tVar 1) (tC (.int 0))) "rank")
  (tSeq (sFld K (tVar 0) (tOp (rIxL K) (tVar 1) (tC (.int 1))) "day")
  (tSeq (sFld K (tVar 0) (tOp (rIxL K) (tVar 1) (tC (.int 2))) "country")
  (tSeq (sFld K (tVar 0) (tOp (rIxL K) (tVar 1) (tC (.int 3))) "sex")
  (tSeq (sFld K (tVar 0) (tOp (rIxL K) (tVar 1) (tC (.int 4))) "companion")
  (sFld K (tVar 0) (tVar 2) "languages"))))))
theorem der_Guest (T : Txt K mg ad) (hr : Room 0 (cxA P w K mg base N_Guest "Guest.__init__" st_Guest f cdv A outer s H E).A) : PSs (cxA P w K mg base N_Guest "Guest.__init__" st_Guest f cdv A outer s H E) (defBody st_Guest) (t_Guest w K ad) := by
  have nd := sc_Guest.nd
  exact (pss_cons (ps_fld (pv 0) (pe_ix ix_list (pv 1) pe_int (fun _ _ => rfl)) rfl)
      (pss_cons (ps_fld (pv 0) (pe_ix ix_list (pv 1) pe_int (fun _ _ => rfl)) rfl)
      (pss_cons (ps_fld (pv 0) (pe_ix ix_list (pv 1) pe_int (fun _ _ => rfl)) rfl)
      (pss_cons (ps_fld (pv 0) (pe_ix ix_list (pv 1) pe_int (fun _ _ => rfl)) rfl)
      (pss_cons (ps_fld (pv 0) (pe_ix ix_list (pv 1) pe_int (fun _ _ => rfl)) rfl)
      (pss_one (ps_fld (pv 0) (pv 2) rfl)))))))
/-- House.__init__ -/
abbrev st_House : Stmt := inClass (top 8) 0
abbrev N_House : List Str := ["self", "country"]
abbrev P_House : List Str := ["self", "country"]
theorem sc_House : FnScope N_House P_House (defScope st_House) := ⟨rfl, rfl, rfl, by decide +kernel, rfl, by decide +kernel, by decide +kernel⟩
def t_House (w : World) (K : PySem.W.Frag) (ad : Ad) : TS :=
  (tSeq (sFld K (tVar 0) (tVar 1) "country")
  (tSeq (sFld K (tVar 0) (tLst tNil) "guests")
  (tSeq (sFld K (tVar 0) (tLst tNil) "apart")
  (tSeq (sFld K (tVar 0) (tLst tNil) "hosts")
  (sFld K (tVar 0) (tLst (tCons (tC (.int 0)) (tCons (tC (.int 0)) (tCons (tC (.int 0)) (tCons (tC (.int 0)) tNil))))) "rules")))))
theorem der_House (T : Txt K mg ad) (hr : Room 0 (cxA P w K mg base N_House "House.__init__" st_House f cdv A outer s H E).A) : PSs (cxA P w K mg base N_House "House.__init__" st_House f cdv A outer s H E) (defBody st_House) (t_House w K ad) := by
  have nd := sc_House.nd
  exact (pss_cons (ps_fld (pv 0) (pv 1) rfl)
      (pss_cons (ps_fld (pv 0) (pe_lst pa_nil) rfl)
      (pss_cons (ps_fld (pv 0) (pe_lst pa_nil) rfl)
      (pss_cons (ps_fld (pv 0) (pe_lst pa_nil) rfl)
      (pss_one (ps_fld (pv 0) (pe_lst (pa_cons pe_int (pa_cons pe_int (pa_cons pe_int (pa_cons pe_int pa_nil))))) rfl))))))
/-- within -/
abbrev st_within : Stmt := top 9
abbrev N_within : List Str := ["number", "least", "most"]
abbrev P_within : List Str := ["number", "least", "most"]
theorem sc_within : FnScope N_within P_within (defScope st_within) := ⟨rfl, rfl, rfl, by decide +kernel, rfl, by decide +kernel, by decide +kernel⟩
def t_within (w : World) (K : PySem.W.Frag) (ad : Ad) : TS :=
  (tRet (tAndV (tOp rLeI (tVar 1) (tVar 0)) (tOp rLeI (tVar 0) (tVar 2))))
theorem der_within (T : Txt K mg ad) (hr : Room 0 (cxA P w K mg base N_within "within" st_within f cdv A outer s H E).A) : PSs (cxA P w K mg base N_within "within" st_within f cdv A outer s H E) (defBody st_within) (t_within w K ad) := by
  have nd := sc_within.nd
  exact (pss_one (ps_ret (pe_and (pe_cmpR op_le (pv 1) (pv 0) (nomark _)) (pe_one (pe_cmpR op_le (pv 0) (pv 2) (nomark _))))))
/-- are_languages -/
abbrev st_are_languages : Stmt := top 10
abbrev N_are_languages : List Str := ["numbers", "number"]
abbrev P_are_languages : List Str := ["numbers"]
theorem sc_are_languages : FnScope N_are_languages P_are_languages (defScope st_are_languages) := ⟨rfl, rfl, rfl, by decide +kernel, rfl, by decide +kernel, by decide +kernel⟩
def t_are_languages (w : World) (K : PySem.W.Frag) (ad : Ad) : TS :=
  (tRet (tAndV (tOp rEq (tCB (rLenSet w) (tCons (tCB (rSetI K w) (tCons (tVar 0) tNil)) tNil)) (tCB (rLenS K) (tCons (tVar 0) tNil))) (tOp (rEqD K) (tLc (iList K (tVar 0)) (gName 1) (tNot (tB (tCallF (sp_within K ad) (tCons (tVar 1) (tCons (tC (.int 0)) (tCons (tC (.int 7)) tNil)))))) (tVar 1) [1]) (tLst tNil))))
theorem der_are_languages (T : Txt K mg ad) (hr : Room 1 (cxA P w K mg base N_are_languages "are_languages" st_are_languages f cdv A outer s H E).A) (G_within : FnAt P w K mg base "within" 1 P_within (sp_within K ad)) : PSs (cxA P w K mg base N_are_languages "are_languages" st_are_languages f cdv A outer s H E) (defBody st_are_languages) (t_are_languages w K ad) := by
  have nd := sc_are_languages.nd
  exact (pss_one (ps_ret (pe_and (pe_cmpR op_eq (pe_callB cr_lenS rfl T.len PySem.boot_len (pa_cons (pe_callTy (cr_setI rfl) rfl T.set (by decide +kernel) (pa_cons (pv 0) pa_nil)) pa_nil)) (pe_callB len1 rfl T.len PySem.boot_len (pa_cons (pv 0) pa_nil)) (nomark _)) (pe_one (pe_cmpR (op_eqD hr.units) (pe_lc (own := [("number", 1)]) (g := (gName 1)) (tt := (tNot (tB (tCallF (sp_within K ad) (tCons (tVar 1) (tCons (tC (.int 0)) (tCons (tC (.int 7)) tNil))))))) (te := (tVar 1)) rfl nd (pi_list (pv 0)) (blkOk_by (own := [("number", 1)]) (N := N_are_languages) (sc := defScope st_are_languages) (by decide +kernel)) (fun _ _ _ _ _ => (pg_name (i := 1) nd rfl (Or.inl rfl))) (fun _ _ _ _ _ => (pts_one (pt_not (pt_val (pe_callF G_within hr (by decide) rfl (pa_cons (pv 1) (pa_cons pe_int (pa_cons pe_int pa_nil)))))))) (fun _ _ _ _ _ => (pv 1))) (pe_lst pa_nil) (nomark _))))))
/-- is_guest_told -/
abbrev st_is_guest_told : Stmt := top 11
abbrev N_is_guest_told : List Str := ["wholes", "languages", "rank", "day", "country", "sex", "companion"]
abbrev P_is_guest_told : List Str := ["wholes", "languages"]
theorem sc_is_guest_told : FnScope N_is_guest_told P_is_guest_told (defScope st_is_guest_told) := ⟨rfl, rfl, rfl, by decide +kernel, rfl, by decide +kernel, by decide +kernel⟩
def t_is_guest_told (w : World) (K : PySem.W.Frag) (ad : Ad) : TS :=
  (tSeq (tAsg (tVar 0) (gUnl K 5 (gCons (gName 2) (gCons (gName 3) (gCons (gName 4) (gCons (gName 5) (gCons (gName 6) gNil)))))))
  (tSeq (tIfS (tOr (tNot (tB (tCallF (sp_within K ad) (tCons (tVar 2) (tCons (tC (.int 0)) (tCons (tC (.int 10)) tNil)))))) (tOr (tNot (tB (tCallF (sp_within K ad) (tCons (tVar 3) (tCons (tC (.int 0)) (tCons (tC (.int 100000)) tNil)))))) (tNot (tB (tCallF (sp_within K ad) (tCons (tVar 4) (tCons (tC (.int 0)) (tCons (tC (.int 30)) tNil)))))))) (tRet (tC (.bl false))) tNext)
  (tRet (tAndV (tOp (rIn K false) (tVar 5) (tTup (tCons (tC (.int 0)) (tCons (tC (.int 1)) tNil)))) (tAndV (tCallF (sp_within K ad) (tCons (tVar 6) (tCons (tC (.int (-1))) (tCons (tC (.int 99)) tNil)))) (tCallF (sp_are_languages K ad) (tCons (tVar 1) tNil)))))))
theorem der_is_guest_told (T : Txt K mg ad) (hr : Room 2 (cxA P w K mg base N_is_guest_told "is_guest_told" st_is_guest_told f cdv A outer s H E).A) (G_are_languages : FnAt P w K mg base "are_languages" 2 P_are_languages (sp_are_languages K ad)) (G_within : FnAt P w K mg base "within" 1 P_within (sp_within K ad)) : PSs (cxA P w K mg base N_is_guest_told "is_guest_told" st_is_guest_told f cdv A outer s H E) (defBody st_is_guest_told) (t_is_guest_told w K ad) := by
  have nd := sc_is_guest_told.nd
  exact (pss_cons (ps_asg (pv 0) (pg_unl rfl (pgs_cons (pg_name (i := 2) nd rfl (Or.inl rfl)) (pgs_cons (pg_name (i := 3) nd rfl (Or.inl rfl)) (pgs_cons (pg_name (i := 4) nd rfl (Or.inl rfl)) (pgs_cons (pg_name (i := 5) nd rfl (Or.inl rfl)) (pgs_cons (pg_name (i := 6) nd rfl (Or.inl rfl)) pgs_nil)))))))
      (pss_cons (ps_if (PW.pt (pw_or (pt_not (pt_val (pe_callF G_within hr (by decide) rfl (pa_cons (pv 2) (pa_cons pe_int (pa_cons (pe_ci rfl T.NO_RANK) pa_nil)))))) (pw_or (pt_not (pt_val (pe_callF G_within hr (by decide) rfl (pa_cons (pv 3) (pa_cons pe_int (pa_cons pe_int pa_nil)))))) (pw_or1 (pt_not (pt_val (pe_callF G_within hr (by decide) rfl (pa_cons (pv 4) (pa_cons pe_int (pa_cons (pe_ci rfl T.MOST_COUNTRY) pa_nil)))))))))) (pss_one (ps_ret pe_bl)) pss_nil)
      (pss_one (ps_ret (pe_and (pe_cmpR op_in_seq (pv 5) (pe_tup (pa_cons pe_int (pa_cons pe_int pa_nil))) rfl) (pe_and (pe_callF G_within hr (by decide) rfl (pa_cons (pv 6) (pa_cons (pe_ci rfl T.NOBODY) (pa_cons pe_int pa_nil)))) (pe_one (pe_callF G_are_languages hr (by decide) rfl (pa_cons (pv 1) pa_nil)))))))))
/-- is_guest -/
abbrev st_is_guest : Stmt := top 12
abbrev N_is_guest : List Str := ["house", "number"]
abbrev P_is_guest : List Str := ["house", "number"]
theorem sc_is_guest : FnScope N_is_guest P_is_guest (defScope st_is_guest) := ⟨rfl, rfl, rfl, by decide +kernel, rfl, by decide +kernel, by decide +kernel⟩
def t_is_guest (w : World) (K : PySem.W.Frag) (ad : Ad) : TS :=
  (tRet (tCallF (sp_within K ad) (tCons (tVar 1) (tCons (tC (.int 0)) (tCons (tOp rSubI (tCB (rLenS K) (tCons (tFld K (tVar 0) "guests") tNil)) (tC (.int 1))) tNil)))))
theorem der_is_guest (T : Txt K mg ad) (hr : Room 1 (cxA P w K mg base N_is_guest "is_guest" st_is_guest f cdv A outer s H E).A) (G_within : FnAt P w K mg base "within" 1 P_within (sp_within K ad)) : PSs (cxA P w K mg base N_is_guest "is_guest" st_is_guest f cdv A outer s H E) (defBody st_is_guest) (t_is_guest w K ad) := by
  have nd := sc_is_guest.nd
  exact (pss_one (ps_ret (pe_callF G_within hr (by decide) rfl (pa_cons (pv 1) (pa_cons pe_int (pa_cons (pe_op op_sub (pe_callB len1 rfl T.len PySem.boot_len (pa_cons (pe_fld (pv 0) rfl) pa_nil)) pe_int) pa_nil))))))
/-- may_come_with -/
abbrev st_may_come_with : Stmt := top 13
abbrev N_may_come_with : List Str := ["house", "companion"]
abbrev P_may_come_with : List Str := ["house", "companion"]
theorem sc_may_come_with : FnScope N_may_come_with P_may_come_with (defScope st_may_come_with) := ⟨rfl, rfl, rfl, by decide +kernel, rfl, by decide +kernel, by decide +kernel⟩
def t_may_come_with (w : World) (K : PySem.W.Frag) (ad : Ad) : TS :=
  (tSeq (tIfS (tTest (tOp rEq (tVar 1) (tC (.int (-1))))) (tRet (tC (.bl true))) tNext)
  (tRet (tAndV (tCallF (sp_is_guest K ad) (tCons (tVar 0) (tCons (tVar 1) tNil))) (tOp rEq (tFld K (tOp (rIxL K) (tFld K (tVar 0) "guests") (tVar 1)) "companion") (tC (.int (-1)))))))
theorem der_may_come_with (T : Txt K mg ad) (hr : Room 2 (cxA P w K mg base N_may_come_with "may_come_with" st_may_come_with f cdv A outer s H E).A) (G_is_guest : FnAt P w K mg base "is_guest" 2 P_is_guest (sp_is_guest K ad)) : PSs (cxA P w K mg base N_may_come_with "may_come_with" st_may_come_with f cdv A outer s H E) (defBody st_may_come_with) (t_may_come_with w K ad) := by
  have nd := sc_may_come_with.nd
  exact (pss_cons (ps_if (pt_cmpR op_eq (pv 1) (pe_ci rfl T.NOBODY) (nomark _)) (pss_one (ps_ret pe_bl)) pss_nil)
      (pss_one (ps_ret (pe_and (pe_callF G_is_guest hr (by decide) rfl (pa_cons (pv 0) (pa_cons (pv 1) pa_nil))) (pe_one (pe_cmpR op_eq (pe_fld (pe_ix ix_list (pe_fld (pv 0) rfl) (pv 1) (fun _ _ => rfl)) rfl) (pe_ci rfl T.NOBODY) (nomark _)))))))
/-- key_of -/
abbrev st_key_of : Stmt := top 14
abbrev N_key_of : List Str := ["house", "number", "guest"]
abbrev P_key_of : List Str := ["house", "number"]
theorem sc_key_of : FnScope N_key_of P_key_of (defScope st_key_of) := ⟨rfl, rfl, rfl, by decide +kernel, rfl, by decide +kernel, by decide +kernel⟩
def t_key_of (w : World) (K : PySem.W.Frag) (ad : Ad) : TS :=
  (tSeq (tAsg (tOp (rIxL K) (tFld K (tVar 0) "guests") (tVar 1)) (gName 2))
  (tRet (tTup (tCons (tFld K (tVar 2) "rank") (tCons (tCB rInt1 (tCons (tOp rEq (tFld K (tVar 2) "country") (tFld K (tVar 0) "country")) tNil)) (tCons (tFld K (tVar 2) "day") (tCons (tVar 1) tNil)))))))
theorem der_key_of (T : Txt K mg ad) (hr : Room 0 (cxA P w K mg base N_key_of "key_of" st_key_of f cdv A outer s H E).A) : PSs (cxA P w K mg base N_key_of "key_of" st_key_of f cdv A outer s H E) (defBody st_key_of) (t_key_of w K ad) := by
  have nd := sc_key_of.nd
  exact (pss_cons (ps_set (i := 2) nd rfl (Or.inl rfl) (pe_ix ix_list (pe_fld (pv 0) rfl) (pv 1) (fun _ _ => rfl)))
      (pss_one (ps_ret (pe_tup (pa_cons (pe_fld (pv 2) rfl) (pa_cons (pe_callTy int1 rfl T.int (by decide +kernel) (pa_cons (pe_cmpR op_eq (pe_fld (pv 2) rfl) (pe_fld (pv 0) rfl) (nomark _)) pa_nil)) (pa_cons (pe_fld (pv 2) rfl) (pa_cons (pv 1) pa_nil))))))))
/-- follows -/
abbrev st_follows : Stmt := top 15
abbrev N_follows : List Str := ["house", "number", "guest"]
abbrev P_follows : List Str := ["house", "number"]
theorem sc_follows : FnScope N_follows P_follows (defScope st_follows) := ⟨rfl, rfl, rfl, by decide +kernel, rfl, by decide +kernel, by decide +kernel⟩
def t_follows (w : World) (K : PySem.W.Frag) (ad : Ad) : TS :=
  (tSeq (tAsg (tOp (rIxL K) (tFld K (tVar 0) "guests") (tVar 1)) (gName 2))
  (tSeq (tIfS (tOr (tTest (tOp rLtI (tFld K (tVar 2) "rank") (tC (.int 10)))) (tTest (tOp rEq (tFld K (tVar 2) "companion") (tC (.int (-1)))))) (tRet (tC (.bl false))) tNext)
  (tRet (tOp rLtI (tFld K (tOp (rIxL K) (tFld K (tVar 0) "guests") (tFld K (tVar 2) "companion")) "rank") (tC (.int 10))))))
theorem der_follows (T : Txt K mg ad) (hr : Room 0 (cxA P w K mg base N_follows "follows" st_follows f cdv A outer s H E).A) : PSs (cxA P w K mg base N_follows "follows" st_follows f cdv A outer s H E) (defBody st_follows) (t_follows w K ad) := by
  have nd := sc_follows.nd
  exact (pss_cons (ps_set (i := 2) nd rfl (Or.inl rfl) (pe_ix ix_list (pe_fld (pv 0) rfl) (pv 1) (fun _ _ => rfl)))
      (pss_cons (ps_if (PW.pt (pw_or (pt_cmpR op_lt (pe_fld (pv 2) rfl) (pe_ci rfl T.NO_RANK) (nomark _)) (pw_or1 (pt_cmpR op_eq (pe_fld (pv 2) rfl) (pe_ci rfl T.NOBODY) (nomark _))))) (pss_one (ps_ret pe_bl)) pss_nil)
      (pss_one (ps_ret (pe_cmpR op_lt (pe_fld (pe_ix ix_list (pe_fld (pv 0) rfl) (pe_fld (pv 2) rfl) (fun _ _ => rfl)) rfl) (pe_ci rfl T.NO_RANK) (nomark _))))))
/-- order_of -/
abbrev st_order_of : Stmt := top 16
abbrev N_order_of : List Str := ["house", "numbers", "keys", "found", "key", "companion", "number"]
abbrev P_order_of : List Str := ["house"]
theorem sc_order_of : FnScope N_order_of P_order_of (defScope st_order_of) := ⟨rfl, rfl, rfl, by decide +kernel, rfl, by decide +kernel, by decide +kernel⟩
def t_order_of (w : World) (K : PySem.W.Frag) (ad : Ad) : TS :=
  (tSeq (tAsg (tLstRg (tRg1 (tCB (rLenS K) (tCons (tFld K (tVar 0) "guests") tNil)))) (gName 1))
  (tSeq (tAsg (tCB (rSortU K 4 1000000) (tCons (tLc (iList K (tVar 1)) (gName 6) (tNot (tB (tCallF (sp_follows K ad) (tCons (tVar 0) (tCons (tVar 6) tNil))))) (tCallF (sp_key_of K ad) (tCons (tVar 0) (tCons (tVar 6) tNil))) [6]) tNil)) (gName 2))
  (tSeq (tAsg (tLst tNil) (gName 3))
  (tSeq (tFor (iList K (tVar 2)) (gName 4) (tSeq (tDrop (tBM K "list" rAppend (tVar 3) (tCons (tOp (rIxT K) (tVar 4) (tC (.int 3))) tNil)))
  (tSeq (tAsg (tFld K (tOp (rIxL K) (tFld K (tVar 0) "guests") (tOp (rIxT K) (tVar 4) (tC (.int 3)))) "companion") (gName 5))
  (tIfS (tAnd (tTest (tOp rNe (tVar 5) (tC (.int (-1))))) (tB (tCallF (sp_follows K ad) (tCons (tVar 0) (tCons (tVar 5) tNil))))) (tDrop (tBM K "list" rAppend (tVar 3) (tCons (tVar 5) tNil))) tNext))))
  (tRet (tVar 3))))))
theorem der_order_of (T : Txt K mg ad) (hr : Room 1 (cxA P w K mg base N_order_of "order_of" st_order_of f cdv A outer s H E).A) (G_follows : FnAt P w K mg base "follows" 1 P_follows (sp_follows K ad)) (G_key_of : FnAt P w K mg base "key_of" 1 P_key_of (sp_key_of K ad)) : PSs (cxA P w K mg base N_order_of "order_of" st_order_of f cdv A outer s H E) (defBody st_order_of) (t_order_of w K ad) := by
  have nd := sc_order_of.nd
  exact (pss_cons (ps_set (i := 1) nd rfl (Or.inl rfl) (pe_listRg rfl rfl T.list (prg_1 rfl T.range (pe_callB len1 rfl T.len PySem.boot_len (pa_cons (pe_fld (pv 0) rfl) pa_nil)))))
      (pss_cons (ps_set (i := 2) nd rfl (Or.inl rfl) (pe_callB (cr_sortT (d := 4) (B := 1000000) (by decide)) rfl T.sorted (by decide +kernel) (pa_cons (pe_lc (own := [("number", 6)]) (g := (gName 6)) (tt := (tNot (tB (tCallF (sp_follows K ad) (tCons (tVar 0) (tCons (tVar 6) tNil)))))) (te := (tCallF (sp_key_of K ad) (tCons (tVar 0) (tCons (tVar 6) tNil)))) rfl nd (pi_list (pv 1)) (blkOk_by (own := [("number", 6)]) (N := N_order_of) (sc := defScope st_order_of) (by decide +kernel)) (fun _ _ _ _ _ => (pg_name (i := 6) nd rfl (Or.inl rfl))) (fun _ _ _ _ _ => (pts_one (pt_not (pt_val (pe_callF G_follows hr (by decide) rfl (pa_cons (pv 0) (pa_cons (pv 6) pa_nil))))))) (fun _ _ _ _ _ => (pe_callF G_key_of hr (by decide) rfl (pa_cons (pv 0) (pa_cons (pv 6) pa_nil))))) pa_nil)))
      (pss_cons (ps_set (i := 3) nd rfl (Or.inl rfl) (pe_lst pa_nil))
      (pss_cons (ps_for PassesOwn.never rfl (pi_list (pv 2)) (pg_name (i := 4) nd rfl (Or.inl rfl)) (pss_cons (ps_expr (pe_bm PySem.F.plainAttrs_list PySem.F.slot_list_append PySem.F.type_list_append mt_append (pv 3) (pa_cons (pe_ix ix_tup (pv 4) pe_int (fun _ _ => rfl)) pa_nil)))
      (pss_cons (ps_set (i := 5) nd rfl (Or.inl rfl) (pe_fld (pe_ix ix_list (pe_fld (pv 0) rfl) (pe_ix ix_tup (pv 4) pe_int (fun _ _ => rfl)) (fun _ _ => rfl)) rfl))
      (pss_one (ps_if (PW.pt (pw_and (pt_cmpR op_ne (pv 5) (pe_ci rfl T.NOBODY) (nomark _)) (pw_and1 (pt_val (pe_callF G_follows hr (by decide) rfl (pa_cons (pv 0) (pa_cons (pv 5) pa_nil))))))) (pss_one (ps_expr (pe_bm PySem.F.plainAttrs_list PySem.F.slot_list_append PySem.F.type_list_append mt_append (pv 3) (pa_cons (pv 5) pa_nil)))) pss_nil)))))
      (pss_one (ps_ret (pv 3)))))))
/-- flags_of -/
abbrev st_flags_of : Stmt := top 17
abbrev N_flags_of : List Str := ["house", "way", "own", "others", "left", "k", "guest"]
abbrev P_flags_of : List Str := ["house", "way"]
theorem sc_flags_of : FnScope N_flags_of P_flags_of (defScope st_flags_of) := ⟨rfl, rfl, rfl, by decide +kernel, rfl, by decide +kernel, by decide +kernel⟩
def t_flags_of (w : World) (K : PySem.W.Frag) (ad : Ad) : TS :=
  (tSeq (tAsg (tLst (tCons (tFld K (tVar 0) "country") tNil)) (gName 2))
  (tSeq (tAsg (tCB (rSortedSet w) (tCons (tCB (rSetI K w) (tCons (tLc (iList K (tFld K (tVar 0) "guests")) (gName 6) (tTest (tOp rNe (tFld K (tVar 6) "country") (tFld K (tVar 0) "country"))) (tFld K (tVar 6) "country") [6]) tNil)) tNil)) (gName 3))
  (tSeq (tIfS (tTest (tOp rEq (tVar 1) (tC (.int 0)))) (tRet (tOp rCat (tVar 2) (tVar 3))) tNext)
  (tSeq (tIfS (tTest (tOp rEq (tVar 1) (tC (.int 1)))) (tRet (tOp rCat (tVar 3) (tVar 2))) tNext)
  (tSeq (tAsg (tLc (iRng3 (tCons (tC (.int 1)) (tCons (tCB (rLenS K) (tCons (tVar 3) tNil)) (tCons (tC (.int 2)) tNil)))) (gName 5) tYes (tOp (rIxL K) (tVar 3) (tVar 5)) [5]) (gName 4))
  (tSeq (tDrop (tBM0 K "list" rReverse (tVar 4)))
  (tRet (tOp rCat (tOp rCat (tVar 4) (tVar 2)) (tLc (iRng3 (tCons (tC (.int 0)) (tCons (tCB (rLenS K) (tCons (tVar 3) tNil)) (tCons (tC (.int 2)) tNil)))) (gName 5) tYes (tOp (rIxL K) (tVar 3) (tVar 5)) [5])))))))))
theorem der_flags_of (T : Txt K mg ad) (hr : Room 0 (cxA P w K mg base N_flags_of "flags_of" st_flags_of f cdv A outer s H E).A) : PSs (cxA P w K mg base N_flags_of "flags_of" st_flags_of f cdv A outer s H E) (defBody st_flags_of) (t_flags_of w K ad) := by
  have nd := sc_flags_of.nd
  exact (pss_cons (ps_set (i := 2) nd rfl (Or.inl rfl) (pe_lst (pa_cons (pe_fld (pv 0) rfl) pa_nil)))
      (pss_cons (ps_set (i := 3) nd rfl (Or.inr rfl) (pe_callB (cr_sortedSet rfl) rfl T.sorted (by decide +kernel) (pa_cons (pe_callTy (cr_setI rfl) rfl T.set (by decide +kernel) (pa_cons (pe_lc (own := [("guest", 6)]) (g := (gName 6)) (tt := (tTest (tOp rNe (tFld K (tVar 6) "country") (tFld K (tVar 0) "country")))) (te := (tFld K (tVar 6) "country")) rfl nd (pi_list (pe_fld (pv 0) rfl)) (blkOk_by (own := [("guest", 6)]) (N := N_flags_of) (sc := defScope st_flags_of) (by decide +kernel)) (fun _ _ _ _ _ => (pg_name (i := 6) nd rfl (Or.inl rfl))) (fun _ _ _ _ _ => (pts_one (pt_cmpR op_ne (pe_fld (pv 6) rfl) (pe_fld (pv 0) rfl) (nomark _)))) (fun _ _ _ _ _ => (pe_fld (pv 6) rfl))) pa_nil)) pa_nil)))
      (pss_cons (ps_if (pt_cmpR op_eq (pv 1) pe_int (nomark _)) (pss_one (ps_ret (pe_op op_cat (pv 2) (pv 3)))) pss_nil)
      (pss_cons (ps_if (pt_cmpR op_eq (pv 1) pe_int (nomark _)) (pss_one (ps_ret (pe_op op_cat (pv 3) (pv 2)))) pss_nil)
      (pss_cons (ps_setLc (i := 4) (own := [("k", 5)]) (g := (gName 5)) (tt := tYes) (te := (tOp (rIxL K) (tVar 3) (tVar 5))) rfl nd rfl rfl (sw_true rfl rfl rfl (by decide +kernel)) (pi_range3 rfl T.range (pa_cons pe_int (pa_cons (pe_callB len1 rfl T.len PySem.boot_len (pa_cons (pv 3) pa_nil)) (pa_cons pe_int pa_nil)))) (blkOk_by (own := [("k", 5)]) (N := N_flags_of) (sc := defScope st_flags_of) (by decide +kernel)) (fun _ _ _ _ _ => (pg_name (i := 5) nd rfl (Or.inl rfl))) (fun _ _ _ _ _ => pts_nil) (fun _ _ _ _ _ => (pe_ix ix_list (pv 3) (pv 5) (fun _ _ => rfl))))
      (pss_cons (ps_expr (pe_bm0 PySem.F.plainAttrs_list PySem.F.slot_list_reverse PySem.F.type_list_reverse mt_reverse (pv 4)))
      (pss_one (ps_ret (pe_op op_cat (pe_op op_cat (pv 4) (pv 2)) (pe_lc (own := [("k", 5)]) (g := (gName 5)) (tt := tYes) (te := (tOp (rIxL K) (tVar 3) (tVar 5))) rfl nd (pi_range3 rfl T.range (pa_cons pe_int (pa_cons (pe_callB len1 rfl T.len PySem.boot_len (pa_cons (pv 3) pa_nil)) (pa_cons pe_int pa_nil)))) (blkOk_by (own := [("k", 5)]) (N := N_flags_of) (sc := defScope st_flags_of) (by decide +kernel)) (fun _ _ _ _ _ => (pg_name (i := 5) nd rfl (Or.inl rfl))) (fun _ _ _ _ _ => pts_nil) (fun _ _ _ _ _ => (pe_ix ix_list (pv 3) (pv 5) (fun _ _ => rfl)))))))))))))
/-- Search.__init__ -/
abbrev st_Search : Stmt := inClass (top 19) 0
abbrev N_Search : List Str := ["self", "house", "guests", "seats", "numbers", "one", "other"]
abbrev P_Search : List Str := ["self", "house", "guests", "seats"]
theorem sc_Search : FnScope N_Search P_Search (defScope st_Search) := ⟨rfl, rfl, rfl, by decide +kernel, rfl, by decide +kernel, by decide +kernel⟩
def t_Search (w : World) (K : PySem.W.Frag) (ad : Ad) : TS :=
  (tSeq (sFld K (tVar 0) (tVar 1) "house")
  (tSeq (sFld K (tVar 0) (tVar 2) "guests")
  (tSeq (sFld K (tVar 0) (tVar 3) "seats")
  (tSeq (tAsg (tLstRg (tRg1 (tCB (rLenS K) (tCons (tFld K (tVar 1) "guests") tNil)))) (gName 4))
  (tSeq (sFld K (tVar 0) (tLc (iList K (tVar 4)) (gName 5) tYes (tLc (iList K (tVar 4)) (gName 6) tYes (tCallF (sp_may_not K ad) (tCons (tVar 1) (tCons (tVar 5) (tCons (tVar 6) tNil)))) [6]) [5]) "barred")
  (tSeq (sFld K (tVar 0) (tLc (iList K (tVar 4)) (gName 5) tYes (tLc (iList K (tVar 4)) (gName 6) tYes (tCallF (sp_do_share K ad) (tCons (tVar 1) (tCons (tVar 5) (tCons (tVar 6) tNil)))) [6]) [5]) "shared")
  (sFld K (tVar 0) (tOp rRep (tLst (tCons (tC (.int (-1))) tNil)) (tCB (rLenS K) (tCons (tFld K (tVar 1) "guests") tNil))) "sitting")))))))
theorem der_Search (T : Txt K mg ad) (hr : Room 1 (cxA P w K mg base N_Search "Search.__init__" st_Search f cdv A outer s H E).A) (G_do_share : FnAt P w K mg base "do_share" 1 P_do_share (sp_do_share K ad)) (G_may_not : FnAt P w K mg base "may_not" 1 P_may_not (sp_may_not K ad)) : PSs (cxA P w K mg base N_Search "Search.__init__" st_Search f cdv A outer s H E) (defBody st_Search) (t_Search w K ad) := by
  have nd := sc_Search.nd
  exact (pss_cons (ps_fld (pv 0) (pv 1) rfl)
      (pss_cons (ps_fld (pv 0) (pv 2) rfl)
      (pss_cons (ps_fld (pv 0) (pv 3) rfl)
      (pss_cons (ps_set (i := 4) nd rfl (Or.inr rfl) (pe_listRg rfl rfl T.list (prg_1 rfl T.range (pe_callB len1 rfl T.len PySem.boot_len (pa_cons (pe_fld (pv 1) rfl) pa_nil)))))
      (pss_cons (ps_fld (pv 0) (pe_lc (own := [("one", 5)]) (g := (gName 5)) (tt := tYes) (te := (tLc (iList K (tVar 4)) (gName 6) tYes (tCallF (sp_may_not K ad) (tCons (tVar 1) (tCons (tVar 5) (tCons (tVar 6) tNil)))) [6])) rfl nd (pi_list (pv 4)) (blkOk_by (own := [("one", 5)]) (N := N_Search) (sc := defScope st_Search) (by decide +kernel)) (fun _ _ _ _ _ => (pg_name (i := 5) nd rfl (Or.inr rfl))) (fun _ _ _ _ _ => pts_nil) (fun _ _ _ _ _ => (pe_lc (own := [("other", 6)]) (g := (gName 6)) (tt := tYes) (te := (tCallF (sp_may_not K ad) (tCons (tVar 1) (tCons (tVar 5) (tCons (tVar 6) tNil))))) rfl nd (pi_list (pv 4)) (blkOk_by (own := [("other", 6)]) (N := N_Search) (sc := relS (lcSc (asgVal ((defBody st_Search).getD 4 (.Pass ⟨0, 0, 0, 0⟩)))) (defScope st_Search)) (by decide +kernel)) (fun _ _ _ _ _ => (pg_name (i := 6) nd rfl (Or.inl rfl))) (fun _ _ _ _ _ => pts_nil) (fun _ _ _ _ _ => (pe_callF G_may_not hr (by decide) rfl (pa_cons (pv 1) (pa_cons (pv 5) (pa_cons (pv 6) pa_nil)))))))) rfl)
      (pss_cons (ps_fld (pv 0) (pe_lc (own := [("one", 5)]) (g := (gName 5)) (tt := tYes) (te := (tLc (iList K (tVar 4)) (gName 6) tYes (tCallF (sp_do_share K ad) (tCons (tVar 1) (tCons (tVar 5) (tCons (tVar 6) tNil)))) [6])) rfl nd (pi_list (pv 4)) (blkOk_by (own := [("one", 5)]) (N := N_Search) (sc := defScope st_Search) (by decide +kernel)) (fun _ _ _ _ _ => (pg_name (i := 5) nd rfl (Or.inr rfl))) (fun _ _ _ _ _ => pts_nil) (fun _ _ _ _ _ => (pe_lc (own := [("other", 6)]) (g := (gName 6)) (tt := tYes) (te := (tCallF (sp_do_share K ad) (tCons (tVar 1) (tCons (tVar 5) (tCons (tVar 6) tNil))))) rfl nd (pi_list (pv 4)) (blkOk_by (own := [("other", 6)]) (N := N_Search) (sc := relS (lcSc (asgVal ((defBody st_Search).getD 5 (.Pass ⟨0, 0, 0, 0⟩)))) (defScope st_Search)) (by decide +kernel)) (fun _ _ _ _ _ => (pg_name (i := 6) nd rfl (Or.inl rfl))) (fun _ _ _ _ _ => pts_nil) (fun _ _ _ _ _ => (pe_callF G_do_share hr (by decide) rfl (pa_cons (pv 1) (pa_cons (pv 5) (pa_cons (pv 6) pa_nil)))))))) rfl)
      (pss_one (ps_fld (pv 0) (pe_op op_rep (pe_lst (pa_cons (pe_ci rfl T.NOBODY) pa_nil)) (pe_callB len1 rfl T.len PySem.boot_len (pa_cons (pe_fld (pv 1) rfl) pa_nil))) rfl))))))))
/-- seats_of -/
abbrev st_seats_of : Stmt := top 20
abbrev N_seats_of : List Str := ["house", "many", "own", "found", "away", "turn", "seat", "told", "guest"]
abbrev P_seats_of : List Str := ["house"]
theorem sc_seats_of : FnScope N_seats_of P_seats_of (defScope st_seats_of) := ⟨rfl, rfl, rfl, by decide +kernel, rfl, by decide +kernel, by decide +kernel⟩
def t_seats_of (w : World) (K : PySem.W.Frag) (ad : Ad) : TS :=
  (tSeq (tAsg (tCB (rLenS K) (tCons (tFld K (tVar 0) "guests") tNil)) (gName 1))
  (tSeq (tAsg (tLc (iList K (tFld K (tVar 0) "hosts")) (gTup K 2 (gCons (gName 8) (gCons (gName 6) gNil))) tYes (tVar 6) [8, 6]) (gName 2))
  (tSeq (tAsg (tLst tNil) (gName 3))
  (tSeq (tFor (iRng2 (tCons (tC (.int 1)) (tCons (tVar 1) tNil))) (gName 4) (tFor (iTup K (tTup (tCons (tVar 4) (tCons (tOp rSubI (tC (.int 0)) (tVar 4)) tNil)))) (gName 5) (tFor (iList K (tVar 2)) (gName 6) (tSeq (tAsg (tOp rModI (tOp rAddI (tVar 6) (tVar 5)) (tVar 1)) (gName 7))
  (tIfS (tAnd (tTest (tOp (rIn K true) (tVar 7) (tVar 3))) (tTest (tOp (rIn K true) (tVar 7) (tVar 2)))) (tDrop (tBM K "list" rAppend (tVar 3) (tCons (tVar 7) tNil))) tNext)))))
  (tRet (tVar 3))))))
theorem der_seats_of (T : Txt K mg ad) (hr : Room 0 (cxA P w K mg base N_seats_of "seats_of" st_seats_of f cdv A outer s H E).A) : PSs (cxA P w K mg base N_seats_of "seats_of" st_seats_of f cdv A outer s H E) (defBody st_seats_of) (t_seats_of w K ad) := by
  have nd := sc_seats_of.nd
  exact (pss_cons (ps_set (i := 1) nd rfl (Or.inl rfl) (pe_callB len1 rfl T.len PySem.boot_len (pa_cons (pe_fld (pv 0) rfl) pa_nil)))
      (pss_cons (ps_setLc (i := 2) (own := [("guest", 8), ("seat", 6)]) (g := (gTup K 2 (gCons (gName 8) (gCons (gName 6) gNil)))) (tt := tYes) (te := (tVar 6)) rfl nd rfl rfl (sw_true rfl rfl rfl (by decide +kernel)) (pi_list (pe_fld (pv 0) rfl)) (blkOk_by (own := [("guest", 8), ("seat", 6)]) (N := N_seats_of) (sc := defScope st_seats_of) (by decide +kernel)) (fun _ _ _ _ _ => (pg_tup rfl (pgs_cons (pg_name (i := 8) nd rfl (Or.inl rfl)) (pgs_cons (pg_name (i := 6) nd rfl (Or.inl rfl)) pgs_nil)))) (fun _ _ _ _ _ => pts_nil) (fun _ _ _ _ _ => (pv 6)))
      (pss_cons (ps_set (i := 3) nd rfl (Or.inl rfl) (pe_lst pa_nil))
      (pss_cons (ps_for PassesOwn.never rfl (pi_range2 rfl T.range (pa_cons pe_int (pa_cons (pv 1) pa_nil))) (pg_name (i := 4) nd rfl (Or.inl rfl)) (pss_one (ps_for PassesOwn.never rfl (pi_tup (pe_tup (pa_cons (pv 4) (pa_cons (pe_op op_sub pe_int (pv 4)) pa_nil)))) (pg_name (i := 5) nd rfl (Or.inl rfl)) (pss_one (ps_for PassesOwn.never rfl (pi_list (pv 2)) (pg_name (i := 6) nd rfl (Or.inl rfl)) (pss_cons (ps_set (i := 7) nd rfl (Or.inl rfl) (pe_op op_mod (pe_op op_add (pv 6) (pv 5)) (pv 1)))
      (pss_one (ps_if (PW.pt (pw_and (pt_cmpR op_notIn_seq (pv 7) (pv 3) rfl) (pw_and1 (pt_cmpR op_notIn_seq (pv 7) (pv 2) rfl)))) (pss_one (ps_expr (pe_bm PySem.F.plainAttrs_list PySem.F.slot_list_append PySem.F.type_list_append mt_append (pv 3) (pa_cons (pv 7) pa_nil)))) pss_nil))))))))
      (pss_one (ps_ret (pv 3)))))))
/-- may_not -/
abbrev st_may_not : Stmt := top 21
abbrev N_may_not : List Str := ["house", "one", "other", "first", "second"]
abbrev P_may_not : List Str := ["house", "one", "other"]
theorem sc_may_not : FnScope N_may_not P_may_not (defScope st_may_not) := ⟨rfl, rfl, rfl, by decide +kernel, rfl, by decide +kernel, by decide +kernel⟩
def t_may_not (w : World) (K : PySem.W.Frag) (ad : Ad) : TS :=
  (tSeq (tAsg (tOp (rIxL K) (tFld K (tVar 0) "guests") (tVar 1)) (gName 3))
  (tSeq (tAsg (tOp (rIxL K) (tFld K (tVar 0) "guests") (tVar 2)) (gName 4))
  (tSeq (tIfS (tTest (tOp (rInD K) (tTup (tCons (tCB rMin2 (tCons (tVar 1) (tCons (tVar 2) tNil))) (tCons (tCB rMax2 (tCons (tVar 1) (tCons (tVar 2) tNil))) tNil))) (tFld K (tVar 0) "apart"))) (tRet (tC (.bl true))) tNext)
  (tSeq (tIfS (tAnd (tTest (tOp rEq (tOp (rIxL K) (tFld K (tVar 0) "rules") (tC (.int 0))) (tC (.int 1)))) (tTest (tOp rEq (tFld K (tVar 3) "companion") (tVar 2)))) (tRet (tC (.bl true))) tNext)
  (tSeq (tIfS (tAnd (tTest (tOp rEq (tOp (rIxL K) (tFld K (tVar 0) "rules") (tC (.int 1))) (tC (.int 1)))) (tTest (tOp rEq (tFld K (tVar 3) "sex") (tFld K (tVar 4) "sex")))) (tRet (tC (.bl true))) tNext)
  (tRet (tAndV (tOp rEq (tOp (rIxL K) (tFld K (tVar 0) "rules") (tC (.int 2))) (tC (.int 1))) (tOp rEq (tFld K (tVar 3) "country") (tFld K (tVar 4) "country")))))))))
theorem der_may_not (T : Txt K mg ad) (hr : Room 0 (cxA P w K mg base N_may_not "may_not" st_may_not f cdv A outer s H E).A) : PSs (cxA P w K mg base N_may_not "may_not" st_may_not f cdv A outer s H E) (defBody st_may_not) (t_may_not w K ad) := by
  have nd := sc_may_not.nd
  exact (pss_cons (ps_set (i := 3) nd rfl (Or.inl rfl) (pe_ix ix_list (pe_fld (pv 0) rfl) (pv 1) (fun _ _ => rfl)))
      (pss_cons (ps_set (i := 4) nd rfl (Or.inl rfl) (pe_ix ix_list (pe_fld (pv 0) rfl) (pv 2) (fun _ _ => rfl)))
      (pss_cons (ps_if (pt_cmpR (op_inD (units65 hr)) (pe_tup (pa_cons (pe_callB (min2 rfl) rfl T.min (by decide +kernel) (pa_cons (pv 1) (pa_cons (pv 2) pa_nil))) (pa_cons (pe_callB (max2 rfl) rfl T.max (by decide +kernel) (pa_cons (pv 1) (pa_cons (pv 2) pa_nil))) pa_nil))) (pe_fld (pv 0) rfl) rfl) (pss_one (ps_ret pe_bl)) pss_nil)
      (pss_cons (ps_if (PW.pt (pw_and (pt_cmpR op_eq (pe_ix ix_list (pe_fld (pv 0) rfl) pe_int (fun _ _ => rfl)) pe_int (nomark _)) (pw_and1 (pt_cmpR op_eq (pe_fld (pv 3) rfl) (pv 2) (nomark _))))) (pss_one (ps_ret pe_bl)) pss_nil)
      (pss_cons (ps_if (PW.pt (pw_and (pt_cmpR op_eq (pe_ix ix_list (pe_fld (pv 0) rfl) pe_int (fun _ _ => rfl)) pe_int (nomark _)) (pw_and1 (pt_cmpR op_eq (pe_fld (pv 3) rfl) (pe_fld (pv 4) rfl) (nomark _))))) (pss_one (ps_ret pe_bl)) pss_nil)
      (pss_one (ps_ret (pe_and (pe_cmpR op_eq (pe_ix ix_list (pe_fld (pv 0) rfl) pe_int (fun _ _ => rfl)) pe_int (nomark _)) (pe_one (pe_cmpR op_eq (pe_fld (pv 3) rfl) (pe_fld (pv 4) rfl) (nomark _)))))))))))
/-- do_share -/
abbrev st_do_share : Stmt := top 22
abbrev N_do_share : List Str := ["house", "one", "other", "told"]
abbrev P_do_share : List Str := ["house", "one", "other"]
theorem sc_do_share : FnScope N_do_share P_do_share (defScope st_do_share) := ⟨rfl, rfl, rfl, by decide +kernel, rfl, by decide +kernel, by decide +kernel⟩
def t_do_share (w : World) (K : PySem.W.Frag) (ad : Ad) : TS :=
  (tRet (tOp (rNeD K) (tLc (iList K (tFld K (tOp (rIxL K) (tFld K (tVar 0) "guests") (tVar 1)) "languages")) (gName 3) (tTest (tOp (rIn K false) (tVar 3) (tFld K (tOp (rIxL K) (tFld K (tVar 0) "guests") (tVar 2)) "languages"))) (tVar 3) [3]) (tLst tNil)))
theorem der_do_share (T : Txt K mg ad) (hr : Room 0 (cxA P w K mg base N_do_share "do_share" st_do_share f cdv A outer s H E).A) : PSs (cxA P w K mg base N_do_share "do_share" st_do_share f cdv A outer s H E) (defBody st_do_share) (t_do_share w K ad) := by
  have nd := sc_do_share.nd
  exact (pss_one (ps_ret (pe_cmpR (op_neD hr.units) (pe_lc (own := [("told", 3)]) (g := (gName 3)) (tt := (tTest (tOp (rIn K false) (tVar 3) (tFld K (tOp (rIxL K) (tFld K (tVar 0) "guests") (tVar 2)) "languages")))) (te := (tVar 3)) rfl nd (pi_list (pe_fld (pe_ix ix_list (pe_fld (pv 0) rfl) (pv 1) (fun _ _ => rfl)) rfl)) (blkOk_by (own := [("told", 3)]) (N := N_do_share) (sc := defScope st_do_share) (by decide +kernel)) (fun _ _ _ _ _ => (pg_name (i := 3) nd rfl (Or.inl rfl))) (fun _ _ _ _ _ => (pts_one (pt_cmpR op_in_seq (pv 3) (pe_fld (pe_ix ix_list (pe_fld (pv 0) rfl) (pv 2) (fun _ _ => rfl)) rfl) rfl))) (fun _ _ _ _ _ => (pv 3))) (pe_lst pa_nil) (nomark _))))
/-- right_of -/
abbrev st_right_of : Stmt := top 23
abbrev N_right_of : List Str := ["sitting", "seat"]
abbrev P_right_of : List Str := ["sitting", "seat"]
theorem sc_right_of : FnScope N_right_of P_right_of (defScope st_right_of) := ⟨rfl, rfl, rfl, by decide +kernel, rfl, by decide +kernel, by decide +kernel⟩
def t_right_of (w : World) (K : PySem.W.Frag) (ad : Ad) : TS :=
  (tRet (tOp (rIxL K) (tVar 0) (tOp rModI (tOp rAddI (tVar 1) (tC (.int 1))) (tCB (rLenS K) (tCons (tVar 0) tNil)))))
theorem der_right_of (T : Txt K mg ad) (hr : Room 0 (cxA P w K mg base N_right_of "right_of" st_right_of f cdv A outer s H E).A) : PSs (cxA P w K mg base N_right_of "right_of" st_right_of f cdv A outer s H E) (defBody st_right_of) (t_right_of w K ad) := by
  have nd := sc_right_of.nd
  exact (pss_one (ps_ret (pe_ix ix_list (pv 0) (pe_op op_mod (pe_op op_add (pv 1) pe_int) (pe_callB len1 rfl T.len PySem.boot_len (pa_cons (pv 0) pa_nil))) (fun _ _ => rfl))))
/-- left_of -/
abbrev st_left_of : Stmt := top 24
abbrev N_left_of : List Str := ["sitting", "seat"]
abbrev P_left_of : List Str := ["sitting", "seat"]
theorem sc_left_of : FnScope N_left_of P_left_of (defScope st_left_of) := ⟨rfl, rfl, rfl, by decide +kernel, rfl, by decide +kernel, by decide +kernel⟩
def t_left_of (w : World) (K : PySem.W.Frag) (ad : Ad) : TS :=
  (tRet (tOp (rIxL K) (tVar 0) (tOp rSubI (tVar 1) (tC (.int 1)))))
theorem der_left_of (T : Txt K mg ad) (hr : Room 0 (cxA P w K mg base N_left_of "left_of" st_left_of f cdv A outer s H E).A) : PSs (cxA P w K mg base N_left_of "left_of" st_left_of f cdv A outer s H E) (defBody st_left_of) (t_left_of w K ad) := by
  have nd := sc_left_of.nd
  exact (pss_one (ps_ret (pe_ix ix_list (pv 0) (pe_op op_sub (pv 1) pe_int) (fun _ _ => rfl))))
/-- is_lonely -/
abbrev st_is_lonely : Stmt := top 25
abbrev N_is_lonely : List Str := ["house", "sitting", "seat", "guest"]
abbrev P_is_lonely : List Str := ["house", "sitting", "seat"]
theorem sc_is_lonely : FnScope N_is_lonely P_is_lonely (defScope st_is_lonely) := ⟨rfl, rfl, rfl, by decide +kernel, rfl, by decide +kernel, by decide +kernel⟩
def t_is_lonely (w : World) (K : PySem.W.Frag) (ad : Ad) : TS :=
  (tSeq (tAsg (tOp (rIxL K) (tVar 1) (tVar 2)) (gName 3))
  (tRet (tAndV (tNotV (tCallF (sp_do_share K ad) (tCons (tVar 0) (tCons (tVar 3) (tCons (tCallF (sp_left_of K ad) (tCons (tVar 1) (tCons (tVar 2) tNil))) tNil))))) (tNotV (tCallF (sp_do_share K ad) (tCons (tVar 0) (tCons (tVar 3) (tCons (tCallF (sp_right_of K ad) (tCons (tVar 1) (tCons (tVar 2) tNil))) tNil))))))))
theorem der_is_lonely (T : Txt K mg ad) (hr : Room 1 (cxA P w K mg base N_is_lonely "is_lonely" st_is_lonely f cdv A outer s H E).A) (G_do_share : FnAt P w K mg base "do_share" 1 P_do_share (sp_do_share K ad)) (G_left_of : FnAt P w K mg base "left_of" 1 P_left_of (sp_left_of K ad)) (G_right_of : FnAt P w K mg base "right_of" 1 P_right_of (sp_right_of K ad)) : PSs (cxA P w K mg base N_is_lonely "is_lonely" st_is_lonely f cdv A outer s H E) (defBody st_is_lonely) (t_is_lonely w K ad) := by
  have nd := sc_is_lonely.nd
  exact (pss_cons (ps_set (i := 3) nd rfl (Or.inl rfl) (pe_ix ix_list (pv 1) (pv 2) (fun _ _ => rfl)))
      (pss_one (ps_ret (pe_and (pe_not (pe_callF G_do_share hr (by decide) rfl (pa_cons (pv 0) (pa_cons (pv 3) (pa_cons (pe_callF G_left_of hr (by decide) rfl (pa_cons (pv 1) (pa_cons (pv 2) pa_nil))) pa_nil))))) (pe_one (pe_not (pe_callF G_do_share hr (by decide) rfl (pa_cons (pv 0) (pa_cons (pv 3) (pa_cons (pe_callF G_right_of hr (by decide) rfl (pa_cons (pv 1) (pa_cons (pv 2) pa_nil))) pa_nil))))))))))
/-- breaks_of -/
abbrev st_breaks_of : Stmt := top 26
abbrev N_breaks_of : List Str := ["house", "sitting", "seats", "found", "seat"]
abbrev P_breaks_of : List Str := ["house", "sitting"]
theorem sc_breaks_of : FnScope N_breaks_of P_breaks_of (defScope st_breaks_of) := ⟨rfl, rfl, rfl, by decide +kernel, rfl, by decide +kernel, by decide +kernel⟩
def t_breaks_of (w : World) (K : PySem.W.Frag) (ad : Ad) : TS :=
  (tSeq (tAsg (tLstRg (tRg1 (tCB (rLenS K) (tCons (tVar 1) tNil)))) (gName 2))
  (tSeq (tAsg (tLst tNil) (gName 3))
  (tSeq (tFor (iList K (tVar 2)) (gName 4) (tIfS (tB (tCallF (sp_may_not K ad) (tCons (tVar 0) (tCons (tOp (rIxL K) (tVar 1) (tVar 4)) (tCons (tCallF (sp_right_of K ad) (tCons (tVar 1) (tCons (tVar 4) tNil))) tNil))))) (tDrop (tBM K "list" rAppend (tVar 3) (tCons (tTup (tCons (tOp (rIxL K) (tVar 1) (tVar 4)) (tCons (tCallF (sp_right_of K ad) (tCons (tVar 1) (tCons (tVar 4) tNil))) tNil))) tNil))) tNext))
  (tSeq (tIfS (tTest (tOp rEq (tOp (rIxL K) (tFld K (tVar 0) "rules") (tC (.int 3))) (tC (.int 1)))) (tDrop (tBM K "list" rExtend (tVar 3) (tCons (tLc (iList K (tVar 2)) (gName 4) (tB (tCallF (sp_is_lonely K ad) (tCons (tVar 0) (tCons (tVar 1) (tCons (tVar 4) tNil))))) (tTup (tCons (tOp (rIxL K) (tVar 1) (tVar 4)) (tCons (tOp (rIxL K) (tVar 1) (tVar 4)) tNil))) [4]) tNil))) tNext)
  (tRet (tVar 3))))))
theorem der_breaks_of (T : Txt K mg ad) (hr : Room 2 (cxA P w K mg base N_breaks_of "breaks_of" st_breaks_of f cdv A outer s H E).A) (G_is_lonely : FnAt P w K mg base "is_lonely" 2 P_is_lonely (sp_is_lonely K ad)) (G_may_not : FnAt P w K mg base "may_not" 1 P_may_not (sp_may_not K ad)) (G_right_of : FnAt P w K mg base "right_of" 1 P_right_of (sp_right_of K ad)) : PSs (cxA P w K mg base N_breaks_of "breaks_of" st_breaks_of f cdv A outer s H E) (defBody st_breaks_of) (t_breaks_of w K ad) := by
  have nd := sc_breaks_of.nd
  exact (pss_cons (ps_set (i := 2) nd rfl (Or.inl rfl) (pe_listRg rfl rfl T.list (prg_1 rfl T.range (pe_callB len1 rfl T.len PySem.boot_len (pa_cons (pv 1) pa_nil)))))
      (pss_cons (ps_set (i := 3) nd rfl (Or.inl rfl) (pe_lst pa_nil))
      (pss_cons (ps_for PassesOwn.never rfl (pi_list (pv 2)) (pg_name (i := 4) nd rfl (Or.inl rfl)) (pss_one (ps_if (pt_val (pe_callF G_may_not hr (by decide) rfl (pa_cons (pv 0) (pa_cons (pe_ix ix_list (pv 1) (pv 4) (fun _ _ => rfl)) (pa_cons (pe_callF G_right_of hr (by decide) rfl (pa_cons (pv 1) (pa_cons (pv 4) pa_nil))) pa_nil))))) (pss_one (ps_expr (pe_bm PySem.F.plainAttrs_list PySem.F.slot_list_append PySem.F.type_list_append mt_append (pv 3) (pa_cons (pe_tup (pa_cons (pe_ix ix_list (pv 1) (pv 4) (fun _ _ => rfl)) (pa_cons (pe_callF G_right_of hr (by decide) rfl (pa_cons (pv 1) (pa_cons (pv 4) pa_nil))) pa_nil))) pa_nil)))) pss_nil)))
      (pss_cons (ps_if (pt_cmpR op_eq (pe_ix ix_list (pe_fld (pv 0) rfl) pe_int (fun _ _ => rfl)) pe_int (nomark _)) (pss_one (ps_expr (pe_bm PySem.F.plainAttrs_list PySem.F.slot_list_extend PySem.F.type_list_extend mt_extend (pv 3) (pa_cons (pe_lc (own := [("seat", 4)]) (g := (gName 4)) (tt := (tB (tCallF (sp_is_lonely K ad) (tCons (tVar 0) (tCons (tVar 1) (tCons (tVar 4) tNil)))))) (te := (tTup (tCons (tOp (rIxL K) (tVar 1) (tVar 4)) (tCons (tOp (rIxL K) (tVar 1) (tVar 4)) tNil)))) rfl nd (pi_list (pv 2)) (blkOk_by (own := [("seat", 4)]) (N := N_breaks_of) (sc := defScope st_breaks_of) (by decide +kernel)) (fun _ _ _ _ _ => (pg_name (i := 4) nd rfl (Or.inl rfl))) (fun _ _ _ _ _ => (pts_one (pt_val (pe_callF G_is_lonely hr (by decide) rfl (pa_cons (pv 0) (pa_cons (pv 1) (pa_cons (pv 4) pa_nil))))))) (fun _ _ _ _ _ => (pe_tup (pa_cons (pe_ix ix_list (pv 1) (pv 4) (fun _ _ => rfl)) (pa_cons (pe_ix ix_list (pv 1) (pv 4) (fun _ _ => rfl)) pa_nil))))) pa_nil)))) pss_nil)
      (pss_one (ps_ret (pv 3)))))))
/-- is_barred -/
abbrev st_is_barred : Stmt := top 27
abbrev N_is_barred : List Str := ["search", "seat", "guest", "other"]
abbrev P_is_barred : List Str := ["search", "seat"]
theorem sc_is_barred : FnScope N_is_barred P_is_barred (defScope st_is_barred) := ⟨rfl, rfl, rfl, by decide +kernel, rfl, by decide +kernel, by decide +kernel⟩
def t_is_barred (w : World) (K : PySem.W.Frag) (ad : Ad) : TS :=
  (tSeq (tAsg (tOp (rIxL K) (tFld K (tVar 0) "sitting") (tVar 1)) (gName 2))
  (tSeq (tFor (iTup K (tTup (tCons (tCallF (sp_left_of K ad) (tCons (tFld K (tVar 0) "sitting") (tCons (tVar 1) tNil))) (tCons (tCallF (sp_right_of K ad) (tCons (tFld K (tVar 0) "sitting") (tCons (tVar 1) tNil))) tNil)))) (gName 3) (tIfS (tAnd (tTest (tOp rNe (tVar 3) (tC (.int (-1))))) (tB (tOp (rIxL K) (tOp (rIxL K) (tFld K (tVar 0) "barred") (tVar 2)) (tVar 3)))) (tRet (tC (.bl true))) tNext))
  (tRet (tC (.bl false)))))
theorem der_is_barred (T : Txt K mg ad) (hr : Room 1 (cxA P w K mg base N_is_barred "is_barred" st_is_barred f cdv A outer s H E).A) (G_left_of : FnAt P w K mg base "left_of" 1 P_left_of (sp_left_of K ad)) (G_right_of : FnAt P w K mg base "right_of" 1 P_right_of (sp_right_of K ad)) : PSs (cxA P w K mg base N_is_barred "is_barred" st_is_barred f cdv A outer s H E) (defBody st_is_barred) (t_is_barred w K ad) := by
  have nd := sc_is_barred.nd
  exact (pss_cons (ps_set (i := 2) nd rfl (Or.inl rfl) (pe_ix ix_list (pe_fld (pv 0) rfl) (pv 1) (fun _ _ => rfl)))
      (pss_cons (ps_for PassesOwn.never rfl (pi_tup (pe_tup (pa_cons (pe_callF G_left_of hr (by decide) rfl (pa_cons (pe_fld (pv 0) rfl) (pa_cons (pv 1) pa_nil))) (pa_cons (pe_callF G_right_of hr (by decide) rfl (pa_cons (pe_fld (pv 0) rfl) (pa_cons (pv 1) pa_nil))) pa_nil)))) (pg_name (i := 3) nd rfl (Or.inl rfl)) (pss_one (ps_if (PW.pt (pw_and (pt_cmpR op_ne (pv 3) (pe_ci rfl T.NOBODY) (nomark _)) (pw_and1 (pt_val (pe_ix ix_list (pe_ix ix_list (pe_fld (pv 0) rfl) (pv 2) (fun _ _ => rfl)) (pv 3) (fun _ _ => rfl)))))) (pss_one (ps_ret pe_bl)) pss_nil)))
      (pss_one (ps_ret pe_bl))))
/-- has_nobody_to_talk_to -/
abbrev st_has_nobody_to_talk_to : Stmt := top 28
abbrev N_has_nobody_to_talk_to : List Str := ["search", "seat", "guest", "both", "other"]
abbrev P_has_nobody_to_talk_to : List Str := ["search", "seat"]
theorem sc_has_nobody_to_talk_to : FnScope N_has_nobody_to_talk_to P_has_nobody_to_talk_to (defScope st_has_nobody_to_talk_to) := ⟨rfl, rfl, rfl, by decide +kernel, rfl, by decide +kernel, by decide +kernel⟩
def t_has_nobody_to_talk_to (w : World) (K : PySem.W.Frag) (ad : Ad) : TS :=
  (tSeq (tAsg (tOp (rIxL K) (tFld K (tVar 0) "sitting") (tVar 1)) (gName 2))
  (tSeq (tAsg (tLst (tCons (tCallF (sp_left_of K ad) (tCons (tFld K (tVar 0) "sitting") (tCons (tVar 1) tNil))) (tCons (tCallF (sp_right_of K ad) (tCons (tFld K (tVar 0) "sitting") (tCons (tVar 1) tNil))) tNil))) (gName 3))
  (tSeq (tIfS (tOr (tTest (tOp rEq (tVar 2) (tC (.int (-1))))) (tTest (tOp (rIn K false) (tC (.int (-1))) (tVar 3)))) (tRet (tC (.bl false))) tNext)
  (tRet (tOp (rEqD K) (tLc (iList K (tVar 3)) (gName 4) (tB (tOp (rIxL K) (tOp (rIxL K) (tFld K (tVar 0) "shared") (tVar 2)) (tVar 4))) (tVar 4) [4]) (tLst tNil))))))
theorem der_has_nobody_to_talk_to (T : Txt K mg ad) (hr : Room 1 (cxA P w K mg base N_has_nobody_to_talk_to "has_nobody_to_talk_to" st_has_nobody_to_talk_to f cdv A outer s H E).A) (G_left_of : FnAt P w K mg base "left_of" 1 P_left_of (sp_left_of K ad)) (G_right_of : FnAt P w K mg base "right_of" 1 P_right_of (sp_right_of K ad)) : PSs (cxA P w K mg base N_has_nobody_to_talk_to "has_nobody_to_talk_to" st_has_nobody_to_talk_to f cdv A outer s H E) (defBody st_has_nobody_to_talk_to) (t_has_nobody_to_talk_to w K ad) := by
  have nd := sc_has_nobody_to_talk_to.nd
  exact (pss_cons (ps_set (i := 2) nd rfl (Or.inr rfl) (pe_ix ix_list (pe_fld (pv 0) rfl) (pv 1) (fun _ _ => rfl)))
      (pss_cons (ps_set (i := 3) nd rfl (Or.inl rfl) (pe_lst (pa_cons (pe_callF G_left_of hr (by decide) rfl (pa_cons (pe_fld (pv 0) rfl) (pa_cons (pv 1) pa_nil))) (pa_cons (pe_callF G_right_of hr (by decide) rfl (pa_cons (pe_fld (pv 0) rfl) (pa_cons (pv 1) pa_nil))) pa_nil))))
      (pss_cons (ps_if (PW.pt (pw_or (pt_cmpR op_eq (pv 2) (pe_ci rfl T.NOBODY) (nomark _)) (pw_or1 (pt_cmpR op_in_seq (pe_ci rfl T.NOBODY) (pv 3) rfl)))) (pss_one (ps_ret pe_bl)) pss_nil)
      (pss_one (ps_ret (pe_cmpR (op_eqD hr.units) (pe_lc (own := [("other", 4)]) (g := (gName 4)) (tt := (tB (tOp (rIxL K) (tOp (rIxL K) (tFld K (tVar 0) "shared") (tVar 2)) (tVar 4)))) (te := (tVar 4)) rfl nd (pi_list (pv 3)) (blkOk_by (own := [("other", 4)]) (N := N_has_nobody_to_talk_to) (sc := defScope st_has_nobody_to_talk_to) (by decide +kernel)) (fun _ _ _ _ _ => (pg_name (i := 4) nd rfl (Or.inl rfl))) (fun _ _ _ _ _ => (pts_one (pt_val (pe_ix ix_list (pe_ix ix_list (pe_fld (pv 0) rfl) (pv 2) (fun _ _ => rfl)) (pv 4) (fun _ _ => rfl))))) (fun _ _ _ _ _ => (pv 4))) (pe_lst pa_nil) (nomark _)))))))
/-- is_well -/
abbrev st_is_well : Stmt := top 29
abbrev N_is_well : List Str := ["search", "seat", "many", "near", "other"]
abbrev P_is_well : List Str := ["search", "seat"]
theorem sc_is_well : FnScope N_is_well P_is_well (defScope st_is_well) := ⟨rfl, rfl, rfl, by decide +kernel, rfl, by decide +kernel, by decide +kernel⟩
def t_is_well (w : World) (K : PySem.W.Frag) (ad : Ad) : TS :=
  (tSeq (tIfS (tB (tCallF (sp_is_barred K ad) (tCons (tVar 0) (tCons (tVar 1) tNil)))) (tRet (tC (.bl false))) tNext)
  (tSeq (tIfS (tTest (tOp rEq (tOp (rIxL K) (tFld K (tFld K (tVar 0) "house") "rules") (tC (.int 3))) (tC (.int 0)))) (tRet (tC (.bl true))) tNext)
  (tSeq (tAsg (tCB (rLenS K) (tCons (tFld K (tVar 0) "sitting") tNil)) (gName 2))
  (tSeq (tAsg (tTup (tCons (tOp rModI (tOp rSubI (tVar 1) (tC (.int 1))) (tVar 2)) (tCons (tVar 1) (tCons (tOp rModI (tOp rAddI (tVar 1) (tC (.int 1))) (tVar 2)) tNil)))) (gName 3))
  (tRet (tOp (rEqD K) (tLc (iTup K (tVar 3)) (gName 4) (tB (tCallF (sp_has_nobody_to_talk_to K ad) (tCons (tVar 0) (tCons (tVar 4) tNil)))) (tVar 4) [4]) (tLst tNil)))))))
theorem der_is_well (T : Txt K mg ad) (hr : Room 2 (cxA P w K mg base N_is_well "is_well" st_is_well f cdv A outer s H E).A) (G_has_nobody_to_talk_to : FnAt P w K mg base "has_nobody_to_talk_to" 2 P_has_nobody_to_talk_to (sp_has_nobody_to_talk_to K ad)) (G_is_barred : FnAt P w K mg base "is_barred" 2 P_is_barred (sp_is_barred K ad)) : PSs (cxA P w K mg base N_is_well "is_well" st_is_well f cdv A outer s H E) (defBody st_is_well) (t_is_well w K ad) := by
  have nd := sc_is_well.nd
  exact (pss_cons (ps_if (pt_val (pe_callF G_is_barred hr (by decide) rfl (pa_cons (pv 0) (pa_cons (pv 1) pa_nil)))) (pss_one (ps_ret pe_bl)) pss_nil)
      (pss_cons (ps_if (pt_cmpR op_eq (pe_ix ix_list (pe_fld (pe_fld (pv 0) rfl) rfl) pe_int (fun _ _ => rfl)) pe_int (nomark _)) (pss_one (ps_ret pe_bl)) pss_nil)
      (pss_cons (ps_set (i := 2) nd rfl (Or.inl rfl) (pe_callB len1 rfl T.len PySem.boot_len (pa_cons (pe_fld (pv 0) rfl) pa_nil)))
      (pss_cons (ps_set (i := 3) nd rfl (Or.inl rfl) (pe_tup (pa_cons (pe_op op_mod (pe_op op_sub (pv 1) pe_int) (pv 2)) (pa_cons (pv 1) (pa_cons (pe_op op_mod (pe_op op_add (pv 1) pe_int) (pv 2)) pa_nil)))))
      (pss_one (ps_ret (pe_cmpR (op_eqD hr.units) (pe_lc (own := [("other", 4)]) (g := (gName 4)) (tt := (tB (tCallF (sp_has_nobody_to_talk_to K ad) (tCons (tVar 0) (tCons (tVar 4) tNil))))) (te := (tVar 4)) rfl nd (pi_tup (pv 3)) (blkOk_by (own := [("other", 4)]) (N := N_is_well) (sc := defScope st_is_well) (by decide +kernel)) (fun _ _ _ _ _ => (pg_name (i := 4) nd rfl (Or.inl rfl))) (fun _ _ _ _ _ => (pts_one (pt_val (pe_callF G_has_nobody_to_talk_to hr (by decide) rfl (pa_cons (pv 0) (pa_cons (pv 4) pa_nil)))))) (fun _ _ _ _ _ => (pv 4))) (pe_lst pa_nil) (nomark _))))))))
/-- is_seated -/
abbrev st_is_seated : Stmt := top 30
abbrev N_is_seated : List Str := ["search", "number", "seat"]
abbrev P_is_seated : List Str := ["search", "number"]
theorem sc_is_seated : FnScope N_is_seated P_is_seated (defScope st_is_seated) := ⟨rfl, rfl, rfl, by decide +kernel, rfl, by decide +kernel, by decide +kernel⟩
def t_is_seated (w : World) (K : PySem.W.Frag) (ad : Ad) (dd : Nat) : TS :=
  (tSeq (tIfS (tTest (tOp rEq (tVar 1) (tCB (rLenS K) (tCons (tFld K (tVar 0) "guests") tNil)))) (tRet (tC (.bl true))) tNext)
  (tSeq (tFor (iList K (tFld K (tVar 0) "seats")) (gName 2) (tIfS (tTest (tOp rEq (tOp (rIxL K) (tFld K (tVar 0) "sitting") (tVar 2)) (tC (.int (-1))))) (tSeq (tAsg (tOp (rIxL K) (tFld K (tVar 0) "guests") (tVar 1)) (gSub (tFld K (tVar 0) "sitting") (tVar 2) rSetL))
  (tSeq (tIfS (tAnd (tB (tCallF (sp_is_well K ad) (tCons (tVar 0) (tCons (tVar 2) tNil)))) (tB (tCallF (sp_is_seated dd K ad) (tCons (tVar 0) (tCons (tOp rAddI (tVar 1) (tC (.int 1))) tNil))))) (tRet (tC (.bl true))) tNext)
  (tAsg (tC (.int (-1))) (gSub (tFld K (tVar 0) "sitting") (tVar 2) rSetL)))) tNext))
  (tRet (tC (.bl false)))))
theorem der_is_seated {dd : Nat} (T : Txt K mg ad) {j : Nat} (hj : 4 ≤ j) (hr : Room j (cxA P w K mg base N_is_seated "is_seated" st_is_seated f cdv A outer s H E).A) {kk : Nat} (hk : kk ≤ j) (G_is_seated : FnAt P w K mg base "is_seated" kk P_is_seated (sp_is_seated dd K ad)) (G_is_well : FnAt P w K mg base "is_well" 3 P_is_well (sp_is_well K ad)) : PSs (cxA P w K mg base N_is_seated "is_seated" st_is_seated f cdv A outer s H E) (defBody st_is_seated) (t_is_seated w K ad dd) := by
  have nd := sc_is_seated.nd
  exact (pss_cons (ps_if (pt_cmpR op_eq (pv 1) (pe_callB len1 rfl T.len PySem.boot_len (pa_cons (pe_fld (pv 0) rfl) pa_nil)) (nomark _)) (pss_one (ps_ret pe_bl)) pss_nil)
      (pss_cons (ps_for PassesOwn.never rfl (pi_list (pe_fld (pv 0) rfl)) (pg_name (i := 2) nd rfl (Or.inl rfl)) (pss_one (ps_if (pt_cmpR op_eq (pe_ix ix_list (pe_fld (pv 0) rfl) (pv 2) (fun _ _ => rfl)) (pe_ci rfl T.NOBODY) (nomark _)) (pss_cons (ps_asg (pe_ix ix_list (pe_fld (pv 0) rfl) (pv 1) (fun _ _ => rfl)) (pg_sub (pe_fld (pv 0) rfl) (pv 2) set_list))
      (pss_cons (ps_if (PW.pt (pw_and (pt_val (pe_callF G_is_well hr (Nat.le_trans (by decide) hj) rfl (pa_cons (pv 0) (pa_cons (pv 2) pa_nil)))) (pw_and1 (pt_val (pe_callF G_is_seated hr hk rfl (pa_cons (pv 0) (pa_cons (pe_op op_add (pv 1) pe_int) pa_nil))))))) (pss_one (ps_ret pe_bl)) pss_nil)
      (pss_one (ps_asg (pe_ci rfl T.NOBODY) (pg_sub (pe_fld (pv 0) rfl) (pv 2) set_list))))) pss_nil)))
      (pss_one (ps_ret pe_bl))))
/-- plan_of -/
abbrev st_plan_of : Stmt := top 31
abbrev N_plan_of : List Str := ["house", "hosts", "search", "guest", "seat"]
abbrev P_plan_of : List Str := ["house"]
theorem sc_plan_of : FnScope N_plan_of P_plan_of (defScope st_plan_of) := ⟨rfl, rfl, rfl, by decide +kernel, rfl, by decide +kernel, by decide +kernel⟩
def t_plan_of (w : World) (K : PySem.W.Frag) (ad : Ad) : TS :=
  (tSeq (tAsg (tLc (iList K (tFld K (tVar 0) "hosts")) (gTup K 2 (gCons (gName 3) (gCons (gName 4) gNil))) tYes (tVar 3) [3, 4]) (gName 1))
  (tSeq (tAsg (tMakeF ad.S (sp_Search K ad) (tCons (tVar 0) (tCons (tLc (iList K (tCallF (sp_order_of K ad) (tCons (tVar 0) tNil))) (gName 3) (tTest (tOp (rIn K true) (tVar 3) (tVar 1))) (tVar 3) [3]) (tCons (tCallF (sp_seats_of K ad) (tCons (tVar 0) tNil)) tNil)))) (gName 2))
  (tSeq (tFor (iList K (tFld K (tVar 0) "hosts")) (gTup K 2 (gCons (gName 3) (gCons (gName 4) gNil))) (tAsg (tVar 3) (gSub (tFld K (tVar 2) "sitting") (tVar 4) rSetL)))
  (tSeq (tFor (iList K (tFld K (tVar 0) "hosts")) (gTup K 2 (gCons (gName 3) (gCons (gName 4) gNil))) (tIfS (tNot (tB (tCallF (sp_is_well K ad) (tCons (tVar 2) (tCons (tVar 4) tNil))))) (tRet (tC .non)) tNext))
  (tSeq (tIfS (tNot (tB (tCallF (sp_is_seated 10 K ad) (tCons (tVar 2) (tCons (tC (.int 0)) tNil))))) (tRet (tC .non)) tNext)
  (tRet (tFld K (tVar 2) "sitting")))))))
theorem der_plan_of (T : Txt K mg ad) (hr : Room 15 (cxA P w K mg base N_plan_of "plan_of" st_plan_of f cdv A outer s H E).A) (G_Search : MkAt P w K mg base "Search" 2 P_Search ad.S (sp_Search K ad)) (G_is_seated : FnAt P w K mg base "is_seated" 15 P_is_seated (sp_is_seated 10 K ad)) (G_is_well : FnAt P w K mg base "is_well" 3 P_is_well (sp_is_well K ad)) (G_order_of : FnAt P w K mg base "order_of" 2 P_order_of (sp_order_of K ad)) (G_seats_of : FnAt P w K mg base "seats_of" 1 P_seats_of (sp_seats_of K ad)) : PSs (cxA P w K mg base N_plan_of "plan_of" st_plan_of f cdv A outer s H E) (defBody st_plan_of) (t_plan_of w K ad) := by
  have nd := sc_plan_of.nd
  exact (pss_cons (ps_set (i := 1) nd rfl (Or.inr rfl) (pe_lc (own := [("guest", 3), ("seat", 4)]) (g := (gTup K 2 (gCons (gName 3) (gCons (gName 4) gNil)))) (tt := tYes) (te := (tVar 3)) rfl nd (pi_list (pe_fld (pv 0) rfl)) (blkOk_by (own := [("guest", 3), ("seat", 4)]) (N := N_plan_of) (sc := defScope st_plan_of) (by decide +kernel)) (fun _ _ _ _ _ => (pg_tup rfl (pgs_cons (pg_name (i := 3) nd rfl (Or.inl rfl)) (pgs_cons (pg_name (i := 4) nd rfl (Or.inl rfl)) pgs_nil)))) (fun _ _ _ _ _ => pts_nil) (fun _ _ _ _ _ => (pv 3))))
      (pss_cons (ps_set (i := 2) nd rfl (Or.inl rfl) (pe_makeF G_Search hr (by decide) rfl (pa_cons (pv 0) (pa_cons (pe_lc (own := [("guest", 3)]) (g := (gName 3)) (tt := (tTest (tOp (rIn K true) (tVar 3) (tVar 1)))) (te := (tVar 3)) rfl nd (pi_list (pe_callF G_order_of hr (by decide) rfl (pa_cons (pv 0) pa_nil))) (blkOk_by (own := [("guest", 3)]) (N := N_plan_of) (sc := defScope st_plan_of) (by decide +kernel)) (fun _ _ _ _ _ => (pg_name (i := 3) nd rfl (Or.inl rfl))) (fun _ _ _ _ _ => (pts_one (pt_cmpR op_notIn_seq (pv 3) (pv 1) rfl))) (fun _ _ _ _ _ => (pv 3))) (pa_cons (pe_callF G_seats_of hr (by decide) rfl (pa_cons (pv 0) pa_nil)) pa_nil)))))
      (pss_cons (ps_for PassesOwn.never rfl (pi_list (pe_fld (pv 0) rfl)) (pg_tup rfl (pgs_cons (pg_name (i := 3) nd rfl (Or.inl rfl)) (pgs_cons (pg_name (i := 4) nd rfl (Or.inl rfl)) pgs_nil))) (pss_one (ps_asg (pv 3) (pg_sub (pe_fld (pv 2) rfl) (pv 4) set_list))))
      (pss_cons (ps_for PassesOwn.never rfl (pi_list (pe_fld (pv 0) rfl)) (pg_tup rfl (pgs_cons (pg_name (i := 3) nd rfl (Or.inl rfl)) (pgs_cons (pg_name (i := 4) nd rfl (Or.inl rfl)) pgs_nil))) (pss_one (ps_if (pt_not (pt_val (pe_callF G_is_well hr (by decide) rfl (pa_cons (pv 2) (pa_cons (pv 4) pa_nil))))) (pss_one (ps_ret pe_non)) pss_nil)))
      (pss_cons (ps_if (pt_not (pt_val (pe_callF G_is_seated hr (by decide) rfl (pa_cons (pv 2) (pa_cons pe_int pa_nil))))) (pss_one (ps_ret pe_non)) pss_nil)
      (pss_one (ps_ret (pe_fld (pv 2) rfl))))))))
/-- Desk.__init__ -/
abbrev st_Desk : Stmt := inClass (top 41) 0
abbrev N_Desk : List Str := ["self"]
abbrev P_Desk : List Str := ["self"]
theorem sc_Desk : FnScope N_Desk P_Desk (defScope st_Desk) := ⟨rfl, rfl, rfl, by decide +kernel, rfl, by decide +kernel, by decide +kernel⟩
def t_Desk (w : World) (K : PySem.W.Frag) (ad : Ad) : TS :=
  (sFld K (tVar 0) (tMakeF ad.H (sp_House K ad) (tCons (tC (.int 0)) tNil)) "house")
theorem der_Desk (T : Txt K mg ad) (hr : Room 2 (cxA P w K mg base N_Desk "Desk.__init__" st_Desk f cdv A outer s H E).A) (G_House : MkAt P w K mg base "House" 1 P_House ad.H (sp_House K ad)) : PSs (cxA P w K mg base N_Desk "Desk.__init__" st_Desk f cdv A outer s H E) (defBody st_Desk) (t_Desk w K ad) := by
  have nd := sc_Desk.nd
  exact (pss_one (ps_fld (pv 0) (pe_makeF G_House hr (by decide) rfl (pa_cons pe_int pa_nil)) rfl))
/-- begin -/
abbrev st_begin : Stmt := top 42
abbrev N_begin : List Str := ["desk", "country"]
abbrev P_begin : List Str := ["desk", "country"]
theorem sc_begin : FnScope N_begin P_begin (defScope st_begin) := ⟨rfl, rfl, rfl, by decide +kernel, rfl, by decide +kernel, by decide +kernel⟩
def t_begin (w : World) (K : PySem.W.Frag) (ad : Ad) : TS :=
  (tSeq (tIfS (tNot (tB (tCallF (sp_within K ad) (tCons (tVar 1) (tCons (tC (.int 0)) (tCons (tC (.int 30)) tNil)))))) (tRet (tLst (tCons (tC (.int (-1))) tNil))) tNext)
  (tSeq (sFld K (tVar 0) (tMakeF ad.H (sp_House K ad) (tCons (tVar 1) tNil)) "house")
  (tRet (tLst (tCons (tC (.int 0)) tNil)))))
theorem der_begin (T : Txt K mg ad) (hr : Room 2 (cxA P w K mg base N_begin "begin" st_begin f cdv A outer s H E).A) (G_House : MkAt P w K mg base "House" 1 P_House ad.H (sp_House K ad)) (G_within : FnAt P w K mg base "within" 1 P_within (sp_within K ad)) : PSs (cxA P w K mg base N_begin "begin" st_begin f cdv A outer s H E) (defBody st_begin) (t_begin w K ad) := by
  have nd := sc_begin.nd
  exact (pss_cons (ps_if (pt_not (pt_val (pe_callF G_within hr (by decide) rfl (pa_cons (pv 1) (pa_cons pe_int (pa_cons (pe_ci rfl T.MOST_COUNTRY) pa_nil)))))) (pss_one (ps_ret (pe_lst (pa_cons (pe_ci rfl T.NOT_RIGHT) pa_nil)))) pss_nil)
      (pss_cons (ps_fld (pv 0) (pe_makeF G_House hr (by decide) rfl (pa_cons (pv 1) pa_nil)) rfl)
      (pss_one (ps_ret (pe_lst (pa_cons pe_int pa_nil))))))
/-- put_guest -/
abbrev st_put_guest : Stmt := top 43
abbrev N_put_guest : List Str := ["house", "wholes", "languages", "number"]
abbrev P_put_guest : List Str := ["house", "wholes", "languages"]
theorem sc_put_guest : FnScope N_put_guest P_put_guest (defScope st_put_guest) := ⟨rfl, rfl, rfl, by decide +kernel, rfl, by decide +kernel, by decide +kernel⟩
def t_put_guest (w : World) (K : PySem.W.Frag) (ad : Ad) : TS :=
  (tSeq (tIfS (tNot (tB (tCallF (sp_is_guest_told K ad) (tCons (tVar 1) (tCons (tVar 2) tNil))))) (tRet (tLst (tCons (tC (.int (-1))) tNil))) tNext)
  (tSeq (tIfS (tTest (tOp (rNeD K) (tFld K (tVar 0) "hosts") (tLst tNil))) (tRet (tLst (tCons (tC (.int (-3))) tNil))) tNext)
  (tSeq (tIfS (tTest (tOp rEq (tCB (rLenS K) (tCons (tFld K (tVar 0) "guests") tNil)) (tC (.int 9)))) (tRet (tLst (tCons (tC (.int (-5))) tNil))) tNext)
  (tSeq (tIfS (tNot (tB (tCallF (sp_may_come_with K ad) (tCons (tVar 0) (tCons (tOp (rIxL K) (tVar 1) (tC (.int 4))) tNil))))) (tRet (tLst (tCons (tC (.int (-4))) tNil))) tNext)
  (tSeq (tAsg (tCB (rLenS K) (tCons (tFld K (tVar 0) "guests") tNil)) (gName 3))
  (tSeq (tIfS (tTest (tOp rNe (tOp (rIxL K) (tVar 1) (tC (.int 4))) (tC (.int (-1))))) (sFld K (tOp (rIxL K) (tFld K (tVar 0) "guests") (tOp (rIxL K) (tVar 1) (tC (.int 4)))) (tVar 3) "companion") tNext)
  (tSeq (tDrop (tBM K "list" rAppend (tFld K (tVar 0) "guests") (tCons (tMakeF ad.G (sp_Guest K ad) (tCons (tVar 1) (tCons (tCB (rListS K) (tCons (tVar 2) tNil)) tNil))) tNil)))
  (tRet (tLst (tCons (tVar 3) tNil))))))))))
theorem der_put_guest (T : Txt K mg ad) (hr : Room 3 (cxA P w K mg base N_put_guest "put_guest" st_put_guest f cdv A outer s H E).A) (G_Guest : MkAt P w K mg base "Guest" 1 P_Guest ad.G (sp_Guest K ad)) (G_is_guest_told : FnAt P w K mg base "is_guest_told" 3 P_is_guest_told (sp_is_guest_told K ad)) (G_may_come_with : FnAt P w K mg base "may_come_with" 3 P_may_come_with (sp_may_come_with K ad)) : PSs (cxA P w K mg base N_put_guest "put_guest" st_put_guest f cdv A outer s H E) (defBody st_put_guest) (t_put_guest w K ad) := by
  have nd := sc_put_guest.nd
  exact (pss_cons (ps_if (pt_not (pt_val (pe_callF G_is_guest_told hr (by decide) rfl (pa_cons (pv 1) (pa_cons (pv 2) pa_nil))))) (pss_one (ps_ret (pe_lst (pa_cons (pe_ci rfl T.NOT_RIGHT) pa_nil)))) pss_nil)
      (pss_cons (ps_if (pt_cmpR (op_neD hr.units) (pe_fld (pv 0) rfl) (pe_lst pa_nil) (nomark _)) (pss_one (ps_ret (pe_lst (pa_cons (pe_ci rfl T.HAS_HOST) pa_nil)))) pss_nil)
      (pss_cons (ps_if (pt_cmpR op_eq (pe_callB len1 rfl T.len PySem.boot_len (pa_cons (pe_fld (pv 0) rfl) pa_nil)) (pe_ci rfl T.MOST_GUESTS) (nomark _)) (pss_one (ps_ret (pe_lst (pa_cons (pe_ci rfl T.FULL) pa_nil)))) pss_nil)
      (pss_cons (ps_if (pt_not (pt_val (pe_callF G_may_come_with hr (by decide) rfl (pa_cons (pv 0) (pa_cons (pe_ix ix_list (pv 1) pe_int (fun _ _ => rfl)) pa_nil))))) (pss_one (ps_ret (pe_lst (pa_cons (pe_ci rfl T.NOT_SO) pa_nil)))) pss_nil)
      (pss_cons (ps_set (i := 3) nd rfl (Or.inl rfl) (pe_callB len1 rfl T.len PySem.boot_len (pa_cons (pe_fld (pv 0) rfl) pa_nil)))
      (pss_cons (ps_if (pt_cmpR op_ne (pe_ix ix_list (pv 1) pe_int (fun _ _ => rfl)) (pe_ci rfl T.NOBODY) (nomark _)) (pss_one (ps_fld (pe_ix ix_list (pe_fld (pv 0) rfl) (pe_ix ix_list (pv 1) pe_int (fun _ _ => rfl)) (fun _ _ => rfl)) (pv 3) rfl)) pss_nil)
      (pss_cons (ps_expr (pe_bm PySem.F.plainAttrs_list PySem.F.slot_list_append PySem.F.type_list_append mt_append (pe_fld (pv 0) rfl) (pa_cons (pe_makeF G_Guest hr (by decide) rfl (pa_cons (pv 1) (pa_cons (pe_callTy list1 rfl T.list (by decide +kernel) (pa_cons (pv 2) pa_nil)) pa_nil))) pa_nil)))
      (pss_one (ps_ret (pe_lst (pa_cons (pv 3) pa_nil)))))))))))
/-- put_apart -/
abbrev st_put_apart : Stmt := top 44
abbrev N_put_apart : List Str := ["house", "one", "other"]
abbrev P_put_apart : List Str := ["house", "one", "other"]
theorem sc_put_apart : FnScope N_put_apart P_put_apart (defScope st_put_apart) := ⟨rfl, rfl, rfl, by decide +kernel, rfl, by decide +kernel, by decide +kernel⟩
def t_put_apart (w : World) (K : PySem.W.Frag) (ad : Ad) : TS :=
  (tSeq (tIfS (tOr (tNot (tB (tCallF (sp_is_guest K ad) (tCons (tVar 0) (tCons (tVar 1) tNil))))) (tOr (tNot (tB (tCallF (sp_is_guest K ad) (tCons (tVar 0) (tCons (tVar 2) tNil))))) (tTest (tOp rEq (tVar 1) (tVar 2))))) (tRet (tLst (tCons (tC (.int (-1))) tNil))) tNext)
  (tSeq (tIfS (tTest (tOp rEq (tCB (rLenS K) (tCons (tFld K (tVar 0) "apart") tNil)) (tC (.int 40)))) (tRet (tLst (tCons (tC (.int (-5))) tNil))) tNext)
  (tSeq (tDrop (tBM K "list" rAppend (tFld K (tVar 0) "apart") (tCons (tTup (tCons (tCB rMin2 (tCons (tVar 1) (tCons (tVar 2) tNil))) (tCons (tCB rMax2 (tCons (tVar 1) (tCons (tVar 2) tNil))) tNil))) tNil)))
  (tRet (tLst (tCons (tCB (rLenS K) (tCons (tFld K (tVar 0) "apart") tNil)) tNil))))))
theorem der_put_apart (T : Txt K mg ad) (hr : Room 2 (cxA P w K mg base N_put_apart "put_apart" st_put_apart f cdv A outer s H E).A) (G_is_guest : FnAt P w K mg base "is_guest" 2 P_is_guest (sp_is_guest K ad)) : PSs (cxA P w K mg base N_put_apart "put_apart" st_put_apart f cdv A outer s H E) (defBody st_put_apart) (t_put_apart w K ad) := by
  have nd := sc_put_apart.nd
  exact (pss_cons (ps_if (PW.pt (pw_or (pt_not (pt_val (pe_callF G_is_guest hr (by decide) rfl (pa_cons (pv 0) (pa_cons (pv 1) pa_nil))))) (pw_or (pt_not (pt_val (pe_callF G_is_guest hr (by decide) rfl (pa_cons (pv 0) (pa_cons (pv 2) pa_nil))))) (pw_or1 (pt_cmpR op_eq (pv 1) (pv 2) (nomark _)))))) (pss_one (ps_ret (pe_lst (pa_cons (pe_ci rfl T.NOT_RIGHT) pa_nil)))) pss_nil)
      (pss_cons (ps_if (pt_cmpR op_eq (pe_callB len1 rfl T.len PySem.boot_len (pa_cons (pe_fld (pv 0) rfl) pa_nil)) (pe_ci rfl T.MOST_APART) (nomark _)) (pss_one (ps_ret (pe_lst (pa_cons (pe_ci rfl T.FULL) pa_nil)))) pss_nil)
      (pss_cons (ps_expr (pe_bm PySem.F.plainAttrs_list PySem.F.slot_list_append PySem.F.type_list_append mt_append (pe_fld (pv 0) rfl) (pa_cons (pe_tup (pa_cons (pe_callB (min2 rfl) rfl T.min (by decide +kernel) (pa_cons (pv 1) (pa_cons (pv 2) pa_nil))) (pa_cons (pe_callB (max2 rfl) rfl T.max (by decide +kernel) (pa_cons (pv 1) (pa_cons (pv 2) pa_nil))) pa_nil))) pa_nil)))
      (pss_one (ps_ret (pe_lst (pa_cons (pe_callB len1 rfl T.len PySem.boot_len (pa_cons (pe_fld (pv 0) rfl) pa_nil)) pa_nil)))))))
/-- put_host -/
abbrev st_put_host : Stmt := top 45
abbrev N_put_host : List Str := ["house", "guest", "seat", "host"]
abbrev P_put_host : List Str := ["house", "guest", "seat"]
theorem sc_put_host : FnScope N_put_host P_put_host (defScope st_put_host) := ⟨rfl, rfl, rfl, by decide +kernel, rfl, by decide +kernel, by decide +kernel⟩
def t_put_host (w : World) (K : PySem.W.Frag) (ad : Ad) : TS :=
  (tSeq (tIfS (tOr (tNot (tB (tCallF (sp_is_guest K ad) (tCons (tVar 0) (tCons (tVar 1) tNil))))) (tNot (tB (tCallF (sp_is_guest K ad) (tCons (tVar 0) (tCons (tVar 2) tNil)))))) (tRet (tLst (tCons (tC (.int (-1))) tNil))) tNext)
  (tSeq (tIfS (tOr (tTest (tOp rEq (tCB (rLenS K) (tCons (tFld K (tVar 0) "hosts") tNil)) (tC (.int 2)))) (tTest (tOp (rNeD K) (tLc (iList K (tFld K (tVar 0) "hosts")) (gName 3) (tOr (tTest (tOp rEq (tVar 1) (tOp (rIxT K) (tVar 3) (tC (.int 0))))) (tTest (tOp rEq (tVar 2) (tOp (rIxT K) (tVar 3) (tC (.int 1)))))) (tVar 3) [3]) (tLst tNil)))) (tRet (tLst (tCons (tC (.int (-4))) tNil))) tNext)
  (tSeq (tDrop (tBM K "list" rAppend (tFld K (tVar 0) "hosts") (tCons (tTup (tCons (tVar 1) (tCons (tVar 2) tNil))) tNil)))
  (tRet (tLst (tCons (tCB (rLenS K) (tCons (tFld K (tVar 0) "hosts") tNil)) tNil))))))
theorem der_put_host (T : Txt K mg ad) (hr : Room 2 (cxA P w K mg base N_put_host "put_host" st_put_host f cdv A outer s H E).A) (G_is_guest : FnAt P w K mg base "is_guest" 2 P_is_guest (sp_is_guest K ad)) : PSs (cxA P w K mg base N_put_host "put_host" st_put_host f cdv A outer s H E) (defBody st_put_host) (t_put_host w K ad) := by
  have nd := sc_put_host.nd
  exact (pss_cons (ps_if (PW.pt (pw_or (pt_not (pt_val (pe_callF G_is_guest hr (by decide) rfl (pa_cons (pv 0) (pa_cons (pv 1) pa_nil))))) (pw_or1 (pt_not (pt_val (pe_callF G_is_guest hr (by decide) rfl (pa_cons (pv 0) (pa_cons (pv 2) pa_nil)))))))) (pss_one (ps_ret (pe_lst (pa_cons (pe_ci rfl T.NOT_RIGHT) pa_nil)))) pss_nil)
      (pss_cons (ps_if (PW.pt (pw_or (pt_cmpR op_eq (pe_callB len1 rfl T.len PySem.boot_len (pa_cons (pe_fld (pv 0) rfl) pa_nil)) (pe_ci rfl T.MOST_HOSTS) (nomark _)) (pw_or1 (pt_cmpR (op_neD hr.units) (pe_lc (own := [("host", 3)]) (g := (gName 3)) (tt := (tOr (tTest (tOp rEq (tVar 1) (tOp (rIxT K) (tVar 3) (tC (.int 0))))) (tTest (tOp rEq (tVar 2) (tOp (rIxT K) (tVar 3) (tC (.int 1))))))) (te := (tVar 3)) rfl nd (pi_list (pe_fld (pv 0) rfl)) (blkOk_by (own := [("host", 3)]) (N := N_put_host) (sc := defScope st_put_host) (by decide +kernel)) (fun _ _ _ _ _ => (pg_name (i := 3) nd rfl (Or.inl rfl))) (fun _ _ _ _ _ => (pts_one (PW.pt (pw_or (pt_cmpR op_eq (pv 1) (pe_ix ix_tup (pv 3) pe_int (fun _ _ => rfl)) (nomark _)) (pw_or1 (pt_cmpR op_eq (pv 2) (pe_ix ix_tup (pv 3) pe_int (fun _ _ => rfl)) (nomark _))))))) (fun _ _ _ _ _ => (pv 3))) (pe_lst pa_nil) (nomark _))))) (pss_one (ps_ret (pe_lst (pa_cons (pe_ci rfl T.NOT_SO) pa_nil)))) pss_nil)
      (pss_cons (ps_expr (pe_bm PySem.F.plainAttrs_list PySem.F.slot_list_append PySem.F.type_list_append mt_append (pe_fld (pv 0) rfl) (pa_cons (pe_tup (pa_cons (pv 1) (pa_cons (pv 2) pa_nil))) pa_nil)))
      (pss_one (ps_ret (pe_lst (pa_cons (pe_callB len1 rfl T.len PySem.boot_len (pa_cons (pe_fld (pv 0) rfl) pa_nil)) pa_nil)))))))
/-- put_rules -/
abbrev st_put_rules : Stmt := top 46
abbrev N_put_rules : List Str := ["house", "numbers", "number"]
abbrev P_put_rules : List Str := ["house", "numbers"]
theorem sc_put_rules : FnScope N_put_rules P_put_rules (defScope st_put_rules) := ⟨rfl, rfl, rfl, by decide +kernel, rfl, by decide +kernel, by decide +kernel⟩
def t_put_rules (w : World) (K : PySem.W.Frag) (ad : Ad) : TS :=
  (tSeq (tIfS (tTest (tOp (rNeD K) (tLc (iList K (tVar 1)) (gName 2) (tTest (tOp (rIn K true) (tVar 2) (tTup (tCons (tC (.int 0)) (tCons (tC (.int 1)) tNil))))) (tVar 2) [2]) (tLst tNil))) (tRet (tLst (tCons (tC (.int (-1))) tNil))) tNext)
  (tSeq (sFld K (tVar 0) (tCB (rListS K) (tCons (tVar 1) tNil)) "rules")
  (tRet (tLst (tCons (tC (.int 0)) tNil)))))
theorem der_put_rules (T : Txt K mg ad) (hr : Room 0 (cxA P w K mg base N_put_rules "put_rules" st_put_rules f cdv A outer s H E).A) : PSs (cxA P w K mg base N_put_rules "put_rules" st_put_rules f cdv A outer s H E) (defBody st_put_rules) (t_put_rules w K ad) := by
  have nd := sc_put_rules.nd
  exact (pss_cons (ps_if (pt_cmpR (op_neD hr.units) (pe_lc (own := [("number", 2)]) (g := (gName 2)) (tt := (tTest (tOp (rIn K true) (tVar 2) (tTup (tCons (tC (.int 0)) (tCons (tC (.int 1)) tNil)))))) (te := (tVar 2)) rfl nd (pi_list (pv 1)) (blkOk_by (own := [("number", 2)]) (N := N_put_rules) (sc := defScope st_put_rules) (by decide +kernel)) (fun _ _ _ _ _ => (pg_name (i := 2) nd rfl (Or.inl rfl))) (fun _ _ _ _ _ => (pts_one (pt_cmpR op_notIn_seq (pv 2) (pe_tup (pa_cons pe_int (pa_cons pe_int pa_nil))) rfl))) (fun _ _ _ _ _ => (pv 2))) (pe_lst pa_nil) (nomark _)) (pss_one (ps_ret (pe_lst (pa_cons (pe_ci rfl T.NOT_RIGHT) pa_nil)))) pss_nil)
      (pss_cons (ps_fld (pv 0) (pe_callTy list1 rfl T.list (by decide +kernel) (pa_cons (pv 1) pa_nil)) rfl)
      (pss_one (ps_ret (pe_lst (pa_cons pe_int pa_nil))))))
/-- told -/
abbrev st_told : Stmt := top 47
abbrev N_told : List Str := ["row"]
abbrev P_told : List Str := ["row"]
theorem sc_told : FnScope N_told P_told (defScope st_told) := ⟨rfl, rfl, rfl, by decide +kernel, rfl, by decide +kernel, by decide +kernel⟩
def t_told (w : World) (K : PySem.W.Frag) (ad : Ad) : TS :=
  (tRet (tOp rCat (tLst (tCons (tCB (rLenS K) (tCons (tVar 0) tNil)) tNil)) (tCB (rListS K) (tCons (tVar 0) tNil))))
theorem der_told (T : Txt K mg ad) (hr : Room 0 (cxA P w K mg base N_told "told" st_told f cdv A outer s H E).A) : PSs (cxA P w K mg base N_told "told" st_told f cdv A outer s H E) (defBody st_told) (t_told w K ad) := by
  have nd := sc_told.nd
  exact (pss_one (ps_ret (pe_op op_cat (pe_lst (pa_cons (pe_callB len1 rfl T.len PySem.boot_len (pa_cons (pv 0) pa_nil)) pa_nil)) (pe_callTy list1 rfl T.list (by decide +kernel) (pa_cons (pv 0) pa_nil)))))
/-- seats -/
abbrev st_seats : Stmt := top 48
abbrev N_seats : List Str := ["house"]
abbrev P_seats : List Str := ["house"]
theorem sc_seats : FnScope N_seats P_seats (defScope st_seats) := ⟨rfl, rfl, rfl, by decide +kernel, rfl, by decide +kernel, by decide +kernel⟩
def t_seats (w : World) (K : PySem.W.Frag) (ad : Ad) : TS :=
  (tSeq (tIfS (tTest (tOp (rEqD K) (tFld K (tVar 0) "hosts") (tLst tNil))) (tRet (tLst (tCons (tC (.int (-2))) tNil))) tNext)
  (tRet (tCallF (sp_told K ad) (tCons (tCallF (sp_seats_of K ad) (tCons (tVar 0) tNil)) tNil))))
theorem der_seats (T : Txt K mg ad) (hr : Room 1 (cxA P w K mg base N_seats "seats" st_seats f cdv A outer s H E).A) (G_seats_of : FnAt P w K mg base "seats_of" 1 P_seats_of (sp_seats_of K ad)) (G_told : FnAt P w K mg base "told" 1 P_told (sp_told K ad)) : PSs (cxA P w K mg base N_seats "seats" st_seats f cdv A outer s H E) (defBody st_seats) (t_seats w K ad) := by
  have nd := sc_seats.nd
  exact (pss_cons (ps_if (pt_cmpR (op_eqD hr.units) (pe_fld (pv 0) rfl) (pe_lst pa_nil) (nomark _)) (pss_one (ps_ret (pe_lst (pa_cons (pe_ci rfl T.NO_HOST) pa_nil)))) pss_nil)
      (pss_one (ps_ret (pe_callF G_told hr (by decide) rfl (pa_cons (pe_callF G_seats_of hr (by decide) rfl (pa_cons (pv 0) pa_nil)) pa_nil)))))
/-- plan -/
abbrev st_plan : Stmt := top 49
abbrev N_plan : List Str := ["house", "found"]
abbrev P_plan : List Str := ["house"]
theorem sc_plan : FnScope N_plan P_plan (defScope st_plan) := ⟨rfl, rfl, rfl, by decide +kernel, rfl, by decide +kernel, by decide +kernel⟩
def t_plan (w : World) (K : PySem.W.Frag) (ad : Ad) : TS :=
  (tSeq (tIfS (tTest (tOp (rEqD K) (tFld K (tVar 0) "hosts") (tLst tNil))) (tRet (tLst (tCons (tC (.int (-2))) tNil))) tNext)
  (tSeq (tAsg (tCallF (sp_plan_of K ad) (tCons (tVar 0) tNil)) (gName 1))
  (tSeq (tIfS (tTest (tOp rIsN1 (tVar 1) (tC .non))) (tRet (tLst (tCons (tC (.int (-6))) tNil))) tNext)
  (tRet (tCallF (sp_told K ad) (tCons (tVar 1) tNil))))))
theorem der_plan (T : Txt K mg ad) (hr : Room 16 (cxA P w K mg base N_plan "plan" st_plan f cdv A outer s H E).A) (G_plan_of : FnAt P w K mg base "plan_of" 16 P_plan_of (sp_plan_of K ad)) (G_told : FnAt P w K mg base "told" 1 P_told (sp_told K ad)) : PSs (cxA P w K mg base N_plan "plan" st_plan f cdv A outer s H E) (defBody st_plan) (t_plan w K ad) := by
  have nd := sc_plan.nd
  exact (pss_cons (ps_if (pt_cmpR (op_eqD hr.units) (pe_fld (pv 0) rfl) (pe_lst pa_nil) (nomark _)) (pss_one (ps_ret (pe_lst (pa_cons (pe_ci rfl T.NO_HOST) pa_nil)))) pss_nil)
      (pss_cons (ps_set (i := 1) nd rfl (Or.inl rfl) (pe_callF G_plan_of hr (by decide) rfl (pa_cons (pv 0) pa_nil)))
      (pss_cons (ps_if (pt_cmpR op_isN (pv 1) pe_non (nomark _)) (pss_one (ps_ret (pe_lst (pa_cons (pe_ci rfl T.NONE) pa_nil)))) pss_nil)
      (pss_one (ps_ret (pe_callF G_told hr (by decide) rfl (pa_cons (pv 1) pa_nil)))))))
/-- check -/
abbrev st_check : Stmt := top 50
abbrev N_check : List Str := ["house", "sitting", "pairs", "found", "one", "other"]
abbrev P_check : List Str := ["house", "sitting"]
theorem sc_check : FnScope N_check P_check (defScope st_check) := ⟨rfl, rfl, rfl, by decide +kernel, rfl, by decide +kernel, by decide +kernel⟩
def t_check (w : World) (K : PySem.W.Frag) (ad : Ad) : TS :=
  (tSeq (tIfS (tTest (tOp (rNeD K) (tCB (rSorted K) (tCons (tVar 1) tNil)) (tLstRg (tRg1 (tCB (rLenS K) (tCons (tFld K (tVar 0) "guests") tNil)))))) (tRet (tLst (tCons (tC (.int (-1))) tNil))) tNext)
  (tSeq (tAsg (tCallF (sp_breaks_of K ad) (tCons (tVar 0) (tCons (tVar 1) tNil))) (gName 2))
  (tSeq (tAsg (tLst (tCons (tCB (rLenS K) (tCons (tVar 2) tNil)) tNil)) (gName 3))
  (tSeq (tFor (iList K (tVar 2)) (gTup K 2 (gCons (gName 4) (gCons (gName 5) gNil))) (tDrop (tBM K "list" rExtend (tVar 3) (tCons (tLst (tCons (tVar 4) (tCons (tVar 5) tNil))) tNil))))
  (tRet (tVar 3))))))
theorem der_check (T : Txt K mg ad) (hr : Room 3 (cxA P w K mg base N_check "check" st_check f cdv A outer s H E).A) (G_breaks_of : FnAt P w K mg base "breaks_of" 3 P_breaks_of (sp_breaks_of K ad)) : PSs (cxA P w K mg base N_check "check" st_check f cdv A outer s H E) (defBody st_check) (t_check w K ad) := by
  have nd := sc_check.nd
  exact (pss_cons (ps_if (pt_cmpR (op_neD hr.units) (pe_callB cr_sorted rfl T.sorted (by decide +kernel) (pa_cons (pv 1) pa_nil)) (pe_listRg rfl rfl T.list (prg_1 rfl T.range (pe_callB len1 rfl T.len PySem.boot_len (pa_cons (pe_fld (pv 0) rfl) pa_nil)))) (nomark _)) (pss_one (ps_ret (pe_lst (pa_cons (pe_ci rfl T.NOT_RIGHT) pa_nil)))) pss_nil)
      (pss_cons (ps_set (i := 2) nd rfl (Or.inl rfl) (pe_callF G_breaks_of hr (by decide) rfl (pa_cons (pv 0) (pa_cons (pv 1) pa_nil))))
      (pss_cons (ps_set (i := 3) nd rfl (Or.inl rfl) (pe_lst (pa_cons (pe_callB len1 rfl T.len PySem.boot_len (pa_cons (pv 2) pa_nil)) pa_nil)))
      (pss_cons (ps_for PassesOwn.never rfl (pi_list (pv 2)) (pg_tup rfl (pgs_cons (pg_name (i := 4) nd rfl (Or.inl rfl)) (pgs_cons (pg_name (i := 5) nd rfl (Or.inl rfl)) pgs_nil))) (pss_one (ps_expr (pe_bm PySem.F.plainAttrs_list PySem.F.slot_list_extend PySem.F.type_list_extend mt_extend (pv 3) (pa_cons (pe_lst (pa_cons (pv 4) (pa_cons (pv 5) pa_nil))) pa_nil)))))
      (pss_one (ps_ret (pv 3)))))))
/-- flags -/
abbrev st_flags : Stmt := top 51
abbrev N_flags : List Str := ["house", "way"]
abbrev P_flags : List Str := ["house", "way"]
theorem sc_flags : FnScope N_flags P_flags (defScope st_flags) := ⟨rfl, rfl, rfl, by decide +kernel, rfl, by decide +kernel, by decide +kernel⟩
def t_flags (w : World) (K : PySem.W.Frag) (ad : Ad) : TS :=
  (tSeq (tIfS (tNot (tB (tCallF (sp_within K ad) (tCons (tVar 1) (tCons (tC (.int 0)) (tCons (tC (.int 2)) tNil)))))) (tRet (tLst (tCons (tC (.int (-1))) tNil))) tNext)
  (tRet (tCallF (sp_told K ad) (tCons (tCallF (sp_flags_of K ad) (tCons (tVar 0) (tCons (tVar 1) tNil))) tNil))))
theorem der_flags (T : Txt K mg ad) (hr : Room 1 (cxA P w K mg base N_flags "flags" st_flags f cdv A outer s H E).A) (G_flags_of : FnAt P w K mg base "flags_of" 1 P_flags_of (sp_flags_of K ad)) (G_told : FnAt P w K mg base "told" 1 P_told (sp_told K ad)) (G_within : FnAt P w K mg base "within" 1 P_within (sp_within K ad)) : PSs (cxA P w K mg base N_flags "flags" st_flags f cdv A outer s H E) (defBody st_flags) (t_flags w K ad) := by
  have nd := sc_flags.nd
  exact (pss_cons (ps_if (pt_not (pt_val (pe_callF G_within hr (by decide) rfl (pa_cons (pv 1) (pa_cons pe_int (pa_cons pe_int pa_nil)))))) (pss_one (ps_ret (pe_lst (pa_cons (pe_ci rfl T.NOT_RIGHT) pa_nil)))) pss_nil)
      (pss_one (ps_ret (pe_callF G_told hr (by decide) rfl (pa_cons (pe_callF G_flags_of hr (by decide) rfl (pa_cons (pv 0) (pa_cons (pv 1) pa_nil))) pa_nil)))))
/-- asked -/
abbrev st_asked : Stmt := top 52
abbrev N_asked : List Str := ["house", "kind", "wholes", "row"]
abbrev P_asked : List Str := ["house", "kind", "wholes", "row"]
theorem sc_asked : FnScope N_asked P_asked (defScope st_asked) := ⟨rfl, rfl, rfl, by decide +kernel, rfl, by decide +kernel, by decide +kernel⟩
def t_asked (w : World) (K : PySem.W.Frag) (ad : Ad) : TS :=
  (tSeq (tIfS (tTest (tOp rEq (tVar 1) (tC (.int 6)))) (tRet (tCallF (sp_told K ad) (tCons (tCallF (sp_order_of K ad) (tCons (tVar 0) tNil)) tNil))) tNext)
  (tSeq (tIfS (tTest (tOp rEq (tVar 1) (tC (.int 7)))) (tRet (tCallF (sp_seats K ad) (tCons (tVar 0) tNil))) tNext)
  (tSeq (tIfS (tTest (tOp rEq (tVar 1) (tC (.int 8)))) (tRet (tCallF (sp_plan K ad) (tCons (tVar 0) tNil))) tNext)
  (tSeq (tIfS (tTest (tOp rEq (tVar 1) (tC (.int 9)))) (tRet (tCallF (sp_check K ad) (tCons (tVar 0) (tCons (tVar 3) tNil)))) tNext)
  (tRet (tCallF (sp_flags K ad) (tCons (tVar 0) (tCons (tOp (rIxL K) (tVar 2) (tC (.int 0))) tNil))))))))
theorem der_asked (T : Txt K mg ad) (hr : Room 17 (cxA P w K mg base N_asked "asked" st_asked f cdv A outer s H E).A) (G_check : FnAt P w K mg base "check" 4 P_check (sp_check K ad)) (G_flags : FnAt P w K mg base "flags" 2 P_flags (sp_flags K ad)) (G_order_of : FnAt P w K mg base "order_of" 2 P_order_of (sp_order_of K ad)) (G_plan : FnAt P w K mg base "plan" 17 P_plan (sp_plan K ad)) (G_seats : FnAt P w K mg base "seats" 2 P_seats (sp_seats K ad)) (G_told : FnAt P w K mg base "told" 1 P_told (sp_told K ad)) : PSs (cxA P w K mg base N_asked "asked" st_asked f cdv A outer s H E) (defBody st_asked) (t_asked w K ad) := by
  have nd := sc_asked.nd
  exact (pss_cons (ps_if (pt_cmpR op_eq (pv 1) pe_int (nomark _)) (pss_one (ps_ret (pe_callF G_told hr (by decide) rfl (pa_cons (pe_callF G_order_of hr (by decide) rfl (pa_cons (pv 0) pa_nil)) pa_nil)))) pss_nil)
      (pss_cons (ps_if (pt_cmpR op_eq (pv 1) pe_int (nomark _)) (pss_one (ps_ret (pe_callF G_seats hr (by decide) rfl (pa_cons (pv 0) pa_nil)))) pss_nil)
      (pss_cons (ps_if (pt_cmpR op_eq (pv 1) pe_int (nomark _)) (pss_one (ps_ret (pe_callF G_plan hr (by decide) rfl (pa_cons (pv 0) pa_nil)))) pss_nil)
      (pss_cons (ps_if (pt_cmpR op_eq (pv 1) pe_int (nomark _)) (pss_one (ps_ret (pe_callF G_check hr (by decide) rfl (pa_cons (pv 0) (pa_cons (pv 3) pa_nil))))) pss_nil)
      (pss_one (ps_ret (pe_callF G_flags hr (by decide) rfl (pa_cons (pv 0) (pa_cons (pe_ix ix_list (pv 2) pe_int (fun _ _ => rfl)) pa_nil)))))))))
/-- answered -/
abbrev st_answered : Stmt := top 53
abbrev N_answered : List Str := ["desk", "kind", "wholes", "row"]
abbrev P_answered : List Str := ["desk", "kind", "wholes", "row"]
theorem sc_answered : FnScope N_answered P_answered (defScope st_answered) := ⟨rfl, rfl, rfl, by decide +kernel, rfl, by decide +kernel, by decide +kernel⟩
def t_answered (w : World) (K : PySem.W.Frag) (ad : Ad) : TS :=
  (tSeq (tIfS (tTest (tOp rEq (tVar 1) (tC (.int 1)))) (tRet (tCallF (sp_begin K ad) (tCons (tVar 0) (tCons (tOp (rIxL K) (tVar 2) (tC (.int 0))) tNil)))) tNext)
  (tSeq (tIfS (tTest (tOp rEq (tVar 1) (tC (.int 2)))) (tRet (tCallF (sp_put_guest K ad) (tCons (tFld K (tVar 0) "house") (tCons (tVar 2) (tCons (tVar 3) tNil))))) tNext)
  (tSeq (tIfS (tTest (tOp rEq (tVar 1) (tC (.int 3)))) (tRet (tCallF (sp_put_apart K ad) (tCons (tFld K (tVar 0) "house") (tCons (tOp (rIxL K) (tVar 2) (tC (.int 0))) (tCons (tOp (rIxL K) (tVar 2) (tC (.int 1))) tNil))))) tNext)
  (tSeq (tIfS (tTest (tOp rEq (tVar 1) (tC (.int 4)))) (tRet (tCallF (sp_put_host K ad) (tCons (tFld K (tVar 0) "house") (tCons (tOp (rIxL K) (tVar 2) (tC (.int 0))) (tCons (tOp (rIxL K) (tVar 2) (tC (.int 1))) tNil))))) tNext)
  (tSeq (tIfS (tTest (tOp rEq (tVar 1) (tC (.int 5)))) (tRet (tCallF (sp_put_rules K ad) (tCons (tFld K (tVar 0) "house") (tCons (tVar 2) tNil)))) tNext)
  (tRet (tCallF (sp_asked K ad) (tCons (tFld K (tVar 0) "house") (tCons (tVar 1) (tCons (tVar 2) (tCons (tVar 3) tNil)))))))))))
theorem der_answered (T : Txt K mg ad) (hr : Room 18 (cxA P w K mg base N_answered "answered" st_answered f cdv A outer s H E).A) (G_asked : FnAt P w K mg base "asked" 18 P_asked (sp_asked K ad)) (G_begin : FnAt P w K mg base "begin" 3 P_begin (sp_begin K ad)) (G_put_apart : FnAt P w K mg base "put_apart" 3 P_put_apart (sp_put_apart K ad)) (G_put_guest : FnAt P w K mg base "put_guest" 4 P_put_guest (sp_put_guest K ad)) (G_put_host : FnAt P w K mg base "put_host" 3 P_put_host (sp_put_host K ad)) (G_put_rules : FnAt P w K mg base "put_rules" 1 P_put_rules (sp_put_rules K ad)) : PSs (cxA P w K mg base N_answered "answered" st_answered f cdv A outer s H E) (defBody st_answered) (t_answered w K ad) := by
  have nd := sc_answered.nd
  exact (pss_cons (ps_if (pt_cmpR op_eq (pv 1) pe_int (nomark _)) (pss_one (ps_ret (pe_callF G_begin hr (by decide) rfl (pa_cons (pv 0) (pa_cons (pe_ix ix_list (pv 2) pe_int (fun _ _ => rfl)) pa_nil))))) pss_nil)
      (pss_cons (ps_if (pt_cmpR op_eq (pv 1) pe_int (nomark _)) (pss_one (ps_ret (pe_callF G_put_guest hr (by decide) rfl (pa_cons (pe_fld (pv 0) rfl) (pa_cons (pv 2) (pa_cons (pv 3) pa_nil)))))) pss_nil)
      (pss_cons (ps_if (pt_cmpR op_eq (pv 1) pe_int (nomark _)) (pss_one (ps_ret (pe_callF G_put_apart hr (by decide) rfl (pa_cons (pe_fld (pv 0) rfl) (pa_cons (pe_ix ix_list (pv 2) pe_int (fun _ _ => rfl)) (pa_cons (pe_ix ix_list (pv 2) pe_int (fun _ _ => rfl)) pa_nil)))))) pss_nil)
      (pss_cons (ps_if (pt_cmpR op_eq (pv 1) pe_int (nomark _)) (pss_one (ps_ret (pe_callF G_put_host hr (by decide) rfl (pa_cons (pe_fld (pv 0) rfl) (pa_cons (pe_ix ix_list (pv 2) pe_int (fun _ _ => rfl)) (pa_cons (pe_ix ix_list (pv 2) pe_int (fun _ _ => rfl)) pa_nil)))))) pss_nil)
      (pss_cons (ps_if (pt_cmpR op_eq (pv 1) pe_int (nomark _)) (pss_one (ps_ret (pe_callF G_put_rules hr (by decide) rfl (pa_cons (pe_fld (pv 0) rfl) (pa_cons (pv 2) pa_nil))))) pss_nil)
      (pss_one (ps_ret (pe_callF G_asked hr (by decide) rfl (pa_cons (pe_fld (pv 0) rfl) (pa_cons (pv 1) (pa_cons (pv 2) (pa_cons (pv 3) pa_nil))))))))))))
/-- answers -/
abbrev st_answers : Stmt := top 54
abbrev N_answers : List Str := ["calls", "desk", "found", "at", "kind", "end", "wholes", "row", "start", "numbers"]
abbrev P_answers : List Str := ["calls"]
theorem sc_answers : FnScope N_answers P_answers (defScope st_answers) := ⟨rfl, rfl, rfl, by decide +kernel, rfl, by decide +kernel, by decide +kernel⟩
def t_answers (w : World) (K : PySem.W.Frag) (ad : Ad) : TS :=
  (tSeq (tAsg (tMakeF ad.D (sp_Desk K ad) tNil) (gName 1))
  (tSeq (tAsg (tLst tNil) (gName 2))
  (tSeq (tAsg (tC (.int 0)) (gName 3))
  (tSeq (tWhile (tTest (tOp rLtI (tVar 3) (tCB (rLenS K) (tCons (tVar 0) tNil)))) (tSeq (tAsg (tOp (rIxL K) (tVar 0) (tVar 3)) (gName 4))
  (tSeq (tAsg (tOp rAddI (tOp rAddI (tVar 3) (tC (.int 1))) (tOp (rIxKI K) (tC (.ref ad.W)) (tVar 4))) (gName 5))
  (tSeq (tAsg (L2.tSl (rSlL K) (tVar 0) (tPart (tOp rAddI (tVar 3) (tC (.int 1)))) (tPart (tVar 5))) (gName 6))
  (tSeq (tAsg (tLst tNil) (gName 7))
  (tSeq (tIfS (tTest (tOp (rIn K false) (tVar 4) (tC (.ref ad.T)))) (tSeq (tAsg (tOp rAddI (tVar 5) (tC (.int 1))) (gName 8))
  (tSeq (tAsg (tOp rAddI (tVar 8) (tOp (rIxL K) (tVar 0) (tVar 5))) (gName 5))
  (tAsg (L2.tSl (rSlL K) (tVar 0) (tPart (tVar 8)) (tPart (tVar 5))) (gName 7)))) tNext)
  (tSeq (tAsg (tCallF (sp_answered K ad) (tCons (tVar 1) (tCons (tVar 4) (tCons (tVar 6) (tCons (tVar 7) tNil))))) (gName 9))
  (tSeq (tDrop (tBM K "list" rAppend (tVar 2) (tCons (tCB (rLenS K) (tCons (tVar 9) tNil)) tNil)))
  (tSeq (tDrop (tBM K "list" rExtend (tVar 2) (tCons (tVar 9) tNil)))
  (tAsg (tVar 5) (gName 3)))))))))))
  (tRet (tVar 2))))))
theorem der_answers (T : Txt K mg ad) (hr : Room 19 (cxA P w K mg base N_answers "answers" st_answers f cdv A outer s H E).A) (G_Desk : MkAt P w K mg base "Desk" 3 P_Desk ad.D (sp_Desk K ad)) (G_answered : FnAt P w K mg base "answered" 19 P_answered (sp_answered K ad)) : PSs (cxA P w K mg base N_answers "answers" st_answers f cdv A outer s H E) (defBody st_answers) (t_answers w K ad) := by
  have nd := sc_answers.nd
  exact (pss_cons (ps_set (i := 1) nd rfl (Or.inl rfl) (pe_makeF0 G_Desk hr (by decide) rfl))
      (pss_cons (ps_set (i := 2) nd rfl (Or.inl rfl) (pe_lst pa_nil))
      (pss_cons (ps_set (i := 3) nd rfl (Or.inl rfl) pe_int)
      (pss_cons (ps_while PassesOwn.never (pt_cmpR op_lt (pv 3) (pe_callB len1 rfl T.len PySem.boot_len (pa_cons (pv 0) pa_nil)) (nomark _)) (pss_cons (ps_set (i := 4) nd rfl (Or.inl rfl) (pe_ix ix_list (pv 0) (pv 3) (fun _ _ => rfl)))
      (pss_cons (ps_set (i := 5) nd rfl (Or.inl rfl) (pe_op op_add (pe_op op_add (pv 3) pe_int) (pe_ix ix_kint (pe_glob rfl T.WHOLES rfl) (pv 4) (fun _ _ => rfl))))
      (pss_cons (ps_set (i := 6) nd rfl (Or.inl rfl) (pe_slice sl_list (pv 0) (po_some (pe_op op_add (pv 3) pe_int)) (po_some (pv 5))))
      (pss_cons (ps_set (i := 7) nd rfl (Or.inl rfl) (pe_lst pa_nil))
      (pss_cons (ps_if (pt_cmpR op_in_seq (pv 4) (pe_glob rfl T.WITH_LIST rfl) rfl) (pss_cons (ps_set (i := 8) nd rfl (Or.inl rfl) (pe_op op_add (pv 5) pe_int))
      (pss_cons (ps_set (i := 5) nd rfl (Or.inl rfl) (pe_op op_add (pv 8) (pe_ix ix_list (pv 0) (pv 5) (fun _ _ => rfl))))
      (pss_one (ps_set (i := 7) nd rfl (Or.inl rfl) (pe_slice sl_list (pv 0) (po_some (pv 8)) (po_some (pv 5))))))) pss_nil)
      (pss_cons (ps_set (i := 9) nd rfl (Or.inl rfl) (pe_callF G_answered hr (by decide) rfl (pa_cons (pv 1) (pa_cons (pv 4) (pa_cons (pv 6) (pa_cons (pv 7) pa_nil))))))
      (pss_cons (ps_expr (pe_bm PySem.F.plainAttrs_list PySem.F.slot_list_append PySem.F.type_list_append mt_append (pv 2) (pa_cons (pe_callB len1 rfl T.len PySem.boot_len (pa_cons (pv 9) pa_nil)) pa_nil)))
      (pss_cons (ps_expr (pe_bm PySem.F.plainAttrs_list PySem.F.slot_list_extend PySem.F.type_list_extend mt_extend (pv 2) (pa_cons (pv 9) pa_nil)))
      (pss_one (ps_set (i := 3) nd rfl (Or.inl rfl) (pv 5))))))))))))
      (pss_one (ps_ret (pv 2)))))))
end
end FsR
namespace FsR
open PySem PySem.Spec PyProof.Rows L2 Evl
open Fs (compI WF)
/-- a def: from its text, its scope, its derivation, its reading -/
theorem mkFn {P : Program} {w : World} {K : PySem.W.Frag} {mg : Str → Option Value} {base : Heap} {x qual : Str} {st : Stmt} {f : Addr} {fd : FuncData} {N ps : List Str} {k : Nat} {sp : Sp} {t : TS} (F : Fun K x qual st f fd) (S : FnScope N ps (defScope st)) (hm : mg x = some (.ref f)) (hb : Binds K fd ps [])
    (len : ∀ vs H Q E, sp vs H Q E → vs.length = ps.length)
    (der : ∀ (cdv : Value) (A : Around) (outer : List Env) (s : Shared) (H : Hp) (E : XK), Room k (cxA P w K mg base N qual st f cdv A outer s H E).A → PSs (cxA P w K mg base N qual st f cdv A outer s H E) (defBody st) t)
    (rd : ∀ vs H Q E, sp vs H Q E → t { nx := fun _ H' => Q .non H', rt := Q } (start N vs) H) : FnAt P w K mg base x (k + 1) ps sp :=
  ⟨f, fd, F.ok S len fun cdv A outer s H vs Q E hr h => ⟨t, der cdv A outer s H E hr, rd vs H Q E h⟩, hm, F.kp, hb⟩
section
variable {K : PySem.W.Frag} {mg : Str → Option Value} {ad : Ad} {w : World} {σ : L2.St} {H : Hp} {ta tb te : TE} {a : Addr} {s : Kg75.State} {p : Parts}
theorem ev_hcountry (T : Txt K mg ad) (hp : HouseP ad.G ad.H H a s p) (h : Ev ta σ H (.ref a)) : Ev (tFld K ta "country") σ H (.int s.home) := let ⟨dx, q⟩ := hp.ob; ev_fld h q T.cH T.hCountry (hF_country _ _)
theorem ev_hguests (T : Txt K mg ad) (hp : HouseP ad.G ad.H H a s p) (h : Ev ta σ H (.ref a)) : Ev (tFld K ta "guests") σ H (.ref p.lg) := let ⟨dx, q⟩ := hp.ob; ev_fld h q T.cH T.hGuests (hF_guests _ _)
theorem ev_hapart (T : Txt K mg ad) (hp : HouseP ad.G ad.H H a s p) (h : Ev ta σ H (.ref a)) : Ev (tFld K ta "apart") σ H (.ref p.la) := let ⟨dx, q⟩ := hp.ob; ev_fld h q T.cH T.hApart (hF_apart _ _)
theorem ev_hhosts (T : Txt K mg ad) (hp : HouseP ad.G ad.H H a s p) (h : Ev ta σ H (.ref a)) : Ev (tFld K ta "hosts") σ H (.ref p.lh) := let ⟨dx, q⟩ := hp.ob; ev_fld h q T.cH T.hHosts (hF_hosts _ _)
theorem ev_hrules (T : Txt K mg ad) (hp : HouseP ad.G ad.H H a s p) (h : Ev ta σ H (.ref a)) : Ev (tFld K ta "rules") σ H (.ref p.lr) := let ⟨dx, q⟩ := hp.ob; ev_fld h q T.cH T.hRules (hF_rules _ _)
/-- len(house.guests) -/
theorem ev_many (T : Txt K mg ad) (hp : HouseP ad.G ad.H H a s p) (h : Ev ta σ H (.ref a)) : Ev (tCB (rLenS K) (tCons (tFld K ta "guests") tNil)) σ H (.int (s.guests.length : Int)) := by
  have e : Ev (tCB (rLenS K) (tCons (tFld K ta "guests") tNil)) σ H (.int ((p.gs.map V.ref).length : Int)) := ev_len (ev_hguests T hp h) (sq_of hp.og)
  rw [List.length_map, hp.gl] at e
  exact e
/-- house.rules[i] -/
theorem ev_rule (T : Txt K mg ad) (hp : HouseP ad.G ad.H H a s p) (h : Ev ta σ H (.ref a)) {i : Nat} {v : V} (hv : (rulesV s.rules)[i]? = some v) : Ev (tOp (rIxL K) (tFld K ta "rules") (tC (.int (i : Int)))) σ H v :=
  ev_op (ev_hrules T hp h) ev_c (rv_ixL (sq_of (ex_off _ _ hp.or)) (atI_nat hv))
/-- what is known of a guest -/
def GuestAt (ad : Ad) (H : Hp) (ga : Addr) (g : Kg75.Guest) : Prop := ∃ dx l, H ga = some (.ins ad.G dx (gF g l)) ∧ H l = some (.lst (natsV g.speaks))
theorem GuestAt.ex {H' : Hp} {ga : Addr} {g : Kg75.Guest} (h : GuestAt ad H ga g) (e : Ex H H') : GuestAt ad H' ga g := let ⟨dx, l, q1, q2⟩ := h; ⟨dx, l, e _ _ q1, e _ _ q2⟩
/-- house.guests[i] -/
theorem ev_guest (T : Txt K mg ad) (hp : HouseP ad.G ad.H H a s p) (h : Ev ta σ H (.ref a)) {i : Nat} (hi : i < s.guests.length) (hb : Ev tb σ H (.int (i : Int))) : ∃ ga, Ev (tOp (rIxL K) (tFld K ta "guests") tb) σ H (.ref ga) ∧ GuestAt ad H ga (s.guest i) := by
  obtain ⟨ga, dx, l, q0, _, q1, q2⟩ := hp.guest hi
  exact ⟨ga, ev_op (ev_hguests T hp h) hb (rv_ixL (sq_of hp.og) (atI_nat q0)), dx, l, q1, q2⟩
variable {ga : Addr} {g : Kg75.Guest}
theorem ev_grank (T : Txt K mg ad) (hg : GuestAt ad H ga g) (h : Ev te σ H (.ref ga)) : Ev (tFld K te "rank") σ H (.int g.rank) := let ⟨dx, l, q, _⟩ := hg; ev_fld h q T.cG T.gRank (gF_rank _ _)
theorem ev_gday (T : Txt K mg ad) (hg : GuestAt ad H ga g) (h : Ev te σ H (.ref ga)) : Ev (tFld K te "day") σ H (.int g.since) := let ⟨dx, l, q, _⟩ := hg; ev_fld h q T.cG T.gDay (gF_day _ _)
theorem ev_gcountry (T : Txt K mg ad) (hg : GuestAt ad H ga g) (h : Ev te σ H (.ref ga)) : Ev (tFld K te "country") σ H (.int g.country) := let ⟨dx, l, q, _⟩ := hg; ev_fld h q T.cG T.gCountry (gF_country _ _)
theorem ev_gsex (T : Txt K mg ad) (hg : GuestAt ad H ga g) (h : Ev te σ H (.ref ga)) : Ev (tFld K te "sex") σ H (.int g.sex) := let ⟨dx, l, q, _⟩ := hg; ev_fld h q T.cG T.gSex (gF_sex _ _)
theorem ev_gcompanion (T : Txt K mg ad) (hg : GuestAt ad H ga g) (h : Ev te σ H (.ref ga)) : Ev (tFld K te "companion") σ H (.int (compI g.with_)) := let ⟨dx, l, q, _⟩ := hg; ev_fld h q T.cG T.gCompanion (gF_companion _ _)
theorem ev_glanguages (T : Txt K mg ad) (hg : GuestAt ad H ga g) (h : Ev te σ H (.ref ga)) : ∃ l, Ev (tFld K te "languages") σ H (.ref l) ∧ H l = some (.lst (natsV g.speaks)) := let ⟨dx, l, q, q2⟩ := hg; ⟨l, ev_fld h q T.cG T.gLanguages (gF_languages _ _), q2⟩
/-! ### calls as values -/
theorem sv_within {n lo hi : Int} : SpV (sp_within K ad) [.int n, .int lo, .int hi] H (.bl (Kg75.within n lo hi)) := fun H1 e Q q E => ⟨n, lo, hi, rfl, q⟩
theorem sv_are_languages {a : Addr} {l : List Int} (h : SqL K H a (intsV l)) (hl : l.length ≤ 1300) : SpV (sp_are_languages K ad) [.ref a] H (.bl (areLangs l)) := fun H1 e Q q E => ⟨a, l, rfl, ex_l e h, hl, q⟩
theorem sv_is_guest {z : Int} (h : HouseAt ad.G ad.H H a s) : SpV (sp_is_guest K ad) [.ref a, .int z] H (.bl (Kg75.isGuest s z)) := fun H1 e Q q E => ⟨a, s, z, rfl, h.ex e, q⟩
theorem sv_follows {i : Nat} (h : HouseAt ad.G ad.H H a s) (W : WF s) (hi : i < s.guests.length) : SpV (sp_follows K ad) [.ref a, .int i] H (.bl (Fs.follows s i)) := fun H1 e Q q E => ⟨a, s, i, rfl, h.ex e, W, hi, q⟩
theorem su_key_of {i : Nat} (h : HouseAt ad.G ad.H H a s) (hi : i < s.guests.length) : SpU (sp_key_of K ad) [.ref a, .int i] H (ownV s i) := fun H1 e Q q E => ⟨a, s, i, rfl, h.ex e, hi, q⟩
theorem comp_none {o : Option Nat} : decide (V.int (compI o) = V.int (-1)) = decide (o = none) := by
  cases o with
  | none => rfl
  | some j =>
    have : ¬ (V.int (compI (some j)) = V.int (-1)) := fun h => by
      injection h with h
      have : (j : Int) = -1 := h
      omega
    rw [decide_eq_false this]; rfl
/-! ### readings -/
theorem rd_within (vs : List V) (H : Hp) (Q : VK) (E : XK) (h : sp_within K ad vs H Q E) : t_within w K ad { nx := fun _ H' => Q .non H', rt := Q } (start N_within vs) H := by
  obtain ⟨n, lo, hi, rfl, k⟩ := h
  exact s_ret (ev_andV (ev_op (ev_var rfl) (ev_var rfl) rv_I0) fun _ => ev_op (ev_var rfl) (ev_var rfl) rv_I0) k
theorem rd_is_guest (T : Txt K mg ad) (vs : List V) (H : Hp) (Q : VK) (E : XK) (h : sp_is_guest K ad vs H Q E) : t_is_guest w K ad { nx := fun _ H' => Q .non H', rt := Q } (start N_is_guest vs) H := by
  obtain ⟨a, s, z, rfl, ⟨p, hp⟩, k⟩ := h
  refine s_ret (v := .bl (Kg75.isGuest s z)) ?_ k
  have e : Kg75.isGuest s z = Kg75.within z 0 ((s.guests.length : Int) - 1) := by
    unfold Kg75.isGuest Kg75.within
    rw [Bool.eq_iff_iff]
    simp only [Bool.and_eq_true, decide_eq_true_eq]
    omega
  rw [e]
  exact ev_callF (ea_cons (ev_var rfl) (ea_cons ev_c (ea_cons (ev_op (ev_many T hp (ev_var rfl)) ev_c rv_I0) ea_nil))) sv_within
theorem rd_may_come_with (T : Txt K mg ad) (vs : List V) (H : Hp) (Q : VK) (E : XK) (h : sp_may_come_with K ad vs H Q E) : t_may_come_with w K ad { nx := fun _ H' => Q .non H', rt := Q } (start N_may_come_with vs) H := by
  obtain ⟨a, s, z, rfl, ⟨p, hp⟩, k⟩ := h
  refine q_when (b := decide (z = -1)) (et_test (ev_is (ev_op (ev_var rfl) ev_c (rv_eq rfl)) (by congr 1; rw [dec_int, Bool.beq_eq_decide_eq]))) (fun hb H1 e => ?_) fun hb H1 e => ?_
  · refine s_ret ev_c fun H2 e2 => ?_
    have := k H2 (e.trans e2)
    unfold mayCome at this
    rw [hb] at this
    exact this
  · have hp := hp.ex e
    refine s_ret (v := .bl (mayCome s z)) ?_ fun H2 e2 => k H2 (e.trans e2)
    unfold mayCome
    rw [hb, Bool.false_or]
    refine ev_andV (ev_callF (ea_cons (ev_var rfl) (ea_cons (ev_var rfl) ea_nil)) (sv_is_guest ⟨p, hp⟩)) fun hg => ?_
    unfold Kg75.isGuest at hg
    simp only [Bool.and_eq_true, decide_eq_true_eq] at hg
    obtain ⟨i, rfl⟩ : ∃ i : Nat, z = i := ⟨z.toNat, by omega⟩
    obtain ⟨ga, e1, g1⟩ := ev_guest T hp (ta := tVar 0) (σ := start N_may_come_with [.ref a, .int i]) (ev_var rfl) (i := i) (by omega) (ev_var (i := 1) rfl)
    exact ev_is (ev_op (ev_gcompanion T g1 e1) ev_c (rv_eq rfl)) (by rw [comp_none]; rfl)
theorem rd_key_of (T : Txt K mg ad) (vs : List V) (H : Hp) (Q : VK) (E : XK) (h : sp_key_of K ad vs H Q E) : t_key_of w K ad { nx := fun _ H' => Q .non H', rt := Q } (start N_key_of vs) H := by
  obtain ⟨a, s, i, rfl, ⟨p, hp⟩, hi, k⟩ := h
  obtain ⟨ga, e1, g1⟩ := ev_guest T hp (ta := tVar 0) (σ := start N_key_of [.ref a, .int i]) (ev_var rfl) (i := i) hi (ev_var (i := 1) rfl)
  refine q_asg e1 fun H1 e => ?_
  have hp := hp.ex e
  have g1 := g1.ex e
  refine s_retU (eu_tup (ea_cons (ev_grank T g1 (ev_var rfl)) (ea_cons (ev_int1 (ev_op (ev_gcountry T g1 (ev_var rfl)) (ev_hcountry T hp (ev_var rfl)) (rv_eq rfl))) (ea_cons (ev_gday T g1 (ev_var rfl)) (ea_cons (ev_var rfl) ea_nil)))) (by show 4 ≤ 100000; decide)) fun q H2 hq e2 h2 => ?_
  refine k q H2 (fresh_back e hq) (e.trans e2) (h2.trans ?_)
  have c : (if decide (V.int ((s.guest i).country : Int) = V.int (s.home : Int)) = true then (1 : Int) else 0) = ((if (s.guest i).country = s.home then 1 else 0 : Nat) : Int) := by
    by_cases h : (s.guest i).country = s.home
    · rw [h, if_pos (decide_eq_true rfl), if_pos rfl]; rfl
    · rw [if_neg h, if_neg]
      · rfl
      · intro q
        have := of_decide_eq_true q
        injection this with this
        exact h (by omega)
  rw [c]; rfl
theorem rd_follows (T : Txt K mg ad) (vs : List V) (H : Hp) (Q : VK) (E : XK) (h : sp_follows K ad vs H Q E) : t_follows w K ad { nx := fun _ H' => Q .non H', rt := Q } (start N_follows vs) H := by
  obtain ⟨a, s, i, rfl, ⟨p, hp⟩, W, hi, k⟩ := h
  obtain ⟨ga, e1, g1⟩ := ev_guest T hp (ta := tVar 0) (σ := start N_follows [.ref a, .int i]) (ev_var rfl) (i := i) hi (ev_var (i := 1) rfl)
  refine q_asg e1 fun H1 e => ?_
  have hp := hp.ex e
  have g1 := g1.ex e
  refine q_when (et_or (et_test (ev_op (ev_grank T g1 (ev_var rfl)) ev_c rv_I0)) fun _ => et_test (ev_is (ev_op (ev_gcompanion T g1 (ev_var rfl)) ev_c (rv_eq rfl)) (congrArg V.bl comp_none))) (fun hb H2 e2 => ?_) fun hb H2 e2 => ?_
  · refine s_ret ev_c fun H3 e3 => ?_
    have := k H3 ((e.trans e2).trans e3)
    have f : Fs.follows s i = false := by
      unfold Fs.follows
      simp only [Bool.or_eq_true, decide_eq_true_eq] at hb
      by_cases c : (s.guest i).rank < 10
      · rw [if_pos c]
      · rw [if_neg c]
        rcases hb with hb | hb
        · exact absurd (by omega) c
        · rw [hb]
    rw [f] at this
    exact this
  · simp only [Bool.or_eq_false_iff, decide_eq_false_iff_not] at hb
    obtain ⟨hb1, hb2⟩ := hb
    have hp := hp.ex e2
    have g1 := g1.ex e2
    cases hw : (s.guest i).with_ with
    | none => exact absurd hw hb2
    | some j =>
      have hj := (W.mates i j hi hw).1
      have ec := ev_gcompanion T g1 (te := tVar 2) (σ := [some (.ref a), some (.int i), some (.ref ga)]) (ev_var rfl)
      rw [hw] at ec
      obtain ⟨gb, e3, g3⟩ := ev_guest T hp (ta := tVar 0) (ev_var rfl) (i := j) hj ec
      refine s_ret (v := .bl (Fs.follows s i)) ?_ fun H3 e4 => k H3 ((e.trans e2).trans e4)
      refine ev_is (ev_op (ev_grank T g3 e3) ev_c rv_I0) ?_
      unfold Fs.follows
      rw [if_neg (by omega), hw]
      congr 1
      rw [Bool.eq_iff_iff]
      simp only [decide_eq_true_eq]
      omega
end
end FsR
namespace FsR
open PySem PySem.Spec PyProof.Rows L2 Evl
open Fs (compI WF)
/-! ### comprehensions -/
def AllR {α : Type} (R : α → V → Hp → Prop) (H : Hp) (l : List α) (vs : List V) : Prop := vs.length = l.length ∧ ∀ (i : Nat) x v, l[i]? = some x → vs[i]? = some v → R x v H
section
variable {α : Type} {R : α → V → Hp → Prop}
theorem AllR.ex {H H' : Hp} {l : List α} {vs : List V} (mono : ∀ x v H H', Ex H H' → R x v H → R x v H') (h : AllR R H l vs) (e : Ex H H') : AllR R H' l vs := ⟨h.1, fun i x v a b => mono _ _ _ _ e (h.2 i x v a b)⟩
theorem AllR.snoc {H : Hp} {l : List α} {vs : List V} {x : α} {v : V} (h : AllR R H l vs) (r : R x v H) : AllR R H (l ++ [x]) (vs ++ [v]) := by
  refine ⟨by simp [h.1], fun i y u a b => ?_⟩
  by_cases hi : i < l.length
  · rw [List.getElem?_append_left hi] at a
    rw [List.getElem?_append_left (by rw [h.1]; exact hi)] at b
    exact h.2 i y u a b
  · have hi : l.length ≤ i := Nat.le_of_not_lt hi
    rw [List.getElem?_append_right hi] at a
    rw [List.getElem?_append_right (by rw [h.1]; exact hi), h.1] at b
    obtain ⟨k, hk⟩ : ∃ k, i - l.length = k := ⟨_, rfl⟩
    rw [hk] at a b
    cases k with
    | zero => simp at a b; subst a b; exact r
    | succ k => simp at a
theorem AllR.map {H : Hp} {l : List α} {vs : List V} {g : α → V} (h : AllR (fun x v _ => v = g x) H l vs) : vs = l.map g := by
  apply List.ext_getElem?
  intro i
  rw [List.getElem?_map]
  by_cases hi : i < l.length
  · have hv : i < vs.length := by rw [h.1]; exact hi
    rw [List.getElem?_eq_getElem hi, List.getElem?_eq_getElem hv]
    exact congrArg some (h.2 i _ _ (List.getElem?_eq_getElem hi) (List.getElem?_eq_getElem hv))
  · have hl := h.1
    rw [List.getElem?_eq_none (l := vs) (by omega), List.getElem?_eq_none (l := l) (by omega)]; rfl
variable {K : PySem.W.Frag} {σ : L2.St} {H : Hp} {te tl : TE} {t : TT} {g : TG}
/-- a list that is walked: it stands, or is new -/
def SrcL (K : PySem.W.Frag) (tl : TE) (σ : L2.St) (H : Hp) (xs : List V) : Prop := ∀ H1, Ex H H1 → ∀ Q : VK, (∀ a H2, Ex H1 H2 → SqL K H2 a xs → Q (.ref a) H2) → tl σ H1 Q
theorem srcOf {a : Addr} {xs : List V} (h : Ev tl σ H (.ref a)) (hx : SqL K H a xs) : SrcL K tl σ H xs := fun H1 e Q q => h H1 e _ fun H2 e2 => q a H2 e2 (ex_l (e.trans e2) hx)
theorem srcNew {xs : List V} (h : EvL tl σ H xs) : SrcL K tl σ H xs := fun H1 e Q q => h H1 e _ fun p H2 _ e2 h2 => q p H2 e2 (sq_of h2)
/-- [elt for target in list if test], items of any kind: R what an item gives -/
theorem eh_comp {l : List α} {g0 : α → V} {vs : List Nat} (σ' : α → L2.St) (p : α → Bool) (mono : ∀ x v H H', Ex H H' → R x v H → R x v H') (h : SrcL K tl σ H (l.map g0)) (hz : l.length ≤ 40000)
    (hg : ∀ x ∈ l, ∀ H1, Ex H H1 → ∀ Q : L2.St → Hp → Prop, Q (σ' x) H1 → g (g0 x) (wipe σ vs) H1 Q) (hw : ∀ x ∈ l, wipe (σ' x) vs = wipe σ vs)
    (ht : ∀ x ∈ l, ∀ H1, Ex H H1 → EvT t (σ' x) H1 (p x)) (he : ∀ x ∈ l, p x = true → ∀ H1 D, Ex H H1 → H D = none → H1 D ≠ none → ∀ Q : VK, (∀ v H2, Ex H1 H2 → R x v (off [D] H2) → Q v H2) → te (σ' x) H1 Q) :
    ∀ H1, Ex H H1 → ∀ Q : VK, (∀ q H2 ys, H1 q = none → Ex H1 H2 → H2 q = some (.lst ys) → AllR R (off [q] H2) (l.filter p) ys → Q (.ref q) H2) → tLc (iList K tl) g t te vs σ H1 Q := by
  intro H1 e Q q
  refine h H1 e _ fun a H2 e2 hx => ⟨a, rfl, ⟨_, hx⟩, fun D hD => ?_⟩
  refine lc_list (xs := l.map g0) (fun i H' => Ex H2 H' ∧ ∃ ys, H' D = some (.lst ys) ∧ AllR R (off [D] H') ((l.take i).filter p) ys) ⟨Ex.new hD, [], upd_same, by simp, fun i x v a _ => by simp at a⟩ (fun i H' _ z => ex_l z.1 hx) (fun i x H' hi z => ?_) fun H' z => ?_
  · obtain ⟨z1, ys, z2, z3⟩ := z
    rw [List.getElem?_map] at hi
    obtain ⟨x0, hx0, rfl⟩ := Option.map_eq_some_iff.mp hi
    have mem : x0 ∈ l := List.mem_of_getElem? hx0
    have hil : i < l.length := (List.getElem?_eq_some_iff.mp hx0).1
    have tk : l.take (i + 1) = l.take i ++ [x0] := by rw [List.take_add_one, hx0]; rfl
    have small : ys.length ≤ i := by
      rw [z3.1]
      exact Nat.le_trans (List.length_filter_le _ _) (by rw [List.length_take]; omega)
    refine hg x0 mem H' ((e.trans e2).trans z1) _ ⟨hw x0 mem, ?_⟩
    refine ht x0 mem H' ((e.trans e2).trans z1) H' (Ex.refl _) _ fun H3 e3 => ?_
    cases hp : p x0 with
    | true =>
      show te (σ' x0) H3 _
      have k3 := ((e.trans e2).trans z1).trans e3
      refine he x0 mem hp H3 D k3 (fresh_back (e.trans e2) hD) (by rw [e3 _ _ z2]; exact Option.some_ne_none _) _ fun v H4 e4 r => ⟨ys, e4 _ _ (e3 _ _ z2), sz_lt (by omega), ?_⟩
      refine ⟨Ex.mut ((z1.trans e3).trans e4) hD, ys ++ [v], upd_same, ?_⟩
      rw [tk, List.filter_append, List.filter_cons_of_pos hp, List.filter_nil, off_upd (List.mem_singleton.mpr rfl)]
      exact AllR.snoc (z3.ex mono (off_ex (e3.trans e4))) r
    | false =>
      show _ ∧ _
      refine ⟨z1.trans e3, ys, e3 _ _ z2, ?_⟩
      rw [tk, List.filter_append, List.filter_cons_of_neg (by rw [hp]; decide), List.filter_nil, List.append_nil]
      exact z3.ex mono (off_ex e3)
  · obtain ⟨z1, ys, z2, z3⟩ := z
    rw [List.length_map, List.take_length] at z3
    exact q D H' ys (fresh_back e2 hD) (e2.trans z1) z2 z3
theorem el_comp {l : List α} {g0 : α → V} {vs : List Nat} (σ' : α → L2.St) (p : α → Bool) (v : α → V) (h : SrcL K tl σ H (l.map g0)) (hz : l.length ≤ 40000)
    (hg : ∀ x ∈ l, ∀ H1, Ex H H1 → ∀ Q : L2.St → Hp → Prop, Q (σ' x) H1 → g (g0 x) (wipe σ vs) H1 Q) (hw : ∀ x ∈ l, wipe (σ' x) vs = wipe σ vs)
    (ht : ∀ x ∈ l, ∀ H1, Ex H H1 → EvT t (σ' x) H1 (p x)) (he : ∀ x ∈ l, p x = true → ∀ H1, Ex H H1 → Ev te (σ' x) H1 (v x)) : EvL (tLc (iList K tl) g t te vs) σ H ((l.filter p).map v) := fun H1 e Q q =>
  eh_comp (R := fun x u _ => u = v x) σ' p (fun _ _ _ _ _ r => r) h hz hg hw ht (fun x hx hp H2 D e2 _ _ Q q => he x hx hp H2 e2 H2 (Ex.refl _) Q fun H3 e3 => q _ H3 e3 rfl) H1 e Q fun z H2 ys hz e2 h2 r => q z H2 hz e2 (by rw [h2, r.map])
theorem et_yes : EvT tYes σ H true := fun H1 _ _ q => q H1 (Ex.refl H1)
end
section
variable {K : PySem.W.Frag} {mg : Str → Option Value} {ad : Ad} {w : World} {σ : L2.St} {H : Hp} {ta tb te : TE} {a : Addr} {s : Kg75.State} {p : Parts}
theorem filter_nil_all {α : Type} {f : α → Bool} (l : List α) : decide ((l.filter fun x => !f x) = []) = l.all f := by
  rw [Bool.eq_iff_iff, decide_eq_true_eq, List.filter_eq_nil_iff, List.all_eq_true]
  simp
/-- xs == [] of ints -/
theorem rv_eqNil {l : List Int} {q r : Addr} (h1 : SqL K H q (intsV l)) (h2 : SqL K H r []) : RV (rEqD K) (.ref q) (.ref r) H (.bl (decide (l = []))) := by
  have e := rv_eqD (K := K) (H := H) (Dp.lst h1 (dp_ints l)) (Dp.lst (ds := ([] : List Int).map PyData.int) h2 .nil) (shaped_ints l) (shaped_ints [])
  rw [eqv_lints] at e
  exact e
theorem rv_neNil {l : List Int} {q r : Addr} (h1 : SqL K H q (intsV l)) (h2 : SqL K H r []) : RV (rNeD K) (.ref q) (.ref r) H (.bl (!decide (l = []))) := by
  have e := rv_neD (K := K) (H := H) (Dp.lst h1 (dp_ints l)) (Dp.lst (ds := ([] : List Int).map PyData.int) h2 .nil) (shaped_ints l) (shaped_ints [])
  rw [eqv_lints] at e
  exact e
theorem el_nil : EvL (tLst tNil) σ H [] := el_lst ea_nil (by show 0 ≤ 100000; decide)
/-- len(set(xs)) == len(xs) -/
theorem ev_lenSet {i : Nat} {a : Addr} {l : List Int} (hv : σ[i]? = some (some (.ref a))) (h : SqL K H a (intsV l)) (hl : l.length ≤ 1300) :
    Ev (tOp rEq (tCB (rLenSet w) (tCons (tCB (rSetI K w) (tCons (tVar i) tNil)) tNil)) (tCB (rLenS K) (tCons (tVar i) tNil))) σ H (.bl (decide l.Nodup)) := by
  intro H1 e Q q
  refine ⟨_, hv, a, l, rfl, ex_l e h, by omega, fun p c hp hc hn => ⟨p, _, c, rfl, upd_same, _, hv, a, _, rfl, .inl (ex_l (e.trans (Ex.new hp)) h), rfl, ?_⟩⟩
  have e1 : (decide (V.int (c : Int) = V.int ((intsV l).length : Int))) = decide l.Nodup := by
    rw [dec_int, Bool.beq_eq_decide_eq]
    have : (intsV l).length = l.length := List.length_map ..
    rw [this, Bool.eq_iff_iff, decide_eq_true_eq, decide_eq_true_eq, ← hn]
    omega
  rw [e1]
  exact q _ (Ex.new hp)
theorem rd_are_languages (vs : List V) (H : Hp) (Q : VK) (E : XK) (h : sp_are_languages K ad vs H Q E) : t_are_languages w K ad { nx := fun _ H' => Q .non H', rt := Q } (start N_are_languages vs) H := by
  obtain ⟨a, l, rfl, hq, hl, k⟩ := h
  refine s_ret (v := .bl (areLangs l)) ?_ k
  refine ev_andV (ev_lenSet rfl hq hl) fun _ => ?_
  have c := el_comp (K := K) (σ := start N_are_languages [.ref a]) (H := H) (g := gName 1) (te := tVar 1) (g0 := V.int) (vs := [1]) (l := l) (t := (tNot (tB (tCallF (sp_within K ad) (tCons (tVar 1) (tCons (tC (.int 0)) (tCons (tC (.int 7)) tNil)))))))
    (fun x => [some (.ref a), some (.int x)]) (fun x => !Kg75.within x 0 7) V.int (srcOf (ev_var (i := 0) rfl) hq) (by omega) (fun x _ H1 _ Q q => q) (fun x _ => rfl) (fun x _ H1 _ => et_not (et_val (ev_callF (ea_cons (ev_var rfl) (ea_cons ev_c (ea_cons ev_c ea_nil))) sv_within))) (fun x _ _ H1 _ => ev_var rfl)
  refine ev_is (ev_opLL c el_nil fun q r H1 hq hr e => rv_eqNil (sq_of hq) (sq_of hr)) ?_
  rw [filter_nil_all]
theorem rd_is_guest_told (vs : List V) (H : Hp) (Q : VK) (E : XK) (h : sp_is_guest_told K ad vs H Q E) : t_is_guest_told w K ad { nx := fun _ H' => Q .non H', rt := Q } (start N_is_guest_told vs) H := by
  obtain ⟨aw, al, r, d, c, x, z, l, rfl, hw, hl, hz, k⟩ := h
  refine ⟨.ref aw, rfl, aw, _, rfl, hw, rfl, _, _, rfl, _, _, rfl, _, _, rfl, _, _, rfl, _, _, rfl, rfl, ?_⟩
  have w3 : ∀ (i : Nat) (y lo hi : Int) (H1 : Hp), (start N_is_guest_told [.ref aw, .ref al] |>.set 2 (some (.int r)) |>.set 3 (some (.int d)) |>.set 4 (some (.int c)) |>.set 5 (some (.int x)) |>.set 6 (some (.int z)))[i]? = some (some (.int y)) →
      EvT (tNot (tB (tCallF (sp_within K ad) (tCons (tVar i) (tCons (tC (.int lo)) (tCons (tC (.int hi)) tNil)))))) (start N_is_guest_told [.ref aw, .ref al] |>.set 2 (some (.int r)) |>.set 3 (some (.int d)) |>.set 4 (some (.int c)) |>.set 5 (some (.int x)) |>.set 6 (some (.int z))) H1 (!Kg75.within y lo hi) :=
    fun i y lo hi H1 hy => et_not (et_val (ev_callF (ea_cons (ev_var hy) (ea_cons ev_c (ea_cons ev_c ea_nil))) sv_within))
  refine q_when (et_or (w3 2 r 0 10 H rfl) fun _ => et_or (w3 3 d 0 100000 H rfl) fun _ => w3 4 c 0 30 H rfl) (fun hb H2 e2 => ?_) fun hb H2 e2 => ?_
  · refine s_ret ev_c fun H3 e3 => ?_
    have := k H3 (e2.trans e3)
    have f : guestTold r d c x z l = false := by
      unfold guestTold
      revert hb
      cases Kg75.within r 0 10 <;> cases Kg75.within d 0 100000 <;> cases Kg75.within c 0 30 <;> simp
    rw [f] at this
    exact this
  · refine s_ret (v := .bl (guestTold r d c x z l)) ?_ fun H3 e3 => k H3 (e2.trans e3)
    have f : guestTold r d c x z l = (Kg75.within x 0 1 && (Kg75.within z (-1) 99 && areLangs l)) := by
      unfold guestTold
      revert hb
      cases Kg75.within r 0 10 <;> cases Kg75.within d 0 100000 <;> cases Kg75.within c 0 30 <;> simp
    rw [f]
    have in2 : inV (.int x) [.int 0, .int 1] = Kg75.within x 0 1 := by
      unfold Kg75.within
      rw [Bool.eq_iff_iff]
      show ((([V.int 0, V.int 1] : List V).any fun y => eqV y (.int x)) = true) ↔ _
      simp only [List.any_cons, List.any_nil, eqV, Bool.or_false, Bool.or_eq_true, Bool.and_eq_true, decide_eq_true_eq, beq_iff_eq]
      omega
    refine ev_andV (ev_is (ev_inU (ev_var rfl) (eu_tup (ea_cons ev_c (ea_cons ev_c ea_nil)) (by show 2 ≤ 100000; decide)) rfl rfl) (congrArg V.bl in2)) fun _ => ?_
    refine ev_andV (ev_callF (ea_cons (ev_var rfl) (ea_cons ev_c (ea_cons ev_c ea_nil))) sv_within) fun _ => ?_
    exact ev_callF (ea_cons (ev_var rfl) ea_nil) (sv_are_languages (ex_l e2 hl) hz)
end
end FsR
namespace FsR
open PySem PySem.Spec PyProof.Rows L2 Evl
open Fs (compI WF)
section
variable {K : PySem.W.Frag} {mg : Str → Option Value} {ad : Ad} {w : World} {σ : L2.St} {H : Hp} {ta tb te : TE} {a : Addr} {s : Kg75.State} {p : Parts} {r : R2} {y z : V}
theorem ev_opU1 {xs : List V} (ha : EvU ta σ H xs) (hb : ∀ H1, Ex H H1 → Ev tb σ H1 y) (hr : ∀ p H1, H1 p = some (.tup xs) → Ex H H1 → RV r (.ref p) y H1 z) : Ev (tOp r ta tb) σ H z := fun H1 e Q q =>
  ha H1 e _ fun p H2 _ e2 h2 => hb H2 (e.trans e2) H2 (Ex.refl _) _ fun H3 e3 => hr p H3 (e3 _ _ h2) ((e.trans e2).trans e3) H3 (Ex.refl _) _ fun H4 e4 => q H4 ((e2.trans e3).trans e4)
theorem dec_b2 (b : Bool) : decide (V.int (b2 b) = V.int 1) = b := by cases b <;> rfl
theorem dec_b20 (b : Bool) : decide (V.int (b2 b) = V.int 0) = !b := by cases b <;> rfl
theorem dec_nat (i j : Nat) : decide (V.int (i : Int) = V.int (j : Int)) = decide (i = j) := by
  rw [dec_int, Bool.beq_eq_decide_eq, Bool.eq_iff_iff, decide_eq_true_eq, decide_eq_true_eq]; omega
theorem dec_comp (o : Option Nat) (j : Nat) : decide (V.int (compI o) = V.int (j : Int)) = decide (o = some j) := by
  cases o with
  | none =>
    have : ¬ (V.int (compI none) = V.int (j : Int)) := fun h => by
      injection h with h
      have h : (-1 : Int) = j := h
      omega
    rw [decide_eq_false this]; rfl
  | some i =>
    have e := dec_nat i j
    show decide (V.int (i : Int) = V.int (j : Int)) = _
    rw [e, Bool.eq_iff_iff, decide_eq_true_eq, decide_eq_true_eq]
    exact ⟨fun h => by rw [h], fun h => Option.some.inj h⟩
theorem min_cast (i j : Nat) : (if (j : Int) < (i : Int) then (j : Int) else (i : Int)) = ((min i j : Nat) : Int) := by
  split <;> omega
theorem max_cast (i j : Nat) : (if (j : Int) > (i : Int) then (j : Int) else (i : Int)) = ((max i j : Nat) : Int) := by
  split <;> omega
/-- (min(i, j), max(i, j)) in house.apart -/
theorem ev_inApart (T : Txt K mg ad) (hp : HouseP ad.G ad.H H a s p) {k1 k2 : Nat} {i j : Nat} (h1 : σ[k1]? = some (some (.int (i : Int)))) (h2 : σ[k2]? = some (some (.int (j : Int)))) (h : Ev ta σ H (.ref a)) :
    Ev (tOp (rInD K) (tTup (tCons (tCB rMin2 (tCons (tVar k1) (tCons (tVar k2) tNil))) (tCons (tCB rMax2 (tCons (tVar k1) (tCons (tVar k2) tNil))) tNil))) (tFld K ta "apart")) σ H
      (.bl (s.apart.any fun x => decide (min x.1 x.2 = min i j) && decide (max x.1 x.2 = max i j))) := by
  obtain ⟨ts, q1, q2⟩ := hp.oa
  refine ev_opU1 (xs := [.int ((min i j : Nat) : Int), .int ((max i j : Nat) : Int)]) (eu_tup (ea_cons (ev_is (ev_min2 (ev_var h1) (ev_var h2)) (congrArg V.int (min_cast i j))) (ea_cons (ev_is (ev_max2 (ev_var h1) (ev_var h2)) (congrArg V.int (max_cast i j))) ea_nil)) (by show 2 ≤ 100000; decide))
    (fun H1 e => (ev_hapart T (hp.ex e) (h.mono e))) fun t H1 ht e => ?_
  have c := rv_inD (K := K) (H := H1) (x := .ref t) (y := .ref p.la) (d := prd ((min i j : Nat), (max i j : Nat))) (ds := (apartI s).map prd) (.tup (st_of ht) (.cons (.int _) (.cons (.int _) .nil))) (.lst (sq_of (e _ _ q1)) (PairsAt.dp (q2.ex (Ex.trans ex_off e)))) (prd_shaped _) (prds_shaped _)
  have eq : (((apartI s).map prd).any fun z => PyData.eqv z (prd (((min i j : Nat) : Int), ((max i j : Nat) : Int)))) = s.apart.any fun x => decide (min x.1 x.2 = min i j) && decide (max x.1 x.2 = max i j) := by
    unfold apartI
    rw [List.any_map, List.any_map]
    refine Fs.any_congr_mem fun x _ => ?_
    show PyData.eqv (prd _) (prd _) = _
    rw [prd_eqv, Bool.eq_iff_iff, decide_eq_true_eq, Bool.and_eq_true, decide_eq_true_eq, decide_eq_true_eq, Prod.mk.injEq]
    omega
  rw [eq] at c
  exact c
theorem rd_may_not (T : Txt K mg ad) (vs : List V) (H : Hp) (Q : VK) (E : XK) (h : sp_may_not K ad vs H Q E) : t_may_not w K ad { nx := fun _ H' => Q .non H', rt := Q } (start N_may_not vs) H := by
  obtain ⟨a, s, i, j, rfl, ⟨p, hp⟩, hi, hj, k⟩ := h
  obtain ⟨ga, e1, g1⟩ := ev_guest T hp (ta := tVar 0) (σ := start N_may_not [.ref a, .int i, .int j]) (ev_var rfl) (i := i) hi (ev_var (i := 1) rfl)
  refine q_asg e1 fun H1 x1 => ?_
  obtain ⟨gb, e2, g2⟩ := ev_guest T (hp.ex x1) (ta := tVar 0) (σ := (start N_may_not [.ref a, .int i, .int j]).set 3 (some (.ref ga))) (ev_var rfl) (i := j) hj (ev_var (i := 2) rfl)
  refine q_asg e2 fun H2 x2 => ?_
  have y2 := x1.trans x2
  have fin : ∀ {H'}, Ex H H' → ∀ b : Bool, b = Fs.mayNot s i j → ∀ H'', Ex H' H'' → Q (.bl b) H'' := fun e b hb H'' e' => by rw [hb]; exact k H'' (e.trans e')
  refine q_when (et_test (ev_inApart T (hp.ex y2) rfl rfl (ev_var (i := 0) rfl))) (fun hb H3 x3 => ?_) fun hb H3 x3 => ?_
  · refine s_ret ev_c (fin (y2.trans x3) true ?_)
    unfold Fs.mayNot; rw [hb]; rfl
  have y3 := y2.trans x3
  refine q_when (et_and (et_test (ev_is (ev_op (ev_rule T (hp.ex y3) (ev_var (i := 0) rfl) (i := 0) rfl) ev_c (rv_eq rfl)) (congrArg V.bl (dec_b2 s.rules.together)))) fun _ => et_test (ev_is (ev_op (ev_gcompanion T (g1.ex y3) (ev_var (i := 3) rfl)) (ev_var (i := 2) rfl) (rv_eq rfl)) (congrArg V.bl (dec_comp _ j)))) (fun hc H4 x4 => ?_) fun hc H4 x4 => ?_
  · refine s_ret ev_c (fin (y3.trans x4) true ?_)
    unfold Fs.mayNot; rw [hb, hc]; rfl
  have y4 := y3.trans x4
  refine q_when (et_and (et_test (ev_is (ev_op (ev_rule T (hp.ex y4) (ev_var (i := 0) rfl) (i := 1) rfl) ev_c (rv_eq rfl)) (congrArg V.bl (dec_b2 s.rules.sexes)))) fun _ => et_test (ev_is (ev_op (ev_gsex T (g1.ex y4) (ev_var (i := 3) rfl)) (ev_gsex T (g2.ex ((x2.trans x3).trans x4)) (ev_var (i := 4) rfl)) (rv_eq rfl)) (congrArg V.bl (dec_nat _ _)))) (fun hd H5 x5 => ?_) fun hd H5 x5 => ?_
  · refine s_ret ev_c (fin (y4.trans x5) true ?_)
    unfold Fs.mayNot; rw [hb, hc, hd]; rfl
  have y5 := y4.trans x5
  refine s_ret (ev_andV (ev_is (ev_op (ev_rule T (hp.ex y5) (ev_var (i := 0) rfl) (i := 2) rfl) ev_c (rv_eq rfl)) (congrArg V.bl (dec_b2 s.rules.countries))) fun _ => ev_is (ev_op (ev_gcountry T (g1.ex y5) (ev_var (i := 3) rfl)) (ev_gcountry T (g2.ex (((x2.trans x3).trans x4).trans x5)) (ev_var (i := 4) rfl)) (rv_eq rfl)) (congrArg V.bl (dec_nat _ _))) (fin y5 _ ?_)
  unfold Fs.mayNot; rw [hb, hc, hd]; rfl
theorem sv_may_not {i j : Nat} (h : HouseAt ad.G ad.H H a s) (hi : i < s.guests.length) (hj : j < s.guests.length) : SpV (sp_may_not K ad) [.ref a, .int i, .int j] H (.bl (Fs.mayNot s i j)) := fun H1 e Q q E => ⟨a, s, i, j, rfl, h.ex e, hi, hj, q⟩
/-! ### sharing -/
theorem inV_nats (x : Nat) (l : List Nat) : inV (.int (x : Int)) (natsV l) = l.contains x := by
  unfold inV natsV
  rw [List.any_map, List.contains_eq_any_beq]
  refine Fs.any_congr_mem fun y _ => ?_
  show eqV (.int (y : Int)) (.int (x : Int)) = _
  unfold eqV
  rw [Bool.eq_iff_iff, beq_iff_eq, beq_iff_eq]
  omega
theorem flat_nats (l : List Nat) : (natsV l).all flatV = true := by
  unfold natsV
  rw [List.all_map]
  exact List.all_eq_true.mpr fun x _ => rfl
theorem flat_ints (l : List Int) : (intsV l).all flatV = true := by
  unfold intsV
  rw [List.all_map]
  exact List.all_eq_true.mpr fun x _ => rfl
theorem nats_ints (l : List Nat) : natsV l = intsV (l.map fun (n : Nat) => (n : Int)) := by
  unfold natsV intsV
  rw [List.map_map]; rfl
theorem not_nil_any {α : Type} {f : α → Bool} (l : List α) : (!decide ((l.filter f) = [])) = l.any f := by
  rw [Bool.eq_iff_iff]
  simp only [Bool.not_eq_true', decide_eq_false_iff_not, List.any_eq_true]
  rw [List.filter_eq_nil_iff]
  constructor
  · intro h
    exact Classical.byContradiction fun q => h fun x hx hf => q ⟨x, hx, hf⟩
  · rintro ⟨x, hx, hf⟩ h
    exact h x hx hf
theorem rd_do_share (T : Txt K mg ad) (vs : List V) (H : Hp) (Q : VK) (E : XK) (h : sp_do_share K ad vs H Q E) : t_do_share w K ad { nx := fun _ H' => Q .non H', rt := Q } (start N_do_share vs) H := by
  obtain ⟨a, s, i, j, rfl, ⟨p, hp⟩, W, hi, hj, k⟩ := h
  obtain ⟨ga, e1, g1⟩ := ev_guest T hp (ta := tVar 0) (σ := start N_do_share [.ref a, .int i, .int j]) (ev_var rfl) (i := i) hi (ev_var (i := 1) rfl)
  obtain ⟨l1, e2, q2⟩ := ev_glanguages T g1 e1
  refine s_ret (v := .bl (s.share i j)) ?_ k
  have c := el_comp (K := K) (σ := start N_do_share [.ref a, .int i, .int j]) (H := H) (g := gName 3) (te := tVar 3) (g0 := fun (n : Nat) => V.int (n : Int)) (vs := [3]) (l := (s.guest i).speaks) (t := (tTest (tOp (rIn K false) (tVar 3) (tFld K (tOp (rIxL K) (tFld K (tVar 0) "guests") (tVar 2)) "languages"))))
    (fun x => [some (.ref a), some (.int i), some (.int j), some (.int (x : Int))]) (fun x => (s.guest j).speaks.contains x) (fun (n : Nat) => V.int (n : Int)) (srcOf e2 (sq_of q2)) (by have := W.speaks _ (Fs.guest_mem hi); omega) (fun x _ H1 _ Q q => q) (fun x _ => rfl) (fun x _ H1 e => ?_) (fun x _ _ H1 _ => ev_var rfl)
  · refine ev_is (v := .bl (!decide (((s.guest i).speaks.filter fun x => (s.guest j).speaks.contains x) = []))) (ev_opLL c el_nil fun q r H1 hq hr e => ?_) ?_
    · have hq' : SqL K H1 q (intsV ((((s.guest i).speaks.filter fun x => (s.guest j).speaks.contains x)).map fun (n : Nat) => (n : Int))) := by
        rw [← nats_ints]; exact sq_of hq
      have c := rv_neNil hq' (sq_of hr)
      simp only [List.map_eq_nil_iff] at c
      exact c
    · rw [not_nil_any]; rfl
  · have hp := hp.ex e
    obtain ⟨gb, e3, g3⟩ := ev_guest T hp (ta := tVar 0) (σ := [some (.ref a), some (.int i), some (.int j), some (.int (x : Int))]) (ev_var rfl) (i := j) hj (ev_var (i := 2) rfl)
    obtain ⟨l2, e4, q4⟩ := ev_glanguages T g3 e3
    exact et_test (ev_is (ev_op (ev_var rfl) e4 (rv_isL (sq_of q4) rfl (flat_nats _))) (congrArg V.bl (inV_nats _ _)))
theorem sv_do_share {i j : Nat} (h : HouseAt ad.G ad.H H a s) (W : WF s) (hi : i < s.guests.length) (hj : j < s.guests.length) : SpV (sp_do_share K ad) [.ref a, .int i, .int j] H (.bl (s.share i j)) := fun H1 e Q q E => ⟨a, s, i, j, rfl, h.ex e, W, hi, hj, q⟩
/-! ### neighbours -/
theorem rd_right_of (vs : List V) (H : Hp) (Q : VK) (E : XK) (h : sp_right_of K ad vs H Q E) : t_right_of w K ad { nx := fun _ H' => Q .non H', rt := Q } (start N_right_of vs) H := by
  obtain ⟨l, xs, i, v, rfl, hq, hi, hv, k⟩ := h
  refine s_ret (ev_op (ev_var rfl) (ev_op (ev_op (ev_var rfl) ev_c rv_I0) (ev_len (ev_var rfl) hq) (rv_I (by omega))) (rv_ixL hq ?_)) k
  have e : (((i : Int) + 1) % (xs.length : Int)) = ((Fs.nbR xs.length i : Nat) : Int) := by
    unfold Fs.nbR
    rw [Int.natCast_emod]; rfl
  rw [e]
  exact atI_nat hv
theorem atI_neg1 {α : Type} {xs : List α} {v : α} (h : xs[xs.length - 1]? = some v) : atI xs (-1) = some v := by
  have hl : 0 < xs.length := by
    obtain ⟨h1, _⟩ := List.getElem?_eq_some_iff.mp h
    omega
  unfold atI ixN
  rw [if_neg (by omega), if_pos (by omega)]
  show xs[((-1 : Int) + xs.length).toNat]? = some v
  rw [show ((-1 : Int) + xs.length).toNat = xs.length - 1 by omega]
  exact h
theorem rd_left_of (vs : List V) (H : Hp) (Q : VK) (E : XK) (h : sp_left_of K ad vs H Q E) : t_left_of w K ad { nx := fun _ H' => Q .non H', rt := Q } (start N_left_of vs) H := by
  obtain ⟨l, xs, i, v, rfl, hq, hi, hv, k⟩ := h
  refine s_ret (ev_op (ev_var rfl) (ev_op (ev_var rfl) ev_c rv_I0) (rv_ixL hq ?_)) k
  unfold Fs.nbL at hv
  cases i with
  | zero =>
    rw [Nat.mod_eq_of_lt (by omega), show 0 + xs.length - 1 = xs.length - 1 by omega] at hv
    exact atI_neg1 hv
  | succ i =>
    rw [show i + 1 + xs.length - 1 = i + xs.length by omega, Nat.add_mod_right, Nat.mod_eq_of_lt (by omega)] at hv
    rw [show ((i + 1 : Nat) : Int) - 1 = (i : Int) by omega]
    exact atI_nat hv
theorem sv_right_of {l : Addr} {xs : List V} {k : Nat} {v : V} (h : SqL K H l xs) (hk : k < xs.length) (hv : xs[Fs.nbR xs.length k]? = some v) : SpV (sp_right_of K ad) [.ref l, .int k] H v := fun H1 e Q q E => ⟨l, xs, k, v, rfl, ex_l e h, hk, hv, q⟩
theorem sv_left_of {l : Addr} {xs : List V} {k : Nat} {v : V} (h : SqL K H l xs) (hk : k < xs.length) (hv : xs[Fs.nbL xs.length k]? = some v) : SpV (sp_left_of K ad) [.ref l, .int k] H v := fun H1 e Q q E => ⟨l, xs, k, v, rfl, ex_l e h, hk, hv, q⟩
theorem nats_at {sit : List Nat} {k : Nat} (h : k < sit.length) : (natsV sit)[k]? = some (.int (Fs.gAt sit k : Int)) := by
  unfold natsV Fs.gAt
  rw [List.getElem?_map, List.getElem?_eq_getElem h, List.getD_eq_getElem?_getD, List.getElem?_eq_getElem h]; rfl
theorem nats_len (l : List Nat) : (natsV l).length = l.length := List.length_map ..
theorem rd_is_lonely (vs : List V) (H : Hp) (Q : VK) (E : XK) (h : sp_is_lonely K ad vs H Q E) : t_is_lonely w K ad { nx := fun _ H' => Q .non H', rt := Q } (start N_is_lonely vs) H := by
  obtain ⟨a, l, s, sit, i, rfl, hh, W, hq, hg, hi, k⟩ := h
  have gl : ∀ j, j < sit.length → Fs.gAt sit j < s.guests.length := fun j hj => by
    unfold Fs.gAt
    rw [List.getD_eq_getElem?_getD, List.getElem?_eq_getElem hj]
    exact hg _ (List.getElem_mem hj)
  have hL := Fs.nbL_lt hi
  have hR := Fs.nbR_lt hi
  refine q_asg (ev_op (ev_var rfl) (ev_var rfl) (rv_ixL hq (atI_nat (nats_at hi)))) fun H1 e => ?_
  have hq := ex_l e hq
  have hh := hh.ex e
  refine s_ret (ev_andV (ev_notV (ev_callF (ea_cons (ev_var rfl) (ea_cons (ev_var rfl) (ea_cons (ev_callF (ea_cons (ev_var rfl) (ea_cons (ev_var rfl) ea_nil)) (sv_left_of hq (by rw [nats_len]; exact hi) (by rw [nats_len]; exact nats_at hL))) ea_nil))) (sv_do_share hh W (gl _ hi) (gl _ hL))))
    fun _ => ev_notV (ev_callF (ea_cons (ev_var rfl) (ea_cons (ev_var rfl) (ea_cons (ev_callF (ea_cons (ev_var rfl) (ea_cons (ev_var rfl) ea_nil)) (sv_right_of hq (by rw [nats_len]; exact hi) (by rw [nats_len]; exact nats_at hR))) ea_nil))) (sv_do_share hh W (gl _ hi) (gl _ hR)))) fun H2 e2 => k H2 (e.trans e2)
theorem sv_is_lonely {l : Addr} {sit : List Nat} {k : Nat} (h : HouseAt ad.G ad.H H a s) (W : WF s) (hq : SqL K H l (natsV sit)) (hg : ∀ g ∈ sit, g < s.guests.length) (hk : k < sit.length) : SpV (sp_is_lonely K ad) [.ref a, .ref l, .int k] H (.bl (!s.share (Fs.gAt sit k) (Fs.gAt sit (Fs.nbL sit.length k)) && !s.share (Fs.gAt sit k) (Fs.gAt sit (Fs.nbR sit.length k)))) :=
  fun H1 e Q q E => ⟨a, l, s, sit, k, rfl, h.ex e, W, ex_l e hq, hg, hk, q⟩
theorem rd_told (vs : List V) (H : Hp) (Q : VK) (E : XK) (h : sp_told K ad vs H Q E) : t_told w K ad { nx := fun _ H' => Q .non H', rt := Q } (start N_told vs) H := by
  obtain ⟨l, xs, rfl, hq, hz, k⟩ := h
  refine s_retL (el_catLL (xs := [.int xs.length]) (zs := xs) (el_lst (ea_cons (ev_len (ev_var rfl) hq) ea_nil) (by show 1 ≤ 100000; decide)) (fun H1 e => el_list (ev_var rfl) (ex_l e hq)) (by show 1 + xs.length ≤ 100000; omega)) k
theorem sl_told {l : Addr} {xs : List V} (h : SqL K H l xs) (hz : xs.length ≤ 50000) : SpL (sp_told K ad) [.ref l] H (.int xs.length :: xs) := fun H1 e Q q E => ⟨l, xs, rfl, ex_l e h, hz, q⟩
end
end FsR
namespace FsR
open PySem PySem.Spec PyProof.Rows L2 Evl
open Fs (compI WF)
section
variable {K : PySem.W.Frag} {mg : Str → Option Value} {ad : Ad} {w : World} {σ : L2.St} {H : Hp} {ta tb te : TE} {a : Addr} {s : Kg75.State} {p : Parts}
theorem PairsAt.updL {ts : List Addr} {ps : List (Int × Int)} {l : Addr} {xs ys : List V} (h : PairsAt H ts ps) (hl : H l = some (.lst xs)) : PairsAt (upd H l (.lst ys)) ts ps := ⟨h.1, fun i t z a b => by
  have := h.2 i t z a b
  rw [upd_ne (ne_of this hl (by intro q; cases q))]; exact this⟩
theorem PairsAt.append {ts ts' : List Addr} {ps ps' : List (Int × Int)} (h : PairsAt H ts ps) (h' : PairsAt H ts' ps') : PairsAt H (ts ++ ts') (ps ++ ps') := by
  refine ⟨by simp [h.1, h'.1], fun i t z a b => ?_⟩
  by_cases hi : i < ts.length
  · rw [List.getElem?_append_left hi] at a
    rw [List.getElem?_append_left (by rw [← h.1]; exact hi)] at b
    exact h.2 i t z a b
  · have hi : ts.length ≤ i := Nat.le_of_not_lt hi
    rw [List.getElem?_append_right hi] at a
    rw [List.getElem?_append_right (by rw [← h.1]; exact hi), ← h.1] at b
    exact h'.2 _ t z a b
/-- new pairs, one an item -/
def RPair {α : Type} (f : α → Int × Int) (x : α) (v : V) (H : Hp) : Prop := ∃ t, v = .ref t ∧ H t = some (.tup [.int (f x).1, .int (f x).2])
theorem AllR.pairs {α : Type} {f : α → Int × Int} : ∀ {l : List α} {vs : List V}, AllR (RPair f) H l vs → ∃ ts, vs = ts.map V.ref ∧ PairsAt H ts (l.map f)
  | [], [], _ => ⟨[], rfl, .nil⟩
  | [], v :: vs, h => by have := h.1; simp at this
  | x :: l, [], h => by have := h.1; simp at this
  | x :: l, v :: vs, h => by
    obtain ⟨t, rfl, ht⟩ := h.2 0 x v rfl rfl
    obtain ⟨ts, rfl, q⟩ := AllR.pairs (l := l) (vs := vs) ⟨by have := h.1; simpa using this, fun i y u a b => h.2 (i + 1) y u (by simpa using a) (by simpa using b)⟩
    refine ⟨t :: ts, rfl, by simp [q.1], fun i t' z a b => ?_⟩
    cases i with
    | zero => simp at a b; subst a b; exact ht
    | succ i => exact q.2 i t' z (by simpa using a) (by simpa using b)
theorem take_range (n i : Nat) (h : i < n) : (List.range n)[i]? = some i := List.getElem?_range h
theorem rd_breaks_of (T : Txt K mg ad) (vs : List V) (H : Hp) (Q : VK) (E : XK) (h : sp_breaks_of K ad vs H Q E) : t_breaks_of w K ad { nx := fun _ H' => Q .non H', rt := Q } (start N_breaks_of vs) H := by
  obtain ⟨a, l, s, sit, rfl, ⟨p, hp⟩, W, hq, hg, hl, k⟩ := h
  have n9 := W.len
  have gl : ∀ j, j < sit.length → Fs.gAt sit j < s.guests.length := fun j hj => by
    unfold Fs.gAt
    rw [List.getD_eq_getElem?_getD, List.getElem?_eq_getElem hj]
    exact hg _ (List.getElem_mem hj)
  have e1 : EvL (tLstRg (tRg1 (tCB (rLenS K) (tCons (tVar 1) tNil)))) (start N_breaks_of [.ref a, .ref l]) H ((List.range sit.length).map fun (i : Nat) => V.int (i : Int)) :=
    el_range (by have := ev_len (K := K) (ev_var (i := 1) (σ := start N_breaks_of [.ref a, .ref l]) rfl) hq; rw [nats_len] at this; exact this) (by omega)
  refine q_asgL e1 fun ls H1 nls x1 hls => ?_
  refine q_asgL el_nil fun lf H2 nlf x2 hlf => ?_
  -- the loop
  let f : Nat → Int × Int := fun k => ((Fs.gAt sit k : Int), (Fs.gAt sit (Fs.nbR sit.length k) : Int))
  let pr : Nat → Bool := fun k => Fs.mayNot s (Fs.gAt sit k) (Fs.gAt sit (Fs.nbR sit.length k))
  have nx : ∀ (H' : Hp) (σ0 : L2.St) (i : Nat), Ex H H' → i < sit.length → σ0[0]? = some (some (.ref a)) → σ0[1]? = some (some (.ref l)) → σ0[4]? = some (some (.int (i : Int))) →
      Ev (tOp (rIxL K) (tVar 1) (tVar 4)) σ0 H' (.int (Fs.gAt sit i : Int)) ∧ Ev (tCallF (sp_right_of K ad) (tCons (tVar 1) (tCons (tVar 4) tNil))) σ0 H' (.int (Fs.gAt sit (Fs.nbR sit.length i) : Int)) := fun H' σ0 i e hi h0 h1 h4 =>
    ⟨ev_op (ev_var h1) (ev_var h4) (rv_ixL (ex_l e hq) (atI_nat (nats_at hi))), ev_callF (ea_cons (ev_var h1) (ea_cons (ev_var h4) ea_nil)) (sv_right_of (ex_l e hq) (by rw [nats_len]; exact hi) (by rw [nats_len]; exact nats_at (Fs.nbR_lt hi)))⟩
  refine q_forLn (xs := (List.range sit.length).map fun (i : Nat) => V.int (i : Int)) (ev_var (i := 2) rfl) (sq_of (x2 _ _ hls))
    (fun i σ' H' => ∃ v, σ' = [some (.ref a), some (.ref l), some (.ref ls), some (.ref lf), v] ∧ Ex H1 H' ∧ ∃ ts, H' lf = some (.lst (ts.map V.ref)) ∧ PairsAt H' ts (((List.range i).filter pr).map f) ∧ ts.length ≤ i)
    (fun H3 x3 => ⟨none, rfl, x2.trans x3, [], x3 _ _ hlf, .nil, Nat.le_refl _⟩) (fun i σ' H' _ ⟨v, _, e, _⟩ => sq_of (e _ _ hls)) ?_ ?_
  · rintro i x σ' H' hi ⟨v, rfl, e, ts, q1, q2, q3⟩
    rw [List.getElem?_map] at hi
    obtain ⟨i', hi', rfl⟩ := Option.map_eq_some_iff.mp hi
    have hin : i < sit.length := by
      have := (List.getElem?_eq_some_iff.mp hi').1
      simpa using this
    rw [take_range _ _ hin] at hi'
    obtain rfl : i = i' := Option.some.inj hi'
    have y := x1.trans e
    obtain ⟨n1, n2⟩ := nx H' [some (.ref a), some (.ref l), some (.ref ls), some (.ref lf), some (.int (i : Int))] i y hin rfl rfl rfl
    refine s_when (b := pr i) (et_val (ev_callF (ea_cons (ev_var (i := 0) rfl) (ea_cons n1 (ea_cons n2 ea_nil))) (sv_may_not ⟨p, hp.ex y⟩ (gl _ hin) (gl _ (Fs.nbR_lt hin))))) (fun hb H3 x3 => ?_) fun hb H3 x3 => ?_
    · obtain ⟨n1, n2⟩ := nx H3 [some (.ref a), some (.ref l), some (.ref ls), some (.ref lf), some (.int (i : Int))] i (y.trans x3) hin rfl rfl rfl
      refine s_appU (x3 _ _ q1) (ev_var (i := 3) rfl) (eu_tup (ea_cons n1 (ea_cons n2 ea_nil)) (by show 2 ≤ 100000; decide)) (by rw [List.length_map]; omega) fun t H4 nt x4 ht => ?_
      have nlt : Ex H1 (upd H4 lf (.lst (ts.map V.ref ++ [.ref t]))) := Ex.mut ((e.trans x3).trans x4) nlf
      refine ⟨_, rfl, nlt, ts ++ [t], by rw [upd_same, List.map_append]; rfl, ?_, by rw [List.length_append]; show ts.length + 1 ≤ i + 1; omega⟩
      rw [List.range_succ, List.filter_append, List.filter_cons_of_pos hb, List.filter_nil, List.map_append]
      exact ((q2.ex (x3.trans x4)).snoc (z := f i) ht).updL (x4 _ _ (x3 _ _ q1))
    · refine ⟨_, rfl, e.trans x3, ts, x3 _ _ q1, ?_, by omega⟩
      rw [List.range_succ, List.filter_append, List.filter_cons_of_neg (by rw [hb]; decide), List.filter_nil, List.append_nil]
      exact q2.ex x3
  · rintro σ' H' ⟨v, rfl, e, ts, q1, q2, q3⟩
    rw [List.length_map, List.length_range] at q2 q3
    have y := x1.trans e
    have hp' := hp.ex y
    refine q_when (et_test (ev_is (ev_op (ev_rule T hp' (ev_var (i := 0) rfl) (i := 3) rfl) ev_c (rv_eq rfl)) (congrArg V.bl (dec_b2 s.rules.languages)))) (fun hb H3 x3 => ?_) fun hb H3 x3 => ?_
    · refine ⟨.ref lf, rfl, Or.inl ⟨rfl, _, Or.inl (Or.inl (x3 _ _ q1))⟩, ?_⟩
      have y3 := y.trans x3
      refine eh_comp (K := K) (R := RPair fun k => ((Fs.gAt sit k : Int), (Fs.gAt sit k : Int))) (l := List.range sit.length) (g0 := fun (i : Nat) => V.int (i : Int)) (g := gName 4) (vs := [4]) (σ := [some (.ref a), some (.ref l), some (.ref ls), some (.ref lf), v]) (H := H3)
        (fun i => [some (.ref a), some (.ref l), some (.ref ls), some (.ref lf), some (.int (i : Int))]) (fun k => !s.share (Fs.gAt sit k) (Fs.gAt sit (Fs.nbL sit.length k)) && !s.share (Fs.gAt sit k) (Fs.gAt sit (Fs.nbR sit.length k)))
        (fun x v H H' e r => let ⟨t, r1, r2⟩ := r; ⟨t, r1, e _ _ r2⟩) (srcOf (ev_var (i := 2) rfl) (sq_of ((e.trans x3) _ _ hls))) (by simp; omega) (fun x _ H1 _ Q q => q) (fun x _ => rfl)
        (fun x hx H4 x4 => et_val (ev_callF (ea_cons (ev_var (i := 0) rfl) (ea_cons (ev_var (i := 1) rfl) (ea_cons (ev_var (i := 4) rfl) ea_nil))) (sv_is_lonely ⟨p, hp.ex (y3.trans x4)⟩ W (ex_l (y3.trans x4) hq) hg (List.mem_range.mp hx)))) ?_ H3 (Ex.refl _) _ ?_
      · intro x hx _ H4 D x4 hD nD Q q
        obtain ⟨n1, _⟩ := nx H4 [some (.ref a), some (.ref l), some (.ref ls), some (.ref lf), some (.int (x : Int))] x (y3.trans x4) (List.mem_range.mp hx) rfl rfl rfl
        refine eu_tup (ea_cons n1 (ea_cons n1 ea_nil)) (by show 2 ≤ 100000; decide) H4 (Ex.refl _) _ fun t H5 nt x5 ht => q _ H5 x5 ⟨t, rfl, off_of ht ?_⟩
        intro m
        rw [List.mem_singleton.mp m] at nt
        exact nD nt
      · intro q H4 ys nq x4 hq4 r
        obtain ⟨ts2, rfl, r2⟩ := r.pairs
        have hlf4 := x4 _ _ (x3 _ _ q1)
        refine ⟨lf, q, _, _, rfl, rfl, hlf4, hq4, ?_, ?_⟩
        · have r1 := r2.1
          rw [List.length_map] at r1
          have := List.length_filter_le (fun k => !s.share (Fs.gAt sit k) (Fs.gAt sit (Fs.nbL sit.length k)) && !s.share (Fs.gAt sit k) (Fs.gAt sit (Fs.nbR sit.length k))) (List.range sit.length)
          rw [List.length_range] at this
          exact sz_of (by rw [List.length_map, List.length_map]; omega)
        · refine s_ret (ev_var (i := 3) rfl) fun H5 x5 => ?_
          have nlt : Ex H1 (upd H4 lf (.lst (ts.map V.ref ++ ts2.map V.ref))) := Ex.mut ((e.trans x3).trans x4) nlf
          refine k lf H5 (ts ++ ts2) (fresh_back x1 nlf) ((x1.trans nlt).trans x5) (by rw [x5 _ _ upd_same, List.map_append]) ?_
          have two := (q2.ex (x3.trans x4)).append (r2.ex ex_off)
          have two := (two.updL (ys := ts.map V.ref ++ ts2.map V.ref) hlf4).ex x5
          simp only [Fs.breaksM, pairI, if_pos hb, List.map_append, List.map_map]
          exact two
    · refine s_ret (ev_var (i := 3) rfl) fun H5 x5 => ?_
      refine k lf H5 ts (fresh_back x1 nlf) ((y.trans x3).trans x5) (x5 _ _ (x3 _ _ q1)) ?_
      have hb' : ¬ s.rules.languages = true := by rw [hb]; decide
      simp only [Fs.breaksM, pairI, if_neg hb', List.append_nil, List.map_map]
      exact q2.ex (x3.trans x5)
end
end FsR
namespace FsR
open PySem PySem.Spec PyProof.Rows L2 Evl
open Fs (compI WF)
section
variable {K : PySem.W.Frag} {mg : Str → Option Value} {ad : Ad} {w : World} {σ : L2.St} {H : Hp} {ta tb te : TE} {a : Addr} {s : Kg75.State} {p : Parts}
/-! ### the order -/
def ownI (s : Kg75.State) (i : Nat) : List Int := (Fs.ownL s i).map fun (n : Nat) => (n : Int)
theorem ownV_eq (s : Kg75.State) (i : Nat) : ownV s i = (ownI s i).map V.int := by unfold ownV ownI natsV; rw [List.map_map]; rfl
theorem code_less {B : Int} : ∀ {x y : List Nat}, x.length = y.length → TS.Bd B (x.map fun (n : Nat) => (n : Int)) → TS.Bd B (y.map fun (n : Nat) => (n : Int)) → Kg75.less x y = true → TS.code B (x.map fun (n : Nat) => (n : Int)) < TS.code B (y.map fun (n : Nat) => (n : Int))
  | [], [], _, _, _, h => by unfold Kg75.less at h; cases h
  | a :: x, b :: y, hl, h1, h2, h => by
    unfold Kg75.less at h
    simp only [Bool.or_eq_true, decide_eq_true_eq, Bool.and_eq_true, beq_iff_eq] at h
    have hl' : x.length = y.length := by simpa using hl
    rcases h with h | ⟨rfl, h⟩
    · exact TS.code_lt (by simp [hl']) h1.tail h2.tail (show (a : Int) < (b : Int) by omega)
    · exact (TS.code_same (by simp [hl'])).mpr (code_less hl' h1.tail h2.tail h)
theorem own_bd {s : Kg75.State} (W : WF s) {i : Nat} (hi : i < s.guests.length) : TS.Bd 1000000 (ownI s i) := by
  have g := Fs.guest_mem hi
  have h1 := W.rank _ g
  have h2 := W.since _ g
  have h3 := W.len
  intro m hm
  unfold ownI Fs.ownL at hm
  simp only [List.map_cons, List.map_nil, List.mem_cons, List.not_mem_nil, or_false] at hm
  rcases hm with rfl | rfl | rfl | rfl
  · omega
  · split <;> omega
  · omega
  · omega
def idxOf (H : Hp) (v : V) : Nat := match v with
  | .ref t => match H t with
    | some (.tup xs) => match (xs[3]? : Option V) with
      | some (V.int i) => i.toNat
      | _ => 0
    | _ => 0
  | _ => 0
theorem idxOf_own {t : Addr} {i : Nat} (h : H t = some (.tup (ownV s i))) : idxOf H (.ref t) = i := by
  unfold idxOf
  simp only [h]
  rfl
def RKey (s : Kg75.State) (i : Nat) (v : V) (H : Hp) : Prop := ∃ t, v = .ref t ∧ H t = some (.tup (ownV s i))
theorem AllR.idx : ∀ {l : List Nat} {vs : List V}, AllR (RKey s) H l vs → vs.map (idxOf H) = l
  | [], [], _ => rfl
  | [], v :: vs, h => by have := h.1; simp at this
  | x :: l, [], h => by have := h.1; simp at this
  | x :: l, v :: vs, h => by
    obtain ⟨t, rfl, ht⟩ := h.2 0 x v rfl rfl
    rw [List.map_cons, idxOf_own ht, AllR.idx (l := l) (vs := vs) ⟨by have := h.1; simpa using this, fun i y u a b => h.2 (i + 1) y u (by simpa using a) (by simpa using b)⟩]
theorem AllR.each : ∀ {l : List Nat} {vs : List V}, AllR (RKey s) H l vs → ∀ v ∈ vs, RKey s (idxOf H v) v H ∧ idxOf H v ∈ l := fun {l vs} h v hv => by
  obtain ⟨i, hi⟩ := List.getElem?_of_mem hv
  have hlt : i < l.length := by rw [← h.1]; exact (List.getElem?_eq_some_iff.mp hi).1
  obtain ⟨t, rfl, ht⟩ := h.2 i _ v (List.getElem?_eq_getElem hlt) hi
  rw [idxOf_own ht]
  exact ⟨⟨t, rfl, ht⟩, List.getElem_mem hlt⟩
theorem ne_comp (o : Option Nat) : (!decide (V.int (compI o) = V.int (-1))) = o.isSome := by
  rw [comp_none]
  cases o <;> rfl
theorem q_asgCB1 {r : List V → Hp → VK → Prop} {i : Nat} {tz : TS} {D : Ends} (h : te σ H (fun x H1 => r [x] H1 (fun v H2 => tz D (σ.set i (some v)) H2))) : tSeq (tAsg (tCB r (tCons te tNil)) (gName i)) tz D σ H := h
theorem rd_order_of (T : Txt K mg ad) (vs : List V) (H : Hp) (Q : VK) (E : XK) (h : sp_order_of K ad vs H Q E) : t_order_of w K ad { nx := fun _ H' => Q .non H', rt := Q } (start N_order_of vs) H := by
  obtain ⟨a, s, rfl, ⟨p, hp⟩, W, k⟩ := h
  have n9 := W.len
  refine q_asgL (el_range (ev_many T hp (ev_var (i := 0) rfl)) (by omega)) fun ls H1 nls x1 hls => ?_
  have hp1 := hp.ex x1
  -- the keys
  refine q_asgCB1 (eh_comp (K := K) (R := RKey s) (l := List.range s.guests.length) (g0 := fun (i : Nat) => V.int (i : Int)) (g := gName 6) (vs := [6]) (σ := [some (.ref a), some (.ref ls), none, none, none, none, none]) (H := H1)
    (fun i => [some (.ref a), some (.ref ls), none, none, none, none, some (.int (i : Int))]) (fun i => !Fs.follows s i) (fun x v H H' e r => let ⟨t, r1, r2⟩ := r; ⟨t, r1, e _ _ r2⟩) (srcOf (ev_var (i := 1) rfl) (sq_of hls)) (by simp; omega) (fun x _ H1 _ Q q => q) (fun x _ => rfl)
    (fun x hx H2 x2 => et_not (et_val (ev_callF (ea_cons (ev_var (i := 0) rfl) (ea_cons (ev_var (i := 6) rfl) ea_nil)) (sv_follows ⟨p, hp1.ex x2⟩ W (List.mem_range.mp hx))))) ?_ H1 (Ex.refl _) _ ?_)
  · intro x hx _ H2 D x2 hD nD Q q
    refine eu_callF (ea_cons (ev_var (i := 0) rfl) (ea_cons (ev_var (i := 6) rfl) ea_nil)) (su_key_of ⟨p, hp1.ex x2⟩ (List.mem_range.mp hx)) H2 (Ex.refl _) _ fun t H5 nt x5 ht => q _ H5 x5 ⟨t, rfl, off_of ht ?_⟩
    intro m
    rw [List.mem_singleton.mp m] at nt
    exact nD nt
  intro q H2 ys nq x2 hq r
  have r' : AllR (RKey s) H2 _ ys := r.ex (fun x v H H' e r => let ⟨t, r1, r2⟩ := r; ⟨t, r1, e _ _ r2⟩) ex_off
  have lenF : ((List.range s.guests.length).filter fun i => !Fs.follows s i).length ≤ 9 := by
    have := List.length_filter_le (fun i => !Fs.follows s i) (List.range s.guests.length)
    rw [List.length_range] at this
    omega
  have memF : ∀ v ∈ ys, idxOf H2 v < s.guests.length ∧ Fs.follows s (idxOf H2 v) = false := fun v hv => by
    have := (r'.each v hv).2
    rw [List.mem_filter, List.mem_range, Bool.not_eq_true'] at this
    exact this
  refine ⟨q, ys, rfl, sq_of hq, by rw [r'.1]; omega, fun v hv => ?_, fun zs lk hperm hpw nlk => ?_⟩
  · obtain ⟨⟨t, rfl, ht⟩, _⟩ := r'.each v hv
    exact ⟨ownI s _, ⟨t, rfl, by rw [← ownV_eq]; exact st_of ht⟩, by simp [ownI, Fs.ownL], own_bd W (memF _ hv).1⟩
  have kx : Ex H2 (upd H2 lk (.lst zs)) := Ex.new nlk
  have inz : ∀ v ∈ zs, RKey s (idxOf H2 v) v H2 ∧ idxOf H2 v < s.guests.length ∧ Fs.follows s (idxOf H2 v) = false := fun v hv => ⟨(r'.each v (hperm.mem_iff.mp hv)).1, memF v (hperm.mem_iff.mp hv)⟩
  -- the places in order
  have law : (zs.map (idxOf H2)).flatMap (Fs.block s) = s.order := by
    refine Fs.order_law W (fun x => ?_) ?_
    · have pm := hperm.map (idxOf H2)
      rw [r'.idx] at pm
      rw [pm.mem_iff, List.mem_filter, List.mem_range, Bool.not_eq_true']
    · rw [List.pairwise_map]
      have nd : (zs.map (idxOf H2)).Nodup := by
        have pm := hperm.map (idxOf H2)
        rw [r'.idx] at pm
        exact pm.nodup_iff.mpr (List.nodup_range.filter _)
      have nd' : zs.Pairwise fun x y => idxOf H2 x ≠ idxOf H2 y := List.pairwise_map.mp nd
      refine List.Pairwise.imp_of_mem (fun {x y} hx hy q => ?_) (List.pairwise_and_iff.mpr ⟨hpw, nd'⟩)
      obtain ⟨q1, q2⟩ := q
      obtain ⟨⟨t, et, ht⟩, ix, _⟩ := inz x hx
      obtain ⟨⟨u, eu, hu⟩, iy, _⟩ := inz y hy
      have le := q1 (ownI s (idxOf H2 x)) (ownI s (idxOf H2 y)) ⟨t, et, by rw [← ownV_eq]; exact st_of ht⟩ ⟨u, eu, by rw [← ownV_eq]; exact st_of hu⟩
      rcases Fs.less_total (a := Fs.ownL s (idxOf H2 x)) (b := Fs.ownL s (idxOf H2 y)) rfl with g | g | g
      · exact g
      · exact absurd (Fs.own_inj g) q2
      · have := code_less (x := Fs.ownL s (idxOf H2 y)) (y := Fs.ownL s (idxOf H2 x)) rfl (own_bd W iy) (own_bd W ix) g
        exact absurd le (by show ¬ TS.code 1000000 (ownI s _) ≤ TS.code 1000000 (ownI s _); unfold ownI; omega)
  refine q_asgL el_nil fun lf H4 nlf x4 hlf => ?_
  generalize hH3 : upd H2 lk (.lst zs) = H3 at *
  have hlk : H3 lk = some (.lst zs) := by rw [← hH3]; exact upd_same
  have hp3 := hp1.ex (x2.trans kx)
  have zl : zs.length ≤ 9 := by rw [hperm.length_eq, r'.1]; exact lenF
  refine q_forLn (xs := zs) (ev_var (i := 2) rfl) (sq_of (x4 _ _ hlk))
    (fun i σ' H' => ∃ v5 v6, σ' = [some (.ref a), some (.ref ls), some (.ref lk), some (.ref lf), v5, v6, none] ∧ Ex H3 H' ∧ H' lf = some (.lst (natsV (((zs.map (idxOf H2)).take i).flatMap (Fs.block s)))) ∧ (((zs.map (idxOf H2)).take i).flatMap (Fs.block s)).length ≤ 2 * i)
    (fun H5 x5 => ⟨none, none, rfl, x4.trans x5, x5 _ _ hlf, Nat.le_refl _⟩) (fun i σ' H' _ ⟨_, _, _, e, _⟩ => sq_of (e _ _ hlk)) ?_ ?_
  · rintro i x σ' H' hi ⟨v5, v6, rfl, e, q1, q2⟩
    have hx : x ∈ zs := List.mem_of_getElem? hi
    obtain ⟨⟨t, rfl, ht⟩, ix, fx⟩ := inz x hx
    generalize hj : idxOf H2 (V.ref t) = j at *
    have hi9 : i < 9 := Nat.lt_of_lt_of_le (List.getElem?_eq_some_iff.mp hi).1 zl
    have tk : (zs.map (idxOf H2)).take (i + 1) = (zs.map (idxOf H2)).take i ++ [j] := by
      rw [List.take_add_one, List.getElem?_map, hi]
      simp [hj]
    have key3 : ∀ H' σ0, Ex H3 H' → σ0[4]? = some (some (V.ref t)) → Ev (tOp (rIxT K) (tVar 4) (tC (.int 3))) σ0 H' (.int (j : Int)) := fun H' σ0 e h4 =>
      ev_op (ev_var h4) ev_c (rv_ixT (st_of (e _ _ (kx _ _ ht))) rfl)
    refine q_app q1 (ev_var (i := 3) rfl) (key3 _ _ e rfl) (by rw [nats_len]; omega) fun H5 x5 => ?_
    generalize hl0 : ((zs.map (idxOf H2)).take i).flatMap (Fs.block s) = l0 at q1 q2
    have nlf3 : H3 lf = none := nlf
    have e6 : Ex H3 (upd H5 lf (.lst (natsV l0 ++ [.int (j : Int)]))) := Ex.mut (e.trans x5) nlf3
    have hlf6 : (upd H5 lf (.lst (natsV l0 ++ [.int (j : Int)]))) lf = some (.lst (natsV (l0 ++ [j]))) := by rw [upd_same]; unfold natsV; rw [List.map_append]; rfl
    generalize upd H5 lf (.lst (natsV l0 ++ [.int (j : Int)])) = H6 at e6 hlf6
    obtain ⟨ga, e7, g7⟩ := ev_guest T (hp3.ex e6) (ta := tVar 0) (σ := [some (.ref a), some (.ref ls), some (.ref lk), some (.ref lf), some (.ref t), v6, none]) (ev_var rfl) (i := j) ix (key3 _ _ e6 rfl)
    refine q_asg (ev_gcompanion T g7 e7) fun H7 x7 => ?_
    have e8 := e6.trans x7
    have hlf8 := x7 _ _ hlf6
    have blk : Fs.block s j = match (s.guest j).with_ with
      | none => [j]
      | some c => if Fs.follows s c = true then [j, c] else [j] := rfl
    have fm : ((zs.map (idxOf H2)).take (i + 1)).flatMap (Fs.block s) = l0 ++ Fs.block s j := by rw [tk, List.flatMap_append, hl0]; simp
    cases hc : (s.guest j).with_ with
    | none =>
      rw [hc] at blk
      refine s_when (b := false) (et_is (et_and (b := false) (et_test (ev_op (ev_var (i := 5) rfl) ev_c (rv_ne rfl))) (fun hb => absurd hb (by rw [ne_comp]; decide))) (by rw [ne_comp]; rfl)) (fun hb => Bool.noConfusion hb) fun _ H8 x8 => ?_
      refine ⟨_, _, rfl, e8.trans x8, ?_, ?_⟩
      · rw [fm, blk]; exact x8 _ _ hlf8
      · rw [fm, blk, List.length_append]; show l0.length + 1 ≤ _; omega
    | some c =>
      rw [hc] at blk
      have hcl := (W.mates j c ix hc).1
      refine s_when (b := Fs.follows s c) (et_is (et_and (et_test (ev_op (ev_var (i := 5) rfl) ev_c (rv_ne rfl))) (fun _ => et_val (ev_callF (ea_cons (ev_var (i := 0) rfl) (ea_cons (ev_var (i := 5) rfl) ea_nil)) (sv_follows ⟨p, hp3.ex e8⟩ W hcl)))) (by rw [ne_comp]; rfl)) (fun hb H8 x8 => ?_) fun hb H8 x8 => ?_
      · refine s_app (x8 _ _ hlf8) (ev_var (i := 3) rfl) (ev_var (i := 5) rfl) (by rw [nats_len, List.length_append]; show l0.length + 1 < _; omega) fun H9 x9 => ?_
        simp only [hb, if_true] at blk
        refine ⟨_, _, rfl, Ex.mut ((e8.trans x8).trans x9) nlf3, ?_, ?_⟩
        · rw [fm, blk, upd_same]; unfold natsV; simp [compI]
        · rw [fm, blk, List.length_append]; show l0.length + 2 ≤ _; omega
      · simp only [hb] at blk
        rw [if_neg (by decide)] at blk
        refine ⟨_, _, rfl, e8.trans x8, ?_, ?_⟩
        · rw [fm, blk]; exact x8 _ _ hlf8
        · rw [fm, blk, List.length_append]; show l0.length + 1 ≤ _; omega
  · rintro σ' H' ⟨v5, v6, rfl, e, q1, q2⟩
    rw [List.take_of_length_le (by simp), law] at q1
    refine s_ret (ev_var (i := 3) rfl) fun H5 x5 => ?_
    have y := (x1.trans x2).trans kx
    exact k lf H5 (fresh_back y nlf) ((y.trans e).trans x5) (x5 _ _ q1)
theorem sl_order_of (h : HouseAt ad.G ad.H H a s) (W : WF s) : SpL (sp_order_of K ad) [.ref a] H (natsV s.order) := fun H1 e Q q E => ⟨a, s, rfl, h.ex e, W, q⟩
end
end FsR
namespace Fs
open Kg75
/-! ### flags -/
theorem flags_law {s : State} (W : WF s) {ns : List Int} (hs : ns.Pairwise (· < ·)) (hm : ∀ k : Int, k ∈ ns ↔ ∃ g ∈ s.guests, (g.country : Int) = k ∧ (g.country : Int) ≠ s.home) : ns = s.countries.map fun (n : Nat) => (n : Int) := by
  have p2 : (s.countries.map fun (n : Nat) => (n : Int)).Pairwise (· < ·) := by
    rw [List.pairwise_map]
    unfold State.countries
    refine List.Pairwise.filter _ ?_
    refine List.Pairwise.imp (fun {a b} h => ?_) List.pairwise_lt_range
    exact Int.ofNat_lt.mpr h
  refine List.Perm.eq_of_pairwise (le := (· < ·)) (fun a b _ _ q1 q2 => absurd q1 (by omega)) hs p2 ?_
  have nd : ∀ {l : List Int}, l.Pairwise (· < ·) → l.Nodup := fun h => List.Pairwise.imp (S := (· ≠ ·)) (fun q e => by rw [e] at q; exact absurd q (by omega)) h
  refine (List.perm_ext_iff_of_nodup (nd hs) (nd p2)).mpr fun k => ?_
  rw [hm]
  unfold State.countries
  simp only [List.mem_map, List.mem_filter, List.mem_range, Bool.and_eq_true, bne_iff_ne, ne_eq, List.any_eq_true, beq_iff_eq]
  constructor
  · rintro ⟨g, hg, rfl, hh⟩
    have := W.country g hg
    exact ⟨g.country, ⟨by omega, by omega, g, hg, rfl⟩, rfl⟩
  · rintro ⟨c, ⟨h1, h2, g, hg, rfl⟩, rfl⟩
    exact ⟨g, hg, rfl, by omega⟩
/-- every second one -/
def seconds (l : List Nat) (b : Nat) : List Nat := (List.range ((l.length + 1 - b) / 2)).map fun i => l.getD (b + i * 2) 0
theorem zip_seconds : ∀ (l : List Nat) (m : Nat), ((l.zipIdx m).filter fun x => x.2 % 2 == m % 2).map (·.1) = seconds l 0 ∧ ((l.zipIdx m).filter fun x => x.2 % 2 == (m + 1) % 2).map (·.1) = seconds l 1
  | [], m => by simp [seconds]
  | a :: l, m => by
    obtain ⟨h1, h2⟩ := zip_seconds l (m + 1)
    rw [List.zipIdx_cons]
    have e : ((a, m).2 % 2 == m % 2) = true := by simp
    have e' : ((a, m).2 % 2 == (m + 1) % 2) = false := by simp only [beq_eq_false_iff_ne]; omega
    rw [List.filter_cons_of_pos (p := fun x : Nat × Nat => x.2 % 2 == m % 2) e, List.filter_cons_of_neg (p := fun x : Nat × Nat => x.2 % 2 == (m + 1) % 2) (by rw [e']; decide), List.map_cons]
    have m2 : (m + 1 + 1) % 2 = m % 2 := by omega
    rw [m2] at h2
    constructor
    · rw [h2]
      unfold seconds
      rw [show ((a :: l).length + 1 - 0) / 2 = (l.length + 1 - 1) / 2 + 1 by rw [List.length_cons]; omega, List.range_succ_eq_map, List.map_cons, List.map_map]
      congr 1
      refine List.map_congr_left fun i _ => ?_
      show l.getD (1 + i * 2) 0 = (a :: l).getD (0 + (i + 1) * 2) 0
      rw [show 0 + (i + 1) * 2 = (1 + i * 2) + 1 by omega]; rfl
    · rw [h1]
      unfold seconds
      rw [show ((a :: l).length + 1 - 1) / 2 = (l.length + 1 - 0) / 2 by rw [List.length_cons]; omega]
      refine List.map_congr_left fun i _ => ?_
      show l.getD (0 + i * 2) 0 = (a :: l).getD (1 + i * 2) 0
      rw [show 1 + i * 2 = (0 + i * 2) + 1 by omega]; rfl
theorem flags_two (s : State) : s.flags 2 = (seconds s.countries 1).reverse ++ s.home :: seconds s.countries 0 := by
  obtain ⟨h1, h2⟩ := zip_seconds s.countries 0
  unfold State.flags
  rw [if_neg (by decide), if_neg (by decide)]
  show ((s.countries.zipIdx.filter fun x => x.2 % 2 == 1).map fun x => x.1).reverse ++ s.home :: (s.countries.zipIdx.filter fun x => x.2 % 2 == 0).map (fun x => x.1) = _
  have h1 : (s.countries.zipIdx.filter fun x => x.2 % 2 == 0).map (·.1) = seconds s.countries 0 := h1
  have h2 : (s.countries.zipIdx.filter fun x => x.2 % 2 == 1).map (·.1) = seconds s.countries 1 := h2
  rw [h1, h2]
theorem countries_len (s : State) : s.countries.length ≤ 31 := by
  unfold State.countries
  have := List.length_filter_le (fun c => c != s.home && s.guests.any fun g => g.country == c) (List.range 31)
  rw [List.length_range] at this
  exact this
/-! ### seats -/
theorem fold_new (own : List Nat) : ∀ (l acc : List Nat), (∀ x ∈ acc, x ∉ own) → l.foldl (fun acc x => if (!acc.contains x && !own.contains x) = true then acc ++ [x] else acc) acc = acc ++ ((l.filter fun x => !acc.contains x).eraseDups.filter fun x => !own.contains x)
  | [], acc, _ => by simp
  | x :: l, acc, h => by
    rw [List.foldl_cons]
    by_cases c : (!acc.contains x && !own.contains x) = true
    · rw [if_pos c]
      simp only [Bool.and_eq_true] at c
      rw [fold_new own l (acc ++ [x]) (fun y hy => by
        rcases List.mem_append.mp hy with hy | hy
        · exact h y hy
        · have e : y = x := by simpa using hy
          subst e
          have := c.2
          simpa using this)]
      rw [List.filter_cons_of_pos (p := fun x => !acc.contains x) c.1, List.eraseDups_cons, List.filter_cons_of_pos (p := fun x => !own.contains x) c.2, List.filter_filter, List.append_assoc]
      refine congrArg (fun m : List Nat => acc ++ x :: (m.eraseDups.filter fun x => !own.contains x)) ?_
      refine List.filter_congr fun y _ => ?_
      rw [Bool.eq_iff_iff]
      simp
      constructor
      · rintro ⟨h1, h2⟩; exact ⟨h2, h1⟩
      · rintro ⟨h1, h2⟩; exact ⟨h2, h1⟩
    · rw [if_neg c, fold_new own l acc h]
      congr 1
      by_cases ca : acc.contains x = true
      · rw [List.filter_cons_of_neg (by rw [ca]; decide)]
      · have ca : acc.contains x = false := by simpa using ca
        have co : own.contains x = true := by
          rw [ca] at c
          simpa using c
        rw [List.filter_cons_of_pos (p := fun x => !acc.contains x) (by rw [ca]; rfl), List.eraseDups_cons, List.filter_cons_of_neg (p := fun x => !own.contains x) (by rw [co]; decide)]
        -- dropping the copies of an own seat changes nothing behind the filter
        rw [filter_dups own x co]
where
  filter_dups (own : List Nat) (x : Nat) (hx : own.contains x = true) : ∀ {m : List Nat}, (m.filter fun b => !b == x).eraseDups.filter (fun y => !own.contains y) = m.eraseDups.filter fun y => !own.contains y := by
    intro m
    generalize hk : m.length = k
    induction k using Nat.strongRecOn generalizing m with
    | ind k ih =>
      subst hk
      cases m with
      | nil => rfl
      | cons a m =>
        have l1 : (m.filter fun b => !b == a).length < (a :: m).length := by
          have := List.length_filter_le (fun b => !b == a) m
          rw [List.length_cons]; omega
        by_cases e : a = x
        · subst e
          rw [List.filter_cons_of_neg (p := fun b => !b == a) (by simp), List.eraseDups_cons, List.filter_cons_of_neg (p := fun y => !own.contains y) (by rw [hx]; decide)]
        · rw [List.filter_cons_of_pos (p := fun b => !b == x) (by simpa using e), List.eraseDups_cons, List.eraseDups_cons, List.filter_filter]
          have sw : (m.filter fun b => (!b == a) && (!b == x)) = (m.filter fun b => !b == a).filter fun b => !b == x := by
            rw [List.filter_filter]
            refine List.filter_congr fun y _ => Bool.and_comm _ _
          rw [sw]
          have r := @ih _ l1 (m.filter fun b => !b == a) rfl
          by_cases o : own.contains a = true
          · rw [List.filter_cons_of_neg (p := fun y => !own.contains y) (by rw [o]; decide), List.filter_cons_of_neg (p := fun y => !own.contains y) (by rw [o]; decide), r]
          · have o : own.contains a = false := by simpa using o
            rw [List.filter_cons_of_pos (p := fun y => !own.contains y) (by rw [o]; rfl), List.filter_cons_of_pos (p := fun y => !own.contains y) (by rw [o]; rfl), r]
/-- the seats as the program comes to them, away from 1 to n - 1 -/
def awayL (n : Nat) (own : List Nat) (k : Nat) : List Nat := own.map (fun i => (i + k) % n) ++ own.map (fun i => (i + n * k - k) % n)
theorem seats_law (s : State) (hh : ∀ x ∈ s.hosts, x.2 < s.guests.length) : (List.range (s.guests.length - 1)).foldl (fun acc k => (awayL s.guests.length (s.hosts.map (·.2)) (k + 1)).foldl (fun acc x => if (!acc.contains x && !(s.hosts.map (·.2)).contains x) = true then acc ++ [x] else acc) acc) [] = s.seats := by
  have hs : s.seats = (((List.range s.guests.length).flatMap fun k => awayL s.guests.length (s.hosts.map (·.2)) (k + 1)).eraseDups).filter fun i => !(s.hosts.map (·.2)).contains i := rfl
  rw [hs, ← List.foldl_flatMap, fold_new _ _ _ (by simp)]
  simp only [List.nil_append]
  have e0 : ∀ l : List Nat, (l.filter fun x => !([] : List Nat).contains x) = l := fun l => List.filter_eq_self.mpr fun x _ => by simp
  rw [e0]
  cases hn : s.guests.length with
  | zero => simp
  | succ n =>
    rw [show n + 1 - 1 = n by omega, List.range_succ, List.flatMap_append]
    simp only [List.flatMap_cons, List.flatMap_nil, List.append_nil]
    -- the last round comes to the own seats again
    have own : ∀ x ∈ awayL (n + 1) (s.hosts.map (·.2)) (n + 1), (s.hosts.map (·.2)).contains x = true := fun x hx => by
      unfold awayL at hx
      rw [List.mem_append, List.mem_map, List.mem_map] at hx
      rw [List.contains_iff_mem]
      rcases hx with ⟨i, hi, rfl⟩ | ⟨i, hi, rfl⟩
      · obtain ⟨z, hz, rfl⟩ := List.mem_map.mp hi
        have := hh z hz
        rw [hn] at this
        rw [Nat.add_mod_right, Nat.mod_eq_of_lt this]; exact hi
      · obtain ⟨z, hz, rfl⟩ := List.mem_map.mp hi
        have := hh z hz
        rw [hn] at this
        have e : z.2 + (n + 1) * (n + 1) - (n + 1) = z.2 + (n + 1) * n := by rw [Nat.mul_succ]; omega
        rw [e, Nat.add_mul_mod_self_left, Nat.mod_eq_of_lt this]; exact hi
    rw [List.eraseDups_append, List.filter_append]
    have z : ((List.removeAll (awayL (n + 1) (s.hosts.map (·.2)) (n + 1)) ((List.range n).flatMap fun k => awayL (n + 1) (s.hosts.map (·.2)) (k + 1))).eraseDups.filter fun i => !(s.hosts.map (·.2)).contains i) = [] := by
      rw [List.filter_eq_nil_iff]
      intro x hx
      rw [List.mem_eraseDups] at hx
      have := own x (List.mem_filter.mp hx).1
      rw [this]; decide
    rw [z, List.append_nil]
end Fs
namespace FsR
open PySem PySem.Spec PyProof.Rows L2 Evl
open Fs (compI WF)
section
variable {K : PySem.W.Frag} {mg : Str → Option Value} {ad : Ad} {w : World} {σ : L2.St} {H : Hp} {ta tb te : TE} {a : Addr} {s : Kg75.State} {p : Parts} {g : TG} {tu tz : TS} {D : Ends}
/-- over a new tuple -/
theorem s_forNU {xs : List V} {tl : TE} (h : EvU tl σ H xs) (Pv : Addr → Nat → L2.St → Hp → Prop) (h0 : ∀ p H1, H p = none → Ex H H1 → H1 p = some (.tup xs) → Pv p 0 σ H1) (hl : ∀ p i σ' H', i ≤ xs.length → Pv p i σ' H' → SqT K H' p xs)
    (hs : ∀ p i x σ' H', xs[i]? = some x → Pv p i σ' H' → g x σ' H' fun σ2 H2 => tu { D with nx := Pv p (i + 1), ct := Pv p (i + 1), bk := D.nx } σ2 H2) (hd : ∀ p σ' H', Pv p xs.length σ' H' → D.nx σ' H') : tFor (iTup K tl) g tu D σ H :=
  h H (Ex.refl H) _ fun p H1 hp e h1 => ⟨p, rfl, ⟨xs, st_of h1⟩, for_tup (Pv p) (h0 p H1 hp e h1) (hl p) (hs p) (hd p)⟩
/-! ### pairs that stand: hosts -/
theorem PairsAt.zip {ts : List Addr} (h : PairsAt H ts (hostsI s)) : (ts.zip s.hosts).map (fun z => V.ref z.1) = ts.map V.ref ∧ (∀ z ∈ ts.zip s.hosts, H z.1 = some (.tup [.int (z.2.1 : Int), .int (z.2.2 : Int)])) ∧ (ts.zip s.hosts).map (·.2) = s.hosts := by
  have hl : ts.length = s.hosts.length := by have := h.1; unfold hostsI at this; rw [List.length_map] at this; exact this
  refine ⟨?_, fun z hz => ?_, List.map_snd_zip (by omega)⟩
  · have := List.map_fst_zip (l₁ := ts) (l₂ := s.hosts) (by omega)
    rw [← this, List.map_map]; rw [this]; rfl
  · obtain ⟨i, hi⟩ := List.getElem?_of_mem hz
    rw [List.getElem?_zip_eq_some] at hi
    refine h.2 i z.1 ((z.2.1 : Int), (z.2.2 : Int)) hi.1 ?_
    unfold hostsI
    rw [List.getElem?_map, hi.2]; rfl
/-- [e for guest, seat in house.hosts], e one of the two -/
theorem el_hosts (T : Txt K mg ad) (hp : HouseP ad.G ad.H H a s p) (W : WF s) {i j e : Nat} (f : Nat × Nat → Nat) (σ' : Nat × Nat → L2.St) (h0 : Ev ta σ H (.ref a))
    (hg : ∀ x ∈ s.hosts, ((wipe σ [i, j]).set i (some (.int (x.1 : Int)))).set j (some (.int (x.2 : Int))) = σ' x) (hw : ∀ x ∈ s.hosts, wipe (σ' x) [i, j] = wipe σ [i, j]) (he : ∀ x ∈ s.hosts, (σ' x)[e]? = some (some (.int (f x : Int)))) :
    EvL (tLc (iList K (tFld K ta "hosts")) (gTup K 2 (gCons (gName i) (gCons (gName j) gNil))) tYes (tVar e) [i, j]) σ H (natsV (s.hosts.map f)) := by
  obtain ⟨ts, q1, q2⟩ := hp.oh
  obtain ⟨z1, z2, z3⟩ := (q2.ex ex_off).zip
  have mem : ∀ z ∈ ts.zip s.hosts, z.2 ∈ s.hosts := fun z hz => by rw [← z3]; exact List.mem_map_of_mem hz
  have c := el_comp (K := K) (σ := σ) (H := H) (tl := tFld K ta "hosts") (g := gTup K 2 (gCons (gName i) (gCons (gName j) gNil))) (te := tVar e) (t := tYes) (l := ts.zip s.hosts) (g0 := fun z => V.ref z.1) (vs := [i, j]) (fun z => σ' z.2) (fun _ => true) (fun z => V.int (f z.2 : Int))
    (srcOf (ev_hhosts T hp h0) (by rw [z1]; exact sq_of q1)) (by
      have := W.hostsLen
      have l2 : (ts.zip s.hosts).length ≤ s.hosts.length := by rw [List.length_zip]; omega
      omega) (fun z hz H1 e1 Q q => ⟨z.1, _, rfl, st_of (e1 _ _ (z2 z hz)), rfl, _, _, rfl, _, _, rfl, rfl, by
        rw [hg z.2 (mem z hz)]; exact q⟩) (fun z hz => hw _ (mem z hz)) (fun _ _ _ _ => et_yes) (fun z hz _ H1 _ => ev_var (he _ (mem z hz)))
  rw [List.filter_eq_self.mpr (fun _ _ => rfl)] at c
  have e2 : (ts.zip s.hosts).map (fun z => V.int (f z.2 : Int)) = natsV (s.hosts.map f) := by
    unfold natsV
    rw [List.map_map]
    have z4 := congrArg (List.map ((fun (n : Nat) => V.int (n : Int)) ∘ f)) z3
    rw [List.map_map] at z4
    exact z4
  rw [e2] at c
  exact c
/-! ### seats -/
def stp (own : List Nat) (acc : List Nat) (x : Nat) : List Nat := if (!acc.contains x && !own.contains x) = true then acc ++ [x] else acc
theorem stp_len (own acc : List Nat) (x : Nat) : (stp own acc x).length ≤ acc.length + 1 := by
  unfold stp; split <;> simp
theorem take_snoc {α : Type} {l : List α} {i : Nat} {x : α} (h : l[i]? = some x) : l.take (i + 1) = l.take i ++ [x] := by
  rw [List.take_add_one, h]; rfl
theorem seat_right (x k n : Nat) : ((x : Int) + ((1 : Int) + (k : Int))) % (n : Int) = (((x + (k + 1)) % n : Nat) : Int) := by
  rw [Int.natCast_emod]
  congr 1
  omega
theorem seat_left (x k n : Nat) (hn : 0 < n) : ((x : Int) + ((0 : Int) - ((1 : Int) + (k : Int)))) % (n : Int) = (((x + n * (k + 1) - (k + 1)) % n : Nat) : Int) := by
  rw [Int.natCast_emod]
  have h : k + 1 ≤ n * (k + 1) := Nat.le_mul_of_pos_left _ hn
  have e : ((x + n * (k + 1) - (k + 1) : Nat) : Int) = ((x : Int) + ((0 : Int) - ((1 : Int) + (k : Int)))) + (n : Int) * ((k + 1 : Nat) : Int) := by
    rw [← Int.natCast_mul]
    omega
  rw [e, Int.add_mul_emod_self_left]
theorem rd_seats_of (T : Txt K mg ad) (vs : List V) (H : Hp) (Q : VK) (E : XK) (h : sp_seats_of K ad vs H Q E) : t_seats_of w K ad { nx := fun _ H' => Q .non H', rt := Q } (start N_seats_of vs) H := by
  obtain ⟨a, s, rfl, ⟨p, hp⟩, W, k⟩ := h
  have n9 := W.len
  obtain ⟨own, hown⟩ : ∃ own, own = s.hosts.map (·.2) := ⟨_, rfl⟩
  have ol : own.length ≤ 2 := by rw [hown, List.length_map]; exact W.hostsLen
  obtain ⟨n, hn⟩ : ∃ n, n = s.guests.length := ⟨_, rfl⟩
  refine q_asg (ev_many T hp (ev_var (i := 0) rfl)) fun H1 x1 => ?_
  refine q_asgL (el_hosts T (hp.ex x1) W (f := (·.2)) (fun x => [some (.ref a), some (.int (s.guests.length : Int)), none, none, none, none, some (.int (x.2 : Int)), none, some (.int (x.1 : Int))]) (ev_var (i := 0) rfl) (fun x _ => rfl) (fun x _ => rfl) (fun x _ => rfl)) fun lo H2 nlo x2 hlo => ?_
  rw [← hown] at hlo
  refine q_asgL el_nil fun lf H3 nlf x3 hlf => ?_
  have hlo3 := x3 _ _ hlo
  have y2 := x1.trans x2
  have bnd : ∀ (l acc : List Nat), (l.foldl (stp own) acc).length ≤ acc.length + l.length := by
    intro l
    induction l with
    | nil => intro acc; simp
    | cons x l ih =>
      intro acc
      rw [List.foldl_cons, List.length_cons]
      have := ih (stp own acc x)
      have := stp_len own acc x
      omega
  -- what stands all along: σ without its last slots, the heap
  let St : L2.St → Hp → List Nat → Prop := fun σ' H' acc => (∃ v4 v5 v6 v7, σ' = [some (.ref a), some (.int (s.guests.length : Int)), some (.ref lo), some (.ref lf), v4, v5, v6, v7, none]) ∧ Ex H2 H' ∧ H' lf = some (.lst (natsV acc))
  -- one round over the own seats
  have round : ∀ (f : Nat → Nat) (tv v4 : Int) (acc : List Nat) (v6 v7 : Option V) (H' : Hp) (D : Ends), (∀ x : Nat, ((x : Int) + tv) % (s.guests.length : Int) = ((f x : Nat) : Int)) → 0 < s.guests.length → acc.length ≤ 1000 → Ex H2 H' → H' lf = some (.lst (natsV acc)) →
      (∀ v6 v7 H'', Ex H2 H'' → (∀ b o, H' b = some o → b ≠ lf → H'' b = some o) → H'' lf = some (.lst (natsV ((own.map f).foldl (stp own) acc))) → D.nx [some (.ref a), some (.int (s.guests.length : Int)), some (.ref lo), some (.ref lf), some (.int v4), some (.int tv), v6, v7, none] H'') →
      tFor (iList K (tVar 2)) (gName 6) (tSeq (tAsg (tOp rModI (tOp rAddI (tVar 6) (tVar 5)) (tVar 1)) (gName 7))
        (tIfS (tAnd (tTest (tOp (rIn K true) (tVar 7) (tVar 3))) (tTest (tOp (rIn K true) (tVar 7) (tVar 2)))) (tDrop (tBM K "list" rAppend (tVar 3) (tCons (tVar 7) tNil))) tNext)) D
        [some (.ref a), some (.int (s.guests.length : Int)), some (.ref lo), some (.ref lf), some (.int v4), some (.int tv), v6, v7, none] H' := by
    intro f tv v4 acc v6 v7 H' D hf hpos ha e hl kk
    have fl : ∀ j, ((own.take j).map f).foldl (stp own) acc = ((own.map f).take j).foldl (stp own) acc := fun j => by rw [List.map_take]
    refine s_forLn (xs := natsV own) (ev_var (i := 2) rfl) (sq_of (e _ _ hlo))
      (fun j σ' H'' => ∃ v6 v7, σ' = [some (.ref a), some (.int (s.guests.length : Int)), some (.ref lo), some (.ref lf), some (.int v4), some (.int tv), v6, v7, none] ∧ Ex H2 H'' ∧ (∀ b o, H' b = some o → b ≠ lf → H'' b = some o) ∧ H'' lf = some (.lst (natsV (((own.take j).map f).foldl (stp own) acc))))
      (fun H5 x5 => ⟨v6, v7, rfl, e.trans x5, fun b o q _ => x5 _ _ q, x5 _ _ hl⟩) (fun j σ' H'' _ ⟨_, _, _, e', _, _⟩ => sq_of (e' _ _ hlo)) ?_ ?_
    · rintro j x σ' H'' hj ⟨v6, v7, rfl, e', kp, q1⟩
      unfold natsV at hj
      rw [List.getElem?_map] at hj
      obtain ⟨x0, hx0, rfl⟩ := Option.map_eq_some_iff.mp hj
      have tk := take_snoc hx0
      have aj := bnd ((own.take j).map f) acc
      rw [List.length_map, List.length_take] at aj
      generalize hacc : ((own.take j).map f).foldl (stp own) acc = acc' at q1 aj
      have nxt : ((own.take (j + 1)).map f).foldl (stp own) acc = stp own acc' (f x0) := by
        rw [tk, List.map_append, List.foldl_append, hacc]; rfl
      refine q_asg (v := .int (f x0 : Int)) (ev_is (ev_op (ev_op (ev_var (i := 6) rfl) (ev_var (i := 5) rfl) rv_I0) (ev_var (i := 1) rfl) (rv_I (by omega))) (congrArg V.int (hf x0))) fun H5 x5 => ?_
      have t1 := rv_niL (K := K) (H := H5) (x := .int (f x0 : Int)) (sq_of (x5 _ _ q1)) rfl (flat_nats _)
      have t2 := rv_niL (K := K) (H := H5) (x := .int (f x0 : Int)) (sq_of (x5 _ _ (e' _ _ hlo))) rfl (flat_nats _)
      rw [inV_nats] at t1 t2
      refine s_when (et_and (et_test (ev_op (ev_var (i := 7) rfl) (ev_var (i := 3) rfl) t1)) fun _ => et_test (ev_op (ev_var (i := 7) rfl) (ev_var (i := 2) rfl) t2)) (fun hb H6 x6 => ?_) fun hb H6 x6 => ?_
      · refine s_app (x6 _ _ (x5 _ _ q1)) (ev_var (i := 3) rfl) (ev_var (i := 7) rfl) (by rw [nats_len]; omega) fun H7 x7 => ?_
        refine ⟨_, _, rfl, Ex.mut (((e'.trans x5).trans x6).trans x7) nlf, fun b o q hb => (upd_ne hb).trans (x7 _ _ (x6 _ _ (x5 _ _ (kp b o q hb)))), ?_⟩
        rw [nxt]
        unfold stp
        rw [if_pos hb, upd_same]
        unfold natsV
        rw [List.map_append]; rfl
      · refine ⟨_, _, rfl, (e'.trans x5).trans x6, fun b o q hb => x6 _ _ (x5 _ _ (kp b o q hb)), ?_⟩
        rw [nxt]
        unfold stp
        rw [if_neg (by rw [hb]; decide)]
        exact x6 _ _ (x5 _ _ q1)
    · rintro σ' H'' ⟨v6, v7, rfl, e', kp, q1⟩
      rw [nats_len, List.take_length] at q1
      exact kk v6 v7 H'' e' kp q1
  let acc : Nat → List Nat := fun i => (List.range i).foldl (fun acc k => (Fs.awayL s.guests.length own (k + 1)).foldl (stp own) acc) []
  have accS : ∀ i, acc (i + 1) = (Fs.awayL s.guests.length own (i + 1)).foldl (stp own) (acc i) := fun i => by
    show (List.range (i + 1)).foldl _ [] = _
    rw [List.range_succ, List.foldl_append]; rfl
  have accL : ∀ i, i ≤ 9 → (acc i).length ≤ 4 * i := by
    intro i
    induction i with
    | zero => intro _; exact Nat.le_refl _
    | succ i ih =>
      intro hi
      rw [accS]
      have b := bnd (Fs.awayL s.guests.length own (i + 1)) (acc i)
      have l2 : (Fs.awayL s.guests.length own (i + 1)).length ≤ 4 := by
        unfold Fs.awayL
        rw [List.length_append, List.length_map, List.length_map]; omega
      have := ih (by omega)
      omega
  have law : acc (s.guests.length - 1) = s.seats := by
    have := Fs.seats_law s fun x hx => (W.hosts x hx).2
    rw [← hown] at this
    exact this
  refine s_forR2 (D := { nx := tRet (tVar 3) { nx := fun _ H' => Q .non H', rt := Q }, rt := Q }) (ea_cons ev_c (ea_cons (ev_var (i := 1) rfl) ea_nil)) ⟨by omega, by omega, by omega, by omega⟩
    (fun i σ' H' => (∃ v4 v5 v6 v7, σ' = [some (.ref a), some (.int (s.guests.length : Int)), some (.ref lo), some (.ref lf), v4, v5, v6, v7, none]) ∧ Ex H2 H' ∧ H' lf = some (.lst (natsV (acc i))))
    (fun H5 x5 => ⟨⟨none, none, none, none, rfl⟩, x3.trans x5, x5 _ _ hlf⟩) ?_ ?_
  · rintro i σ' H' hi ⟨⟨v4, v5, v6, v7, rfl⟩, e, q1⟩
    have hpos : 0 < s.guests.length := by omega
    refine s_forNU (xs := [.int ((1 : Int) + (i : Int)), .int ((0 : Int) - ((1 : Int) + (i : Int)))]) (eu_tup (ea_cons (ev_var (i := 4) rfl) (ea_cons (ev_op ev_c (ev_var (i := 4) rfl) rv_I0) ea_nil)) (by show 2 ≤ 100000; decide))
      (fun tp m σ' H' => (∃ v5 v6 v7, σ' = [some (.ref a), some (.int (s.guests.length : Int)), some (.ref lo), some (.ref lf), some (.int ((1 : Int) + (i : Int))), v5, v6, v7, none]) ∧ Ex H2 H' ∧ H' tp = some (.tup [.int ((1 : Int) + (i : Int)), .int ((0 : Int) - ((1 : Int) + (i : Int)))]) ∧ tp ≠ lf ∧
        H' lf = some (.lst (natsV (if m = 0 then acc i else if m = 1 then (own.map fun x => (x + (i + 1)) % s.guests.length).foldl (stp own) (acc i) else acc (i + 1)))))
      (fun tp H5 ntp x5 htp => ⟨⟨v5, v6, v7, rfl⟩, e.trans x5, htp, (ne_of_none q1 ntp).symm, x5 _ _ q1⟩) (fun tp m σ' H' _ z => st_of z.2.2.1) ?_ ?_
    · rintro tp m x σ' H' hm ⟨⟨v5, v6, v7, rfl⟩, e5, htp, ntp, q5⟩
      match m, hm with
      | 0, hm =>
        obtain rfl : V.int ((1 : Int) + (i : Int)) = x := Option.some.inj hm
        exact round (fun x => (x + (i + 1)) % s.guests.length) _ _ (acc i) v6 v7 H' _ (fun x => seat_right x i _) hpos (by have := accL i (by omega); omega) e5 q5 fun v6 v7 H'' e6 kp q6 => ⟨⟨_, _, _, rfl⟩, e6, kp _ _ htp ntp, ntp, q6⟩
      | 1, hm =>
        obtain rfl : V.int ((0 : Int) - ((1 : Int) + (i : Int))) = x := Option.some.inj hm
        refine round (fun x => (x + s.guests.length * (i + 1) - (i + 1)) % s.guests.length) _ _ ((own.map fun x => (x + (i + 1)) % s.guests.length).foldl (stp own) (acc i)) v6 v7 H' _ (fun x => seat_left x i _ hpos) hpos (by
          have := accL i (by omega)
          have b := bnd (own.map fun x => (x + (i + 1)) % s.guests.length) (acc i)
          rw [List.length_map] at b
          omega) e5 q5 fun v6 v7 H'' e6 kp q6 => ⟨⟨_, _, _, rfl⟩, e6, kp _ _ htp ntp, ntp, ?_⟩
        rw [if_neg (by decide), if_neg (by decide), accS]
        unfold Fs.awayL
        rw [List.foldl_append]
        exact q6
      | m + 2, hm => simp at hm
    · rintro tp σ' H' ⟨⟨v5, v6, v7, rfl⟩, e5, htp, ntp, q5⟩
      exact ⟨⟨_, _, _, _, rfl⟩, e5, q5⟩
  · rintro σ' H' ⟨⟨v4, v5, v6, v7, rfl⟩, e, q1⟩
    have e1 : ((s.guests.length : Int) - 1).toNat = s.guests.length - 1 := by omega
    rw [e1, law] at q1
    exact s_ret (ev_var (i := 3) rfl) fun H5 x5 => k lf H5 (fresh_back y2 nlf) ((y2.trans e).trans x5) (x5 _ _ q1)
theorem sl_seats_of (h : HouseAt ad.G ad.H H a s) (W : WF s) : SpL (sp_seats_of K ad) [.ref a] H (natsV s.seats) := fun H1 e Q q E => ⟨a, s, rfl, h.ex e, W, q⟩
end
end FsR
namespace FsR
open PySem PySem.Spec PyProof.Rows L2 Evl
open Fs (compI WF)
section
variable {K : PySem.W.Frag} {mg : Str → Option Value} {ad : Ad} {w : World} {σ : L2.St} {H : Hp} {ta : TA} {tb te : TE} {a : Addr} {s : Kg75.State} {p : Parts} {g : TG} {tu tz : TS} {D : Ends} {t : TT}
/-- [e for k in range(i, j, c)] -/
theorem el_compR3 {i j c : Int} {n : Nat} {x : Nat} {vs : List Nat} (v : Nat → V) (h : EvA ta σ H [.int i, .int j, .int c]) (hr : RgC i j c n) (hn : n ≤ 40000) (hw : ∀ u, wipe ((wipe σ vs).set x (some u)) vs = wipe σ vs)
    (he : ∀ m, m < n → ∀ H1, Ex H H1 → Ev te ((wipe σ vs).set x (some (.int (i + (m : Nat) * c)))) H1 (v m)) : EvL (tLc (iRng3 ta) (gName x) tYes te vs) σ H ((List.range n).map v) := by
  intro H1 e Q q
  refine h H1 e _ fun H2 e2 => ⟨i, j, c, n, rfl, hr, fun D hD => ?_⟩
  refine lc_it (walk_rangeC (lo := i) (c := c) (n := n)) (fun m H' => Ex H2 H' ∧ H' D = some (.lst ((List.range m).map v))) ⟨Ex.new hD, upd_same⟩ (fun _ _ _ _ => trivial) (fun m y H3 H' hm z yy => ?_) fun H' z => ?_
  · obtain ⟨z1, z2⟩ := z
    obtain ⟨rfl, rfl⟩ := yy
    refine ⟨hw _, ?_⟩
    show te _ H' _
    refine he m hm H' ((e.trans e2).trans z1) H' (Ex.refl _) _ fun H4 e4 => ⟨_, e4 _ _ z2, sz_lt (by rw [List.length_map, List.length_range]; omega), Ex.mut (z1.trans e4) hD, ?_⟩
    rw [upd_same, List.range_succ, List.map_append]; rfl
  · exact q D H' (fresh_back e2 hD) (e2.trans z.1) z.2
theorem rg_one : ∀ m : Fin 32, RgC 1 ((m.val : Nat) : Int) 2 ((m.val + 1 - 1) / 2) := by
  intro m
  have h : ∀ m : Fin 32, Builtin.Range.small 1 ((m.val : Nat) : Int) 2 = true ∧ Builtin.Range.rangeSize 1 ((m.val : Nat) : Int) 2 = (((m.val + 1 - 1) / 2 : Nat) : Int) := by decide +kernel
  exact ⟨by decide, by decide, (h m).1, (h m).2⟩
theorem rg_zero : ∀ m : Fin 32, RgC 0 ((m.val : Nat) : Int) 2 ((m.val + 1 - 0) / 2) := by
  intro m
  have h : ∀ m : Fin 32, Builtin.Range.small 0 ((m.val : Nat) : Int) 2 = true ∧ Builtin.Range.rangeSize 0 ((m.val : Nat) : Int) 2 = (((m.val + 1 - 0) / 2 : Nat) : Int) := by decide +kernel
  exact ⟨by decide, by decide, (h m).1, (h m).2⟩
theorem nats_get {l : List Nat} {k : Nat} (h : k < l.length) : (natsV l)[k]? = some (.int ((l.getD k 0 : Nat) : Int)) := nats_at h
/-- others[k] for every second k -/
theorem el_seconds {l : List Nat} {lo : Addr} (b : Nat) (hb : b = 0 ∨ b = 1) (hl : l.length ≤ 31) (h3 : σ[3]? = some (some (.ref lo))) (hlo : H lo = some (.lst (natsV l))) (hs : ∀ u, wipe ((wipe σ [5]).set 5 (some u)) [5] = wipe σ [5]) (h35 : ∀ u : V, ((wipe σ [5]).set 5 (some u))[3]? = some (some (.ref lo)))
    (h55 : ∀ u : V, ((wipe σ [5]).set 5 (some u))[5]? = some (some u)) :
    EvL (tLc (iRng3 (tCons (tC (.int (b : Int))) (tCons (tCB (rLenS K) (tCons (tVar 3) tNil)) (tCons (tC (.int 2)) tNil)))) (gName 5) tYes (tOp (rIxL K) (tVar 3) (tVar 5)) [5]) σ H (natsV (Fs.seconds l b)) := by
  have rg : RgC (b : Int) ((l.length : Nat) : Int) 2 ((l.length + 1 - b) / 2) := by
    rcases hb with rfl | rfl
    · exact rg_zero ⟨l.length, by omega⟩
    · exact rg_one ⟨l.length, by omega⟩
  have len : Ev (tCB (rLenS K) (tCons (tVar 3) tNil)) σ H (.int ((l.length : Nat) : Int)) := by
    have := ev_len (K := K) (ev_var h3) (sq_of hlo)
    rw [nats_len] at this; exact this
  have c := el_compR3 (te := tOp (rIxL K) (tVar 3) (tVar 5)) (x := 5) (vs := [5]) (fun m => V.int ((l.getD (b + m * 2) 0 : Nat) : Int)) (ea_cons ev_c (ea_cons len (ea_cons ev_c ea_nil))) rg (by omega) hs (fun m hm H1 e1 => ?_)
  · unfold Fs.seconds natsV
    rw [List.map_map]
    exact c
  · refine ev_op (ev_var (h35 _)) (ev_var (h55 _)) (rv_ixL (sq_of (e1 _ _ hlo)) ?_)
    have e : ((b : Int) + (m : Nat) * 2) = ((b + m * 2 : Nat) : Int) := by omega
    rw [e]
    exact atI_nat (nats_get (by omega))
/-- house.guests, walked -/
theorem HouseP.walk (hp : HouseP ad.G ad.H H a s p) : (p.gs.zip s.guests).map (fun z => V.ref z.1) = p.gs.map V.ref ∧ (∀ z ∈ p.gs.zip s.guests, GuestAt ad H z.1 z.2) ∧ (p.gs.zip s.guests).map (·.2) = s.guests := by
  have hl := hp.gl
  refine ⟨?_, fun z hz => ?_, List.map_snd_zip (by omega)⟩
  · have e := congrArg (List.map V.ref) (List.map_fst_zip (l₁ := p.gs) (l₂ := s.guests) (by omega))
    rw [List.map_map] at e
    exact e
  · obtain ⟨i, hi⟩ := List.getElem?_of_mem hz
    rw [List.getElem?_zip_eq_some] at hi
    obtain ⟨dx, l, q1, q2⟩ := hp.gat i z.1 hi.1
    have hlt : i < s.guests.length := (List.getElem?_eq_some_iff.mp hi.2).1
    have eg : s.guest i = z.2 := by
      rw [Fs.guest_lt hlt]
      exact (List.getElem?_eq_some_iff.mp hi.2).2
    rw [eg] at q1 q2
    exact ⟨dx, l, q1, (off_get q2).1⟩
theorem q_asgCB2 {r1 r2 : List V → Hp → VK → Prop} {i : Nat} (h : te σ H (fun x H1 => r1 [x] H1 (fun y H2 => r2 [y] H2 (fun v H3 => tz D (σ.set i (some v)) H3)))) : tSeq (tAsg (tCB r2 (tCons (tCB r1 (tCons te tNil)) tNil)) (gName i)) tz D σ H := h
theorem rd_flags_of (T : Txt K mg ad) (vs : List V) (H : Hp) (Q : VK) (E : XK) (h : sp_flags_of K ad vs H Q E) : t_flags_of w K ad { nx := fun _ H' => Q .non H', rt := Q } (start N_flags_of vs) H := by
  obtain ⟨a, s, way, rfl, ⟨p, hp⟩, W, hw0, hw2, k⟩ := h
  have n9 := W.len
  refine q_asgL (el_lst (ea_cons (ev_hcountry T hp (ev_var (i := 0) rfl)) ea_nil) (by show 1 ≤ 100000; decide)) fun lo H1 nlo x1 hlo => ?_
  have hp1 := hp.ex x1
  obtain ⟨z1, z2, z3⟩ := hp1.walk
  have mem : ∀ z ∈ p.gs.zip s.guests, z.2 ∈ s.guests := fun z hz => by rw [← z3]; exact List.mem_map_of_mem hz
  have zl : (p.gs.zip s.guests).length ≤ 9 := by rw [List.length_zip]; omega
  have c := el_comp (K := K) (σ := [some (.ref a), some (.int way), some (.ref lo), none, none, none, none]) (H := H1) (tl := tFld K (tVar 0) "guests") (g := gName 6) (te := tFld K (tVar 6) "country") (t := tTest (tOp rNe (tFld K (tVar 6) "country") (tFld K (tVar 0) "country"))) (l := p.gs.zip s.guests) (g0 := fun z => V.ref z.1) (vs := [6])
    (fun z => [some (.ref a), some (.int way), some (.ref lo), none, none, none, some (.ref z.1)]) (fun z => !decide (z.2.country = s.home)) (fun z => V.int (z.2.country : Int))
    (srcOf (ev_hguests T hp1 (ev_var (i := 0) rfl)) (by rw [z1]; exact sq_of hp1.og)) (by omega) (fun z _ H1 _ Q q => q) (fun z _ => rfl)
    (fun z hz H2 x2 => et_test (ev_is (ev_op (ev_gcountry T ((z2 z hz).ex x2) (ev_var (i := 6) rfl)) (ev_hcountry T (hp1.ex x2) (ev_var (i := 0) rfl)) (rv_ne rfl)) (congrArg (fun b => V.bl (!b)) (dec_nat _ _)))) (fun z hz _ H2 x2 => ev_gcountry T ((z2 z hz).ex x2) (ev_var (i := 6) rfl))
  generalize hcs : ((p.gs.zip s.guests).filter fun z => !decide (z.2.country = s.home)) = cs at c
  have cl : cs.length ≤ 9 := by
    rw [← hcs]; exact Nat.le_trans (List.length_filter_le _ _) zl
  refine q_asgCB2 (c H1 (Ex.refl _) _ fun q H2 nq x2 hq => ?_)
  refine ⟨q, cs.map fun z => (z.2.country : Int), rfl, sq_of (by rw [hq, List.map_map]; rfl), by rw [List.length_map]; omega, fun st cn nst hcn _ => ?_⟩
  rw [List.length_map] at hcn
  refine ⟨st, _, cn, rfl, upd_same, by omega, fun ns lt hpw hmem _ nlt => ?_⟩
  have law : ns = s.countries.map fun (n : Nat) => (n : Int) := by
    refine Fs.flags_law W hpw fun k => ?_
    rw [hmem, decide_eq_true_eq, ← hcs, List.mem_map]
    constructor
    · rintro ⟨z, hz, rfl⟩
      obtain ⟨h1, h2⟩ := List.mem_filter.mp hz
      refine ⟨z.2, mem z h1, rfl, ?_⟩
      simp only [Bool.not_eq_true', decide_eq_false_iff_not] at h2
      omega
    · rintro ⟨g, hg, rfl, hne⟩
      rw [← z3] at hg
      obtain ⟨z, hz, rfl⟩ := List.mem_map.mp hg
      refine ⟨z, List.mem_filter.mpr ⟨hz, ?_⟩, rfl⟩
      simp only [Bool.not_eq_true', decide_eq_false_iff_not]
      omega
  have hns : ns.map V.int = natsV s.countries := by rw [law]; unfold natsV; rw [List.map_map]; rfl
  rw [hns]
  have c31 := Fs.countries_len s
  have x4 : Ex H2 (upd (upd H2 st (SetO w st (fun j => decide (j ∈ cs.map fun z => (z.2.country : Int))) cn)) lt (.lst (natsV s.countries))) := (Ex.new nst).trans (Ex.new nlt)
  generalize hH4 : upd (upd H2 st (SetO w st (fun j => decide (j ∈ cs.map fun z => (z.2.country : Int))) cn)) lt (.lst (natsV s.countries)) = H4 at x4 ⊢
  have hlt : H4 lt = some (.lst (natsV s.countries)) := by rw [← hH4]; exact upd_same
  have hlo4 : H4 lo = some (.lst (natsV [s.home])) := x4 _ _ (x2 _ _ hlo)
  have y4 : Ex H H4 := (x1.trans x2).trans x4
  have ret : ∀ {H' p H'' l}, Ex H H' → H' p = none → Ex H' H'' → H'' p = some (.lst (natsV l)) → l = s.flags way.toNat → Q (.ref p) H'' := fun e np e' hp hl => by
    subst hl; exact k _ _ (fresh_back e np) (e.trans e') hp
  have ln : ∀ l : List Nat, (natsV l).length = l.length := nats_len
  refine q_when (et_test (ev_op (ev_var (i := 1) rfl) ev_c (rv_eq rfl))) (fun hb H5 x5 => ?_) fun hb H5 x5 => ?_
  · have hway : way = 0 := by rw [dec_int] at hb; simpa using hb
    refine s_retL (el_cat (xs := natsV [s.home]) (zs := natsV s.countries) (ev_var (i := 2) rfl) (ev_var (i := 3) rfl) (x5 _ _ hlo4) (x5 _ _ hlt) (by rw [ln, ln]; show 1 + _ ≤ _; omega)) fun p H6 np x6 h6 => ret (y4.trans x5) np x6 (l := s.home :: s.countries) h6 ?_
    subst hway; rfl
  refine q_when (et_test (ev_op (ev_var (i := 1) rfl) ev_c (rv_eq rfl))) (fun hc H6 x6 => ?_) fun hc H6 x6 => ?_
  · have hway : way = 1 := by rw [dec_int] at hc; simpa using hc
    refine s_retL (el_cat (xs := natsV s.countries) (zs := natsV [s.home]) (ev_var (i := 3) rfl) (ev_var (i := 2) rfl) (x6 _ _ (x5 _ _ hlt)) (x6 _ _ (x5 _ _ hlo4)) (by rw [ln, ln]; show _ + 1 ≤ _; omega)) fun p H7 np x7 h7 => ret ((y4.trans x5).trans x6) np x7 (l := s.countries ++ [s.home]) (by rw [h7]; unfold natsV; rw [List.map_append]) ?_
    subst hway; rfl
  have hway : way = 2 := by
    rw [dec_int] at hb hc
    have h0 : ¬ way = 0 := by simpa using hb
    have h1 : ¬ way = 1 := by simpa using hc
    omega
  have x7 := x5.trans x6
  have hlt6 := x7 _ _ hlt
  have hlo6 := x7 _ _ hlo4
  refine q_asgL (el_seconds (K := K) 1 (.inr rfl) c31 rfl hlt6 (fun _ => rfl) (fun _ => rfl) (fun _ => rfl)) fun ll H7 nll x8 hll => ?_
  refine ⟨.ref ll, rfl, Or.inl ⟨rfl, _, Or.inl (Or.inl hll)⟩, ll, _, rfl, rfl, hll, ?_⟩
  have x9 : Ex H6 (upd H7 ll (.lst (natsV (Fs.seconds s.countries 1)).reverse)) := Ex.mut x8 nll
  have hll9 : (upd H7 ll (.lst (natsV (Fs.seconds s.countries 1)).reverse)) ll = some (.lst (natsV (Fs.seconds s.countries 1).reverse)) := by rw [upd_same]; unfold natsV; rw [List.map_reverse]
  generalize upd H7 ll (.lst (natsV (Fs.seconds s.countries 1)).reverse) = H9 at x9 hll9
  have sl : ∀ b, (Fs.seconds s.countries b).length ≤ 16 := fun b => by unfold Fs.seconds; rw [List.length_map, List.length_range]; omega
  have s1 := sl 1
  have s0 := sl 0
  refine s_retL (el_catLL (xs := natsV (Fs.seconds s.countries 1).reverse ++ natsV [s.home]) (zs := natsV (Fs.seconds s.countries 0)) (el_cat (ev_var (i := 4) rfl) (ev_var (i := 2) rfl) hll9 (x9 _ _ hlo6) (by rw [ln, ln, List.length_reverse]; show _ + 1 ≤ _; omega))
    (fun H10 x10 => el_seconds (K := K) 0 (.inl rfl) c31 rfl (x10 _ _ (x9 _ _ hlt6)) (fun _ => rfl) (fun _ => rfl) (fun _ => rfl)) (by rw [List.length_append, ln, ln, ln, List.length_reverse]; show _ + 1 + _ ≤ _; omega)) fun p H10 np x10 h10 => ret ((y4.trans x7).trans x9) np x10 (l := (Fs.seconds s.countries 1).reverse ++ s.home :: Fs.seconds s.countries 0) ?_ ?_
  · rw [h10]; unfold natsV; simp
  · subst hway
    exact (Fs.flags_two s).symm
theorem sl_flags_of {way : Int} (h : HouseAt ad.G ad.H H a s) (W : WF s) (h0 : 0 ≤ way) (h2 : way ≤ 2) : SpL (sp_flags_of K ad) [.ref a, .int way] H (natsV (s.flags way.toNat)) := fun H1 e Q q E => ⟨a, s, way, rfl, h.ex e, W, h0, h2, q⟩
end
end FsR
namespace FsR
open PySem PySem.Spec PyProof.Rows L2 Evl
open Fs (compI WF)
section
variable {K : PySem.W.Frag} {mg : Str → Option Value} {ad : Ad} {w : World} {σ : L2.St} {H H' : Hp} {ta tb te tl : TE} {a : Addr} {s : Kg75.State} {p : Parts} {g : TG} {tu tz : TS} {D : Ends} {t : TT}
/-- [e for x in tuple if test] -/
theorem el_compT {α : Type} {l : List α} {g0 : α → V} {b : Addr} {vs : List Nat} (σ' : α → L2.St) (p : α → Bool) (v : α → V) (h : Ev tl σ H (.ref b)) (hx : SqT K H b (l.map g0)) (hz : l.length ≤ 40000)
    (hg : ∀ x ∈ l, ∀ H1, Ex H H1 → ∀ Q : L2.St → Hp → Prop, Q (σ' x) H1 → g (g0 x) (wipe σ vs) H1 Q) (hw : ∀ x ∈ l, wipe (σ' x) vs = wipe σ vs)
    (ht : ∀ x ∈ l, ∀ H1, Ex H H1 → EvT t (σ' x) H1 (p x)) (he : ∀ x ∈ l, p x = true → ∀ H1, Ex H H1 → Ev te (σ' x) H1 (v x)) : EvL (tLc (iTup K tl) g t te vs) σ H ((l.filter p).map v) := by
  intro H1 e Q q
  refine h H1 e _ fun H2 e2 => ⟨b, rfl, ⟨_, ex_t (e.trans e2) hx⟩, fun D hD => ?_⟩
  refine lc_tup (xs := l.map g0) (fun i H' => Ex H2 H' ∧ H' D = some (.lst (((l.take i).filter p).map v))) ⟨Ex.new hD, upd_same⟩ (fun i H' _ z => ex_t ((e.trans e2).trans z.1) hx) (fun i x H' hi z => ?_) fun H' z => ?_
  · obtain ⟨z1, z2⟩ := z
    rw [List.getElem?_map] at hi
    obtain ⟨x0, hx0, rfl⟩ := Option.map_eq_some_iff.mp hi
    have mem : x0 ∈ l := List.mem_of_getElem? hx0
    have hil : i < l.length := (List.getElem?_eq_some_iff.mp hx0).1
    have tk := take_snoc hx0
    have small : (((l.take i).filter p).map v).length ≤ i := by
      rw [List.length_map]
      exact Nat.le_trans (List.length_filter_le _ _) (by rw [List.length_take]; omega)
    refine hg x0 mem H' ((e.trans e2).trans z1) _ ⟨hw x0 mem, ?_⟩
    refine ht x0 mem H' ((e.trans e2).trans z1) H' (Ex.refl _) _ fun H3 e3 => ?_
    cases hp : p x0 with
    | true =>
      show te (σ' x0) H3 _
      have k3 := ((e.trans e2).trans z1).trans e3
      refine he x0 mem hp H3 k3 H3 (Ex.refl _) _ fun H4 e4 => ⟨_, e4 _ _ (e3 _ _ z2), sz_lt (by omega), Ex.mut ((z1.trans e3).trans e4) hD, ?_⟩
      rw [upd_same, tk, List.filter_append, List.filter_cons_of_pos hp, List.filter_nil, List.map_append]; rfl
    | false =>
      show _ ∧ _
      refine ⟨z1.trans e3, ?_⟩
      rw [tk, List.filter_append, List.filter_cons_of_neg (by rw [hp]; decide), List.filter_nil, List.append_nil]
      exact e3 _ _ z2
  · obtain ⟨z1, z2⟩ := z
    rw [List.length_map, List.take_length] at z2
    exact q D H' (fresh_back e2 hD) (e2.trans z1) z2
/-! ### a search, read -/
section
variable (a lgs lse lba lsh lsit : Addr)
theorem sF_house : (sF a lgs lse lba lsh lsit).lookup ("house" : Str) = some (.ref a) := lk_here
theorem sF_guests : (sF a lgs lse lba lsh lsit).lookup ("guests" : Str) = some (.ref lgs) := (lk_past (by decide +kernel)).trans lk_here
theorem sF_seats : (sF a lgs lse lba lsh lsit).lookup ("seats" : Str) = some (.ref lse) := (lk_past (by decide +kernel)).trans ((lk_past (by decide +kernel)).trans lk_here)
theorem sF_barred : (sF a lgs lse lba lsh lsit).lookup ("barred" : Str) = some (.ref lba) := (lk_past (by decide +kernel)).trans ((lk_past (by decide +kernel)).trans ((lk_past (by decide +kernel)).trans lk_here))
theorem sF_shared : (sF a lgs lse lba lsh lsit).lookup ("shared" : Str) = some (.ref lsh) := (lk_past (by decide +kernel)).trans ((lk_past (by decide +kernel)).trans ((lk_past (by decide +kernel)).trans ((lk_past (by decide +kernel)).trans lk_here)))
theorem sF_sitting : (sF a lgs lse lba lsh lsit).lookup ("sitting" : Str) = some (.ref lsit) := (lk_past (by decide +kernel)).trans ((lk_past (by decide +kernel)).trans ((lk_past (by decide +kernel)).trans ((lk_past (by decide +kernel)).trans ((lk_past (by decide +kernel)).trans lk_here))))
end
theorem MatAt.ex {rows : List Addr} {n : Nat} {f : Nat → Nat → Bool} (h : MatAt H rows n f) (e : Ex H H') : MatAt H' rows n f := ⟨h.1, fun i r hr => e _ _ (h.2 i r hr)⟩
variable {sa lsit dx lgs lse lba lsh : Addr} {gs : List Nat} {rb rs : List Addr} {sit : Fs.Sit}
theorem SearchS.ex (h : SearchS ad H sa lsit s gs dx a lgs lse lba lsh rb rs) (e : Ex H H') : SearchS ad H' sa lsit s gs dx a lgs lse lba lsh rb rs :=
  ⟨e _ _ h.ob, h.ho.ex e, e _ _ h.gu, e _ _ h.se, e _ _ h.ba, e _ _ h.sh, h.mb.ex e, h.ms.ex e⟩
theorem SearchAt.ex (h : SearchAt ad H sa lsit s gs sit) (e : Ex H H') : SearchAt ad H' sa lsit s gs sit := by
  obtain ⟨⟨dx, a, lgs, lse, lba, lsh, rb, rs, q⟩, h2, h3, h4⟩ := h
  exact ⟨⟨dx, a, lgs, lse, lba, lsh, rb, rs, q.ex (off_ex e)⟩, e _ _ h2, h3, h4⟩
theorem ev_ssitting (T : Txt K mg ad) (h : SearchAt ad H sa lsit s gs sit) (ht : Ev ta σ H (.ref sa)) : Ev (tFld K ta "sitting") σ H (.ref lsit) := by
  obtain ⟨⟨dx, a, lgs, lse, lba, lsh, rb, rs, q⟩, _⟩ := h
  exact ev_fld ht (ex_off _ _ q.ob) T.cS T.sSitting (sF_sitting _ _ _ _ _ _)
theorem sit_at {k : Nat} (hk : k < sit.length) : (sitV sit)[k]? = some (.int (compI (Fs.sAt sit k))) := by
  unfold sitV Fs.sAt
  rw [List.getElem?_map, List.getElem?_eq_getElem hk, List.getD_eq_getElem?_getD, List.getElem?_eq_getElem hk]; rfl
theorem sit_len : (sitV sit).length = sit.length := List.length_map ..
theorem sAt_lt {k g : Nat} (h : Fs.sAt sit k = some g) : k < sit.length := by
  unfold Fs.sAt at h
  rw [List.getD_eq_getElem?_getD] at h
  refine Nat.lt_of_not_le fun q => ?_
  rw [List.getElem?_eq_none q] at h
  cases h
/-- search.sitting[k] -/
theorem ev_sit (T : Txt K mg ad) (h : SearchAt ad H sa lsit s gs sit) (ht : Ev ta σ H (.ref sa)) {k : Nat} (hk : k < sit.length) (hb : Ev tb σ H (.int (k : Int))) : Ev (tOp (rIxL K) (tFld K ta "sitting") tb) σ H (.int (compI (Fs.sAt sit k))) :=
  ev_op (ev_ssitting T h ht) hb (rv_ixL (sq_of h.2.1) (atI_nat (sit_at hk)))
theorem ev_left (T : Txt K mg ad) (h : SearchAt ad H sa lsit s gs sit) (ht : Ev ta σ H (.ref sa)) {k : Nat} (hk : k < sit.length) (hb : Ev tb σ H (.int (k : Int))) : Ev (tCallF (sp_left_of K ad) (tCons (tFld K ta "sitting") (tCons tb tNil))) σ H (.int (compI (Fs.sAt sit (Fs.nbL sit.length k)))) :=
  ev_callF (ea_cons (ev_ssitting T h ht) (ea_cons hb ea_nil)) (sv_left_of (sq_of h.2.1) (by rw [sit_len]; exact hk) (by rw [sit_len]; exact sit_at (Fs.nbL_lt hk)))
theorem ev_right (T : Txt K mg ad) (h : SearchAt ad H sa lsit s gs sit) (ht : Ev ta σ H (.ref sa)) {k : Nat} (hk : k < sit.length) (hb : Ev tb σ H (.int (k : Int))) : Ev (tCallF (sp_right_of K ad) (tCons (tFld K ta "sitting") (tCons tb tNil))) σ H (.int (compI (Fs.sAt sit (Fs.nbR sit.length k)))) :=
  ev_callF (ea_cons (ev_ssitting T h ht) (ea_cons hb ea_nil)) (sv_right_of (sq_of h.2.1) (by rw [sit_len]; exact hk) (by rw [sit_len]; exact sit_at (Fs.nbR_lt hk)))
theorem ev_mat {rows : List Addr} {n : Nat} {f : Nat → Nat → Bool} {lm : Addr} {tc : TE} {i j : Nat} (hl : H lm = some (.lst (rows.map V.ref))) (hm : MatAt H rows n f) (h : Ev ta σ H (.ref lm)) (h1 : Ev tb σ H (.int (i : Int))) (h2 : Ev tc σ H (.int (j : Int))) (hi : i < n) (hj : j < n) :
    Ev (tOp (rIxL K) (tOp (rIxL K) ta tb) tc) σ H (.bl (f i j)) := by
  have hi' : i < rows.length := by rw [hm.1]; exact hi
  have hr := hm.2 i _ (List.getElem?_eq_getElem hi')
  refine ev_op (ev_op h h1 (rv_ixL (sq_of hl) (atI_nat (by rw [List.getElem?_map, List.getElem?_eq_getElem hi']; rfl)))) h2 (rv_ixL (sq_of hr) (atI_nat ?_))
  rw [List.getElem?_map, List.getElem?_range hj]; rfl
/-- search.barred[i][j], search.shared[i][j] -/
theorem ev_barred (T : Txt K mg ad) (h : SearchAt ad H sa lsit s gs sit) (ht : Ev ta σ H (.ref sa)) {tc : TE} {i j : Nat} (h1 : Ev tb σ H (.int (i : Int))) (h2 : Ev tc σ H (.int (j : Int))) (hi : i < s.guests.length) (hj : j < s.guests.length) : Ev (tOp (rIxL K) (tOp (rIxL K) (tFld K ta "barred") tb) tc) σ H (.bl (Fs.mayNot s i j)) := by
  obtain ⟨⟨dx, a, lgs, lse, lba, lsh, rb, rs, q⟩, _⟩ := h
  exact ev_mat (ex_off _ _ q.ba) (q.mb.ex ex_off) (ev_fld ht (ex_off _ _ q.ob) T.cS T.sBarred (sF_barred _ _ _ _ _ _)) h1 h2 hi hj
theorem ev_shared (T : Txt K mg ad) (h : SearchAt ad H sa lsit s gs sit) (ht : Ev ta σ H (.ref sa)) {tc : TE} {i j : Nat} (h1 : Ev tb σ H (.int (i : Int))) (h2 : Ev tc σ H (.int (j : Int))) (hi : i < s.guests.length) (hj : j < s.guests.length) : Ev (tOp (rIxL K) (tOp (rIxL K) (tFld K ta "shared") tb) tc) σ H (.bl (s.share i j)) := by
  obtain ⟨⟨dx, a, lgs, lse, lba, lsh, rb, rs, q⟩, _⟩ := h
  exact ev_mat (ex_off _ _ q.sh) (q.ms.ex ex_off) (ev_fld ht (ex_off _ _ q.ob) T.cS T.sShared (sF_shared _ _ _ _ _ _)) h1 h2 hi hj
theorem rd_is_barred (T : Txt K mg ad) (vs : List V) (H : Hp) (Q : VK) (E : XK) (h : sp_is_barred K ad vs H Q E) : t_is_barred w K ad { nx := fun _ H' => Q .non H', rt := Q } (start N_is_barred vs) H := by
  obtain ⟨sa, lsit, s, gs, sit, k, g, rfl, hs, W, hg, kk⟩ := h
  have hk := sAt_lt hg
  have hl := hs.2.2.1
  have gl := hs.2.2.2
  have ev0 := ev_sit T hs (ta := tVar 0) (tb := tVar 1) (σ := start N_is_barred [.ref sa, .int k]) (ev_var rfl) hk (ev_var rfl)
  rw [hg] at ev0
  refine q_asg ev0 fun H1 x1 => ?_
  have hs1 := hs.ex x1
  let bar : Option Nat → Bool := fun o => match o with
    | none => false
    | some h => Fs.mayNot s g h
  have bm : Fs.barredM s sit k = (bar (Fs.sAt sit (Fs.nbL sit.length k)) || bar (Fs.sAt sit (Fs.nbR sit.length k))) := by
    unfold Fs.barredM
    rw [hg]
    simp only [List.any_cons, List.any_nil, Bool.or_false]
    rfl
  have item : ∀ (o : Option Nat) (H2 : Hp) (D : Ends), (∀ g, o = some g → g < s.guests.length) → Ex H1 H2 → (bar o = true → ∀ H3, Ex H2 H3 → D.rt (.bl true) H3) → (bar o = false → ∀ H3, Ex H2 H3 → D.nx [some (.ref sa), some (.int (k : Int)), some (.int (compI (some g))), some (.int (compI o))] H3) →
      tIfS (tAnd (tTest (tOp rNe (tVar 3) (tC (.int (-1))))) (tB (tOp (rIxL K) (tOp (rIxL K) (tFld K (tVar 0) "barred") (tVar 2)) (tVar 3)))) (tRet (tC (.bl true))) tNext D [some (.ref sa), some (.int (k : Int)), some (.int (compI (some g))), some (.int (compI o))] H2 := by
    intro o H2 D ho e h1 h2
    cases o with
    | none =>
      exact s_when (b := false) (et_is (et_and (b := false) (et_test (ev_op (ev_var (i := 3) rfl) ev_c (rv_ne rfl))) (fun hb => absurd hb (by rw [ne_comp]; decide))) (by rw [ne_comp]; rfl)) (fun hb => Bool.noConfusion hb) fun _ H3 e3 => h2 rfl H3 e3
    | some j =>
      exact s_when (b := Fs.mayNot s g j) (et_is (et_and (et_test (ev_op (ev_var (i := 3) rfl) ev_c (rv_ne rfl))) (fun _ => et_val (ev_barred T (hs1.ex e) (ev_var (i := 0) rfl) (i := g) (j := j) (ev_var (i := 2) rfl) (ev_var (i := 3) rfl) (gl _ _ hg) (ho j rfl)))) (by rw [ne_comp]; rfl))
        (fun hb H3 e3 => s_ret ev_c fun H4 e4 => h1 hb H4 (e3.trans e4)) fun hb H3 e3 => h2 hb H3 e3
  have hL : ∀ h, Fs.sAt sit (Fs.nbL sit.length k) = some h → h < s.guests.length := fun h e => gl _ _ e
  have hR : ∀ h, Fs.sAt sit (Fs.nbR sit.length k) = some h → h < s.guests.length := fun h e => gl _ _ e
  refine s_forNU (D := { nx := tRet (tC (.bl false)) { nx := fun _ H' => Q .non H', rt := Q }, rt := Q }) (xs := [.int (compI (Fs.sAt sit (Fs.nbL sit.length k))), .int (compI (Fs.sAt sit (Fs.nbR sit.length k)))])
    (eu_tup (ea_cons (ev_left T hs1 (ev_var (i := 0) rfl) hk (ev_var (i := 1) rfl)) (ea_cons (ev_right T hs1 (ev_var (i := 0) rfl) hk (ev_var (i := 1) rfl)) ea_nil)) (by show 2 ≤ 100000; decide))
    (fun tp m σ' H' => (∃ v3, σ' = [some (.ref sa), some (.int (k : Int)), some (.int (compI (some g))), v3]) ∧ Ex H1 H' ∧ H' tp = some (.tup [.int (compI (Fs.sAt sit (Fs.nbL sit.length k))), .int (compI (Fs.sAt sit (Fs.nbR sit.length k)))]) ∧
      (1 ≤ m → bar (Fs.sAt sit (Fs.nbL sit.length k)) = false) ∧ (2 ≤ m → bar (Fs.sAt sit (Fs.nbR sit.length k)) = false))
    (fun tp H2 _ x2 h2 => ⟨⟨none, rfl⟩, x2, h2, fun h => absurd h (by decide), fun h => absurd h (by decide)⟩) (fun tp m σ' H' _ z => st_of z.2.2.1) ?_ ?_
  · rintro tp m x σ' H' hm ⟨⟨v3, rfl⟩, e, ht, b1, b2⟩
    match m, hm with
    | 0, hm =>
      obtain rfl : V.int (compI (Fs.sAt sit (Fs.nbL sit.length k))) = x := Option.some.inj hm
      refine item _ H' _ hL e (fun hb H3 e3 => ?_) fun hb H3 e3 => ⟨⟨_, rfl⟩, e.trans e3, e3 _ _ ht, fun _ => hb, fun h => absurd h (by decide)⟩
      have := kk H3 ((x1.trans e).trans e3)
      rw [bm, hb, Bool.true_or] at this
      exact this
    | 1, hm =>
      obtain rfl : V.int (compI (Fs.sAt sit (Fs.nbR sit.length k))) = x := Option.some.inj hm
      refine item _ H' _ hR e (fun hb H3 e3 => ?_) fun hb H3 e3 => ⟨⟨_, rfl⟩, e.trans e3, e3 _ _ ht, fun _ => b1 (Nat.le_refl _), fun _ => hb⟩
      have := kk H3 ((x1.trans e).trans e3)
      rw [bm, hb, Bool.or_true] at this
      exact this
    | m + 2, hm => simp at hm
  · rintro tp σ' H' ⟨⟨v3, rfl⟩, e, ht, b1, b2⟩
    show tRet (tC (.bl false)) { nx := fun _ H' => Q .non H', rt := Q } [some (.ref sa), some (.int (k : Int)), some (.int (compI (some g))), v3] H'
    refine s_ret ev_c fun H3 e3 => ?_
    have := kk H3 ((x1.trans e).trans e3)
    rw [bm, b1 (by show 1 ≤ 2; decide), b2 (by show 2 ≤ 2; decide)] at this
    exact this
theorem sv_is_barred {k g : Nat} (h : SearchAt ad H sa lsit s gs sit) (W : WF s) (hg : Fs.sAt sit k = some g) : SpV (sp_is_barred K ad) [.ref sa, .int k] H (.bl (Fs.barredM s sit k)) := fun H1 e Q q E => ⟨sa, lsit, s, gs, sit, k, g, rfl, h.ex e, W, hg, q⟩
theorem neg_in (o o' : Option Nat) : inV (.int (-1)) [.int (compI o), .int (compI o')] = (decide (o = none) || decide (o' = none)) := by
  have e : ∀ o : Option Nat, eqV (.int (compI o)) (.int (-1)) = decide (o = none) := fun o => by
    rw [← comp_none, dec_int]; rfl
  show ([V.int (compI o), V.int (compI o')].any fun y => eqV y (.int (-1))) = _
  simp only [List.any_cons, List.any_nil, Bool.or_false, e]
theorem rd_has_nobody_to_talk_to (T : Txt K mg ad) (vs : List V) (H : Hp) (Q : VK) (E : XK) (h : sp_has_nobody_to_talk_to K ad vs H Q E) : t_has_nobody_to_talk_to w K ad { nx := fun _ H' => Q .non H', rt := Q } (start N_has_nobody_to_talk_to vs) H := by
  obtain ⟨sa, lsit, s, gs, sit, k, rfl, hs, W, hk', kk⟩ := h
  have hl := hs.2.2.1
  have hk : k < sit.length := by rw [hl]; exact hk'
  have gl := hs.2.2.2
  refine q_asg (ev_sit T hs (ta := tVar 0) (tb := tVar 1) (σ := start N_has_nobody_to_talk_to [.ref sa, .int k]) (ev_var rfl) hk (ev_var rfl)) fun H1 x1 => ?_
  have hs1 := hs.ex x1
  refine q_asgL (el_lst (ea_cons (ev_left T hs1 (ev_var (i := 0) rfl) hk (ev_var (i := 1) rfl)) (ea_cons (ev_right T hs1 (ev_var (i := 0) rfl) hk (ev_var (i := 1) rfl)) ea_nil)) (by show 2 ≤ 100000; decide)) fun lb H2 _ x2 hlb => ?_
  have y2 := x1.trans x2
  have lm : Fs.lonelyM s sit k = match Fs.sAt sit k, Fs.sAt sit (Fs.nbL sit.length k), Fs.sAt sit (Fs.nbR sit.length k) with
    | some g, some a, some b => !s.share g a && !s.share g b
    | _, _, _ => false := rfl
  have t1 := rv_isL (K := K) (H := H2) (x := .int (-1)) (sq_of hlb) rfl rfl
  rw [neg_in] at t1
  refine q_when (et_or (et_test (ev_is (ev_op (ev_var (i := 2) rfl) ev_c (rv_eq rfl)) (congrArg V.bl comp_none))) fun _ => et_test (ev_op ev_c (ev_var (i := 3) rfl) t1)) (fun hb H3 x3 => ?_) fun hb H3 x3 => ?_
  · refine s_ret ev_c fun H4 x4 => ?_
    have := kk H4 ((y2.trans x3).trans x4)
    have f : Fs.lonelyM s sit k = false := by
      rw [lm]
      revert hb
      cases Fs.sAt sit k <;> cases Fs.sAt sit (Fs.nbL sit.length k) <;> cases Fs.sAt sit (Fs.nbR sit.length k) <;> simp
    rw [f] at this
    exact this
  · cases hg : Fs.sAt sit k with
    | none => rw [hg] at hb; simp at hb
    | some g =>
      cases ha : Fs.sAt sit (Fs.nbL sit.length k) with
      | none => rw [hg, ha] at hb; simp at hb
      | some ga =>
        cases hc : Fs.sAt sit (Fs.nbR sit.length k) with
        | none => rw [hg, ha, hc] at hb; simp at hb
        | some gb =>
          rw [ha, hc] at hlb
          rw [hg, ha, hc] at lm
          have y3 := y2.trans x3
          have hs3 := hs.ex y3
          have c := el_comp (K := K) (σ := [some (.ref sa), some (.int (k : Int)), some (.int (compI (some g))), some (.ref lb), none]) (H := H3) (tl := tVar 3) (g := gName 4) (te := tVar 4) (t := tB (tOp (rIxL K) (tOp (rIxL K) (tFld K (tVar 0) "shared") (tVar 2)) (tVar 4))) (l := [ga, gb]) (g0 := fun (n : Nat) => V.int (n : Int)) (vs := [4])
            (fun x => [some (.ref sa), some (.int (k : Int)), some (.int (compI (some g))), some (.ref lb), some (.int (x : Int))]) (fun x => s.share g x) (fun (n : Nat) => V.int (n : Int)) (srcOf (ev_var (i := 3) rfl) (sq_of (x3 _ _ hlb))) (by show 2 ≤ 40000; decide) (fun x _ H1 _ Q q => q) (fun x _ => rfl)
            (fun x hx H4 x4 => et_val (ev_shared T (hs3.ex x4) (ev_var (i := 0) rfl) (i := g) (j := x) (ev_var (i := 2) rfl) (ev_var (i := 4) rfl) (gl _ _ hg) (by
              simp only [List.mem_cons, List.not_mem_nil, or_false] at hx
              rcases hx with rfl | rfl
              · exact gl _ _ ha
              · exact gl _ _ hc))) (fun x _ _ H1 _ => ev_var rfl)
          refine s_ret (v := .bl (Fs.lonelyM s sit k)) ?_ fun H4 x4 => kk H4 (y3.trans x4)
          refine ev_is (v := .bl (decide (([ga, gb].filter fun x => s.share g x) = []))) (ev_opLL c el_nil fun q r H4 hq hr e => ?_) ?_
          · have hq' : SqL K H4 q (intsV (([ga, gb].filter fun x => s.share g x).map fun (n : Nat) => (n : Int))) := by
              rw [← nats_ints]; exact sq_of hq
            have c := rv_eqNil hq' (sq_of hr)
            simp only [List.map_eq_nil_iff] at c
            exact c
          · rw [lm]
            cases s.share g ga <;> cases s.share g gb <;> simp_all
theorem sv_has_nobody {k : Nat} (h : SearchAt ad H sa lsit s gs sit) (W : WF s) (hk : k < s.guests.length) : SpV (sp_has_nobody_to_talk_to K ad) [.ref sa, .int k] H (.bl (Fs.lonelyM s sit k)) := fun H1 e Q q E => ⟨sa, lsit, s, gs, sit, k, rfl, h.ex e, W, hk, q⟩
end
end FsR
namespace FsR
open PySem PySem.Spec PyProof.Rows L2 Evl
open Fs (compI WF)
section
variable {K : PySem.W.Frag} {mg : Str → Option Value} {ad : Ad} {w : World} {σ : L2.St} {H H' : Hp} {ta tb te tl : TE} {a : Addr} {s : Kg75.State} {p : Parts} {g : TG} {tu tz : TS} {D : Ends} {t : TT}
variable {sa lsit dx lgs lse lba lsh : Addr} {gs : List Nat} {rb rs : List Addr} {sit : Fs.Sit}
/-- search.house.rules[i] -/
theorem ev_srule (T : Txt K mg ad) (h : SearchAt ad H sa lsit s gs sit) (ht : Ev ta σ H (.ref sa)) {i : Nat} {v : V} (hv : (rulesV s.rules)[i]? = some v) : Ev (tOp (rIxL K) (tFld K (tFld K ta "house") "rules") (tC (.int (i : Int)))) σ H v := by
  obtain ⟨⟨dx, a, lgs, lse, lba, lsh, rb, rs, q⟩, _⟩ := h
  obtain ⟨p, hp⟩ := q.ho
  exact ev_rule T (hp.ex ex_off) (ev_fld ht (ex_off _ _ q.ob) T.cS T.sHouse (sF_house _ _ _ _ _ _)) hv
theorem mod_left {n k : Nat} (h : k < n) : ((k : Int) - 1) % (n : Int) = ((Fs.nbL n k : Nat) : Int) := by
  unfold Fs.nbL
  rw [Int.natCast_emod, show ((k + n - 1 : Nat) : Int) = ((k : Int) - 1) + (n : Int) by omega, Int.add_emod_right]
theorem mod_right {n k : Nat} : ((k : Int) + 1) % (n : Int) = ((Fs.nbR n k : Nat) : Int) := by
  unfold Fs.nbR
  rw [Int.natCast_emod]; rfl
theorem rd_is_well (T : Txt K mg ad) (vs : List V) (H : Hp) (Q : VK) (E : XK) (h : sp_is_well K ad vs H Q E) : t_is_well w K ad { nx := fun _ H' => Q .non H', rt := Q } (start N_is_well vs) H := by
  obtain ⟨sa, lsit, s, gs, sit, k, g, rfl, hs, W, hg, kk⟩ := h
  have hk := sAt_lt hg
  have hl := hs.2.2.1
  have gl := hs.2.2.2
  refine q_when (b := Fs.barredM s sit k) (et_val (ev_callF (ea_cons (ev_var rfl) (ea_cons (ev_var rfl) ea_nil)) (sv_is_barred hs W hg))) (fun hb H1 x1 => ?_) fun hb H1 x1 => ?_
  · refine s_ret ev_c fun H2 x2 => ?_
    have := kk H2 (x1.trans x2)
    unfold Fs.wellM at this
    rw [hb] at this
    exact this
  · have hs1 := hs.ex x1
    have wm : Fs.wellM s sit k = (!s.rules.languages || [Fs.nbL sit.length k, k, Fs.nbR sit.length k].all fun k => !Fs.lonelyM s sit k) := by
      unfold Fs.wellM
      rw [hb]; rfl
    refine q_when (b := !s.rules.languages) (et_test (ev_is (ev_op (ev_srule T hs1 (ev_var (i := 0) rfl) (i := 3) rfl) ev_c (rv_eq rfl)) (congrArg V.bl (dec_b20 _)))) (fun hb2 H2 x2 => ?_) fun hb2 H2 x2 => ?_
    · refine s_ret ev_c fun H3 x3 => ?_
      have := kk H3 ((x1.trans x2).trans x3)
      rw [wm, hb2, Bool.true_or] at this
      exact this
    · rw [hb2, Bool.false_or] at wm
      have y2 := x1.trans x2
      have hs2 := hs1.ex x2
      refine q_asg (v := .int (sit.length : Int)) (ev_is (ev_len (ev_ssitting T hs2 (ev_var (i := 0) rfl)) (sq_of hs2.2.1)) (by rw [sit_len])) fun H3 x3 => ?_
      have hpos : 0 < (sit.length : Int) := by omega
      refine q_asgU (eu_tup (ea_cons (ev_is (w := .int (Fs.nbL sit.length k : Nat)) (ev_op (ev_op (ev_var (i := 1) rfl) ev_c rv_I0) (ev_var (i := 2) rfl) (rv_I (by omega))) (congrArg V.int (mod_left hk)))
        (ea_cons (ev_var (i := 1) rfl) (ea_cons (ev_is (w := .int (Fs.nbR sit.length k : Nat)) (ev_op (ev_op (ev_var (i := 1) rfl) ev_c rv_I0) (ev_var (i := 2) rfl) (rv_I (by omega))) (congrArg V.int mod_right)) ea_nil))) (by show 3 ≤ 100000; decide)) fun tp H4 _ x4 htp => ?_
      have y4 := (y2.trans x3).trans x4
      have hs4 := hs.ex y4
      have c := el_compT (K := K) (σ := [some (.ref sa), some (.int (k : Int)), some (.int (sit.length : Int)), some (.ref tp), none]) (H := H4) (tl := tVar 3) (g := gName 4) (te := tVar 4) (t := tB (tCallF (sp_has_nobody_to_talk_to K ad) (tCons (tVar 0) (tCons (tVar 4) tNil)))) (l := [Fs.nbL sit.length k, k, Fs.nbR sit.length k]) (g0 := fun (n : Nat) => V.int (n : Int)) (vs := [4])
        (fun x => [some (.ref sa), some (.int (k : Int)), some (.int (sit.length : Int)), some (.ref tp), some (.int (x : Int))]) (fun x => Fs.lonelyM s sit x) (fun (n : Nat) => V.int (n : Int)) (ev_var (i := 3) rfl) (st_of htp) (by show 3 ≤ 40000; decide) (fun x _ H1 _ Q q => q) (fun x _ => rfl)
        (fun x hx H5 x5 => et_val (ev_callF (ea_cons (ev_var rfl) (ea_cons (ev_var rfl) ea_nil)) (sv_has_nobody (hs4.ex x5) W (by
          rw [← hl]
          simp only [List.mem_cons, List.not_mem_nil, or_false] at hx
          rcases hx with rfl | rfl | rfl
          · exact Fs.nbL_lt hk
          · exact hk
          · exact Fs.nbR_lt hk)))) (fun x _ _ H1 _ => ev_var rfl)
      refine s_ret (v := .bl (Fs.wellM s sit k)) ?_ fun H5 x5 => kk H5 (y4.trans x5)
      refine ev_is (v := .bl (decide (([Fs.nbL sit.length k, k, Fs.nbR sit.length k].filter fun x => Fs.lonelyM s sit x) = []))) (ev_opLL c el_nil fun q r H4 hq hr e => ?_) ?_
      · have hq' : SqL K H4 q (intsV (([Fs.nbL sit.length k, k, Fs.nbR sit.length k].filter fun x => Fs.lonelyM s sit x).map fun (n : Nat) => (n : Int))) := by
          rw [← nats_ints]; exact sq_of hq
        have c := rv_eqNil hq' (sq_of hr)
        simp only [List.map_eq_nil_iff] at c
        exact c
      · rw [wm, ← filter_nil_all]
        simp only [Bool.not_not]
theorem sv_is_well {k g : Nat} (h : SearchAt ad H sa lsit s gs sit) (W : WF s) (hg : Fs.sAt sit k = some g) : SpV (sp_is_well K ad) [.ref sa, .int k] H (.bl (Fs.wellM s sit k)) := fun H1 e Q q E => ⟨sa, lsit, s, gs, sit, k, g, rfl, h.ex e, W, hg, q⟩
end
end FsR
namespace Fs
open Kg75
theorem mem_eraseDups {x : Nat} {l : List Nat} (h : x ∈ l.eraseDups) : x ∈ l := by simpa using h
theorem seats_mem (s : State) : ∀ x ∈ s.seats, x < s.guests.length ∧ x ∉ s.hosts.map (fun y => y.2) := by
  intro x hx
  unfold State.seats at hx
  simp only [List.mem_filter] at hx
  obtain ⟨h1, h2⟩ := hx
  have h1 := mem_eraseDups h1
  refine ⟨?_, by simpa using h2⟩
  rw [List.mem_flatMap] at h1
  obtain ⟨k, hk, h1⟩ := h1
  have hk := List.mem_range.mp hk
  have pos : 0 < s.guests.length := by unfold State.size at hk; omega
  rcases List.mem_append.mp h1 with h | h
  · obtain ⟨y, _, rfl⟩ := List.mem_map.mp h
    exact Nat.mod_lt _ pos
  · obtain ⟨y, _, rfl⟩ := List.mem_map.mp h
    exact Nat.mod_lt _ pos
def stepM (s : State) (g : Nat) (r : List Nat) (sit : Sit) (x : Nat) : Option Sit := if sAt sit x = none then (if wellM s (sit.set x (some g)) x = true then seatedM s s.seats r (sit.set x (some g)) else none) else none
theorem seated_cons (s : State) (g : Nat) (r : List Nat) (sit : Sit) : seatedM s s.seats (g :: r) sit = s.seats.findSome? (stepM s g r sit) := rfl
theorem findSome_at {α β : Type} (f : α → Option β) {l : List α} {m : Nat} {x : α} {y : β} (hm : l[m]? = some x) (hb : ∀ z ∈ l.take m, f z = none) (hx : f x = some y) : l.findSome? f = some y := by
  have hl : m < l.length := (List.getElem?_eq_some_iff.mp hm).1
  have e : l = l.take m ++ x :: l.drop (m + 1) := by
    have := (List.take_append_drop m l).symm
    rw [List.drop_eq_getElem_cons hl] at this
    rw [List.getElem?_eq_getElem hl] at hm
    rw [Option.some.inj hm] at this
    exact this
  rw [e, List.findSome?_append, List.findSome?_eq_none_iff.mpr hb, Option.none_or, List.findSome?_cons, hx]
end Fs
namespace FsR
open PySem PySem.Spec PyProof.Rows L2 Evl
open Fs (compI WF)
theorem ExF.off {F : List Addr} {H H' : Hp} (e : ExF F H H') : Ex (off F H) (FsR.off F H') := fun b o h => off_of (e b o h) (off_get h).2
section
variable {K : PySem.W.Frag} {mg : Str → Option Value} {ad : Ad} {w : World} {σ : L2.St} {H H' : Hp} {ta tb te tl : TE} {a : Addr} {s : Kg75.State} {p : Parts} {g : TG} {tu tz : TS} {D : Ends} {t : TT}
variable {sa lsit dx lgs lse lba lsh : Addr} {gs : List Nat} {rb rs : List Addr} {sit : Fs.Sit}
theorem SearchAt.mut {sit' : Fs.Sit} (h : SearchAt ad H sa lsit s gs sit) (e : ExF [lsit] H H') (h1 : H' lsit = some (.lst (sitV sit'))) (hl : sit'.length = s.guests.length) (hg : ∀ k g, Fs.sAt sit' k = some g → g < s.guests.length) : SearchAt ad H' sa lsit s gs sit' := by
  obtain ⟨⟨dx, a, lgs, lse, lba, lsh, rb, rs, q⟩, _⟩ := h
  exact ⟨⟨dx, a, lgs, lse, lba, lsh, rb, rs, q.ex e.off⟩, h1, hl, hg⟩
theorem sAt_set {x k : Nat} {o : Option Nat} (hx : x < sit.length) : Fs.sAt (sit.set x o) k = if k = x then o else Fs.sAt sit k := by
  unfold Fs.sAt
  rw [List.getD_eq_getElem?_getD, List.getElem?_set]
  by_cases e : k = x
  · subst e; rw [if_pos rfl, if_pos hx, if_pos rfl]; rfl
  · rw [if_neg (fun q => e q.symm), if_neg e, List.getD_eq_getElem?_getD]
theorem sitV_set {x : Nat} {o : Option Nat} : sitV (sit.set x o) = (sitV sit).set x (.int (compI o)) := by
  unfold sitV; rw [List.map_set]
theorem set_back {x : Nat} {o : Option Nat} (hx : x < sit.length) (h : Fs.sAt sit x = none) : (sit.set x o).set x none = sit := by
  rw [List.set_set]
  apply List.ext_getElem?
  intro i
  rw [List.getElem?_set]
  by_cases e : x = i
  · subst e
    rw [if_pos rfl, if_pos hx, List.getElem?_eq_getElem hx]
    unfold Fs.sAt at h
    rw [List.getD_eq_getElem?_getD, List.getElem?_eq_getElem hx] at h
    exact congrArg some h.symm
  · rw [if_neg e]
theorem ev_sguests (T : Txt K mg ad) (h : SearchAt ad H sa lsit s gs sit) : ∃ l, (∀ {σ : L2.St} {ta : TE}, Ev ta σ H (.ref sa) → Ev (tFld K ta "guests") σ H (.ref l)) ∧ off [lsit] H l = some (.lst (natsV gs)) := by
  obtain ⟨⟨dx, a, lgs, lse, lba, lsh, rb, rs, q⟩, _⟩ := h
  exact ⟨lgs, fun ht => ev_fld ht (ex_off _ _ q.ob) T.cS T.sGuests (sF_guests _ _ _ _ _ _), q.gu⟩
theorem ev_sseats (T : Txt K mg ad) (h : SearchAt ad H sa lsit s gs sit) : ∃ l, (∀ {σ : L2.St} {ta : TE}, Ev ta σ H (.ref sa) → Ev (tFld K ta "seats") σ H (.ref l)) ∧ off [lsit] H l = some (.lst (natsV s.seats)) := by
  obtain ⟨⟨dx, a, lgs, lse, lba, lsh, rb, rs, q⟩, _⟩ := h
  exact ⟨lse, fun ht => ev_fld ht (ex_off _ _ q.ob) T.cS T.sSeats (sF_seats _ _ _ _ _ _), q.se⟩
theorem tb_call {sp : Sp} {ts : TA} {vs : List V} {Q : Bool → Hp → Prop} (h : EvA ts σ H vs) (k : ∀ H1, Ex H H1 → sp vs H1 (fun x H2 => ∃ c, x = .bl c ∧ Q c H2) E0) : tB (tCallF sp ts) σ H Q := h H (Ex.refl H) _ k
theorem rd_is_seated (T : Txt K mg ad) (dd : Nat) (vs : List V) (H : Hp) (Q : VK) (E : XK) (h : sp_is_seated (dd + 1) K ad vs H Q E) : t_is_seated w K ad dd { nx := fun _ H' => Q .non H', rt := Q } (start N_is_seated vs) H := by
  obtain ⟨sa, lsit, s, gs, sit, k, rfl, hs, W, hk, hd, hgs, kn, ks⟩ := h
  have hl := hs.2.2.1
  have gl := hs.2.2.2
  obtain ⟨lg, eg, hg⟩ := ev_sguests T hs
  have c0 : Ev (tOp rEq (tVar 1) (tCB (rLenS K) (tCons (tFld K (tVar 0) "guests") tNil))) (start N_is_seated [.ref sa, .int k]) H (.bl (decide (k = gs.length))) :=
    ev_is (ev_op (ev_var rfl) (ev_len (eg (ev_var rfl)) (sq_of (ex_off _ _ hg))) (rv_eq rfl)) (by rw [nats_len]; exact congrArg V.bl (dec_nat _ _))
  refine q_when (et_test c0) (fun hb H1 x1 => ?_) fun hb H1 x1 => ?_
  · have hb := of_decide_eq_true hb
    refine s_ret ev_c fun H2 x2 => ?_
    have e := x1.trans x2
    refine ks sit ?_ H2 (ExF.of e) (e _ _ hs.2.1)
    rw [hb, List.drop_length]; rfl
  · have hb := of_decide_eq_false hb
    have hk' : k < gs.length := by omega
    have hs1 := hs.ex x1
    have dr : gs.drop k = gs[k] :: gs.drop (k + 1) := List.drop_eq_getElem_cons hk'
    obtain ⟨gk, hgk⟩ : ∃ gk, gs[k] = gk := ⟨_, rfl⟩
    have gkl : gk < s.guests.length := hgs gk (by rw [← hgk]; exact List.getElem_mem hk')
    rw [hgk] at dr
    rw [dr, Fs.seated_cons] at kn ks
    obtain ⟨ls, es, hls⟩ := ev_sseats T hs1
    have x1f : ExF [lsit] H H1 := ExF.of x1
    refine s_forL (D := { nx := tRet (tC (.bl false)) { nx := fun _ H' => Q .non H', rt := Q }, rt := Q }) (es (ev_var (i := 0) rfl)) (sq_of (ex_off _ _ hls))
      (fun m σ' H' => (∃ v2, σ' = [some (.ref sa), some (.int (k : Int)), v2]) ∧ ExF [lsit] H1 H' ∧ H' lsit = some (.lst (sitV sit)) ∧ ∀ x ∈ s.seats.take m, Fs.stepM s gk (gs.drop (k + 1)) sit x = none)
      (fun H2 x2 => ⟨⟨none, rfl⟩, ExF.of x2, x2 _ _ hs1.2.1, fun x hx => by simp at hx⟩) (fun m σ' H' _ z => sq_of (z.2.1 _ _ hls)) ?_ ?_
    · rintro m x σ' H' hm ⟨⟨v2, rfl⟩, e, hsit, hb4⟩
      unfold natsV at hm
      rw [List.getElem?_map] at hm
      obtain ⟨x0, hx0, rfl⟩ := Option.map_eq_some_iff.mp hm
      have hxs := (Fs.seats_mem s x0 (List.mem_of_getElem? hx0)).1
      have hxl : x0 < sit.length := by rw [hl]; exact hxs
      have hs2 : SearchAt ad H' sa lsit s gs sit := hs1.mut e hsit hl gl
      have next : ∀ {H5}, ExF [lsit] H1 H5 → H5 lsit = some (.lst (sitV sit)) → Fs.stepM s gk (gs.drop (k + 1)) sit x0 = none → ∀ v2, (∃ v2', ([some (.ref sa), some (.int (k : Int)), v2] : L2.St) = [some (.ref sa), some (.int (k : Int)), v2']) ∧ ExF [lsit] H1 H5 ∧ H5 lsit = some (.lst (sitV sit)) ∧ ∀ x ∈ s.seats.take (m + 1), Fs.stepM s gk (gs.drop (k + 1)) sit x = none := fun {H5} e5 h5 hn v2 => by
        refine ⟨⟨v2, rfl⟩, e5, h5, fun x hx => ?_⟩
        rw [take_snoc hx0] at hx
        rcases List.mem_append.mp hx with hx | hx
        · exact hb4 x hx
        · rw [List.mem_singleton.mp hx]; exact hn
      show tIfS _ _ _ _ [some (.ref sa), some (.int (k : Int)), some (.int (x0 : Int))] H'
      refine s_when (b := decide (Fs.sAt sit x0 = none)) (et_test (ev_is (ev_op (ev_sit T hs2 (ev_var (i := 0) rfl) hxl (ev_var (i := 2) rfl)) ev_c (rv_eq rfl)) (congrArg V.bl comp_none))) (fun hn H3 x3 => ?_) fun hn H3 x3 => ?_
      · have hn := of_decide_eq_true hn
        have hs3 := hs2.ex x3
        have e3 : ExF [lsit] H1 H3 := e.trans (ExF.of x3)
        obtain ⟨lg3, eg3, hg3⟩ := ev_sguests T hs3
        have v0 : (natsV gs)[k]? = some (.int (gk : Int)) := by
          unfold natsV
          rw [List.getElem?_map, List.getElem?_eq_getElem hk', hgk]; rfl
        refine q_setL (l := lsit) (xs := sitV sit) (j := x0) hs3.2.1 (ev_op (eg3 (ev_var (i := 0) rfl)) (ev_var (i := 1) rfl) (rv_ixL (sq_of (ex_off _ _ hg3)) (atI_nat v0))) (ev_ssitting T hs3 (ev_var (i := 0) rfl)) (ev_var (i := 2) rfl) (by rw [sit_len]; exact hxl) fun H4 x4 => ?_
        have sv : (sitV sit).set x0 (.int (gk : Int)) = sitV (sit.set x0 (some gk)) := (sitV_set (sit := sit) (x := x0) (o := some gk)).symm
        rw [sv]
        obtain ⟨H5, hH5⟩ : ∃ H5, upd H4 lsit (.lst (sitV (sit.set x0 (some gk)))) = H5 := ⟨_, rfl⟩
        rw [hH5]
        have e5 : ExF [lsit] H1 H5 := by
          rw [← hH5]
          exact (e3.trans (ExF.of x4)).upd (.inl (List.mem_singleton.mpr rfl))
        have h5 : H5 lsit = some (.lst (sitV (sit.set x0 (some gk)))) := by rw [← hH5]; exact upd_same
        have hl5 : (sit.set x0 (some gk)).length = s.guests.length := by rw [List.length_set]; exact hl
        have gl5 : ∀ k g, Fs.sAt (sit.set x0 (some gk)) k = some g → g < s.guests.length := fun k g q => by
          rw [sAt_set hxl] at q
          split at q
          · rw [← Option.some.inj q]; exact gkl
          · exact gl _ _ q
        have hs5 : SearchAt ad H5 sa lsit s gs (sit.set x0 (some gk)) := hs1.mut e5 h5 hl5 gl5
        have ax : Fs.sAt (sit.set x0 (some gk)) x0 = some gk := by rw [sAt_set hxl, if_pos rfl]
        -- seat freed again
        have free : ∀ {H6}, ExF [lsit] H1 H6 → H6 lsit = some (.lst (sitV (sit.set x0 (some gk)))) → Fs.stepM s gk (gs.drop (k + 1)) sit x0 = none → ∀ (D : Ends), (∀ H7, ExF [lsit] H1 H7 → H7 lsit = some (.lst (sitV sit)) → D.nx [some (.ref sa), some (.int (k : Int)), some (.int (x0 : Int))] H7) →
            tAsg (tC (.int (-1))) (gSub (tFld K (tVar 0) "sitting") (tVar 2) rSetL) D [some (.ref sa), some (.int (k : Int)), some (.int (x0 : Int))] H6 := fun {H6} e6 h6 _ D kk => by
          have hs6 : SearchAt ad H6 sa lsit s gs (sit.set x0 (some gk)) := hs1.mut e6 h6 hl5 gl5
          refine s_setL (l := lsit) (xs := sitV (sit.set x0 (some gk))) (j := x0) h6 ev_c (ev_ssitting T hs6 (ev_var (i := 0) rfl)) (ev_var (i := 2) rfl) (by rw [sit_len, List.length_set]; exact hxl) fun H7 x7 => ?_
          have sv : (sitV (sit.set x0 (some gk))).set x0 (.int (-1)) = sitV sit := by
            have z := sitV_set (sit := sit.set x0 (some gk)) (x := x0) (o := none)
            rw [set_back hxl hn] at z
            exact z.symm
          rw [sv]
          exact kk _ ((e6.trans (ExF.of x7)).upd (.inl (List.mem_singleton.mpr rfl))) upd_same
        have stp : Fs.stepM s gk (gs.drop (k + 1)) sit x0 = if Fs.wellM s (sit.set x0 (some gk)) x0 = true then Fs.seatedM s s.seats (gs.drop (k + 1)) (sit.set x0 (some gk)) else none := by
          unfold Fs.stepM; rw [if_pos hn]
        have well := et_val (ev_callF (ea_cons (ev_var (i := 0) rfl) (ea_cons (ev_var (i := 2) rfl) ea_nil)) (sv_is_well (K := K) hs5 W ax)) (σ := [some (.ref sa), some (.int (k : Int)), some (.int (x0 : Int))])
        refine well H5 (Ex.refl _) _ fun H6 x6 => ?_
        have e6 : ExF [lsit] H1 H6 := e5.trans (ExF.of x6)
        have h6 := x6 _ _ h5
        cases hw : Fs.wellM s (sit.set x0 (some gk)) x0 with
        | false =>
          rw [hw, if_neg (by decide)] at stp
          exact free e6 h6 stp _ fun H7 e7 h7 => next e7 h7 stp _
        | true =>
          rw [hw, if_pos rfl] at stp
          have hs6 : SearchAt ad H6 sa lsit s gs (sit.set x0 (some gk)) := hs5.ex x6
          rw [if_pos rfl]
          have ea : EvA (tCons (tVar 0) (tCons (tOp rAddI (tVar 1) (tC (.int 1))) tNil)) [some (.ref sa), some (.int (k : Int)), some (.int (x0 : Int))] H6 [.ref sa, .int ((k : Int) + 1)] := ea_cons (ev_var (i := 0) rfl) (ea_cons (ev_op (ev_var (i := 1) rfl) ev_c rv_I0) ea_nil)
          refine tb_call ea fun H7 x7 => ?_
          have hs7 := hs6.ex x7
          have e7 : ExF [lsit] H1 H7 := e6.trans (ExF.of x7)
          refine ⟨sa, lsit, s, gs, sit.set x0 (some gk), k + 1, by rw [show ((k : Int) + 1) = ((k + 1 : Nat) : Int) by omega], hs7, W, hk', by omega, hgs, fun hno H8 x8 h8 => ?_, fun sit' hyes H8 x8 h8 => ?_⟩
          · refine ⟨false, rfl, ?_⟩
            rw [hno] at stp
            exact free (e7.trans x8) h8 stp _ fun H9 e9 h9 => next e9 h9 stp _
          · refine ⟨true, rfl, ?_⟩
            rw [hyes] at stp
            refine s_ret ev_c fun H9 x9 => ?_
            refine ks sit' (Fs.findSome_at _ hx0 hb4 stp) H9 (((x1f.trans e7).trans x8).trans (ExF.of x9)) (x9 _ _ h8)
      · have hn := of_decide_eq_false hn
        exact next (e.trans (ExF.of x3)) (x3 _ _ hsit) (by unfold Fs.stepM; rw [if_neg hn]) _
    · rintro σ' H' ⟨⟨v2, rfl⟩, e, hsit, hb4⟩
      show tRet (tC (.bl false)) { nx := fun _ H' => Q .non H', rt := Q } [some (.ref sa), some (.int (k : Int)), v2] H'
      refine s_ret ev_c fun H3 x3 => ?_
      rw [nats_len, List.take_length] at hb4
      exact kn (List.findSome?_eq_none_iff.mpr hb4) H3 ((x1f.trans e).trans (ExF.of x3)) (x3 _ _ hsit)
end
end FsR
namespace FsR
open PySem PySem.Spec PyProof.Rows L2 Evl
open Fs (compI WF)
section
variable {K : PySem.W.Frag} {mg : Str → Option Value} {ad : Ad} {w : World} {σ : L2.St} {H H' : Hp} {ta tb te tl tv : TE} {a : Addr} {s : Kg75.State} {p : Parts} {g : TG} {tu tz : TS} {D : Ends} {t : TT}
variable {sa lsit dx lgs lse lba lsh : Addr} {gs : List Nat} {rb rs : List Addr} {sit : Fs.Sit}
/-! ### a field is set -/
theorem s_fldH {R : V → Hp → Prop} {C : Addr} {fs : List (Str × V)} {f : Str} (hv : ∀ Q : VK, (∀ v H2, Ex H H2 → R v H2 → Q v H2) → tv σ H Q) (ha : Ev ta σ H (.ref a)) (ho : H a = some (.ins C dx fs)) (hc : Cls K C) (hn : NoAttr K C f) (hl : fs.length < 1000)
    (k : ∀ v H1 H2, Ex H H1 → R v H1 → Ex H1 H2 → D.nx σ (upd H2 a (.ins C dx (putF f v fs)))) : sFld K ta tv f D σ H := hv _ fun v H2 e2 r => (Ev.mono e2 ha) H2 (Ex.refl H2) _ fun H3 e3 =>
  ⟨a, C, dx, fs, rfl, e3 _ _ (e2 _ _ ho), hc, hn, hl, k v H2 H3 e2 r e3⟩
theorem q_fldH {R : V → Hp → Prop} {C : Addr} {fs : List (Str × V)} {f : Str} (hv : ∀ Q : VK, (∀ v H2, Ex H H2 → R v H2 → Q v H2) → tv σ H Q) (ha : Ev ta σ H (.ref a)) (ho : H a = some (.ins C dx fs)) (hc : Cls K C) (hn : NoAttr K C f) (hl : fs.length < 1000)
    (k : ∀ v H1 H2, Ex H H1 → R v H1 → Ex H1 H2 → tz D σ (upd H2 a (.ins C dx (putF f v fs)))) : tSeq (sFld K ta tv f) tz D σ H := s_fldH (D := { D with nx := tz D }) hv ha ho hc hn hl k
theorem s_fld {v : V} {C : Addr} {fs : List (Str × V)} {f : Str} (hv : Ev tv σ H v) (ha : Ev ta σ H (.ref a)) (ho : H a = some (.ins C dx fs)) (hc : Cls K C) (hn : NoAttr K C f) (hl : fs.length < 1000)
    (k : ∀ H1, Ex H H1 → D.nx σ (upd H1 a (.ins C dx (putF f v fs)))) : sFld K ta tv f D σ H := s_fldH (R := fun u _ => u = v) (fun Q q => hv H (Ex.refl H) _ fun H2 e2 => q v H2 e2 rfl) ha ho hc hn hl fun u H1 H2 e1 e e2 => by rw [e]; exact k H2 (e1.trans e2)
theorem q_fld {v : V} {C : Addr} {fs : List (Str × V)} {f : Str} (hv : Ev tv σ H v) (ha : Ev ta σ H (.ref a)) (ho : H a = some (.ins C dx fs)) (hc : Cls K C) (hn : NoAttr K C f) (hl : fs.length < 1000)
    (k : ∀ H1, Ex H H1 → tz D σ (upd H1 a (.ins C dx (putF f v fs)))) : tSeq (sFld K ta tv f) tz D σ H := s_fld (D := { D with nx := tz D }) hv ha ho hc hn hl k
theorem s_fldL {xs : List V} {C : Addr} {fs : List (Str × V)} {f : Str} (hv : EvL tv σ H xs) (ha : Ev ta σ H (.ref a)) (ho : H a = some (.ins C dx fs)) (hc : Cls K C) (hn : NoAttr K C f) (hl : fs.length < 1000)
    (k : ∀ p H1, H p = none → Ex H H1 → H1 p = some (.lst xs) → D.nx σ (upd H1 a (.ins C dx (putF f (.ref p) fs)))) : sFld K ta tv f D σ H :=
  s_fldH (R := fun u H1 => ∃ p, u = .ref p ∧ H p = none ∧ H1 p = some (.lst xs)) (fun Q q => hv H (Ex.refl H) _ fun p H2 hp e2 h2 => q _ H2 e2 ⟨p, rfl, hp, h2⟩) ha ho hc hn hl fun u H1 H2 e1 ⟨p, e, hp, h1⟩ e2 => by rw [e]; exact k p H2 hp (e1.trans e2) (e2 _ _ h1)
theorem q_fldL {xs : List V} {C : Addr} {fs : List (Str × V)} {f : Str} (hv : EvL tv σ H xs) (ha : Ev ta σ H (.ref a)) (ho : H a = some (.ins C dx fs)) (hc : Cls K C) (hn : NoAttr K C f) (hl : fs.length < 1000)
    (k : ∀ p H1, H p = none → Ex H H1 → H1 p = some (.lst xs) → tz D σ (upd H1 a (.ins C dx (putF f (.ref p) fs)))) : tSeq (sFld K ta tv f) tz D σ H := s_fldL (D := { D with nx := tz D }) hv ha ho hc hn hl k
/-! ### a table of what holds of two -/
def RRow (n : Nat) (f : Nat → Nat → Bool) (i : Nat) (v : V) (H : Hp) : Prop := ∃ r, v = .ref r ∧ H r = some (.lst ((List.range n).map fun j => V.bl (f i j)))
theorem AllR.rows {n : Nat} {f : Nat → Nat → Bool} : ∀ {l : List Nat} {vs : List V}, AllR (RRow n f) H l vs → ∃ rs : List Addr, vs = rs.map V.ref ∧ rs.length = l.length ∧ ∀ (i : Nat) (r : Addr) (x : Nat), rs[i]? = some r → l[i]? = some x → H r = some (.lst ((List.range n).map fun j => V.bl (f x j)))
  | [], [], _ => ⟨[], rfl, rfl, fun i r x a _ => by simp at a⟩
  | [], v :: vs, h => by have := h.1; simp at this
  | x :: l, [], h => by have := h.1; simp at this
  | x :: l, v :: vs, h => by
    obtain ⟨t, rfl, ht⟩ := h.2 0 x v rfl rfl
    obtain ⟨ts, rfl, q1, q2⟩ := AllR.rows (l := l) (vs := vs) ⟨by have := h.1; simpa using this, fun i y u a b => h.2 (i + 1) y u (by simpa using a) (by simpa using b)⟩
    refine ⟨t :: ts, rfl, by simp [q1], fun i t' z a b => ?_⟩
    cases i with
    | zero => simp at a b; subst a b; exact ht
    | succ i => exact q2 i t' z (by simpa using a) (by simpa using b)
theorem eh_mat {sp : Sp} {n : Nat} {f : Nat → Nat → Bool} {ln : Addr} {v5 v6 : Option V} (hn : n ≤ 40000) (hln : H ln = some (.lst (natsV (List.range n)))) (hs : ∀ i j, i < n → j < n → ∀ H1, Ex H H1 → SpV sp [.ref a, .int (i : Int), .int (j : Int)] H1 (.bl (f i j))) :
    ∀ H1, Ex H H1 → ∀ Q : VK, (∀ q H2 rows, H1 q = none → Ex H1 H2 → H2 q = some (.lst (rows.map V.ref)) → MatAt (off [q] H2) rows n f → Q (.ref q) H2) →
      tLc (iList K (tVar 4)) (gName 5) tYes (tLc (iList K (tVar 4)) (gName 6) tYes (tCallF sp (tCons (tVar 1) (tCons (tVar 5) (tCons (tVar 6) tNil)))) [6]) [5] [some (.ref sa), some (.ref a), some (.ref lgs), some (.ref lse), some (.ref ln), v5, v6] H1 Q := by
  intro H1 e Q q
  refine eh_comp (R := RRow n f) (l := List.range n) (g0 := fun (n : Nat) => V.int (n : Int)) (fun x => [some (.ref sa), some (.ref a), some (.ref lgs), some (.ref lse), some (.ref ln), some (.int (x : Int)), v6]) (fun _ => true) (fun x v H H' e r => let ⟨t, e1, h⟩ := r; ⟨t, e1, e _ _ h⟩)
    (srcOf (H := H) (ev_var (i := 4) rfl) (sq_of hln)) (by rw [List.length_range]; exact hn) (fun x _ H1 _ Q q => q) (fun x _ => rfl) (fun _ _ _ _ => et_yes) (fun i hi _ H2 Dl e2 hD hD2 Q q => ?_) H1 e Q fun q0 H2 ys hq e2 h2 r => ?_
  · have hi := List.mem_range.mp hi
    have c := el_comp (K := K) (σ := [some (.ref sa), some (.ref a), some (.ref lgs), some (.ref lse), some (.ref ln), some (.int (i : Int)), v6]) (H := H2) (tl := tVar 4) (g := gName 6) (te := tCallF sp (tCons (tVar 1) (tCons (tVar 5) (tCons (tVar 6) tNil)))) (t := tYes) (l := List.range n) (g0 := fun (n : Nat) => V.int (n : Int)) (vs := [6])
      (fun x => [some (.ref sa), some (.ref a), some (.ref lgs), some (.ref lse), some (.ref ln), some (.int (i : Int)), some (.int (x : Int))]) (fun _ => true) (fun j => V.bl (f i j)) (srcOf (ev_var (i := 4) rfl) (sq_of (e2 _ _ hln))) (by rw [List.length_range]; exact hn) (fun x _ H1 _ Q q => q) (fun x _ => rfl)
      (fun _ _ _ _ => et_yes) (fun j hj _ H3 e3 => ev_callF (ea_cons (ev_var (i := 1) rfl) (ea_cons (ev_var (i := 5) rfl) (ea_cons (ev_var (i := 6) rfl) ea_nil))) (hs i j hi (List.mem_range.mp hj) H3 (e2.trans e3)))
    refine c H2 (Ex.refl H2) _ fun r H3 hr e3 h3 => q _ H3 e3 ⟨r, rfl, off_of ?_ fun hm => ?_⟩
    · rw [h3, List.filter_eq_self.mpr fun _ _ => rfl]
    · rw [List.mem_singleton.mp hm] at hr
      exact hD2 hr
  · rw [List.filter_eq_self.mpr fun _ _ => rfl] at r
    obtain ⟨rs, rfl, l1, l2⟩ := AllR.rows r
    refine q q0 H2 rs hq e2 h2 ⟨by rw [l1, List.length_range], fun i r hr => l2 i r i hr (List.getElem?_range ?_)⟩
    have := (List.getElem?_eq_some_iff.mp hr).1
    rw [l1, List.length_range] at this
    exact this
theorem off_lst {xs : List V} {r : Addr} {C : Addr} {fs : List (Str × V)} (h : H r = some (.lst xs)) (ho : H sa = some (.ins C dx fs)) : off [sa] H r = some (.lst xs) := off_of h fun q => by
  rw [List.mem_singleton.mp q, ho] at h; cases h
theorem MatAt.off {rows : List Addr} {n : Nat} {f : Nat → Nat → Bool} {C : Addr} {fs : List (Str × V)} (h : MatAt H rows n f) (ho : H sa = some (.ins C dx fs)) : MatAt (FsR.off [sa] H) rows n f := ⟨h.1, fun i r hr => off_lst (h.2 i r hr) ho⟩
theorem rep_flat (n : Nat) (v : V) : (List.replicate n [v]).flatten = List.replicate n v := by
  induction n with
  | zero => rfl
  | succ n ih => rw [List.replicate_succ, List.flatten_cons, ih]; rfl
theorem sF_make : putF "sitting" (.ref lsit) (putF "shared" (.ref lsh) (putF "barred" (.ref lba) (putF "seats" (.ref lse) (putF "guests" (.ref lgs) (putF "house" (.ref a) []))))) = sF a lgs lse lba lsh lsit := by
  have e1 : putF "house" (.ref a) [] = ([("house", .ref a)] : List (Str × V)) := rfl
  have e2 : ∀ v, putF "guests" v ([("house", .ref a)] : List (Str × V)) = ([("house", .ref a), ("guests", v)] : List (Str × V)) := fun v => put_past (by decide +kernel)
  have e3 : ∀ u v, putF "seats" v ([("house", .ref a), ("guests", u)] : List (Str × V)) = ([("house", .ref a), ("guests", u), ("seats", v)] : List (Str × V)) := fun u v => (put_past (by decide +kernel)).trans (congrArg _ (put_past (by decide +kernel)))
  have e4 : ∀ u v y, putF "barred" y ([("house", .ref a), ("guests", u), ("seats", v)] : List (Str × V)) = ([("house", .ref a), ("guests", u), ("seats", v), ("barred", y)] : List (Str × V)) := fun u v y => (put_past (by decide +kernel)).trans (congrArg _ ((put_past (by decide +kernel)).trans (congrArg _ (put_past (by decide +kernel)))))
  have e5 : ∀ u v y z, putF "shared" z ([("house", .ref a), ("guests", u), ("seats", v), ("barred", y)] : List (Str × V)) = ([("house", .ref a), ("guests", u), ("seats", v), ("barred", y), ("shared", z)] : List (Str × V)) := fun u v y z => (put_past (by decide +kernel)).trans (congrArg _ ((put_past (by decide +kernel)).trans (congrArg _ ((put_past (by decide +kernel)).trans (congrArg _ (put_past (by decide +kernel)))))))
  have e6 : ∀ u v y z x, putF "sitting" x ([("house", .ref a), ("guests", u), ("seats", v), ("barred", y), ("shared", z)] : List (Str × V)) = ([("house", .ref a), ("guests", u), ("seats", v), ("barred", y), ("shared", z), ("sitting", x)] : List (Str × V)) := fun u v y z x => (put_past (by decide +kernel)).trans (congrArg _ ((put_past (by decide +kernel)).trans (congrArg _ ((put_past (by decide +kernel)).trans (congrArg _ ((put_past (by decide +kernel)).trans (congrArg _ (put_past (by decide +kernel)))))))))
  rw [e1, e2, e3, e4, e5, e6]; rfl
theorem fl_put {n : Nat} {f : Str} {v : V} : ∀ {fs : List (Str × V)}, fs.length < n → (putF f v fs).length < n + 1
  | [], h => by show 1 < n + 1; simp at h; omega
  | (g, x) :: r, h => by
    unfold putF
    split
    · simp at h ⊢; omega
    · have := fl_put (n := n - 1) (f := f) (v := v) (fs := r) (by simp at h; omega)
      simp at h ⊢; omega
theorem rd_Search (T : Txt K mg ad) (vs : List V) (H : Hp) (Q : VK) (E : XK) (h : sp_Search K ad vs H Q E) : t_Search w K ad { nx := fun _ H' => Q .non H', rt := Q } (start N_Search vs) H := by
  obtain ⟨sa, dx, a, lgs, lse, s, gs, rfl, ho, hh, W, hg, he, kk⟩ := h
  have n9 := W.len
  refine q_fld (ev_var (i := 1) rfl) (ev_var (i := 0) rfl) ho T.cS T.sHouse (by decide) fun H1 x1 => ?_
  -- the heap so far
  have step : ∀ {Hc H1 : Hp} {C d0 : Addr} {fs : List (Str × V)} , ExF [sa] H Hc → Ex Hc H1 → ExF [sa] H (upd H1 sa (.ins C d0 fs)) := fun {Hc H1 C d0 fs} e x => (e.trans (ExF.of x)).upd (.inl (List.mem_singleton.mpr rfl))
  have e1 : ExF [sa] H (upd H1 sa (.ins ad.S dx (putF "house" (.ref a) []))) := step ExF.refl x1
  refine q_fld (ev_var (i := 2) rfl) (ev_var (i := 0) rfl) upd_same T.cS T.sGuests (fl_put (n := 999) (Nat.succ_pos _)) fun H2 x2 => ?_
  have e2 := step (d0 := dx) (C := ad.S) (fs := (putF "guests" (.ref lgs) (putF "house" (.ref a) []))) e1 x2
  refine q_fld (ev_var (i := 3) rfl) (ev_var (i := 0) rfl) upd_same T.cS T.sSeats (fl_put (n := 999) (fl_put (n := 998) (Nat.succ_pos _))) fun H3 x3 => ?_
  have e3 := step (d0 := dx) (C := ad.S) (fs := (putF "seats" (.ref lse) (putF "guests" (.ref lgs) (putF "house" (.ref a) [])))) e2 x3
  obtain ⟨K3, hK3⟩ : ∃ K3, upd H3 sa (.ins ad.S dx (putF "seats" (.ref lse) (putF "guests" (.ref lgs) (putF "house" (.ref a) [])))) = K3 := ⟨_, rfl⟩
  rw [hK3] at e3 ⊢
  have o3 : K3 sa = some (.ins ad.S dx (putF "seats" (.ref lse) (putF "guests" (.ref lgs) (putF "house" (.ref a) [])))) := by rw [← hK3]; exact upd_same
  obtain ⟨p3, hp3⟩ := hh.ex e3
  refine q_asgL (el_range (ev_many T hp3 (ev_var (i := 1) rfl)) (by omega)) fun ln H4 hln x4 h4 => ?_
  have h4 : H4 ln = some (.lst (natsV (List.range s.guests.length))) := h4
  have e4 := e3.trans (ExF.of x4)
  have o4 := x4 _ _ o3
  have hh4 := hh.ex e4
  refine q_fldH (R := fun v H2 => ∃ q rows, v = .ref q ∧ H2 q = some (.lst (rows.map V.ref)) ∧ MatAt H2 rows s.guests.length (Fs.mayNot s)) (fun Q q => eh_mat (by omega) h4 (fun i j hi hj H1 e => sv_may_not (hh4.ex e) hi hj) H4 (Ex.refl H4) Q fun q0 H2 rows hq e2 h2 m => q _ H2 e2 ⟨q0, rows, rfl, h2, m.ex ex_off⟩)
    (ev_var (i := 0) rfl) o4 T.cS T.sBarred (fl_put (n := 999) (fl_put (n := 998) (fl_put (n := 997) (Nat.succ_pos _)))) fun v H5 H6 x5 hR x6 => ?_
  obtain ⟨lba, rb, rfl, hba, mb⟩ := hR
  have o6 := x6 _ _ (x5 _ _ o4)
  have f6 := off_lst (x6 _ _ hba) o6
  have m6 := (mb.ex x6).off o6
  have l6 := off_lst (x6 _ _ (x5 _ _ h4)) o6
  have e6 := step (d0 := dx) (C := ad.S) (fs := (putF "barred" (.ref lba) (putF "seats" (.ref lse) (putF "guests" (.ref lgs) (putF "house" (.ref a) []))))) e4 (x5.trans x6)
  obtain ⟨K6, hK6⟩ : ∃ K3, upd H6 sa (.ins ad.S dx (putF "barred" (.ref lba) (putF "seats" (.ref lse) (putF "guests" (.ref lgs) (putF "house" (.ref a) []))))) = K3 := ⟨_, rfl⟩
  have t6 : ExF [sa] H6 K6 := by rw [← hK6]; exact ExF.refl.upd (.inl (List.mem_singleton.mpr rfl))
  rw [hK6] at e6 ⊢
  have k6 : K6 sa = some (.ins ad.S dx (putF "barred" (.ref lba) (putF "seats" (.ref lse) (putF "guests" (.ref lgs) (putF "house" (.ref a) []))))) := by rw [← hK6]; exact upd_same
  have hh6 := hh.ex e6
  refine q_fldH (R := fun v H2 => ∃ q rows, v = .ref q ∧ H2 q = some (.lst (rows.map V.ref)) ∧ MatAt H2 rows s.guests.length s.share) (fun Q q => eh_mat (by omega) (t6 _ _ l6) (fun i j hi hj H1 e => sv_do_share (hh6.ex e) W hi hj) K6 (Ex.refl K6) Q fun q0 H2 rows hq e2 h2 m => q _ H2 e2 ⟨q0, rows, rfl, h2, m.ex ex_off⟩)
    (ev_var (i := 0) rfl) k6 T.cS T.sShared (fl_put (n := 999) (fl_put (n := 998) (fl_put (n := 997) (fl_put (n := 996) (Nat.succ_pos _))))) fun v H7 H8 x7 hR x8 => ?_
  obtain ⟨lsh, rs, rfl, hsh, ms⟩ := hR
  have o8 := x8 _ _ (x7 _ _ k6)
  have f8 := off_lst (x8 _ _ hsh) o8
  have m8 := (ms.ex x8).off o8
  have e8 := step (d0 := dx) (C := ad.S) (fs := (putF "shared" (.ref lsh) (putF "barred" (.ref lba) (putF "seats" (.ref lse) (putF "guests" (.ref lgs) (putF "house" (.ref a) [])))))) e6 (x7.trans x8)
  obtain ⟨K8, hK8⟩ : ∃ K3, upd H8 sa (.ins ad.S dx (putF "shared" (.ref lsh) (putF "barred" (.ref lba) (putF "seats" (.ref lse) (putF "guests" (.ref lgs) (putF "house" (.ref a) [])))))) = K3 := ⟨_, rfl⟩
  have t8 : ExF [sa] H8 K8 := by rw [← hK8]; exact ExF.refl.upd (.inl (List.mem_singleton.mpr rfl))
  rw [hK8] at e8 ⊢
  have k8 : K8 sa = some (.ins ad.S dx (putF "shared" (.ref lsh) (putF "barred" (.ref lba) (putF "seats" (.ref lse) (putF "guests" (.ref lgs) (putF "house" (.ref a) [])))))) := by rw [← hK8]; exact upd_same
  obtain ⟨p8, hp8⟩ := hh.ex e8
  have c := el_rep (xs := [V.int (-1)]) (n := s.guests.length) (σ := [some (.ref sa), some (.ref a), some (.ref lgs), some (.ref lse), some (.ref ln), none, none]) (H := K8) (ta := tLst (tCons (tC (.int (-1))) tNil)) (tb := tCB (rLenS K) (tCons (tFld K (tVar 1) "guests") tNil)) (el_lst (ea_cons ev_c ea_nil) (by show 1 ≤ 100000; decide)) (ev_many T hp8 (ev_var (i := 1) rfl)) (by show 1 * _ ≤ _; omega) (by omega)
  rw [rep_flat] at c
  refine s_fldL c (ev_var (i := 0) rfl) k8 T.cS T.sSitting (fl_put (n := 999) (fl_put (n := 998) (fl_put (n := 997) (fl_put (n := 996) (fl_put (n := 995) (Nat.succ_pos _)))))) fun lsit H9 hl x9 h9 => ?_
  show Q .non _
  rw [sF_make]
  have o9 := x9 _ _ k8
  have n1 : K8 lsit = none := hl
  have n2 : lsit ≠ sa := fun q => by rw [q, k8] at n1; cases n1
  have n0 : off [sa] H lsit = none := by
    cases q : off [sa] H lsit with
    | none => rfl
    | some u => rw [e8 _ _ q] at n1; cases n1
  have n00 : H lsit = none := by
    cases q : H lsit with
    | none => rfl
    | some u => rw [off_of q (by simpa using n2)] at n0; cases n0
  -- what stood stands, apart from both
  have all : Ex (off [sa] K8) (off [lsit] (upd H9 sa (.ins ad.S dx (sF a lgs lse lba lsh lsit)))) := fun b o h => by
    obtain ⟨q1, q2⟩ := off_get h
    have b1 : b ≠ sa := by simpa using q2
    refine off_of ?_ fun q => ?_
    · rw [upd_ne b1]; exact x9 _ _ q1
    · rw [List.mem_singleton.mp q, n1] at q1; cases q1
  have eAll : Ex (off [sa] H) (off [lsit] (upd H9 sa (.ins ad.S dx (sF a lgs lse lba lsh lsit)))) := e8.off.trans all
  have t68 : Ex (off [sa] H6) (off [sa] K8) := (t6.trans ((ExF.of (x7.trans x8)).trans t8)).off
  refine kk _ lsit ⟨⟨dx, a, lgs, lse, lba, lsh, rb, rs, ?_, hh.ex eAll, eAll _ _ hg, eAll _ _ he, (t68.trans all) _ _ f6, (t8.off.trans all) _ _ f8, m6.ex (t68.trans all), m8.ex (t8.off.trans all)⟩, ?_, List.length_replicate, fun k g q => ?_⟩ ((e8.trans (ExF.of x9)).upd (.inl (List.mem_singleton.mpr rfl))) n00
  · exact off_of upd_same (by simpa using n2.symm)
  · rw [upd_ne n2, h9]
    unfold sitV
    rw [List.map_replicate]; rfl
  · unfold Fs.sAt at q
    rw [List.getD_eq_getElem?_getD, List.getElem?_replicate] at q
    split at q <;> cases q
end
end FsR
namespace Fs
open Kg75
theorem order_len (s : State) : s.order.length = s.guests.length := by
  have p : List.Perm s.order (List.range s.guests.length) := (List.perm_ext_iff_of_nodup (nodup_of_kLt (order_sorted s)) List.nodup_range).mpr fun x => by rw [order_mem, List.mem_range]
  rw [p.length_eq, List.length_range]
theorem others_len (s : State) : s.others.length ≤ s.guests.length := by
  rw [← order_len]; exact List.length_filter_le _ _
theorem others_lt (s : State) : ∀ g ∈ s.others, g < s.guests.length := fun g hg => (order_mem s g).mp (List.mem_filter.mp hg).1
theorem isHost_eq (s : State) (i : Nat) : (s.hosts.map fun x => x.1).contains i = s.isHost i := by
  unfold State.isHost
  rw [Bool.eq_iff_iff, List.contains_iff_mem, List.mem_map, List.any_eq_true]
  simp only [beq_iff_eq]
def putM (sit : Sit) (x : Nat × Nat) : Sit := sit.set x.2 (some x.1)
theorem sAt_put {sit : Sit} {x : Nat × Nat} {k : Nat} (hx : x.2 < sit.length) : sAt (putM sit x) k = if k = x.2 then some x.1 else sAt sit k := by
  unfold sAt putM
  rw [List.getD_eq_getElem?_getD, List.getElem?_set]
  by_cases e : k = x.2
  · subst e; rw [if_pos rfl, if_pos hx, if_pos rfl]; rfl
  · rw [if_neg (fun q => e q.symm), if_neg e, List.getD_eq_getElem?_getD]
theorem fold_put_len : ∀ (l : List (Nat × Nat)) (sit : Sit), (l.foldl putM sit).length = sit.length
  | [], sit => rfl
  | x :: l, sit => by rw [List.foldl_cons, fold_put_len l]; exact List.length_set ..
theorem fold_put_some : ∀ (l : List (Nat × Nat)) (sit : Sit) (k : Nat), (∀ x ∈ l, x.2 < sit.length) → sAt sit k ≠ none ∨ (∃ x ∈ l, x.2 = k) → sAt (l.foldl putM sit) k ≠ none
  | [], sit, k, _, h => by
    rcases h with h | ⟨x, hx, _⟩
    · exact h
    · cases hx
  | x :: l, sit, k, hl, h => by
    rw [List.foldl_cons]
    have hx := hl x List.mem_cons_self
    refine fold_put_some l _ k (fun y hy => by unfold putM; rw [List.length_set]; exact hl y (List.mem_cons_of_mem _ hy)) ?_
    rw [sAt_put hx]
    by_cases e : k = x.2
    · rw [if_pos e]; exact .inl (by simp)
    · rw [if_neg e]
      rcases h with h | ⟨y, hy, hk⟩
      · exact .inl h
      · rcases List.mem_cons.mp hy with rfl | hy
        · exact absurd hk.symm e
        · exact .inr ⟨y, hy, hk⟩
theorem fold_put_lt {n : Nat} : ∀ (l : List (Nat × Nat)) (sit : Sit), (∀ x ∈ l, x.1 < n) → (∀ x ∈ l, x.2 < sit.length) → (∀ k g, sAt sit k = some g → g < n) → ∀ k g, sAt (l.foldl putM sit) k = some g → g < n
  | [], sit, _, _, h => h
  | x :: l, sit, h1, h2, h => by
    rw [List.foldl_cons]
    refine fold_put_lt l _ (fun y hy => h1 y (List.mem_cons_of_mem _ hy)) (fun y hy => by unfold putM; rw [List.length_set]; exact h2 y (List.mem_cons_of_mem _ hy)) fun k g q => ?_
    rw [sAt_put (h2 x List.mem_cons_self)] at q
    split at q
    · rw [← Option.some.inj q]; exact h1 x List.mem_cons_self
    · exact h _ _ q
theorem start_eq (s : State) : startM s = s.hosts.foldl putM (List.replicate s.guests.length none) := rfl
end Fs
namespace FsR
open PySem PySem.Spec PyProof.Rows L2 Evl
open Fs (compI WF)
theorem ExF.toEx {F : List Addr} {H H' : Hp} (e : ExF F H H') (h : ∀ b ∈ F, H b = none) : Ex H H' := fun b o q => e b o (off_of q fun z => by rw [h b z] at q; cases q)
section
variable {K : PySem.W.Frag} {mg : Str → Option Value} {ad : Ad} {w : World} {σ : L2.St} {H H' : Hp} {ta tb te tl tv : TE} {a : Addr} {s : Kg75.State} {p : Parts} {g : TG} {tu tz : TS} {D : Ends} {t : TT}
variable {sa lsit dx lgs lse lba lsh : Addr} {gs : List Nat} {rb rs : List Addr} {sit : Fs.Sit}
theorem ev_ssitF (T : Txt K mg ad) (h : SearchAt ad H sa lsit s gs sit) (e : ExF [lsit] H H') (ht : Ev ta σ H' (.ref sa)) : Ev (tFld K ta "sitting") σ H' (.ref lsit) := by
  obtain ⟨⟨dx, a, lgs, lse, lba, lsh, rb, rs, q⟩, _⟩ := h
  exact ev_fld ht (e _ _ q.ob) T.cS T.sSitting (sF_sitting _ _ _ _ _ _)
theorem ea3 {t1 t2 t3 : TE} {v1 : V} {xs ys : List V} (h1 : Ev t1 σ H v1) (h2 : EvL t2 σ H xs) (h3 : EvL t3 σ H ys) : ∀ Q : List V → Hp → Prop, (∀ p q H1, Ex H H1 → H1 p = some (.lst xs) → H1 q = some (.lst ys) → Q [v1, .ref p, .ref q] H1) → tCons t1 (tCons t2 (tCons t3 tNil)) σ H Q := fun Q k =>
  h1 H (Ex.refl H) _ fun H1 e1 => h2 H1 e1 _ fun p H2 _ e2 hp => h3 H2 (e1.trans e2) _ fun q H3 _ e3 hq => k p q H3 ((e1.trans e2).trans e3) (e3 _ _ hp) hq
theorem te_make {C : Addr} {sp : Sp} {ts : TA} {Q : VK} (h : ts σ H fun vs H1 => ∀ x dx, H1 x = none → H1 dx = none → dx ≠ x → sp (.ref x :: vs) (upd (upd H1 dx (.own x)) x (.ins C dx [])) (fun v H2 => v = .non ∧ Q (.ref x) H2) E0) : tMakeF C sp ts σ H Q := h
theorem q_asgE {i : Nat} (h : te σ H fun v H1 => tz D (σ.set i (some v)) H1) : tSeq (tAsg te (gName i)) tz D σ H := h
theorem g_pair {t : Addr} {x y : V} {i j : Nat} {Q : L2.St → Hp → Prop} (h : H t = some (.tup [x, y])) (k : Q ((σ.set i (some x)).set j (some y)) H) : gTup K 2 (gCons (gName i) (gCons (gName j) gNil)) (.ref t) σ H Q := ⟨t, _, rfl, st_of h, rfl, _, _, rfl, _, _, rfl, rfl, k⟩
theorem rd_plan_of (T : Txt K mg ad) (vs : List V) (H : Hp) (Q : VK) (E : XK) (h : sp_plan_of K ad vs H Q E) : t_plan_of w K ad { nx := fun _ H' => Q .non H', rt := Q } (start N_plan_of vs) H := by
  obtain ⟨a, s, rfl, ⟨p, hp⟩, W, kn, ks⟩ := h
  have n9 := W.len
  have hh : HouseAt ad.G ad.H H a s := ⟨p, hp⟩
  refine q_asgL (el_hosts T hp W (fun x => x.1) (fun x => [some (.ref a), none, none, some (.int (x.1 : Int)), some (.int (x.2 : Int))]) (ev_var (i := 0) rfl) (fun x _ => rfl) (fun x _ => rfl) (fun x _ => rfl)) fun lh H1 _ x1 h1 => ?_
  have hh1 := hh.ex x1
  have cf := el_comp (K := K) (σ := [some (.ref a), some (.ref lh), none, none, none]) (H := H1) (tl := tCallF (sp_order_of K ad) (tCons (tVar 0) tNil)) (g := gName 3) (te := tVar 3) (t := tTest (tOp (rIn K true) (tVar 3) (tVar 1))) (l := s.order) (g0 := fun (n : Nat) => V.int (n : Int)) (vs := [3])
    (fun x => [some (.ref a), some (.ref lh), none, some (.int (x : Int)), none]) (fun x => !s.isHost x) (fun (n : Nat) => V.int (n : Int)) (srcNew (el_callF (ea_cons (ev_var (i := 0) rfl) ea_nil) (sl_order_of hh1 W))) (by rw [Fs.order_len]; omega) (fun x _ H1 _ Q q => q) (fun x _ => rfl)
    (fun x hx H2 x2 => et_test (ev_is (ev_op (ev_var (i := 3) rfl) (ev_var (i := 1) rfl) (rv_niL (sq_of (x2 _ _ h1)) rfl (flat_nats _))) (by rw [inV_nats, Fs.isHost_eq]))) (fun x _ _ H2 x2 => ev_var rfl)
  refine q_asgE (te_make (ea3 (ev_var (i := 0) rfl) cf (el_callF (ea_cons (ev_var (i := 0) rfl) ea_nil) (sl_seats_of hh1 W)) _ fun lgs lse H2 x2 hgs hse sa dx hsa hdx hne => ?_))
  have y2 := x1.trans x2
  have e3 : Ex H2 (off [sa] (upd (upd H2 dx (.own sa)) sa (.ins ad.S dx []))) := fun b o q => by
    have b1 : b ≠ sa := fun z => by rw [z, hsa] at q; cases q
    have b2 : b ≠ dx := fun z => by rw [z, hdx] at q; cases q
    exact off_of (by rw [upd_ne b1, upd_ne b2]; exact q) (by simpa using b1)
  refine ⟨sa, dx, a, lgs, lse, s, s.others, rfl, upd_same, (hh1.ex x2).ex e3, W, e3 _ _ hgs, e3 _ _ hse, fun H3 lsit hs z3 hl => ⟨rfl, ?_⟩⟩
  have x3 : Ex H2 H3 := e3.trans z3
  have y3 := y2.trans x3
  have fl : H lsit = none := by
    have : H2 lsit = none := by
      cases q : H2 lsit with
      | none => rfl
      | some u => rw [(off_get (e3 _ _ q)).1] at hl; cases hl
    exact fresh_back y2 this
  have flF : ∀ b ∈ [lsit], H b = none := fun b q => by rw [List.mem_singleton.mp q]; exact fl
  obtain ⟨ts, q1, q2⟩ := hp.oh
  obtain ⟨z1, z2, z3'⟩ := (q2.ex ex_off).zip
  have hlen : (ts.map V.ref).length = s.hosts.length := by
    have := q2.1; unfold hostsI at this; rw [List.length_map] at this ⊢; exact this
  have tl : ts.length = s.hosts.length := by rw [List.length_map] at hlen; exact hlen
  have at2 : ∀ {m : Nat} {x : V}, (ts.map V.ref)[m]? = some x → ∃ t hx, x = .ref t ∧ s.hosts[m]? = some hx ∧ hx ∈ s.hosts ∧ H t = some (.tup [.int (hx.1 : Int), .int (hx.2 : Int)]) := fun {m x} hm => by
    rw [List.getElem?_map] at hm
    obtain ⟨t, ht, rfl⟩ := Option.map_eq_some_iff.mp hm
    have ml : m < ts.length := (List.getElem?_eq_some_iff.mp ht).1
    have hx0 : s.hosts[m]? = some (s.hosts[m]'(by omega)) := List.getElem?_eq_getElem (by omega)
    refine ⟨t, _, rfl, hx0, List.getElem_mem _, z2 (t, s.hosts[m]'(by omega)) ?_⟩
    refine List.mem_of_getElem? (i := m) ?_
    rw [List.getElem?_zip_eq_some]
    exact ⟨ht, hx0⟩
  have lenM : ∀ m, ((s.hosts.take m).foldl Fs.putM (List.replicate s.guests.length none)).length = s.guests.length := fun m => by rw [Fs.fold_put_len, List.length_replicate]
  have ltM : ∀ m k g, Fs.sAt ((s.hosts.take m).foldl Fs.putM (List.replicate s.guests.length none)) k = some g → g < s.guests.length := fun m => Fs.fold_put_lt _ _ (fun x hx => (W.hosts x (List.mem_of_mem_take hx)).1) (fun x hx => by rw [List.length_replicate]; exact (W.hosts x (List.mem_of_mem_take hx)).2) hs.2.2.2
  show tSeq _ _ _ [some (.ref a), some (.ref lh), some (.ref sa), none, none] H3
  have x3f : ExF [lsit] H H3 := ExF.of y3
  -- the hosts sit
  refine q_forL (xs := ts.map V.ref) (ev_hhosts T (hp.ex y3) (ev_var (i := 0) rfl)) (sq_of (y3 _ _ q1))
    (fun m σ' H' => (∃ v3 v4, σ' = [some (.ref a), some (.ref lh), some (.ref sa), v3, v4]) ∧ ExF [lsit] H3 H' ∧ H' lsit = some (.lst (sitV ((s.hosts.take m).foldl Fs.putM (List.replicate s.guests.length none)))))
    (fun H4 x4 => ⟨⟨none, none, rfl⟩, ExF.of x4, x4 _ _ hs.2.1⟩) (fun m σ' H' _ z => sq_of (((x3f.trans z.2.1).toEx flF) _ _ q1)) ?_ ?_
  · rintro m x σ' H4 hm ⟨⟨v3, v4, rfl⟩, e4, h4⟩
    obtain ⟨t, hx, rfl, hxm, hmem, ht⟩ := at2 hm
    have y4 : Ex H H4 := (x3f.trans e4).toEx flF
    refine g_pair (y4 _ _ ht) ?_
    show tAsg _ _ _ [some (.ref a), some (.ref lh), some (.ref sa), some (.int (hx.1 : Int)), some (.int (hx.2 : Int))] H4
    have hs4 := hs.mut e4 h4 (lenM m) (ltM m)
    refine s_setL (l := lsit) (j := hx.2) h4 (ev_var (i := 3) rfl) (ev_ssitting T hs4 (ev_var (i := 2) rfl)) (ev_var (i := 4) rfl) (by rw [sit_len, lenM]; exact (W.hosts hx hmem).2) fun H5 x5 => ?_
    refine ⟨⟨_, _, rfl⟩, (e4.trans (ExF.of x5)).upd (.inl (List.mem_singleton.mpr rfl)), ?_⟩
    rw [upd_same, take_snoc hxm, List.foldl_append]
    exact congrArg (fun z => some (HO.lst z)) (sitV_set (o := some hx.1)).symm
  rintro σ' H4 ⟨⟨v3, v4, rfl⟩, e4, h4⟩
  rw [hlen, List.take_length, ← Fs.start_eq] at h4
  have len4 : (Fs.startM s).length = s.guests.length := by rw [Fs.start_eq, Fs.fold_put_len, List.length_replicate]
  have lt4 : ∀ k g, Fs.sAt (Fs.startM s) k = some g → g < s.guests.length := by
    have := ltM s.hosts.length
    rw [List.take_length] at this
    exact this
  have hs4 : SearchAt ad H4 sa lsit s s.others (Fs.startM s) := hs.mut e4 h4 len4 lt4
  have y4 : Ex H H4 := (x3f.trans e4).toEx flF
  -- whether they sit well
  refine q_forL (xs := ts.map V.ref) (ev_hhosts T (hp.ex y4) (ev_var (i := 0) rfl)) (sq_of (y4 _ _ q1))
    (fun m σ' H' => (∃ v3 v4, σ' = [some (.ref a), some (.ref lh), some (.ref sa), v3, v4]) ∧ Ex H4 H' ∧ ∀ x ∈ s.hosts.take m, Fs.wellM s (Fs.startM s) x.2 = true)
    (fun H5 x5 => ⟨⟨_, _, rfl⟩, x5, fun x hx => by simp at hx⟩) (fun m σ' H' _ z => sq_of (z.2.1 _ _ (y4 _ _ q1))) ?_ ?_
  · rintro m x σ' H5 hm ⟨⟨v3, v4, rfl⟩, e5, h5⟩
    obtain ⟨t, hx, rfl, hxm, hmem, ht⟩ := at2 hm
    refine g_pair (e5 _ _ (y4 _ _ ht)) ?_
    show tIfS _ _ _ _ [some (.ref a), some (.ref lh), some (.ref sa), some (.int (hx.1 : Int)), some (.int (hx.2 : Int))] H5
    have some5 : Fs.sAt (Fs.startM s) hx.2 ≠ none := by
      rw [Fs.start_eq]
      exact Fs.fold_put_some _ _ _ (fun x hx => by rw [List.length_replicate]; exact (W.hosts x hx).2) (.inr ⟨hx, hmem, rfl⟩)
    obtain ⟨g5, hg5⟩ := Option.ne_none_iff_exists'.mp some5
    refine s_when (b := !Fs.wellM s (Fs.startM s) hx.2) (et_not (et_val (ev_callF (ea_cons (ev_var (i := 2) rfl) (ea_cons (ev_var (i := 4) rfl) ea_nil)) (sv_is_well (hs4.ex e5) W hg5)))) (fun hb H6 x6 => ?_) fun hb H6 x6 => ?_
    · refine s_ret ev_c fun H7 x7 => ?_
      refine kn ?_ H7 (((y4.trans e5).trans x6).trans x7)
      unfold Fs.planM
      rw [if_neg]
      rw [List.all_eq_true]
      intro q
      have := q hx hmem
      rw [this] at hb; cases hb
    · refine ⟨⟨_, _, rfl⟩, e5.trans x6, fun x hx' => ?_⟩
      rw [take_snoc hxm] at hx'
      rcases List.mem_append.mp hx' with q | q
      · exact h5 x q
      · rw [List.mem_singleton.mp q]
        simpa using hb
  rintro σ' H5 ⟨⟨v3, v4, rfl⟩, e5, h5⟩
  rw [hlen, List.take_length] at h5
  have pl : Fs.planM s = Fs.seatedM s s.seats s.others (Fs.startM s) := by
    unfold Fs.planM
    rw [if_pos (List.all_eq_true.mpr h5)]
  have y5 := y4.trans e5
  have hs5 := hs4.ex e5
  show tSeq _ _ _ [some (.ref a), some (.ref lh), some (.ref sa), v3, v4] H5
  -- the others
  have ea : EvA (tCons (tVar 2) (tCons (tC (.int 0)) tNil)) [some (.ref a), some (.ref lh), some (.ref sa), v3, v4] H5 [.ref sa, .int ((0 : Nat) : Int)] := ea_cons (ev_var (i := 2) rfl) (ea_cons ev_c ea_nil)
  refine tb_call (Q := fun c H6 => if (!c) = true then _ else _) ea fun H6 x6 => ?_
  have hs6 := hs5.ex x6
  refine ⟨sa, lsit, s, s.others, Fs.startM s, 0, rfl, hs6, W, Nat.zero_le _, by have := Fs.others_len s; omega, Fs.others_lt s, fun hno H7 x7 h7 => ⟨false, rfl, ?_⟩, fun sit' hyes H7 x7 h7 => ⟨true, rfl, ?_⟩⟩
  · rw [List.drop_zero, ← pl] at hno
    refine s_ret ev_c fun H8 x8 => ?_
    exact kn hno H8 ((((ExF.of (y5.trans x6)).trans x7).toEx flF).trans x8)
  · rw [List.drop_zero, ← pl] at hyes
    refine s_ret (ev_ssitF T hs6 x7 (ev_var (i := 2) rfl)) fun H8 x8 => ?_
    exact ks sit' hyes lsit H8 fl ((((ExF.of (y5.trans x6)).trans x7).toEx flF).trans x8) (x8 _ _ h7)
theorem sv_plan {H : Hp} {Q : VK} {E : XK} (h : HouseAt ad.G ad.H H a s) (W : WF s) (kn : Fs.planM s = none → RetV .non H Q) (ks : ∀ sit, Fs.planM s = some sit → RetL (sitV sit) H Q) : sp_plan_of K ad [.ref a] H Q E := ⟨a, s, rfl, h, W, kn, ks⟩
end
end FsR
namespace Fs
open Kg75
theorem at_host_some (s : State) (k : Nat) : k ∈ s.hosts.map (fun y => y.2) ↔ ∃ g, at_ (hostPlan s) k = some g := by
  unfold at_ hostPlan
  constructor
  · intro h
    obtain ⟨x, hx, rfl⟩ := List.mem_map.mp h
    cases q : (s.hosts.map fun x => (x.2, x.1)).find? fun y => y.1 == x.2 with
    | some y => exact ⟨y.2, rfl⟩
    | none =>
      have := List.find?_eq_none.mp q (x.2, x.1) (List.mem_map.mpr ⟨x, hx, rfl⟩)
      simp at this
  · rintro ⟨g, h⟩
    have h := at_some h
    obtain ⟨x, hx, e⟩ := List.mem_map.mp h
    injection e with e1 e2
    exact List.mem_map.mpr ⟨x, hx, e1⟩
theorem at_none_of {p : Plan} {k : Nat} (h : ∀ x ∈ p, x.1 ≠ k) : at_ p k = none := by
  cases q : at_ p k with
  | none => rfl
  | some g => exact absurd rfl (h _ (at_some q))
theorem fold_sitOf {n : Nat} : ∀ (l : List (Nat × Nat)) (p : Plan), (l.map (fun y => y.2)).Nodup → (∀ x ∈ l, ∀ y ∈ p, y.1 ≠ x.2) → l.foldl putM (sitOf n p) = sitOf n (p ++ l.map fun x => (x.2, x.1))
  | [], p, _, _ => by rw [List.map_nil, List.append_nil]; rfl
  | x :: l, p, hn, hd => by
    rw [List.foldl_cons, List.map_cons]
    have hn' := List.nodup_cons.mp hn
    have e : putM (sitOf n p) x = sitOf n (p ++ [(x.2, x.1)]) := (sitOf_append (at_none_of (hd x List.mem_cons_self))).symm
    rw [e, fold_sitOf l _ hn'.2 fun y hy z hz => ?_]
    · rw [List.append_assoc]; rfl
    · rcases List.mem_append.mp hz with hz | hz
      · exact hd y (List.mem_cons_of_mem _ hy) z hz
      · rw [List.mem_singleton.mp hz]
        intro q
        exact hn'.1 (List.mem_map.mpr ⟨y, hy, q.symm⟩)
theorem sitOf_nil (n : Nat) : sitOf n [] = List.replicate n none := by
  unfold sitOf at_
  show List.map (fun _ => (none : Option Nat)) (List.range n) = _
  rw [List.map_const', List.length_range]
theorem start_sitOf {s : State} (W : WF s) : startM s = sitOf s.guests.length (hostPlan s) := by
  rw [start_eq, ← sitOf_nil, fold_sitOf _ _ W.hostS (fun _ _ y hy => by cases hy)]; rfl
theorem host_ok {s : State} (W : WF s) : PlanOk s.guests.length (hostPlan s) := fun x hx => by
  obtain ⟨y, hy, rfl⟩ := List.mem_map.mp hx
  exact ⟨(W.hosts y hy).2, (W.hosts y hy).1⟩
theorem plan_law {s : State} (W : WF s) : s.plan.map (sitOf s.guests.length) = planM s := by
  unfold State.plan planM
  have f := fine_hosts W (host_ok W) (s.hosts.map fun y => y.2) (at_host_some s)
  rw [List.all_map] at f
  have e : (s.hosts.all fun x => wellM s (startM s) x.2) = s.fine (hostPlan s) := by rw [f, start_sitOf W]; rfl
  rw [e]
  by_cases c : s.fine (hostPlan s) = true
  · rw [if_pos c, if_pos c, start_sitOf W, ← search_law W (fun x hx => (seats_mem s x hx).1) _ _ (others_lt s) (host_ok W) c]
    congr 2
    rw [List.filter_eq_self.mpr]
    intro x hx
    have := (seats_mem s x hx).2
    rw [Option.isNone_iff_eq_none]
    cases q : at_ (hostPlan s) x with
    | none => rfl
    | some g => exact absurd ((at_host_some s x).mpr ⟨g, q⟩) this
  · rw [if_neg c, if_neg c]; rfl
theorem show_sitOf (s : State) (p : Plan) : (sitOf s.guests.length p).map compI = showPlan s p := by
  unfold sitOf showPlan State.size
  rw [List.map_map]
  refine List.map_congr_left fun k _ => ?_
  show compI (at_ p k) = _
  cases at_ p k <;> rfl
theorem full_row : ∀ (l : List Int) (a : Int), l.Pairwise (· < ·) → (∀ z ∈ l, a ≤ z ∧ z < a + l.length) → l = (List.range l.length).map fun (i : Nat) => a + (i : Int)
  | [], a, _, _ => rfl
  | x :: t, a, h, hb => by
    have h' := List.pairwise_cons.mp h
    have hx := hb x List.mem_cons_self
    have ih := full_row t (a + 1) h'.2 fun z hz => by
      have b1 := h'.1 z hz
      have b2 := hb z (List.mem_cons_of_mem _ hz)
      rw [List.length_cons] at b2
      omega
    have xa : x = a := by
      cases t with
      | nil => simp at hx; omega
      | cons y r =>
        have b1 := h'.1 y List.mem_cons_self
        have : y = a + 1 := by
          have q := congrArg List.head? ih
          rw [List.length_cons, List.range_succ_eq_map] at q
          simp at q
          exact q
        omega
    rw [List.length_cons, List.range_succ_eq_map, List.map_cons, List.map_map, xa]
    congr 1
    · omega
    · refine ih.trans (List.map_congr_left fun i _ => ?_)
      show a + 1 + (i : Int) = a + ((i + 1 : Nat) : Int)
      omega
/-- what a plan asks -/
theorem check_law (s : State) (l l' : List Int) (hp : l'.Perm l) (hs : l'.Pairwise (· ≤ ·)) : decide (l' = (List.range s.guests.length).map fun (i : Nat) => (i : Int)) = (decide (l.length = s.guests.length) && (l.all (isGuest s) && decide l.Nodup)) := by
  rw [Bool.eq_iff_iff, decide_eq_true_eq, Bool.and_eq_true, Bool.and_eq_true, decide_eq_true_eq, decide_eq_true_eq, List.all_eq_true]
  constructor
  · rintro rfl
    refine ⟨by rw [← hp.length_eq]; simp, fun z hz => ?_, hp.nodup_iff.mp ?_⟩
    · have := hp.mem_iff.mpr hz
      obtain ⟨i, hi, rfl⟩ := List.mem_map.mp this
      have := List.mem_range.mp hi
      unfold isGuest
      simp only [Bool.and_eq_true, decide_eq_true_eq]
      omega
    · exact List.pairwise_map.mpr (List.Pairwise.imp (fun h => by omega) List.pairwise_lt_range)
  · rintro ⟨h1, h2, h3⟩
    have h3' := hp.nodup_iff.mpr h3
    have lt : l'.Pairwise (· < ·) := by
      refine List.Pairwise.imp₂ (fun a b h1 h2 => ?_) hs h3'
      omega
    have z := full_row l' 0 lt (fun z hz => by
      have := h2 z (hp.mem_iff.mp hz)
      unfold isGuest at this
      simp only [Bool.and_eq_true, decide_eq_true_eq] at this
      rw [hp.length_eq, h1]
      omega)
    rw [hp.length_eq, h1] at z
    rw [z]
    exact List.map_congr_left fun i _ => by omega
end Fs
namespace FsR
open PySem PySem.Spec PyProof.Rows L2 Evl
open Fs (compI WF)
section
variable {K : PySem.W.Frag} {mg : Str → Option Value} {ad : Ad} {w : World} {σ : L2.St} {H H' : Hp} {ta tb te tl tv : TE} {a : Addr} {s : Kg75.State} {p : Parts} {g : TG} {tu tz : TS} {D : Ends} {t : TT}
theorem whole_nats (l : List Nat) : intsV (Kg75.whole l) = natsV l := (nats_ints l).symm
theorem ans_row {xs : List V} {n : Int} {o : List Int} (hn : n = xs.length) (h : xs = intsV o) : V.int xs.length :: xs = ansV ⟨n, o⟩ := by
  unfold ansV; rw [hn, h]
theorem nil_dec (s : Kg75.State) : (hostsI s).isEmpty = decide (s.hosts = []) := by
  unfold hostsI
  rw [Bool.eq_iff_iff, List.isEmpty_iff, List.map_eq_nil_iff, decide_eq_true_eq]
theorem ev_noHosts (T : Txt K mg ad) (hp : HouseP ad.G ad.H H a s p) (h : Ev ta σ H (.ref a)) : Ev (tOp (rEqD K) (tFld K ta "hosts") (tLst tNil)) σ H (.bl (decide (s.hosts = []))) := by
  obtain ⟨ts, q1, q2⟩ := hp.oh
  refine ev_opL (ev_hhosts T hp h) el_nil fun q H1 hq e => ?_
  have c := rv_eqD (K := K) (H := H1) (x := .ref p.lh) (y := .ref q) (d := .list ((hostsI s).map prd)) (e := .list (([] : List (Int × Int)).map prd)) (Dp.lst (sq_of (e _ _ q1)) (PairsAt.dp (q2.ex (Ex.trans ex_off e)))) (Dp.lst (sq_of hq) .nil) (prds_shaped _) (prds_shaped _)
  rw [List.map_nil, prds_eqv_nil, nil_dec] at c
  exact c
theorem ev_hasHosts (T : Txt K mg ad) (hp : HouseP ad.G ad.H H a s p) (h : Ev ta σ H (.ref a)) : Ev (tOp (rNeD K) (tFld K ta "hosts") (tLst tNil)) σ H (.bl (!decide (s.hosts = []))) := by
  obtain ⟨ts, q1, q2⟩ := hp.oh
  refine ev_opL (ev_hhosts T hp h) el_nil fun q H1 hq e => ?_
  have c := rv_neD (K := K) (H := H1) (x := .ref p.lh) (y := .ref q) (d := .list ((hostsI s).map prd)) (e := .list (([] : List (Int × Int)).map prd)) (Dp.lst (sq_of (e _ _ q1)) (PairsAt.dp (q2.ex (Ex.trans ex_off e)))) (Dp.lst (sq_of hq) .nil) (prds_shaped _) (prds_shaped _)
  rw [List.map_nil, prds_eqv_nil, nil_dec] at c
  exact c
/-- [n] -/
theorem el_num {n : Int} : EvL (tLst (tCons (tC (.int n)) tNil)) σ H (ansV (Kg75.num n)) := el_lst (ea_cons ev_c ea_nil) (by show 1 ≤ 100000; decide)
theorem el_ret {xs : List V} {Q : VK} {b : L2.St → Hp → Prop} (k : RetL xs H Q) (e : Ex H H') (h : EvL te σ H' xs) : tRet te { nx := b, rt := Q } σ H' := s_retL h fun p H2 hp e2 h2 => k.go e hp e2 h2
theorem el_retD {xs : List V} {Q : VK} {D : Ends} (hD : D.rt = Q) (k : RetL xs H Q) (e : Ex H H') (h : EvL te σ H' xs) : tRet te D σ H' := s_retL h fun p H2 hp e2 h2 => by rw [hD]; exact k.go e hp e2 h2
/-- told(new list) -/
theorem el_toldN {xs : List V} {te : TE} (h : EvL te σ H xs) (hz : xs.length ≤ 50000) : EvL (tCallF (sp_told K ad) (tCons te tNil)) σ H (.int xs.length :: xs) := fun H1 e Q q =>
  h H1 e _ fun l H2 _ e2 h2 => sl_told (ad := ad) (sq_of h2) hz H2 (Ex.refl H2) Q (fun p H3 hp e3 h3 => q p H3 (fresh_back e2 hp) (e2.trans e3) h3) E0
theorem dups_len : ∀ (n : Nat) (l : List Nat), l.length ≤ n → l.eraseDups.length ≤ l.length
  | _, [], _ => by simp
  | 0, x :: l, h => by simp at h
  | n + 1, x :: l, h => by
    rw [List.eraseDups_cons, List.length_cons, List.length_cons]
    rw [List.length_cons] at h
    have f := List.length_filter_le (fun b => !b == x) l
    have := dups_len n (l.filter fun b => !b == x) (by omega)
    omega
theorem seats_len {s : Kg75.State} (W : WF s) : s.seats.length ≤ 400 := by
  unfold Kg75.State.seats
  refine Nat.le_trans (List.length_filter_le _ _) ?_
  have nd : ∀ l : List Nat, l.eraseDups.length ≤ l.length := fun l => dups_len _ l (Nat.le_refl _)
  refine Nat.le_trans (nd _) ?_
  rw [List.length_flatMap]
  have n9 := W.len
  have h2 := W.hostsLen
  have : ((List.range s.size).map fun k => ((s.hosts.map fun x => x.2).map (fun i => Kg75.right s.size i (k + 1)) ++ (s.hosts.map fun x => x.2).map fun i => Kg75.left s.size i (k + 1)).length) = (List.range s.size).map fun _ => s.hosts.length + s.hosts.length := List.map_congr_left fun k _ => by simp
  rw [this, List.map_const', List.sum_replicate_nat, List.length_range]
  unfold Kg75.State.size
  have := Nat.mul_le_mul n9 (show s.hosts.length + s.hosts.length ≤ 4 by omega)
  omega
theorem rd_seats (T : Txt K mg ad) (vs : List V) (H : Hp) (Q : VK) (E : XK) (h : sp_seats K ad vs H Q E) : t_seats w K ad { nx := fun _ H' => Q .non H', rt := Q } (start N_seats vs) H := by
  obtain ⟨a, s, rfl, ⟨p, hp⟩, W, k⟩ := h
  refine q_when (et_test (ev_noHosts T hp (ev_var rfl))) (fun hb H1 x1 => ?_) fun hb H1 x1 => ?_
  · have hb := of_decide_eq_true hb
    refine el_retD rfl k x1 ?_
    show EvL _ _ _ (ansV (if s.hosts = [] then Kg75.num (-2) else ⟨s.seats.length, Kg75.whole s.seats⟩))
    rw [if_pos hb]
    exact el_num
  · have hb := of_decide_eq_false hb
    refine el_ret k x1 ?_
    show EvL _ _ _ (ansV (if s.hosts = [] then Kg75.num (-2) else ⟨s.seats.length, Kg75.whole s.seats⟩))
    rw [if_neg hb, ← ans_row (xs := natsV s.seats) (by rw [nats_len]) (whole_nats _).symm]
    exact el_toldN (el_callF (ea_cons (ev_var rfl) ea_nil) (sl_seats_of ⟨p, hp.ex x1⟩ W)) (by rw [nats_len]; have := seats_len W; omega)
theorem sl_seats (h : HouseAt ad.G ad.H H a s) (W : WF s) : SpL (sp_seats K ad) [.ref a] H (ansV (Kg75.spec s .seats).2) := fun H1 e Q q E => ⟨a, s, rfl, h.ex e, W, q⟩
theorem rd_flags (T : Txt K mg ad) (vs : List V) (H : Hp) (Q : VK) (E : XK) (h : sp_flags K ad vs H Q E) : t_flags w K ad { nx := fun _ H' => Q .non H', rt := Q } (start N_flags vs) H := by
  obtain ⟨a, s, way, rfl, hh, W, k⟩ := h
  have e0 : Kg75.spec s (.flags way) = if Kg75.within way 0 2 = false then (s, Kg75.num (-1)) else (s, ⟨(s.flags way.toNat).length, Kg75.whole (s.flags way.toNat)⟩) := rfl
  rw [e0] at k
  refine q_when (et_not (et_val (ev_callF (ea_cons (ev_var (i := 1) rfl) (ea_cons ev_c (ea_cons ev_c ea_nil))) sv_within))) (fun hb H1 x1 => ?_) fun hb H1 x1 => ?_
  · have hb : Kg75.within way 0 2 = false := by simpa using hb
    rw [if_pos hb] at k
    exact el_retD rfl k x1 el_num
  · have hb : Kg75.within way 0 2 = true := by simpa using hb
    rw [if_neg (by rw [hb]; decide)] at k
    unfold Kg75.within at hb
    simp only [Bool.and_eq_true, decide_eq_true_eq] at hb
    refine el_ret k x1 ?_
    show EvL _ _ _ (ansV ⟨_, _⟩)
    rw [← ans_row (xs := natsV (s.flags way.toNat)) (by rw [nats_len]) (whole_nats _).symm]
    refine el_toldN (el_callF (ea_cons (ev_var rfl) (ea_cons (ev_var (i := 1) rfl) ea_nil)) (sl_flags_of (hh.ex x1) W hb.1 hb.2)) ?_
    rw [nats_len]
    have c := Fs.countries_len s
    have f : (s.flags way.toNat).length ≤ 64 := by
      unfold Kg75.State.flags
      split
      · simp; omega
      · split
        · simp; omega
        · rw [List.length_append, List.length_reverse, List.length_cons, List.length_map, List.length_map]
          have l1 := List.length_filter_le (fun x : Nat × Nat => x.2 % 2 == 1) s.countries.zipIdx
          have l2 := List.length_filter_le (fun x : Nat × Nat => x.2 % 2 == 0) s.countries.zipIdx
          rw [List.length_zipIdx] at l1 l2
          omega
    omega
theorem sl_flags {way : Int} (h : HouseAt ad.G ad.H H a s) (W : WF s) : SpL (sp_flags K ad) [.ref a, .int way] H (ansV (Kg75.spec s (.flags way)).2) := fun H1 e Q q E => ⟨a, s, way, rfl, h.ex e, W, q⟩
theorem sit_show (s : Kg75.State) (p : Kg75.Plan) : sitV (Fs.sitOf s.guests.length p) = intsV (Kg75.showPlan s p) := by
  rw [← Fs.show_sitOf]; unfold sitV intsV; rw [List.map_map]; rfl
theorem q_asgC {sp : Sp} {ts : TA} {vs : List V} {i : Nat} (h : EvA ts σ H vs) (k : ∀ H1, Ex H H1 → sp vs H1 (fun v H2 => tz D (σ.set i (some v)) H2) E0) : tSeq (tAsg (tCallF sp ts) (gName i)) tz D σ H := h H (Ex.refl H) _ k
theorem rd_plan (T : Txt K mg ad) (vs : List V) (H : Hp) (Q : VK) (E : XK) (h : sp_plan K ad vs H Q E) : t_plan w K ad { nx := fun _ H' => Q .non H', rt := Q } (start N_plan vs) H := by
  obtain ⟨a, s, rfl, ⟨p, hp⟩, W, k⟩ := h
  have e0 : (Kg75.spec s .plan).2 = if s.hosts = [] then Kg75.num (-2) else match s.plan with
    | some p => ⟨s.size, Kg75.showPlan s p⟩
    | none => Kg75.num (-6) := rfl
  rw [e0] at k
  refine q_when (et_test (ev_noHosts T hp (ev_var rfl))) (fun hb H1 x1 => ?_) fun hb H1 x1 => ?_
  · rw [if_pos (of_decide_eq_true hb)] at k
    exact el_retD rfl k x1 el_num
  · rw [if_neg (of_decide_eq_false hb)] at k
    have law := Fs.plan_law W
    refine q_asgC (ea_cons (ev_var rfl) ea_nil) fun H2 x2 => ?_
    have y2 := x1.trans x2
    refine sv_plan ⟨p, hp.ex y2⟩ W (fun hno H3 x3 => ?_) fun sit hyes l H3 hl x3 h3 => ?_
    · have hn : s.plan = none := by
        rw [hno] at law
        cases q : s.plan with
        | none => rfl
        | some p => rw [q] at law; cases law
      rw [hn] at k
      refine q_when (b := true) (et_test (b := true) (ev_op (ev_var (i := 1) rfl) ev_c fun H4 e4 Q q => ⟨rfl, q H4 (Ex.refl H4)⟩)) (fun _ H4 x4 => ?_) fun hb => by cases hb
      exact el_retD rfl k ((y2.trans x3).trans x4) el_num
    · obtain ⟨pl, hpl⟩ : ∃ pl, s.plan = some pl := by
        rw [hyes] at law
        cases q : s.plan with
        | none => rw [q] at law; cases law
        | some p => exact ⟨p, rfl⟩
      rw [hpl, hyes] at law
      have law : Fs.sitOf s.guests.length pl = sit := Option.some.inj law
      subst law
      rw [hpl] at k
      refine q_when (b := false) (et_test (b := false) (ev_op (ev_var (i := 1) rfl) ev_c fun H4 e4 Q q => ⟨rfl, q H4 (Ex.refl H4)⟩)) (fun hb => by cases hb) fun _ H4 x4 => ?_
      refine el_ret k ((y2.trans x3).trans x4) ?_
      rw [← ans_row (xs := sitV (Fs.sitOf s.guests.length pl)) (by rw [sit_len, Fs.sitOf_len]; rfl) (sit_show s pl)]
      exact el_callF (ea_cons (ev_var (i := 1) rfl) ea_nil) (sl_told (sq_of (x4 _ _ h3)) (by rw [sit_len, Fs.sitOf_len]; have := W.len; omega))
theorem sl_plan (h : HouseAt ad.G ad.H H a s) (W : WF s) : SpL (sp_plan K ad) [.ref a] H (ansV (Kg75.spec s .plan).2) := fun H1 e Q q E => ⟨a, s, rfl, h.ex e, W, q⟩
end
end FsR
namespace FsR
open PySem PySem.Spec PyProof.Rows L2 Evl
open Fs (compI WF)
section
variable {K : PySem.W.Frag} {mg : Str → Option Value} {ad : Ad} {w : World} {σ : L2.St} {H H' : Hp} {ta tb te tl tv : TE} {a : Addr} {s : Kg75.State} {p : Parts} {g : TG} {tu tz : TS} {D : Ends} {t : TT}
/-- xs.extend(new list) -/
theorem s_extL {l : Addr} {xs ys : List V} (hl : H l = some (.lst xs)) (ha : Ev ta σ H (.ref l)) (h : EvL te σ H ys) (hz : xs.length + ys.length ≤ 100000) (k : ∀ p H1, H p = none → Ex H H1 → H1 p = some (.lst ys) → D.nx σ (upd H1 l (.lst (xs ++ ys)))) :
    tDrop (tBM K "list" rExtend ta (tCons te tNil)) D σ H := ha H (Ex.refl H) _ fun H1 e1 =>
  ⟨Or.inl ⟨rfl, xs, sq_of (e1 l _ hl)⟩, h H1 e1 _ fun p H2 hp e2 h2 => ⟨l, p, xs, ys, rfl, rfl, e2 l _ (e1 l _ hl), h2, sz_of hz, k p H2 (fresh_back e1 hp) (e1.trans e2) h2⟩⟩
/-- xs.extend(ys) -/
theorem q_ext {l b : Addr} {xs ys : List V} (hl : H l = some (.lst xs)) (ha : Ev ta σ H (.ref l)) (h : Ev te σ H (.ref b)) (hb : H b = some (.lst ys)) (hz : xs.length + ys.length ≤ sizeLine) (k : ∀ H1, Ex H H1 → tz D σ (upd H1 l (.lst (xs ++ ys)))) :
    tSeq (tDrop (tBM K "list" rExtend ta (tCons te tNil))) tz D σ H := ha H (Ex.refl H) _ fun H1 e1 =>
  ⟨Or.inl ⟨rfl, xs, sq_of (e1 l _ hl)⟩, h H1 e1 _ fun H2 e2 => ⟨l, b, xs, ys, rfl, rfl, e2 l _ (e1 l _ hl), e2 _ _ (e1 _ _ hb), hz, k H2 (e1.trans e2)⟩⟩
def srt (l : List Int) : List Int := l.mergeSort fun a b => decide (a ≤ b)
theorem srt_perm (l : List Int) : (srt l).Perm l := List.mergeSort_perm ..
theorem srt_sorted (l : List Int) : (srt l).Pairwise (· ≤ ·) := by
  have h := List.pairwise_mergeSort (le := fun a b : Int => decide (a ≤ b)) (fun a b c h1 h2 => by simp only [decide_eq_true_eq] at *; omega) (fun a b => by simp only [Bool.or_eq_true, decide_eq_true_eq]; omega) l
  exact List.Pairwise.imp (fun q => by simpa using q) h
theorem el_sorted {b : Addr} {ns : List Int} (ha : Ev ta σ H (.ref b)) (h : SqL K H b (intsV ns)) (hl : ns.length < 64) : EvL (tCB (rSorted K) (tCons ta tNil)) σ H (intsV (srt ns)) := fun H1 e Q q =>
  ha H1 e _ fun H2 e2 => ⟨b, ns, rfl, ex_l (e.trans e2) h, hl, fun ns' p hp hs hn => by
    have : ns' = srt ns := List.Perm.eq_of_pairwise (le := (· ≤ ·)) (fun a b _ _ q1 q2 => by omega) hs (srt_sorted ns) (hp.trans (srt_perm ns).symm)
    subst this
    exact q p _ (fresh_back e2 hn) (e2.trans (Ex.new hn)) upd_same⟩
theorem rv_neInts {l m : List Int} {q r : Addr} (h1 : SqL K H q (intsV l)) (h2 : SqL K H r (intsV m)) : RV (rNeD K) (.ref q) (.ref r) H (.bl (!decide (l = m))) := by
  have e := rv_neD (K := K) (H := H) (Dp.lst h1 (dp_ints l)) (Dp.lst h2 (dp_ints m)) (shaped_ints l) (shaped_ints m)
  rw [eqv_lints] at e
  exact e
def flatP (l : List (Int × Int)) : List V := l.flatMap fun z => [V.int z.1, V.int z.2]
theorem flatP_len : ∀ l : List (Int × Int), (flatP l).length = 2 * l.length
  | [] => rfl
  | z :: l => by
    unfold flatP
    rw [List.flatMap_cons, List.length_append]
    have := flatP_len l
    unfold flatP at this
    rw [this, List.length_cons, List.length_cons, List.length_cons, List.length_nil]
    omega
theorem flatP_pairs (l : List (Nat × Nat)) : flatP (pairI l) = intsV (Kg75.whole (l.flatMap fun x => [x.1, x.2])) := by
  unfold flatP pairI Kg75.whole intsV
  rw [List.map_map, List.flatMap_map, List.map_flatMap]
  rfl
theorem nats_toNat {l : List Int} (h : ∀ z ∈ l, 0 ≤ z) : natsV (l.map Int.toNat) = intsV l := by
  unfold natsV intsV
  rw [List.map_map]
  exact List.map_congr_left fun z hz => congrArg V.int (Int.toNat_of_nonneg (h z hz))
theorem rd_check (T : Txt K mg ad) (vs : List V) (H : Hp) (Q : VK) (E : XK) (h : sp_check K ad vs H Q E) : t_check w K ad { nx := fun _ H' => Q .non H', rt := Q } (start N_check vs) H := by
  obtain ⟨a, al, s, l, rfl, ⟨p, hp⟩, W, hl, h12, k⟩ := h
  have n9 := W.len
  have e0 : Kg75.spec s (.check l) = if (decide (l.length = s.guests.length) && (l.all (Kg75.isGuest s) && decide l.Nodup)) = false then (s, Kg75.num (-1)) else (s, ⟨(s.breaks (l.zipIdx.map fun x => (x.2, x.1.toNat))).length, Kg75.whole ((s.breaks (l.zipIdx.map fun x => (x.2, x.1.toNat))).flatMap fun x => [x.1, x.2])⟩) := rfl
  rw [e0] at k
  have cl := Fs.check_law s l (srt l) (srt_perm l) (srt_sorted l)
  generalize hc : (decide (l.length = s.guests.length) && (l.all (Kg75.isGuest s) && decide l.Nodup)) = c at k cl
  have t0 : Ev (tOp (rNeD K) (tCB (rSorted K) (tCons (tVar 1) tNil)) (tLstRg (tRg1 (tCB (rLenS K) (tCons (tFld K (tVar 0) "guests") tNil))))) (start N_check [.ref a, .ref al]) H (.bl (!c)) := by
    refine ev_opLL (el_sorted (ev_var (i := 1) rfl) hl (by omega)) (el_range (ev_many T hp (ev_var (i := 0) rfl)) (by omega)) fun q r H1 hq hr e => ?_
    have z := rv_neInts (K := K) (m := (List.range s.guests.length).map fun (i : Nat) => (i : Int)) (sq_of hq) (sq_of (by rw [hr]; unfold intsV; rw [List.map_map]; rfl))
    rw [cl] at z
    exact z
  refine q_when (et_test t0) (fun hb H1 x1 => ?_) fun hb H1 x1 => ?_
  · have hb : c = false := by simpa using hb
    rw [if_pos hb] at k
    exact el_retD rfl k x1 el_num
  · have hb : c = true := by simpa using hb
    rw [if_neg (by rw [hb]; decide)] at k
    rw [hb, Bool.and_eq_true, Bool.and_eq_true, decide_eq_true_eq, decide_eq_true_eq, List.all_eq_true] at hc
    obtain ⟨hlen, hall, hnd⟩ := hc
    have hpos : ∀ z ∈ l, 0 ≤ z ∧ z < (s.guests.length : Int) := fun z hz => by
      have := hall z hz
      unfold Kg75.isGuest at this
      simpa using this
    obtain ⟨sit, hsit⟩ : ∃ sit, l.map Int.toNat = sit := ⟨_, rfl⟩
    have hsl : sit.length = s.guests.length := by rw [← hsit, List.length_map]; exact hlen
    have hsg : ∀ g ∈ sit, g < s.guests.length := fun g hg => by
      rw [← hsit] at hg
      obtain ⟨z, hz, rfl⟩ := List.mem_map.mp hg
      have := hpos z hz
      omega
    have hq : SqL K H al (natsV sit) := by rw [← hsit, nats_toNat fun z hz => (hpos z hz).1]; exact hl
    have bl : s.breaks (l.zipIdx.map fun x => (x.2, x.1.toNat)) = Fs.breaksM s sit := by
      have : (l.zipIdx.map fun x => (x.2, x.1.toNat)) = sit.zipIdx.map fun x => (x.2, x.1) := by
        rw [← hsit, List.zipIdx_map, List.map_map]
        rfl
      rw [this]
      exact Fs.breaks_law W hsl hsg
    rw [bl] at k
    refine q_asgC (ea_cons (ev_var (i := 0) rfl) (ea_cons (ev_var (i := 1) rfl) ea_nil)) fun H2 x2 => ?_
    have y2 := x1.trans x2
    refine ⟨a, al, s, sit, rfl, ⟨p, hp.ex y2⟩, W, ex_l y2 hq, hsg, hsl, fun lp H3 ts hlp x3 h3 pr => ?_⟩
    have bm : (Fs.breaksM s sit).length ≤ 18 := by
      unfold Fs.breaksM
      rw [List.length_append, List.length_map]
      have l1 := List.length_filter_le (fun k => Fs.mayNot s (Fs.gAt sit k) (Fs.gAt sit (Fs.nbR sit.length k))) (List.range sit.length)
      rw [List.length_range] at l1
      split
      · rw [List.length_map]
        have l2 := List.length_filter_le (fun k => !s.share (Fs.gAt sit k) (Fs.gAt sit (Fs.nbL sit.length k)) && !s.share (Fs.gAt sit k) (Fs.gAt sit (Fs.nbR sit.length k))) (List.range sit.length)
        rw [List.length_range] at l2
        omega
      · rw [List.length_nil]; omega
    have tl : ts.length = (Fs.breaksM s sit).length := by rw [pr.1]; unfold pairI; rw [List.length_map]
    have pl : (pairI (Fs.breaksM s sit)).length = (Fs.breaksM s sit).length := List.length_map ..
    refine q_asgL (el_lst (ea_cons (ev_len (ev_var (i := 2) rfl) (sq_of h3)) ea_nil) (by show 1 ≤ 100000; decide)) fun lf H4 hlf x4 h4 => ?_
    have y4 := (y2.trans x3).trans x4
    have flF : ∀ b ∈ [lf], H3 b = none := fun b q => by rw [List.mem_singleton.mp q]; exact hlf
    refine q_forL (xs := ts.map V.ref) (ev_var (i := 2) rfl) (sq_of (x4 _ _ h3))
      (fun m σ' H' => (∃ v4 v5, σ' = [some (.ref a), some (.ref al), some (.ref lp), some (.ref lf), v4, v5]) ∧ ExF [lf] H4 H' ∧ H' lf = some (.lst (V.int ((ts.map V.ref).length : Int) :: flatP ((pairI (Fs.breaksM s sit)).take m))))
      (fun H5 x5 => ⟨⟨none, none, rfl⟩, ExF.of x5, x5 _ _ h4⟩) (fun m σ' H' _ z => sq_of ((((ExF.of x4).trans z.2.1).toEx flF) _ _ h3)) ?_ ?_
    · rintro m x σ' H5 hm ⟨⟨v4, v5, rfl⟩, e5, h5⟩
      rw [List.getElem?_map] at hm
      obtain ⟨t, ht, rfl⟩ := Option.map_eq_some_iff.mp hm
      have ml : m < ts.length := (List.getElem?_eq_some_iff.mp ht).1
      have hz : (pairI (Fs.breaksM s sit))[m]? = some ((pairI (Fs.breaksM s sit))[m]'(by omega)) := List.getElem?_eq_getElem (by omega)
      generalize (pairI (Fs.breaksM s sit))[m]'(by omega) = z at hz
      have y5 : Ex H3 H5 := ((ExF.of x4).trans e5).toEx flF
      refine g_pair (y5 _ _ (pr.2 m t z ht hz)) ?_
      show tDrop _ _ [some (.ref a), some (.ref al), some (.ref lp), some (.ref lf), some (.int z.1), some (.int z.2)] H5
      refine s_extL h5 (ev_var (i := 3) rfl) (el_lst (ea_cons (ev_var (i := 4) rfl) (ea_cons (ev_var (i := 5) rfl) ea_nil)) (by show 2 ≤ 100000; decide)) ?_ fun q H6 hq x6 h6 => ?_
      · rw [List.length_cons, flatP_len, List.length_take]
        show _ + 2 ≤ _
        omega
      · refine ⟨⟨_, _, rfl⟩, (e5.trans (ExF.of x6)).upd (.inl (List.mem_singleton.mpr rfl)), ?_⟩
        rw [upd_same, take_snoc hz]
        unfold flatP
        rw [List.flatMap_append]; rfl
    · rintro σ' H5 ⟨⟨v4, v5, rfl⟩, e5, h5⟩
      have y5 : Ex H3 H5 := ((ExF.of x4).trans e5).toEx flF
      refine s_ret (ev_var (i := 3) rfl) fun H6 x6 => ?_
      refine k lf H6 (fresh_back (y2.trans x3) hlf) ((y2.trans x3).trans (y5.trans x6)) ?_
      rw [x6 _ _ h5]
      refine congrArg (fun z => some (HO.lst z)) ?_
      unfold ansV
      rw [← flatP_pairs, List.length_map, List.take_of_length_le (by rw [pl]; omega), tl]
theorem sl_check {al : Addr} {l : List Int} (h : HouseAt ad.G ad.H H a s) (W : WF s) (hl : SqL K H al (intsV l)) (h12 : l.length ≤ 12) : SpL (sp_check K ad) [.ref a, .ref al] H (ansV (Kg75.spec s (.check l)).2) := fun H1 e Q q E => ⟨a, al, s, l, rfl, h.ex e, W, ex_l e hl, h12, q⟩
theorem q_skip {kind n : Int} (h : σ[1]? = some (some (.int kind))) (hn : kind ≠ n) (k : ∀ H1, Ex H H1 → tz D σ H1) : tSeq (tIfS (tTest (tOp rEq (tVar 1) (tC (.int n)))) tu tNext) tz D σ H :=
  q_when (b := false) (et_test (ev_is (ev_op (ev_var h) ev_c (rv_eq rfl)) (congrArg V.bl (by rw [dec_int]; simpa using hn)))) (fun hb => by cases hb) fun _ H1 e => k H1 e
theorem q_hit {kind n : Int} (h : σ[1]? = some (some (.int kind))) (hn : kind = n) (k : ∀ H1, Ex H H1 → tu { D with nx := tz D } σ H1) : tSeq (tIfS (tTest (tOp rEq (tVar 1) (tC (.int n)))) tu tNext) tz D σ H :=
  q_when (b := true) (et_test (ev_is (ev_op (ev_var h) ev_c (rv_eq rfl)) (congrArg V.bl (by rw [dec_int]; simpa using hn)))) (fun _ H1 e => k H1 e) fun hb => by cases hb
theorem at0 {xs : List V} {v : V} (h : xs[0]? = some v) : atI xs 0 = some v := atI_nat (xs := xs) h
theorem rd_asked (T : Txt K mg ad) (vs : List V) (H : Hp) (Q : VK) (E : XK) (h : sp_asked K ad vs H Q E) : t_asked w K ad { nx := fun _ H' => Q .non H', rt := Q } (start N_asked vs) H := by
  obtain ⟨a, aw, ar, s, kind, ws, R, c, rfl, hh, W, hw, hr, hc, hrd, k⟩ := h
  have n9 := W.len
  have go : ∀ {H1 : Hp} {xs : List V} {te : TE} {b : L2.St → Hp → Prop}, Ex H H1 → ansV (Kg75.spec s c).2 = xs → EvL te (start N_asked [.ref a, .int kind, .ref aw, .ref ar]) H1 xs → tRet te { nx := b, rt := Q } (start N_asked [.ref a, .int kind, .ref aw, .ref ar]) H1 := fun e h z => el_ret k e (by rw [h]; exact z)
  cases c with
  | order =>
    obtain rfl : kind = 6 := hc
    refine q_hit rfl rfl fun H1 x1 => go x1 ?_ (el_toldN (el_callF (ea_cons (ev_var rfl) ea_nil) (sl_order_of (hh.ex x1) W)) (by rw [nats_len, Fs.order_len]; omega))
    exact (ans_row (by rw [nats_len]) (whole_nats _).symm).symm
  | seats =>
    obtain rfl : kind = 7 := hc
    refine q_skip rfl (by decide) fun H1 x1 => q_hit rfl rfl fun H2 x2 => ?_
    exact go (x1.trans x2) rfl (el_callF (ea_cons (ev_var rfl) ea_nil) (sl_seats (hh.ex (x1.trans x2)) W))
  | plan =>
    obtain rfl : kind = 8 := hc
    refine q_skip rfl (by decide) fun H1 x1 => q_skip rfl (by decide) fun H2 x2 => q_hit rfl rfl fun H3 x3 => ?_
    exact go ((x1.trans x2).trans x3) rfl (el_callF (ea_cons (ev_var rfl) ea_nil) (sl_plan (hh.ex ((x1.trans x2).trans x3)) W))
  | check l =>
    obtain ⟨rfl, rfl, h12⟩ := hc
    refine q_skip rfl (by decide) fun H1 x1 => q_skip rfl (by decide) fun H2 x2 => q_skip rfl (by decide) fun H3 x3 => q_hit rfl rfl fun H4 x4 => ?_
    have e := ((x1.trans x2).trans x3).trans x4
    exact go e rfl (el_callF (ea_cons (ev_var rfl) (ea_cons (ev_var (i := 3) rfl) ea_nil)) (sl_check (hh.ex e) W (ex_l e hr) h12))
  | flags way =>
    obtain ⟨rfl, rfl⟩ := hc
    refine q_skip rfl (by decide) fun H1 x1 => q_skip rfl (by decide) fun H2 x2 => q_skip rfl (by decide) fun H3 x3 => q_skip rfl (by decide) fun H4 x4 => ?_
    have e := ((x1.trans x2).trans x3).trans x4
    exact go e rfl (el_callF (ea_cons (ev_var rfl) (ea_cons (ev_op (ev_var (i := 2) rfl) ev_c (rv_ixL (ex_l e hw) (at0 rfl))) ea_nil)) (sl_flags (hh.ex e) W))
  | begin_ h => exact hrd.elim
  | guest r d c x w l => exact hrd.elim
  | apart i j => exact hrd.elim
  | host i j => exact hrd.elim
  | rules x0 x1 x2 x3 => exact hrd.elim
theorem sl_asked {aw ar : Addr} {kind : Int} {ws R : List Int} {c : Kg75.Call} (h : HouseAt ad.G ad.H H a s) (W : WF s) (hw : SqL K H aw (intsV ws)) (hr : SqL K H ar (intsV R)) (hc : CallIs kind ws R c) (hrd : Reads c) : SpL (sp_asked K ad) [.ref a, .int kind, .ref aw, .ref ar] H (ansV (Kg75.spec s c).2) :=
  fun H1 e Q q E => ⟨a, aw, ar, s, kind, ws, R, c, rfl, h.ex e, W, ex_l e hw, ex_l e hr, hc, hrd, q⟩
end
end FsR
namespace FsR
open PySem PySem.Spec PyProof.Rows L2 Evl
open Fs (compI WF)
section
variable {K : PySem.W.Frag} {mg : Str → Option Value} {ad : Ad} {w : World} {σ : L2.St} {H H' : Hp} {ta tb te tl tv : TE} {a : Addr} {s : Kg75.State} {p : Parts} {g : TG} {tu tz : TS} {D : Ends} {t : TT}
theorem gF_make (g : Kg75.Guest) (l : Addr) : putF "languages" (.ref l) (putF "companion" (.int (compI g.with_)) (putF "sex" (.int g.sex) (putF "country" (.int g.country) (putF "day" (.int g.since) (putF "rank" (.int g.rank) []))))) = gF g l := by
  have e1 : putF "rank" (.int g.rank) [] = ([("rank", (.int g.rank))] : List (Str × V)) := rfl
  have e2 : putF "day" (.int g.since) ([("rank", (.int g.rank))] : List (Str × V)) = ([("rank", (.int g.rank)), ("day", (.int g.since))] : List (Str × V)) := put_past (by decide +kernel)
  have e3 : putF "country" (.int g.country) ([("rank", (.int g.rank)), ("day", (.int g.since))] : List (Str × V)) = ([("rank", (.int g.rank)), ("day", (.int g.since)), ("country", (.int g.country))] : List (Str × V)) := (put_past (by decide +kernel)).trans (congrArg _ (put_past (by decide +kernel)))
  have e4 : putF "sex" (.int g.sex) ([("rank", (.int g.rank)), ("day", (.int g.since)), ("country", (.int g.country))] : List (Str × V)) = ([("rank", (.int g.rank)), ("day", (.int g.since)), ("country", (.int g.country)), ("sex", (.int g.sex))] : List (Str × V)) := (put_past (by decide +kernel)).trans (congrArg _ ((put_past (by decide +kernel)).trans (congrArg _ (put_past (by decide +kernel)))))
  have e5 : putF "companion" (.int (compI g.with_)) ([("rank", (.int g.rank)), ("day", (.int g.since)), ("country", (.int g.country)), ("sex", (.int g.sex))] : List (Str × V)) = ([("rank", (.int g.rank)), ("day", (.int g.since)), ("country", (.int g.country)), ("sex", (.int g.sex)), ("companion", (.int (compI g.with_)))] : List (Str × V)) := (put_past (by decide +kernel)).trans (congrArg _ ((put_past (by decide +kernel)).trans (congrArg _ ((put_past (by decide +kernel)).trans (congrArg _ (put_past (by decide +kernel)))))))
  have e6 : putF "languages" (.ref l) ([("rank", (.int g.rank)), ("day", (.int g.since)), ("country", (.int g.country)), ("sex", (.int g.sex)), ("companion", (.int (compI g.with_)))] : List (Str × V)) = ([("rank", (.int g.rank)), ("day", (.int g.since)), ("country", (.int g.country)), ("sex", (.int g.sex)), ("companion", (.int (compI g.with_))), ("languages", (.ref l))] : List (Str × V)) := (put_past (by decide +kernel)).trans (congrArg _ ((put_past (by decide +kernel)).trans (congrArg _ ((put_past (by decide +kernel)).trans (congrArg _ ((put_past (by decide +kernel)).trans (congrArg _ (put_past (by decide +kernel)))))))))
  rw [e1, e2, e3, e4, e5, e6]; rfl
theorem hF_make (h : Nat) (lg la lh lr : Addr) (gs : List Addr) : putF "rules" (.ref lr) (putF "hosts" (.ref lh) (putF "apart" (.ref la) (putF "guests" (.ref lg) (putF "country" (.int h) [])))) = hF h ⟨lg, la, lh, lr, gs⟩ := by
  have e1 : putF "country" (.int h) [] = ([("country", (.int h))] : List (Str × V)) := rfl
  have e2 : putF "guests" (.ref lg) ([("country", (.int h))] : List (Str × V)) = ([("country", (.int h)), ("guests", (.ref lg))] : List (Str × V)) := put_past (by decide +kernel)
  have e3 : putF "apart" (.ref la) ([("country", (.int h)), ("guests", (.ref lg))] : List (Str × V)) = ([("country", (.int h)), ("guests", (.ref lg)), ("apart", (.ref la))] : List (Str × V)) := (put_past (by decide +kernel)).trans (congrArg _ (put_past (by decide +kernel)))
  have e4 : putF "hosts" (.ref lh) ([("country", (.int h)), ("guests", (.ref lg)), ("apart", (.ref la))] : List (Str × V)) = ([("country", (.int h)), ("guests", (.ref lg)), ("apart", (.ref la)), ("hosts", (.ref lh))] : List (Str × V)) := (put_past (by decide +kernel)).trans (congrArg _ ((put_past (by decide +kernel)).trans (congrArg _ (put_past (by decide +kernel)))))
  have e5 : putF "rules" (.ref lr) ([("country", (.int h)), ("guests", (.ref lg)), ("apart", (.ref la)), ("hosts", (.ref lh))] : List (Str × V)) = ([("country", (.int h)), ("guests", (.ref lg)), ("apart", (.ref la)), ("hosts", (.ref lh)), ("rules", (.ref lr))] : List (Str × V)) := (put_past (by decide +kernel)).trans (congrArg _ ((put_past (by decide +kernel)).trans (congrArg _ ((put_past (by decide +kernel)).trans (congrArg _ (put_past (by decide +kernel)))))))
  rw [e1, e2, e3, e4, e5]; rfl
theorem at1 {xs : List V} {v : V} (h : xs[1]? = some v) : atI xs 1 = some v := atI_nat (xs := xs) h
theorem at2 {xs : List V} {v : V} (h : xs[2]? = some v) : atI xs 2 = some v := atI_nat (xs := xs) h
theorem at3 {xs : List V} {v : V} (h : xs[3]? = some v) : atI xs 3 = some v := atI_nat (xs := xs) h
theorem at4 {xs : List V} {v : V} (h : xs[4]? = some v) : atI xs 4 = some v := atI_nat (xs := xs) h
theorem rd_Guest (T : Txt K mg ad) (vs : List V) (H : Hp) (Q : VK) (E : XK) (h : sp_Guest K ad vs H Q E) : t_Guest w K ad { nx := fun _ H' => Q .non H', rt := Q } (start N_Guest vs) H := by
  obtain ⟨x, dx, aw, l, g, rfl, ho, hw, kk⟩ := h
  have step : ∀ {Hc H1 : Hp} {C d0 : Addr} {fs : List (Str × V)} , ExF [x] H Hc → Ex Hc H1 → ExF [x] H (upd H1 x (.ins C d0 fs)) := fun {Hc H1 C d0 fs} e x => (e.trans (ExF.of x)).upd (.inl (List.mem_singleton.mpr rfl))
  have e0 : ExF [x] H H := ExF.refl
  refine q_fld (ev_op (ev_var (i := 1) rfl) ev_c (rv_ixL (ex_l e0 hw) (at0 rfl))) (ev_var (i := 0) rfl) ho T.cG T.gRank (Nat.succ_pos _) fun H1 x1 => ?_
  have e1 := step (C := ad.G) (d0 := dx) (fs := (putF "rank" (.int g.rank) [])) e0 x1
  refine q_fld (ev_op (ev_var (i := 1) rfl) ev_c (rv_ixL (ex_l e1 hw) (at1 rfl))) (ev_var (i := 0) rfl) upd_same T.cG T.gDay (fl_put (n := 999) (Nat.succ_pos _)) fun H2 x2 => ?_
  have e2 := step (C := ad.G) (d0 := dx) (fs := (putF "day" (.int g.since) (putF "rank" (.int g.rank) []))) e1 x2
  refine q_fld (ev_op (ev_var (i := 1) rfl) ev_c (rv_ixL (ex_l e2 hw) (at2 rfl))) (ev_var (i := 0) rfl) upd_same T.cG T.gCountry (fl_put (n := 999) (fl_put (n := 998) (Nat.succ_pos _))) fun H3 x3 => ?_
  have e3 := step (C := ad.G) (d0 := dx) (fs := (putF "country" (.int g.country) (putF "day" (.int g.since) (putF "rank" (.int g.rank) [])))) e2 x3
  refine q_fld (ev_op (ev_var (i := 1) rfl) ev_c (rv_ixL (ex_l e3 hw) (at3 rfl))) (ev_var (i := 0) rfl) upd_same T.cG T.gSex (fl_put (n := 999) (fl_put (n := 998) (fl_put (n := 997) (Nat.succ_pos _)))) fun H4 x4 => ?_
  have e4 := step (C := ad.G) (d0 := dx) (fs := (putF "sex" (.int g.sex) (putF "country" (.int g.country) (putF "day" (.int g.since) (putF "rank" (.int g.rank) []))))) e3 x4
  refine q_fld (ev_op (ev_var (i := 1) rfl) ev_c (rv_ixL (ex_l e4 hw) (at4 rfl))) (ev_var (i := 0) rfl) upd_same T.cG T.gCompanion (fl_put (n := 999) (fl_put (n := 998) (fl_put (n := 997) (fl_put (n := 996) (Nat.succ_pos _))))) fun H5 x5 => ?_
  have e5 := step (C := ad.G) (d0 := dx) (fs := (putF "companion" (.int (compI g.with_)) (putF "sex" (.int g.sex) (putF "country" (.int g.country) (putF "day" (.int g.since) (putF "rank" (.int g.rank) [])))))) e4 x5
  refine s_fld (ev_var (i := 2) rfl) (ev_var (i := 0) rfl) upd_same T.cG T.gLanguages (fl_put (n := 999) (fl_put (n := 998) (fl_put (n := 997) (fl_put (n := 996) (fl_put (n := 995) (Nat.succ_pos _)))))) fun H6 x6 => ?_
  show Q .non _
  rw [gF_make g l]
  exact kk _ upd_same (step e5 x6)
theorem fresh_x {x b : Addr} {o : HO} (e : ExF [x] H H') (hx : H' x = some o) (hb : H' b = none) : H b = none ∧ b ≠ x := by
  have n : b ≠ x := fun q => by rw [q, hx] at hb; cases hb
  refine ⟨?_, n⟩
  cases q : H b with
  | none => rfl
  | some u => rw [e _ _ (off_of q (by simpa using n))] at hb; cases hb
theorem rd_House (T : Txt K mg ad) (vs : List V) (H : Hp) (Q : VK) (E : XK) (h : sp_House K ad vs H Q E) : t_House w K ad { nx := fun _ H' => Q .non H', rt := Q } (start N_House vs) H := by
  obtain ⟨x, dx, hm, rfl, ho, kk⟩ := h
  refine q_fld (ev_var (i := 1) rfl) (ev_var (i := 0) rfl) ho T.cH T.hCountry (Nat.succ_pos _) fun H1 x1 => ?_
  have step : ∀ {Hc H1 : Hp} {C d0 : Addr} {fs : List (Str × V)} , ExF [x] H Hc → Ex Hc H1 → ExF [x] H (upd H1 x (.ins C d0 fs)) := fun {Hc H1 C d0 fs} e x => (e.trans (ExF.of x)).upd (.inl (List.mem_singleton.mpr rfl))
  have e1 := step (C := ad.H) (d0 := dx) (fs := putF "country" (.int hm) []) ExF.refl x1
  obtain ⟨K1, hK1⟩ : ∃ z, upd H1 x (.ins ad.H dx (putF "country" (.int hm) [])) = z := ⟨_, rfl⟩
  rw [hK1] at e1 ⊢
  have o1 : K1 x = some (.ins ad.H dx (putF "country" (.int hm) [])) := by rw [← hK1]; exact upd_same
  refine q_fldL el_nil (ev_var (i := 0) rfl) o1 T.cH T.hGuests (fl_put (n := 999) (Nat.succ_pos _)) fun lg H2 nlg x2 hlg => ?_
  have e2 := step (C := ad.H) (d0 := dx) (fs := (putF "guests" (.ref lg) (putF "country" (.int hm) []))) e1 x2
  obtain ⟨K2, hK2⟩ : ∃ z, upd H2 x (.ins ad.H dx (putF "guests" (.ref lg) (putF "country" (.int hm) []))) = z := ⟨_, rfl⟩
  rw [hK2] at e2 ⊢
  have o2 : K2 x = some (.ins ad.H dx (putF "guests" (.ref lg) (putF "country" (.int hm) []))) := by rw [← hK2]; exact upd_same
  have qlg2 : off [x] K2 lg = some (.lst []) := by
    refine off_lst (dx := dx) (C := ad.H) (fs := (putF "guests" (.ref lg) (putF "country" (.int hm) []))) ?_ o2
    rw [← hK2, upd_ne (fun z => by rw [z, o1] at nlg; cases nlg)]
    exact hlg
  refine q_fldL el_nil (ev_var (i := 0) rfl) o2 T.cH T.hApart (fl_put (n := 999) (fl_put (n := 998) (Nat.succ_pos _))) fun la H3 nla x3 hla => ?_
  have e3 := step (C := ad.H) (d0 := dx) (fs := (putF "apart" (.ref la) (putF "guests" (.ref lg) (putF "country" (.int hm) [])))) e2 x3
  obtain ⟨K3, hK3⟩ : ∃ z, upd H3 x (.ins ad.H dx (putF "apart" (.ref la) (putF "guests" (.ref lg) (putF "country" (.int hm) [])))) = z := ⟨_, rfl⟩
  rw [hK3] at e3 ⊢
  have o3 : K3 x = some (.ins ad.H dx (putF "apart" (.ref la) (putF "guests" (.ref lg) (putF "country" (.int hm) [])))) := by rw [← hK3]; exact upd_same
  have qlg3 : off [x] K3 lg = some (.lst []) := by
    refine off_lst (dx := dx) (C := ad.H) (fs := (putF "apart" (.ref la) (putF "guests" (.ref lg) (putF "country" (.int hm) [])))) ?_ o3
    rw [← hK3, upd_ne (fun z => by rw [z, o1] at nlg; cases nlg)]
    exact x3 _ _ (off_get qlg2).1
  have qla3 : off [x] K3 la = some (.lst []) := by
    refine off_lst (dx := dx) (C := ad.H) (fs := (putF "apart" (.ref la) (putF "guests" (.ref lg) (putF "country" (.int hm) [])))) ?_ o3
    rw [← hK3, upd_ne (fun z => by rw [z, o2] at nla; cases nla)]
    exact hla
  refine q_fldL el_nil (ev_var (i := 0) rfl) o3 T.cH T.hHosts (fl_put (n := 999) (fl_put (n := 998) (fl_put (n := 997) (Nat.succ_pos _)))) fun lh H4 nlh x4 hlh => ?_
  have e4 := step (C := ad.H) (d0 := dx) (fs := (putF "hosts" (.ref lh) (putF "apart" (.ref la) (putF "guests" (.ref lg) (putF "country" (.int hm) []))))) e3 x4
  obtain ⟨K4, hK4⟩ : ∃ z, upd H4 x (.ins ad.H dx (putF "hosts" (.ref lh) (putF "apart" (.ref la) (putF "guests" (.ref lg) (putF "country" (.int hm) []))))) = z := ⟨_, rfl⟩
  rw [hK4] at e4 ⊢
  have o4 : K4 x = some (.ins ad.H dx (putF "hosts" (.ref lh) (putF "apart" (.ref la) (putF "guests" (.ref lg) (putF "country" (.int hm) []))))) := by rw [← hK4]; exact upd_same
  have qlg4 : off [x] K4 lg = some (.lst []) := by
    refine off_lst (dx := dx) (C := ad.H) (fs := (putF "hosts" (.ref lh) (putF "apart" (.ref la) (putF "guests" (.ref lg) (putF "country" (.int hm) []))))) ?_ o4
    rw [← hK4, upd_ne (fun z => by rw [z, o1] at nlg; cases nlg)]
    exact x4 _ _ (off_get qlg3).1
  have qla4 : off [x] K4 la = some (.lst []) := by
    refine off_lst (dx := dx) (C := ad.H) (fs := (putF "hosts" (.ref lh) (putF "apart" (.ref la) (putF "guests" (.ref lg) (putF "country" (.int hm) []))))) ?_ o4
    rw [← hK4, upd_ne (fun z => by rw [z, o2] at nla; cases nla)]
    exact x4 _ _ (off_get qla3).1
  have qlh4 : off [x] K4 lh = some (.lst []) := by
    refine off_lst (dx := dx) (C := ad.H) (fs := (putF "hosts" (.ref lh) (putF "apart" (.ref la) (putF "guests" (.ref lg) (putF "country" (.int hm) []))))) ?_ o4
    rw [← hK4, upd_ne (fun z => by rw [z, o3] at nlh; cases nlh)]
    exact hlh
  refine s_fldL (el_lst (ea_cons ev_c (ea_cons ev_c (ea_cons ev_c (ea_cons ev_c ea_nil)))) (by show 4 ≤ 100000; decide)) (ev_var (i := 0) rfl) o4 T.cH T.hRules (fl_put (n := 999) (fl_put (n := 998) (fl_put (n := 997) (fl_put (n := 996) (Nat.succ_pos _))))) fun lr H5 nlr x5 hlr => ?_
  show Q .non _
  rw [hF_make hm lg la lh lr []]
  obtain ⟨f1, g1⟩ := fresh_x e1 o1 nlg
  obtain ⟨f2, g2⟩ := fresh_x e2 o2 nla
  obtain ⟨f3, g3⟩ := fresh_x e3 o3 nlh
  obtain ⟨f4, g4⟩ := fresh_x e4 o4 nlr
  have d1 : lg ≠ la := fun z => by rw [← z, (off_get qlg2).1] at nla; cases nla
  have d2 : lg ≠ lh := fun z => by rw [← z, (off_get qlg3).1] at nlh; cases nlh
  have d3 : la ≠ lh := fun z => by rw [← z, (off_get qla3).1] at nlh; cases nlh
  have d4 : lr ≠ lg := fun z => by rw [z, (off_get qlg4).1] at nlr; cases nlr
  have d5 : lr ≠ la := fun z => by rw [z, (off_get qla4).1] at nlr; cases nlr
  have d6 : lr ≠ lh := fun z => by rw [z, (off_get qlh4).1] at nlr; cases nlr
  have keep : ∀ {b : Addr} {o : HO}, b ≠ x → K4 b = some o → (upd H5 x (.ins ad.H dx (hF hm ⟨lg, la, lh, lr, []⟩))) b = some o := fun n h => by rw [upd_ne n]; exact x5 _ _ h
  refine kk _ ⟨lg, la, lh, lr, []⟩ (fun F hF => ?_) (step e4 x5) fun b hb => ?_
  · have fF : ∀ {b : Addr}, H b = none → b ∉ F := fun h q => (hF _ q).2 h
    refine ⟨⟨dx, off_of upd_same fun q => (hF x q).1 rfl⟩, off_of (keep g1 (off_get qlg4).1) (fF f1), rfl, fun i ga h => by simp at h, ⟨[], off_of (keep g2 (off_get qla4).1) (fF f2), PairsAt.nil⟩, ⟨[], off_of (keep g3 (off_get qlh4).1) (fF f3), PairsAt.nil⟩, off_of (off_of ?_ (fF f4)) ?_, ?_⟩
    · rw [upd_ne g4]; exact hlr
    · show ¬ lr ∈ [x, lg, la, lh]
      simp [g4, d4, d5, d6]
    · show [x, lg, la, lh].Nodup
      simp [d1, d2, d3, Ne.symm g1, Ne.symm g2, Ne.symm g3]
  · have hb : b ∈ [x, lg, la, lh] := hb
    simp only [List.mem_cons, List.not_mem_nil, or_false] at hb
    rcases hb with rfl | rfl | rfl | rfl
    · exact .inl rfl
    · exact .inr f1
    · exact .inr f2
    · exact .inr f3
theorem HouseP.updI {d dx C : Addr} {fs : List (Str × V)} {o : HO} (h : HouseP ad.G ad.H H a s p) (hd : H d = some (.ins C dx fs)) (hn : d ∉ p.mut a) : HouseP ad.G ad.H (upd H d o) a s p := by
  have m : ∀ {b u}, b ∈ p.mut a → H b = some u → (upd H d o) b = some u := fun {b u} hb h => by rw [upd_ne fun z => hn (by rw [← z]; exact hb)]; exact h
  have lst : ∀ {b : Addr} {xs : List V}, off (p.mut a) H b = some (.lst xs) → off (p.mut a) (upd H d o) b = some (.lst xs) := fun {b xs} q => by
    obtain ⟨q1, q2⟩ := off_get q
    exact off_of (by rw [upd_ne fun z => by rw [z, hd] at q1; cases q1]; exact q1) q2
  have prs : ∀ {ts : List Addr} {zs : List (Int × Int)}, PairsAt (off (p.mut a) H) ts zs → PairsAt (off (p.mut a) (upd H d o)) ts zs := fun {ts zs} q => ⟨q.1, fun i t z h1 h2 => by
    obtain ⟨q1, q2⟩ := off_get (q.2 i t z h1 h2)
    exact off_of (by rw [upd_ne fun z => by rw [z, hd] at q1; cases q1]; exact q1) q2⟩
  have ma : a ∈ p.mut a := List.mem_cons_self
  have mg : p.lg ∈ p.mut a := List.mem_cons_of_mem _ List.mem_cons_self
  have mla : p.la ∈ p.mut a := List.mem_cons_of_mem _ (List.mem_cons_of_mem _ List.mem_cons_self)
  have mlh : p.lh ∈ p.mut a := List.mem_cons_of_mem _ (List.mem_cons_of_mem _ (List.mem_cons_of_mem _ List.mem_cons_self))
  refine ⟨?_, m mg h.og, h.gl, fun i ga hi => ?_, ?_, ?_, lst h.or, h.nd⟩
  · obtain ⟨e, q⟩ := h.ob; exact ⟨e, m ma q⟩
  · obtain ⟨e, l, q1, q2⟩ := h.gat i ga hi
    exact ⟨e, l, m (List.mem_cons_of_mem _ (List.mem_cons_of_mem _ (List.mem_cons_of_mem _ (List.mem_cons_of_mem _ (List.mem_of_getElem? hi))))) q1, lst q2⟩
  · obtain ⟨ts, q1, q2⟩ := h.oa; exact ⟨ts, m mla q1, prs q2⟩
  · obtain ⟨ts, q1, q2⟩ := h.oh; exact ⟨ts, m mlh q1, prs q2⟩
theorem make_ex {x dx C : Addr} (hx : H x = none) (hdx : H dx = none) : Ex H (off [x] (upd (upd H dx (.own x)) x (.ins C dx []))) := fun b o q => by
  have b1 : b ≠ x := fun z => by rw [z, hx] at q; cases q
  have b2 : b ≠ dx := fun z => by rw [z, hdx] at q; cases q
  exact off_of (by rw [upd_ne b1, upd_ne b2]; exact q) (by simpa using b1)
theorem off_upd_ne {F : List Addr} {b : Addr} {o : HO} (h : b ∉ F) : off F (upd H b o) = upd (off F H) b o := by
  funext c
  by_cases e : c = b
  · subst e
    rw [upd_same]
    exact off_of upd_same h
  · rw [upd_ne e]
    unfold off
    rw [upd_ne e]
/-- a new house -/
theorem eh_house {n : Nat} (h : Ev te σ H (.int (n : Int))) : ∀ Q : VK, (∀ a H2 p, Ex H H2 → (∀ F : List Addr, (∀ b ∈ F, H b ≠ none) → HouseP ad.G ad.H (off F H2) a (freshS n) p) → (∀ b ∈ p.mut a, H b = none) → Q (.ref a) H2) → tMakeF ad.H (sp_House K ad) (tCons te tNil) σ H Q := fun Q k =>
  h H (Ex.refl H) _ fun H1 e1 => fun x dx hx hdx hne => ⟨x, dx, n, rfl, upd_same, fun H' p hp eF hb => ⟨rfl, by
    have m := make_ex (C := ad.H) hx hdx
    have live : ∀ {b}, H b ≠ none → (upd (upd H1 dx (.own x)) x (.ins ad.H dx [])) b ≠ none := fun {b} h => by
      obtain ⟨u, hu⟩ := Option.ne_none_iff_exists'.mp h
      rw [(off_get (m _ _ (e1 _ _ hu))).1]; exact Option.some_ne_none _
    refine k x H' p (e1.trans (m.trans eF)) (fun F hF => hp F fun b hb => ⟨fun z => hF b hb (by rw [z]; exact fresh_back e1 hx), live (hF b hb)⟩) fun b q => ?_
    rcases hb b q with rfl | q
    · exact fresh_back e1 hx
    · refine fresh_back e1 ?_
      cases z : H1 b with
      | none => rfl
      | some u => rw [(off_get (m _ _ z)).1] at q; cases q⟩⟩
theorem rd_Desk (T : Txt K mg ad) (vs : List V) (H : Hp) (Q : VK) (E : XK) (h : sp_Desk K ad vs H Q E) : t_Desk w K ad { nx := fun _ H' => Q .non H', rt := Q } (start N_Desk vs) H := by
  obtain ⟨x, dx, rfl, ho, kk⟩ := h
  refine s_fldH (R := fun v H2 => ∃ a p, v = .ref a ∧ HouseP ad.G ad.H H2 a (freshS 0) p ∧ ∀ b ∈ p.mut a, H b = none) (fun Q q => eh_house (n := 0) ev_c Q fun a H2 p e hp hb => q _ H2 e ⟨a, p, rfl, (hp [] (fun _ h => by cases h)).ex ex_off, hb⟩) (ev_var (i := 0) rfl) ho T.cD T.dHouse (Nat.succ_pos _) fun v H1 H2 x1 hR x2 => ?_
  obtain ⟨a, p, rfl, hp, hb⟩ := hR
  show Q .non _
  have xn : x ∉ p.mut a := fun q => by have := hb x q; rw [ho] at this; cases this
  exact kk _ a p ⟨⟨dx, upd_same⟩, (hp.ex x2).updI (x2 _ _ (x1 _ _ ho)) xn, xn⟩ ((ExF.of (x1.trans x2)).upd (.inl (List.mem_singleton.mpr rfl))) hb
theorem DeskP.ex {d : Addr} (h : DeskP ad H d a s p) (e : Ex H H') : DeskP ad H' d a s p := let ⟨⟨dx, q1⟩, q2, q3⟩ := h; ⟨⟨dx, e _ _ q1⟩, q2.ex e, q3⟩
theorem RetS.same {d : Addr} {x : Kg75.Ans} {Q : VK} (k : RetS ad H d a s p (s, x) Q) (h : DeskP ad H d a s p) (e : Ex H H') (hn : EvL te σ H' (ansV x)) : te σ H' Q := hn H' (Ex.refl H') _ fun r H2 hr e2 h2 => k H2 r a p (h.ex (e.trans e2)) (ExF.of (e.trans e2)) (fun b hb => .inl hb) (fresh_back e hr) h2 fun F _ q => q.ex (off_ex (e.trans e2))
theorem rd_begin (T : Txt K mg ad) (vs : List V) (H : Hp) (Q : VK) (E : XK) (h : sp_begin K ad vs H Q E) : t_begin w K ad { nx := fun _ H' => Q .non H', rt := Q } (start N_begin vs) H := by
  obtain ⟨d, a, s, p, hm, rfl, hd, k⟩ := h
  have e0 : Kg75.spec s (.begin_ hm) = if Kg75.within hm 0 30 = false then (s, Kg75.num (-1)) else (freshS hm.toNat, Kg75.num 0) := rfl
  rw [e0] at k
  refine q_when (et_not (et_val (ev_callF (ea_cons (ev_var (i := 1) rfl) (ea_cons ev_c (ea_cons ev_c ea_nil))) sv_within))) (fun hb H1 x1 => ?_) fun hb H1 x1 => ?_
  · have hb : Kg75.within hm 0 30 = false := by simpa using hb
    rw [if_pos hb] at k
    exact k.same hd x1 el_num
  · have hb : Kg75.within hm 0 30 = true := by simpa using hb
    rw [if_neg (by rw [hb]; decide)] at k
    unfold Kg75.within at hb
    simp only [Bool.and_eq_true, decide_eq_true_eq] at hb
    obtain ⟨n, rfl⟩ : ∃ n : Nat, hm = n := ⟨hm.toNat, by omega⟩
    obtain ⟨⟨dx, hd1⟩, hd2, hd3⟩ := hd
    have hd4 := x1 _ _ hd1
    refine q_fldH (R := fun v H2 => ∃ a p, v = .ref a ∧ (∀ F : List Addr, (∀ b ∈ F, H1 b ≠ none) → HouseP ad.G ad.H (off F H2) a (freshS n) p) ∧ ∀ b ∈ p.mut a, H1 b = none) (fun Q q => eh_house (ev_var (i := 1) rfl) Q fun a H2 p e hp hb => q _ H2 e ⟨a, p, rfl, hp, hb⟩) (ev_var (i := 0) rfl) hd4 T.cD T.dHouse (by show 1 < 1000; decide) fun v H2 H3 x2 hR x3 => ?_
    obtain ⟨a', p', rfl, hp', hb'⟩ := hR
    have y3 := x2.trans x3
    have dn : d ∉ p'.mut a' := fun q => by have := hb' d q; rw [hd4] at this; cases this
    rw [put_here]
    refine s_retL el_num fun r H5 hr x5 h5 => ?_
    have z0 : ExF (d :: p.mut a) H (upd H3 d (.ins ad.D dx [("house", .ref a')])) := (ExF.of (x1.trans y3)).upd (.inl List.mem_cons_self)
    have hp2 : HouseP ad.G ad.H H2 a' (freshS n) p' := (hp' [] (fun _ h => by cases h)).ex ex_off
    refine k H5 r a' p' ?_ (z0.trans (ExF.of x5)) (fun b q => .inr (fresh_back x1 (hb' b q))) ?_ h5 fun F hF q => ?_
    · exact DeskP.ex ⟨⟨dx, upd_same⟩, (hp2.ex x3).updI (y3 _ _ hd4) dn, dn⟩ x5
    · have rd : r ≠ d := fun z => by rw [z, upd_same] at hr; cases hr
      rw [upd_ne rd] at hr
      exact fresh_back (x1.trans y3) hr
    · obtain ⟨⟨dy, q1⟩, _, _⟩ := q
      have dF := (off_get q1).2
      have hF1 : ∀ b ∈ F, H1 b ≠ none := fun b hb h => hF b hb (fresh_back x1 h)
      refine DeskP.ex (H := off F (upd H3 d (.ins ad.D dx [("house", .ref a')]))) ?_ (off_ex x5)
      rw [off_upd_ne dF]
      exact ⟨⟨dx, upd_same⟩, ((hp' F hF1).ex (off_ex x3)).updI (off_of (y3 _ _ hd4) dF) dn, dn⟩
end
end FsR
namespace FsR
open PySem PySem.Spec PyProof.Rows L2 Evl
open Fs (compI WF)
section
variable {K : PySem.W.Frag} {mg : Str → Option Value} {ad : Ad} {w : World} {σ : L2.St} {H H' : Hp} {ta tb te tl tv : TE} {a : Addr} {s : Kg75.State} {p : Parts} {g : TG} {tu tz : TS} {D : Ends} {t : TT}
theorem neg_t {b : Bool} (h : (!b) = true) : b = false := by cases b with
  | false => rfl
  | true => cases h
theorem neg_f {b : Bool} (h : (!b) = false) : b = true := by cases b with
  | false => cases h
  | true => rfl
theorem fresh_mut (hp : HouseP ad.G ad.H H' a s p) {s0 : Kg75.State} {p0 : Parts} {r : Addr} (hm : ∀ b ∈ p0.mut a, H' b ≠ none) (e : ExF (p0.mut a) H H') (hr : H' r = none) : H r = none := by
  cases z : H r with
  | none => rfl
  | some u =>
    by_cases m : r ∈ p0.mut a
    · exact absurd hr (hm r m)
    · rw [e _ _ (off_of z m)] at hr; cases hr
theorem mut_a : a ∈ p.mut a := List.mem_cons_self
theorem mut_g : p.lg ∈ p.mut a := List.mem_cons_of_mem _ List.mem_cons_self
theorem mut_la : p.la ∈ p.mut a := List.mem_cons_of_mem _ (List.mem_cons_of_mem _ List.mem_cons_self)
theorem mut_lh : p.lh ∈ p.mut a := List.mem_cons_of_mem _ (List.mem_cons_of_mem _ (List.mem_cons_of_mem _ List.mem_cons_self))
theorem mut_gs {i : Nat} {ga : Addr} (h : p.gs[i]? = some ga) : ga ∈ p.mut a := List.mem_cons_of_mem _ (List.mem_cons_of_mem _ (List.mem_cons_of_mem _ (List.mem_cons_of_mem _ (List.mem_of_getElem? h))))
theorem HouseP.ne (h : HouseP ad.G ad.H H a s p) : a ≠ p.lg ∧ a ≠ p.la ∧ a ≠ p.lh ∧ p.lg ≠ p.la ∧ p.lg ≠ p.lh ∧ p.la ≠ p.lh ∧ ∀ ga ∈ p.gs, ga ≠ a ∧ ga ≠ p.lg ∧ ga ≠ p.la ∧ ga ≠ p.lh := by
  have h := h.nd
  unfold Parts.mut at h
  simp only [List.nodup_cons, List.mem_cons, not_or] at h
  obtain ⟨⟨h1, h2, h3, h4⟩, ⟨h5, h6, h7⟩, ⟨h8, h9⟩, h10, h11⟩ := h
  exact ⟨h1, h2, h3, h5, h6, h8, fun ga q => ⟨fun z => h4 (by rw [← z]; exact q), fun z => h7 (by rw [← z]; exact q), fun z => h9 (by rw [← z]; exact q), fun z => h10 (by rw [← z]; exact q)⟩⟩
theorem HouseP.la_upd {ts' : List Addr} {ap : List (Nat × Nat)} (h : HouseP ad.G ad.H H a s p) (q : PairsAt (off (p.mut a) H) ts' (apartI { s with apart := ap })) : HouseP ad.G ad.H (upd H p.la (.lst (ts'.map V.ref))) a { s with apart := ap } p := by
  obtain ⟨n1, n2, n3, n4, n5, n6, n7⟩ := h.ne
  have o : off (p.mut a) (upd H p.la (.lst (ts'.map V.ref))) = off (p.mut a) H := off_upd mut_la
  refine ⟨?_, ?_, h.gl, fun i ga hi => ?_, ?_, ?_, ?_, h.nd⟩
  · obtain ⟨e, q⟩ := h.ob; exact ⟨e, by rw [upd_ne n2]; exact q⟩
  · rw [upd_ne n4]; exact h.og
  · obtain ⟨e, l, q1, q2⟩ := h.gat i ga hi
    exact ⟨e, l, by rw [upd_ne (n7 ga (List.mem_of_getElem? hi)).2.2.1]; exact q1, by rw [o]; exact q2⟩
  · exact ⟨ts', upd_same, by rw [o]; exact q⟩
  · obtain ⟨ts, q1, q2⟩ := h.oh; exact ⟨ts, by rw [upd_ne (Ne.symm n6)]; exact q1, by rw [o]; exact q2⟩
  · rw [o]; exact h.or
theorem HouseP.lh_upd {ts' : List Addr} {ap : List (Nat × Nat)} (h : HouseP ad.G ad.H H a s p) (q : PairsAt (off (p.mut a) H) ts' (hostsI { s with hosts := ap })) : HouseP ad.G ad.H (upd H p.lh (.lst (ts'.map V.ref))) a { s with hosts := ap } p := by
  obtain ⟨n1, n2, n3, n4, n5, n6, n7⟩ := h.ne
  have o : off (p.mut a) (upd H p.lh (.lst (ts'.map V.ref))) = off (p.mut a) H := off_upd mut_lh
  refine ⟨?_, ?_, h.gl, fun i ga hi => ?_, ?_, ?_, ?_, h.nd⟩
  · obtain ⟨e, q⟩ := h.ob; exact ⟨e, by rw [upd_ne n3]; exact q⟩
  · rw [upd_ne n5]; exact h.og
  · obtain ⟨e, l, q1, q2⟩ := h.gat i ga hi
    exact ⟨e, l, by rw [upd_ne (n7 ga (List.mem_of_getElem? hi)).2.2.2]; exact q1, by rw [o]; exact q2⟩
  · obtain ⟨ts, q1, q2⟩ := h.oa; exact ⟨ts, by rw [upd_ne n6]; exact q1, by rw [o]; exact q2⟩
  · exact ⟨ts', upd_same, by rw [o]; exact q⟩
  · rw [o]; exact h.or
theorem HouseP.rules_upd {dx r : Addr} {ru : Kg75.Rules} (h : HouseP ad.G ad.H H a s p) (hr : off (p.mut a) H r = some (.lst (rulesV ru))) : HouseP ad.G ad.H (upd H a (.ins ad.H dx (hF s.home { p with lr := r }))) a { s with rules := ru } { p with lr := r } := by
  obtain ⟨n1, n2, n3, n4, n5, n6, n7⟩ := h.ne
  have o : off (p.mut a) (upd H a (.ins ad.H dx (hF s.home { p with lr := r }))) = off (p.mut a) H := off_upd mut_a
  refine ⟨⟨dx, upd_same⟩, ?_, h.gl, fun i ga hi => ?_, ?_, ?_, ?_, h.nd⟩
  · show _ = some _
    rw [upd_ne (Ne.symm n1)]; exact h.og
  · obtain ⟨e, l, q1, q2⟩ := h.gat i ga hi
    exact ⟨e, l, by rw [upd_ne (n7 ga (List.mem_of_getElem? hi)).1]; exact q1, by show off (p.mut a) _ _ = _; rw [o]; exact q2⟩
  · obtain ⟨ts, q1, q2⟩ := h.oa; exact ⟨ts, by rw [upd_ne (Ne.symm n2)]; exact q1, by show PairsAt (off (p.mut a) _) _ _; rw [o]; exact q2⟩
  · obtain ⟨ts, q1, q2⟩ := h.oh; exact ⟨ts, by rw [upd_ne (Ne.symm n3)]; exact q1, by show PairsAt (off (p.mut a) _) _ _; rw [o]; exact q2⟩
  · show off (p.mut a) _ _ = _
    rw [o]; exact hr
theorem RetH.same {x : Kg75.Ans} {Q : VK} (k : RetH ad H a s p (s, x) Q) (h : HouseP ad.G ad.H H a s p) (e : Ex H H') (hn : EvL te σ H' (ansV x)) : te σ H' Q := hn H' (Ex.refl H') _ fun r H2 hr e2 h2 => k H2 r p (h.ex (e.trans e2)) (ExF.of (e.trans e2)) (fun b hb => .inl hb) (fresh_back e hr) h2 fun F _ q => q.ex (off_ex (e.trans e2))
/-- a row's length, in a row -/
theorem el_len1 {l : Addr} {xs : List V} {n : Nat} (ha : Ev ta σ H (.ref l)) (h : SqL K H l xs) (hn : xs.length = n) : EvL (tLst (tCons (tCB (rLenS K) (tCons ta tNil)) tNil)) σ H (ansV (Kg75.num (n : Int))) := by
  rw [← hn]; exact el_lst (ea_cons (ev_len ha h) ea_nil) (by show 1 ≤ 100000; decide)
theorem isg_nat {z : Int} (h : Kg75.isGuest s z = true) : 0 ≤ z ∧ z < (s.guests.length : Int) := by
  unfold Kg75.isGuest at h
  simpa using h
theorem fresh_off {q : Addr} {F : List Addr} {o : HO} (h : H' q = some o) (hq : H q = none) (hF : ∀ b ∈ F, H b ≠ none) : off F H' q = some o := off_of h fun z => hF q z hq
theorem HouseP.live (h : HouseP ad.G ad.H H a s p) : ∀ b ∈ p.mut a, H b ≠ none := fun b hb => by
  unfold Parts.mut at hb
  simp only [List.mem_cons] at hb
  rcases hb with rfl | rfl | rfl | rfl | hb
  · obtain ⟨e, q⟩ := h.ob; rw [q]; exact Option.some_ne_none _
  · rw [h.og]; exact Option.some_ne_none _
  · obtain ⟨e, q, _⟩ := h.oa; rw [q]; exact Option.some_ne_none _
  · obtain ⟨e, q, _⟩ := h.oh; rw [q]; exact Option.some_ne_none _
  · obtain ⟨i, hi⟩ := List.getElem?_of_mem hb
    obtain ⟨e, l, q, _⟩ := h.gat i b hi; rw [q]; exact Option.some_ne_none _
theorem refs_inj : ∀ {l m : List Addr}, some (HO.lst (l.map V.ref)) = some (HO.lst (m.map V.ref)) → l = m := fun {l m} h => by
  have h := Option.some.inj h
  injection h with h
  have inj : ∀ l m : List Addr, l.map V.ref = m.map V.ref → l = m := by
    intro l
    induction l with
    | nil => intro m h; cases m with
      | nil => rfl
      | cons _ _ => cases h
    | cons x l ih => intro m h; cases m with
      | nil => cases h
      | cons y m =>
        rw [List.map_cons, List.map_cons] at h
        injection h with h1 h2
        injection h1 with h1
        rw [h1, ih m h2]
  exact inj l m h
theorem rd_put_apart (T : Txt K mg ad) (vs : List V) (H : Hp) (Q : VK) (E : XK) (h : sp_put_apart K ad vs H Q E) : t_put_apart w K ad { nx := fun _ H' => Q .non H', rt := Q } (start N_put_apart vs) H := by
  obtain ⟨a, s, p, i, j, rfl, hp, W, k⟩ := h
  have e0 : Kg75.spec s (.apart i j) = if (Kg75.isGuest s i && (Kg75.isGuest s j && decide (i ≠ j))) = false then (s, Kg75.num (-1)) else if 40 ≤ s.apart.length then (s, Kg75.num (-5)) else ({ s with apart := s.apart ++ [(i.toNat, j.toNat)] }, Kg75.num (s.apart.length + 1 : Nat)) := rfl
  rw [e0] at k
  have t0 : EvT (tOr (tNot (tB (tCallF (sp_is_guest K ad) (tCons (tVar 0) (tCons (tVar 1) tNil))))) (tOr (tNot (tB (tCallF (sp_is_guest K ad) (tCons (tVar 0) (tCons (tVar 2) tNil))))) (tTest (tOp rEq (tVar 1) (tVar 2))))) (start N_put_apart [.ref a, .int i, .int j]) H (!(Kg75.isGuest s i && (Kg75.isGuest s j && decide (i ≠ j)))) := by
    refine et_is (et_or (et_not (et_val (ev_callF (ea_cons (ev_var (i := 0) rfl) (ea_cons (ev_var (i := 1) rfl) ea_nil)) (sv_is_guest ⟨p, hp⟩)))) fun _ => et_or (et_not (et_val (ev_callF (ea_cons (ev_var (i := 0) rfl) (ea_cons (ev_var (i := 2) rfl) ea_nil)) (sv_is_guest ⟨p, hp⟩)))) fun _ => et_test (ev_op (ev_var (i := 1) rfl) (ev_var (i := 2) rfl) (rv_eq rfl))) ?_
    rw [dec_int]
    cases Kg75.isGuest s i <;> cases Kg75.isGuest s j <;> by_cases e : i = j <;> simp [e]
  refine q_when t0 (fun hb H1 x1 => ?_) fun hb H1 x1 => ?_
  · have hb : (Kg75.isGuest s i && (Kg75.isGuest s j && decide (i ≠ j))) = false := neg_t hb
    rw [if_pos hb] at k
    exact k.same hp x1 el_num
  · have hb : (Kg75.isGuest s i && (Kg75.isGuest s j && decide (i ≠ j))) = true := neg_f hb
    rw [if_neg (by rw [hb]; decide)] at k
    simp only [Bool.and_eq_true] at hb
    obtain ⟨i', rfl⟩ : ∃ n : Nat, i = n := ⟨i.toNat, by have := isg_nat hb.1; omega⟩
    obtain ⟨j', rfl⟩ : ∃ n : Nat, j = n := ⟨j.toNat, by have := isg_nat hb.2.1; omega⟩
    have hp1 := hp.ex x1
    obtain ⟨ts, q1, q2⟩ := hp1.oa
    have tl : (ts.map V.ref).length = s.apart.length := by
      have := q2.1
      unfold apartI at this
      rw [List.length_map] at this ⊢; exact this
    have al := W.apartLen
    refine q_when (b := decide (40 ≤ s.apart.length)) (et_test (ev_is (ev_op (ev_len (ev_hapart T hp1 (ev_var (i := 0) rfl)) (sq_of q1)) ev_c (rv_eq rfl)) (congrArg V.bl (by
      rw [tl, dec_int, Bool.eq_iff_iff, beq_iff_eq, decide_eq_true_eq]
      omega)))) (fun hc H2 x2 => ?_) fun hc H2 x2 => ?_
    · rw [if_pos (of_decide_eq_true hc)] at k
      exact k.same hp (x1.trans x2) el_num
    · rw [if_neg (of_decide_eq_false hc)] at k
      have hp2 := hp1.ex x2
      refine q_appU (xs := ts.map V.ref) (x2 _ _ q1) (ev_hapart T hp2 (ev_var (i := 0) rfl)) (eu_tup (ea_cons (ev_is (ev_min2 (ev_var (i := 1) rfl) (ev_var (i := 2) rfl)) (congrArg V.int (min_cast i' j'))) (ea_cons (ev_is (ev_max2 (ev_var (i := 1) rfl) (ev_var (i := 2) rfl)) (congrArg V.int (max_cast i' j'))) ea_nil)) (by show 2 ≤ 100000; decide)) (by rw [tl]; omega) fun t H3 ht x3 h3 => ?_
      have hp3 := hp2.ex x3
      have ps : PairsAt (off (p.mut a) H3) (ts ++ [t]) (apartI { s with apart := s.apart ++ [((i' : Int).toNat, (j' : Int).toNat)] }) := by
        unfold apartI
        rw [List.map_append]
        refine PairsAt.snoc (q2.ex (off_ex (x2.trans x3))) (fresh_off ?_ ht hp2.live)
        exact h3
      have hp4 := hp3.la_upd ps
      rw [show (ts.map V.ref ++ [V.ref t]) = (ts ++ [t]).map V.ref by rw [List.map_append]; rfl]
      generalize hH4 : upd H3 p.la (.lst ((ts ++ [t]).map V.ref)) = H4 at hp4
      have la4 : H4 p.la = some (.lst ((ts ++ [t]).map V.ref)) := by rw [← hH4]; exact upd_same
      have x4 : ExF (p.mut a) H H4 := by rw [← hH4]; exact (ExF.of ((x1.trans x2).trans x3)).upd (.inl mut_la)
      refine s_retL (el_len1 (n := s.apart.length + 1) (ev_hapart T hp4 (ev_var (i := 0) rfl)) (sq_of la4) (by rw [List.map_append, List.length_append, tl]; rfl)) fun r H5 hr x5 h5 => ?_
      refine k H5 r p (hp4.ex x5) (x4.trans (ExF.of x5)) (fun b hb => .inl hb) (fresh_mut (s0 := s) hp4 (fun b hb => hp4.live b hb) x4 hr) h5 fun F hF q => ?_
      have q3 := q.ex (off_ex ((x1.trans x2).trans x3))
      obtain ⟨ts', r1, r2⟩ := q3.oa
      have lF := (off_get r1).2
      have ets : ts' = ts := refs_inj ((off_get r1).1.symm.trans ((x2.trans x3) _ _ q1))
      subst ets
      have tF : t ∉ F := fun h => hF t h (fresh_back (x1.trans x2) ht)
      have psF : PairsAt (off (p.mut a) (off F H3)) (ts' ++ [t]) (apartI { s with apart := s.apart ++ [((i' : Int).toNat, (j' : Int).toNat)] }) := by
        unfold apartI
        rw [List.map_append]
        refine PairsAt.snoc r2 (off_of (off_of ?_ tF) fun z => hp2.live _ z ht)
        exact h3
      have := q3.la_upd psF
      rw [← off_upd_ne lF, hH4] at this
      exact this.ex (off_ex x5)
theorem inter01 (z : Int) : inV (.int z) [.int 0, .int 1] = Kg75.within z 0 1 := by
  show ([V.int 0, V.int 1].any fun y => eqV y (.int z)) = _
  unfold Kg75.within
  simp only [List.any_cons, List.any_nil, Bool.or_false]
  show ((0 : Int) == z || (1 : Int) == z) = _
  rw [Bool.eq_iff_iff, Bool.or_eq_true, Bool.and_eq_true, beq_iff_eq, beq_iff_eq, decide_eq_true_eq, decide_eq_true_eq]
  omega
theorem rule01 {z : Int} (h : Kg75.within z 0 1 = true) : b2 (z == 1) = z := by
  unfold Kg75.within at h
  simp only [Bool.and_eq_true, decide_eq_true_eq] at h
  unfold b2
  by_cases e : z = 1
  · subst e; rfl
  · have : z = 0 := by omega
    subst this; rfl
theorem rd_put_rules (T : Txt K mg ad) (vs : List V) (H : Hp) (Q : VK) (E : XK) (h : sp_put_rules K ad vs H Q E) : t_put_rules w K ad { nx := fun _ H' => Q .non H', rt := Q } (start N_put_rules vs) H := by
  obtain ⟨a, al, s, p, y0, y1, y2, y3, rfl, hp, W, hl, k⟩ := h
  have e0 : Kg75.spec s (.rules y0 y1 y2 y3) = if (Kg75.within y0 0 1 && (Kg75.within y1 0 1 && (Kg75.within y2 0 1 && Kg75.within y3 0 1))) = false then (s, Kg75.num (-1)) else ({ s with rules := ⟨y0 == 1, y1 == 1, y2 == 1, y3 == 1⟩ }, Kg75.num 0) := rfl
  rw [e0] at k
  have hl0 : SqL K H al (intsV [y0, y1, y2, y3]) := ex_l ex_off hl
  have c := el_comp (K := K) (σ := start N_put_rules [.ref a, .ref al]) (H := H) (g := gName 2) (te := tVar 2) (tl := tVar 1) (g0 := V.int) (vs := [2]) (l := [y0, y1, y2, y3]) (t := tTest (tOp (rIn K true) (tVar 2) (tTup (tCons (tC (.int 0)) (tCons (tC (.int 1)) tNil)))))
    (fun x => [some (.ref a), some (.ref al), some (.int x)]) (fun x => !Kg75.within x 0 1) V.int (srcOf (ev_var (i := 1) rfl) hl0) (by show 4 ≤ 40000; decide) (fun x _ H1 _ Q q => q) (fun x _ => rfl)
    (fun x _ H1 _ => et_test (ev_is (ev_niU (ev_var (i := 2) rfl) (eu_tup (ea_cons ev_c (ea_cons ev_c ea_nil)) (by show 2 ≤ 100000; decide)) rfl rfl) (by rw [inter01]))) (fun x _ _ H1 _ => ev_var rfl)
  have t0 : Ev (tOp (rNeD K) (tLc (iList K (tVar 1)) (gName 2) (tTest (tOp (rIn K true) (tVar 2) (tTup (tCons (tC (.int 0)) (tCons (tC (.int 1)) tNil))))) (tVar 2) [2]) (tLst tNil)) (start N_put_rules [.ref a, .ref al]) H (.bl (!(Kg75.within y0 0 1 && (Kg75.within y1 0 1 && (Kg75.within y2 0 1 && Kg75.within y3 0 1))))) := by
    refine ev_is (ev_opLL c el_nil fun q r H1 hq hr e => rv_neNil (sq_of hq) (sq_of hr)) ?_
    rw [filter_nil_all]
    simp only [List.all_cons, List.all_nil, Bool.and_true]
  refine q_when (et_test t0) (fun hb H1 x1 => ?_) fun hb H1 x1 => ?_
  · rw [if_pos (neg_t hb)] at k
    exact k.same hp x1 el_num
  · have hb := neg_f hb
    rw [if_neg (by rw [hb]; decide)] at k
    simp only [Bool.and_eq_true] at hb
    have hp1 := hp.ex x1
    obtain ⟨dx, ob⟩ := hp1.ob
    refine q_fldL (el_list (ev_var (i := 1) rfl) (ex_l x1 hl0)) (ev_var (i := 0) rfl) ob T.cH T.hRules (by show 5 < 1000; decide) fun r H2 hr x2 h2 => ?_
    rw [hF_put]
    have hp2 := hp1.ex x2
    have rv : rulesV ⟨y0 == 1, y1 == 1, y2 == 1, y3 == 1⟩ = intsV [y0, y1, y2, y3] := by
      unfold rulesV
      show [V.int _, V.int _, V.int _, V.int _] = [V.int _, V.int _, V.int _, V.int _]
      rw [rule01 hb.1, rule01 hb.2.1, rule01 hb.2.2.1, rule01 hb.2.2.2]
    have hp3 := hp2.rules_upd (dx := dx) (r := r) (ru := ⟨y0 == 1, y1 == 1, y2 == 1, y3 == 1⟩) (by rw [rv]; exact fresh_off h2 hr hp1.live)
    generalize hH4 : upd H2 a (.ins ad.H dx (hF s.home { p with lr := r })) = H4 at hp3
    have x4 : ExF (p.mut a) H H4 := by rw [← hH4]; exact (ExF.of (x1.trans x2)).upd (.inl mut_a)
    refine s_retL el_num fun r2 H5 hr2 x5 h5 => ?_
    refine k H5 r2 _ (hp3.ex x5) (x4.trans (ExF.of x5)) (fun b hb => .inl hb) (fresh_mut (s0 := s) hp3 (fun b hb => hp3.live b hb) x4 hr2) h5 fun F hF q => ?_
    have q2 := q.ex (off_ex (x1.trans x2))
    obtain ⟨dy, q3⟩ := q2.ob
    have aF := (off_get q3).2
    have rF : r ∉ F := fun h => hF r h (fresh_back x1 hr)
    have := q2.rules_upd (dx := dx) (r := r) (ru := ⟨y0 == 1, y1 == 1, y2 == 1, y3 == 1⟩) (off_of (off_of (by rw [rv]; exact h2) rF) fun z => hp1.live _ z hr)
    rw [← off_upd_ne aF, hH4] at this
    exact this.ex (off_ex x5)
theorem rd_put_host (T : Txt K mg ad) (vs : List V) (H : Hp) (Q : VK) (E : XK) (h : sp_put_host K ad vs H Q E) : t_put_host w K ad { nx := fun _ H' => Q .non H', rt := Q } (start N_put_host vs) H := by
  obtain ⟨a, s, p, i, j, rfl, hp, W, k⟩ := h
  have e0 : Kg75.spec s (.host i j) = if (Kg75.isGuest s i && Kg75.within j 0 ((s.guests.length : Int) - 1)) = false then (s, Kg75.num (-1)) else if 2 ≤ s.hosts.length ∨ (s.hosts.any fun x => x.1 == i.toNat || x.2 == j.toNat) = true then (s, Kg75.num (-4)) else ({ s with hosts := s.hosts ++ [(i.toNat, j.toNat)] }, Kg75.num (s.hosts.length + 1 : Nat)) := rfl
  have wi : Kg75.within j 0 ((s.guests.length : Int) - 1) = Kg75.isGuest s j := by
    unfold Kg75.within Kg75.isGuest
    rw [Bool.eq_iff_iff]
    simp only [Bool.and_eq_true, decide_eq_true_eq]
    omega
  rw [e0, wi] at k
  have t0 : EvT (tOr (tNot (tB (tCallF (sp_is_guest K ad) (tCons (tVar 0) (tCons (tVar 1) tNil))))) (tNot (tB (tCallF (sp_is_guest K ad) (tCons (tVar 0) (tCons (tVar 2) tNil)))))) (start N_put_host [.ref a, .int i, .int j]) H (!(Kg75.isGuest s i && Kg75.isGuest s j)) := by
    refine et_is (et_or (et_not (et_val (ev_callF (ea_cons (ev_var (i := 0) rfl) (ea_cons (ev_var (i := 1) rfl) ea_nil)) (sv_is_guest ⟨p, hp⟩)))) fun _ => et_not (et_val (ev_callF (ea_cons (ev_var (i := 0) rfl) (ea_cons (ev_var (i := 2) rfl) ea_nil)) (sv_is_guest ⟨p, hp⟩)))) ?_
    cases Kg75.isGuest s i <;> cases Kg75.isGuest s j <;> rfl
  refine q_when t0 (fun hb H1 x1 => ?_) fun hb H1 x1 => ?_
  · rw [if_pos (neg_t hb)] at k
    exact k.same hp x1 el_num
  · have hb := neg_f hb
    rw [if_neg (by rw [hb]; decide)] at k
    simp only [Bool.and_eq_true] at hb
    obtain ⟨i', rfl⟩ : ∃ n : Nat, i = n := ⟨i.toNat, by have := isg_nat hb.1; omega⟩
    obtain ⟨j', rfl⟩ : ∃ n : Nat, j = n := ⟨j.toNat, by have := isg_nat hb.2; omega⟩
    rw [Int.toNat_natCast, Int.toNat_natCast] at k
    have hp1 := hp.ex x1
    obtain ⟨ts, q1, q2⟩ := hp1.oh
    have tl : (ts.map V.ref).length = s.hosts.length := by
      have := q2.1
      unfold hostsI at this
      rw [List.length_map] at this ⊢; exact this
    have hl := W.hostsLen
    obtain ⟨z1, z2, z3⟩ := (q2.ex ex_off).zip
    have zl : (ts.zip s.hosts).length ≤ 2 := by rw [List.length_zip]; omega
    let P : Addr × (Nat × Nat) → Bool := fun z => decide (i' = z.2.1) || decide (j' = z.2.2)
    have c := eh_comp (K := K) (R := fun (z : Addr × (Nat × Nat)) u _ => u = V.ref z.1) (σ := [some (.ref a), some (.int (i' : Int)), some (.int (j' : Int)), none]) (H := H1) (tl := tFld K (tVar 0) "hosts") (g := gName 3) (te := tVar 3) (t := (tOr (tTest (tOp rEq (tVar 1) (tOp (rIxT K) (tVar 3) (tC (.int 0))))) (tTest (tOp rEq (tVar 2) (tOp (rIxT K) (tVar 3) (tC (.int 1))))))) (l := ts.zip s.hosts) (g0 := fun z => V.ref z.1) (vs := [3])
      (fun z => [some (.ref a), some (.int (i' : Int)), some (.int (j' : Int)), some (.ref z.1)]) P (fun _ _ _ _ _ r => r) (srcOf (ev_hhosts T hp1 (ev_var (i := 0) rfl)) (by rw [z1]; exact sq_of q1)) (by omega) (fun z _ H1 _ Q q => q) (fun z _ => rfl)
      (fun z hz H2 x2 => et_or (et_test (ev_is (ev_op (ev_var (i := 1) rfl) (ev_op (ev_var (i := 3) rfl) ev_c (rv_ixT (st_of (x2 _ _ (z2 z hz))) (at0 rfl))) (rv_eq rfl)) (congrArg V.bl (dec_nat _ _)))) fun _ => et_test (ev_is (ev_op (ev_var (i := 2) rfl) (ev_op (ev_var (i := 3) rfl) ev_c (rv_ixT (st_of (x2 _ _ (z2 z hz))) (at1 rfl))) (rv_eq rfl)) (congrArg V.bl (dec_nat _ _))))
      (fun z hz _ H2 D x2 _ _ Q q => ⟨_, rfl, q _ H2 (Ex.refl H2) rfl⟩)
    have anyP : (!(((ts.zip s.hosts).filter P).map fun z => ((z.2.1 : Int), (z.2.2 : Int))).isEmpty) = s.hosts.any fun x => x.1 == i' || x.2 == j' := by
      have e : (s.hosts.any fun x => x.1 == i' || x.2 == j') = (ts.zip s.hosts).any P := by
        conv => lhs; rw [← z3]
        rw [List.any_map]
        refine Fs.any_congr_mem fun z _ => ?_
        show (z.2.1 == i' || z.2.2 == j') = (decide (i' = z.2.1) || decide (j' = z.2.2))
        rw [Bool.eq_iff_iff, Bool.or_eq_true, Bool.or_eq_true, beq_iff_eq, beq_iff_eq, decide_eq_true_eq, decide_eq_true_eq]
        omega
      rw [e, ← not_nil_any]
      cases (ts.zip s.hosts).filter P <;> rfl
    have t1 : Ev (tOp (rNeD K) (tLc (iList K (tFld K (tVar 0) "hosts")) (gName 3) (tOr (tTest (tOp rEq (tVar 1) (tOp (rIxT K) (tVar 3) (tC (.int 0))))) (tTest (tOp rEq (tVar 2) (tOp (rIxT K) (tVar 3) (tC (.int 1)))))) (tVar 3) [3]) (tLst tNil)) [some (.ref a), some (.int (i' : Int)), some (.int (j' : Int)), none] H1 (.bl (s.hosts.any fun x => x.1 == i' || x.2 == j')) := by
      have cl : EvL (tLc (iList K (tFld K (tVar 0) "hosts")) (gName 3) (tOr (tTest (tOp rEq (tVar 1) (tOp (rIxT K) (tVar 3) (tC (.int 0))))) (tTest (tOp rEq (tVar 2) (tOp (rIxT K) (tVar 3) (tC (.int 1)))))) (tVar 3) [3]) [some (.ref a), some (.int (i' : Int)), some (.int (j' : Int)), none] H1 (((ts.zip s.hosts).filter P).map fun z => V.ref z.1) := fun H2 e Q q => c H2 e Q fun r H3 ys hr e3 h3 R => q r H3 hr e3 (by rw [h3, R.map])
      refine ev_opLL cl el_nil fun q r H2 hq hr e => ?_
      have pr : PairsAt H2 (((ts.zip s.hosts).filter P).map fun z => z.1) (((ts.zip s.hosts).filter P).map fun z => ((z.2.1 : Int), (z.2.2 : Int))) := by
        refine ⟨by rw [List.length_map, List.length_map], fun m t z h1 h2 => ?_⟩
        rw [List.getElem?_map] at h1 h2
        obtain ⟨y, hy, rfl⟩ := Option.map_eq_some_iff.mp h1
        rw [hy] at h2
        obtain rfl := Option.some.inj h2
        exact e _ _ (z2 y (List.mem_filter.mp (List.mem_of_getElem? hy)).1)
      have cc := rv_neD (K := K) (H := H2) (x := .ref q) (y := .ref r) (d := .list ((((ts.zip s.hosts).filter P).map fun z => ((z.2.1 : Int), (z.2.2 : Int))).map prd)) (e := .list (([] : List (Int × Int)).map prd)) (Dp.lst (sq_of (by rw [hq, List.map_map]; rfl)) (PairsAt.dp pr)) (Dp.lst (sq_of hr) .nil) (prds_shaped _) (prds_shaped _)
      rw [List.map_nil, prds_eqv_nil, anyP] at cc
      exact cc
    have t2 : EvT (tOr (tTest (tOp rEq (tCB (rLenS K) (tCons (tFld K (tVar 0) "hosts") tNil)) (tC (.int 2)))) (tTest (tOp (rNeD K) (tLc (iList K (tFld K (tVar 0) "hosts")) (gName 3) (tOr (tTest (tOp rEq (tVar 1) (tOp (rIxT K) (tVar 3) (tC (.int 0))))) (tTest (tOp rEq (tVar 2) (tOp (rIxT K) (tVar 3) (tC (.int 1)))))) (tVar 3) [3]) (tLst tNil)))) [some (.ref a), some (.int (i' : Int)), some (.int (j' : Int)), none] H1 (decide (2 ≤ s.hosts.length ∨ (s.hosts.any fun x => x.1 == i' || x.2 == j') = true)) := by
      refine et_is (et_or (b := s.hosts.any fun x => x.1 == i' || x.2 == j') (et_test (ev_op (ev_len (ev_hhosts T hp1 (ev_var (i := 0) rfl)) (sq_of q1)) ev_c (rv_eq rfl))) fun _ => et_test t1) ?_
      rw [tl, dec_int, Bool.eq_iff_iff, Bool.or_eq_true, beq_iff_eq, decide_eq_true_eq]
      constructor
      · rintro (h | h)
        · exact .inl (by omega)
        · exact .inr h
      · rintro (h | h)
        · exact .inl (by omega)
        · exact .inr h
    refine q_when t2 (fun hc H2 x2 => ?_) fun hc H2 x2 => ?_
    · rw [if_pos (of_decide_eq_true hc)] at k
      exact k.same hp (x1.trans x2) el_num
    · have hc := of_decide_eq_false hc
      rw [if_neg hc] at k
      have hp2 := hp1.ex x2
      refine q_appU (xs := ts.map V.ref) (x2 _ _ q1) (ev_hhosts T hp2 (ev_var (i := 0) rfl)) (eu_tup (ea_cons (ev_var (i := 1) rfl) (ea_cons (ev_var (i := 2) rfl) ea_nil)) (by show 2 ≤ 100000; decide)) (by rw [tl]; omega) fun t H3 ht x3 h3 => ?_
      have hp3 := hp2.ex x3
      have ps : PairsAt (off (p.mut a) H3) (ts ++ [t]) (hostsI { s with hosts := s.hosts ++ [(i', j')] }) := by
        unfold hostsI
        rw [List.map_append]
        refine PairsAt.snoc (q2.ex (off_ex (x2.trans x3))) (fresh_off ?_ ht hp2.live)
        exact h3
      have hp4 := hp3.lh_upd ps
      rw [show (ts.map V.ref ++ [V.ref t]) = (ts ++ [t]).map V.ref by rw [List.map_append]; rfl]
      generalize hH4 : upd H3 p.lh (.lst ((ts ++ [t]).map V.ref)) = H4 at hp4
      have la4 : H4 p.lh = some (.lst ((ts ++ [t]).map V.ref)) := by rw [← hH4]; exact upd_same
      have x4 : ExF (p.mut a) H H4 := by rw [← hH4]; exact (ExF.of ((x1.trans x2).trans x3)).upd (.inl mut_lh)
      refine s_retL (el_len1 (n := s.hosts.length + 1) (ev_hhosts T hp4 (ev_var (i := 0) rfl)) (sq_of la4) (by rw [List.map_append, List.length_append, tl]; rfl)) fun r H5 hr x5 h5 => ?_
      refine k H5 r p (hp4.ex x5) (x4.trans (ExF.of x5)) (fun b hb => .inl hb) (fresh_mut (s0 := s) hp4 (fun b hb => hp4.live b hb) x4 hr) h5 fun F hF q => ?_
      have q3 := q.ex (off_ex ((x1.trans x2).trans x3))
      obtain ⟨ts', r1, r2⟩ := q3.oh
      have lF := (off_get r1).2
      have ets : ts' = ts := refs_inj ((off_get r1).1.symm.trans ((x2.trans x3) _ _ q1))
      have tF : t ∉ F := fun h => hF t h (fresh_back (x1.trans x2) ht)
      have psF : PairsAt (off (p.mut a) (off F H3)) (ts ++ [t]) (hostsI { s with hosts := s.hosts ++ [(i', j')] }) := by
        unfold hostsI
        rw [List.map_append, ← ets]
        refine PairsAt.snoc r2 (off_of (off_of ?_ tF) fun z => hp2.live _ z ht)
        exact h3
      have := q3.lh_upd psF
      rw [← off_upd_ne lF, hH4] at this
      exact this.ex (off_ex x5)
end
end FsR
namespace FsR
open PySem PySem.Spec PyProof.Rows L2 Evl
open Fs (compI WF)
/-- who came is told of who comes -/
def mateG (l : List Kg75.Guest) (j n : Nat) : List Kg75.Guest := l.zipIdx.map fun (y : Kg75.Guest × Nat) => if y.2 = j then { y.1 with with_ := some n } else y.1
def mate (s : Kg75.State) (j n : Nat) : Kg75.State := { s with guests := mateG s.guests j n }
theorem mateG_len (l : List Kg75.Guest) (j n : Nat) : (mateG l j n).length = l.length := by unfold mateG; rw [List.length_map, List.length_zipIdx]
theorem mate_guest {s : Kg75.State} {j n i : Nat} (hi : i < s.guests.length) : (mate s j n).guest i = if i = j then { s.guest i with with_ := some n } else s.guest i := by
  have h : i < (mate s j n).guests.length := by show i < (mateG s.guests j n).length; rw [mateG_len]; exact hi
  rw [Fs.guest_lt h, Fs.guest_lt hi]
  show (mateG s.guests j n)[i]'_ = _
  unfold mateG
  simp only [List.getElem_map, List.getElem_zipIdx, Nat.zero_add]
theorem add_guest {s : Kg75.State} {g : Kg75.Guest} {i : Nat} : ({ s with guests := s.guests ++ [g] } : Kg75.State).guest i = if i < s.guests.length then s.guest i else if i = s.guests.length then g else ⟨Kg75.NONE, 0, 0, 0, none, []⟩ := by
  unfold Kg75.State.guest
  simp only [List.getD_eq_getElem?_getD]
  by_cases h : i < s.guests.length
  · rw [if_pos h, List.getElem?_append_left h]
  · rw [if_neg h]
    by_cases e : i = s.guests.length
    · subst e; rw [if_pos rfl, List.getElem?_append_right (Nat.le_refl _)]; simp
    · rw [if_neg e, List.getElem?_eq_none (by rw [List.length_append, List.length_singleton]; omega)]; rfl
theorem nodup_at {α : Type} {l : List α} (h : l.Nodup) {i j : Nat} {x : α} (hi : l[i]? = some x) (hj : l[j]? = some x) : i = j := by
  obtain ⟨i1, i2⟩ := List.getElem?_eq_some_iff.mp hi
  obtain ⟨j1, j2⟩ := List.getElem?_eq_some_iff.mp hj
  have q := List.pairwise_iff_getElem.mp h
  rcases Nat.lt_trichotomy i j with z | z | z
  · exact absurd (i2.trans j2.symm) (q i j i1 j1 z)
  · exact z
  · exact absurd (j2.trans i2.symm) (q j i j1 i1 z)
section
variable {K : PySem.W.Frag} {mg : Str → Option Value} {ad : Ad} {w : World} {σ : L2.St} {H H' : Hp} {ta tb te tl tv : TE} {a : Addr} {s : Kg75.State} {p : Parts} {g : TG} {tu tz : TS} {D : Ends} {t : TT}
theorem HouseP.gsn (h : HouseP ad.G ad.H H a s p) : p.gs.Nodup := by
  have := h.nd
  unfold Parts.mut at this
  simp only [List.nodup_cons] at this
  exact this.2.2.2.2
theorem HouseP.mate_upd {ga dx l : Addr} {j n : Nat} (h : HouseP ad.G ad.H H a s p) (hj : p.gs[j]? = some ga) (hl : off (p.mut a) H l = some (.lst ((s.guest j).speaks.map fun (n : Nat) => V.int (n : Int)))) : HouseP ad.G ad.H (upd H ga (.ins ad.G dx (gF { s.guest j with with_ := some n } l))) a (mate s j n) p := by
  obtain ⟨n1, n2, n3, n4, n5, n6, n7⟩ := h.ne
  have m := n7 ga (List.mem_of_getElem? hj)
  have o : off (p.mut a) (upd H ga (.ins ad.G dx (gF { s.guest j with with_ := some n } l))) = off (p.mut a) H := off_upd (mut_gs hj)
  refine ⟨?_, ?_, ?_, fun i gi hi => ?_, ?_, ?_, ?_, h.nd⟩
  · obtain ⟨e, q⟩ := h.ob; exact ⟨e, by rw [upd_ne (Ne.symm m.1)]; exact q⟩
  · rw [upd_ne (Ne.symm m.2.1)]; exact h.og
  · show _ = (mateG s.guests j n).length
    rw [mateG_len]; exact h.gl
  · have il : i < s.guests.length := by rw [← h.gl]; exact (List.getElem?_eq_some_iff.mp hi).1
    rw [mate_guest il]
    by_cases e : i = j
    · subst e
      rw [hi] at hj
      obtain rfl := Option.some.inj hj
      rw [if_pos rfl]
      exact ⟨dx, l, upd_same, by rw [o]; exact hl⟩
    · rw [if_neg e]
      obtain ⟨d, l', q1, q2⟩ := h.gat i gi hi
      exact ⟨d, l', by rw [upd_ne fun z => e (nodup_at h.gsn hi (by rw [z]; exact hj))]; exact q1, by rw [o]; exact q2⟩
  · obtain ⟨ts, q1, q2⟩ := h.oa; exact ⟨ts, by rw [upd_ne (Ne.symm m.2.2.1)]; exact q1, by rw [o]; exact q2⟩
  · obtain ⟨ts, q1, q2⟩ := h.oh; exact ⟨ts, by rw [upd_ne (Ne.symm m.2.2.2)]; exact q1, by rw [o]; exact q2⟩
  · rw [o]; exact h.or
theorem HouseP.add_upd {x dx l : Addr} {g : Kg75.Guest} (h : HouseP ad.G ad.H H a s p) (hx : H x = some (.ins ad.G dx (gF g l))) (hl : H l = some (.lst (g.speaks.map fun (n : Nat) => V.int (n : Int)))) (xn : x ∉ p.mut a) (ln : l ∉ p.mut a) :
    HouseP ad.G ad.H (upd H p.lg (.lst ((p.gs ++ [x]).map V.ref))) a { s with guests := s.guests ++ [g] } { p with gs := p.gs ++ [x] } := by
  obtain ⟨n1, n2, n3, n4, n5, n6, n7⟩ := h.ne
  have mu : ({ p with gs := p.gs ++ [x] } : Parts).mut a = p.mut a ++ [x] := rfl
  have lst : ∀ {b : Addr} {xs : List V}, off (p.mut a) H b = some (.lst xs) → off (({ p with gs := p.gs ++ [x] } : Parts).mut a) (upd H p.lg (.lst ((p.gs ++ [x]).map V.ref))) b = some (.lst xs) := fun {b xs} q => by
    obtain ⟨q1, q2⟩ := off_get q
    rw [mu]
    refine off_of ?_ fun z => ?_
    · rw [upd_ne fun z => q2 (by rw [z]; exact mut_g)]; exact q1
    · rcases List.mem_append.mp z with z | z
      · exact q2 z
      · rw [List.mem_singleton.mp z, hx] at q1; cases q1
  have prs : ∀ {ts : List Addr} {zs : List (Int × Int)}, PairsAt (off (p.mut a) H) ts zs → PairsAt (off (({ p with gs := p.gs ++ [x] } : Parts).mut a) (upd H p.lg (.lst ((p.gs ++ [x]).map V.ref)))) ts zs := fun {ts zs} q => ⟨q.1, fun i t z h1 h2 => by
    obtain ⟨q1, q2⟩ := off_get (q.2 i t z h1 h2)
    rw [mu]
    refine off_of ?_ fun z => ?_
    · rw [upd_ne fun z => q2 (by rw [z]; exact mut_g)]; exact q1
    · rcases List.mem_append.mp z with z | z
      · exact q2 z
      · rw [List.mem_singleton.mp z, hx] at q1; cases q1⟩
  refine ⟨?_, upd_same, ?_, fun i gi hi => ?_, ?_, ?_, lst h.or, ?_⟩
  · obtain ⟨e, q⟩ := h.ob; exact ⟨e, by rw [upd_ne n1]; exact q⟩
  · show (p.gs ++ [x]).length = (s.guests ++ [g]).length
    rw [List.length_append, List.length_append, h.gl]; rfl
  · have hi : (p.gs ++ [x])[i]? = some gi := hi
    rw [add_guest]
    by_cases c : i < s.guests.length
    · rw [if_pos c]
      rw [List.getElem?_append_left (by rw [h.gl]; exact c)] at hi
      obtain ⟨d, l', q1, q2⟩ := h.gat i gi hi
      exact ⟨d, l', by rw [upd_ne (n7 gi (List.mem_of_getElem? hi)).2.1]; exact q1, lst q2⟩
    · rw [List.getElem?_append_right (by rw [h.gl]; omega), h.gl] at hi
      have e : i = s.guests.length := by
        have := (List.getElem?_eq_some_iff.mp hi).1
        simp at this
        omega
      subst e
      rw [if_neg c, if_pos rfl]
      rw [Nat.sub_self] at hi
      obtain rfl : x = gi := Option.some.inj hi
      exact ⟨dx, l, by rw [upd_ne fun z => xn (by rw [z]; exact mut_g)]; exact hx, lst (off_of hl ln)⟩
  · obtain ⟨ts, q1, q2⟩ := h.oa; exact ⟨ts, by show upd _ _ _ p.la = _; rw [upd_ne (Ne.symm n4)]; exact q1, prs q2⟩
  · obtain ⟨ts, q1, q2⟩ := h.oh; exact ⟨ts, by show upd _ _ _ p.lh = _; rw [upd_ne (Ne.symm n5)]; exact q1, prs q2⟩
  · rw [mu, List.nodup_append]
    refine ⟨h.nd, by simp, fun b hb c hc z => ?_⟩
    rw [List.mem_singleton.mp hc] at z
    exact xn (by rw [← z]; exact hb)
/-- xs.append(new thing) -/
theorem q_appH {R : V → Hp → Prop} {l : Addr} {xs : List V} (hl : H l = some (.lst xs)) (ha : Ev ta σ H (.ref l)) (h : ∀ H1, Ex H H1 → ∀ Q : VK, (∀ v H2, Ex H1 H2 → R v H2 → Q v H2) → te σ H1 Q) (hz : xs.length < 100000) (k : ∀ v H2, Ex H H2 → R v H2 → tz D σ (upd H2 l (.lst (xs ++ [v])))) :
    tSeq (tDrop (tBM K "list" rAppend ta (tCons te tNil))) tz D σ H := ha H (Ex.refl H) _ fun H1 e1 =>
  ⟨Or.inl ⟨rfl, xs, sq_of (e1 l _ hl)⟩, h H1 e1 _ fun v H2 e2 r => ⟨l, xs, v, rfl, rfl, e2 l _ (e1 l _ hl), sz_lt hz, k v H2 (e1.trans e2) r⟩⟩
theorem ea_VL {t1 t2 : TE} {v1 : V} {xs : List V} (h1 : Ev t1 σ H v1) (h2 : EvL t2 σ H xs) : ∀ H1, Ex H H1 → ∀ Q : List V → Hp → Prop, (∀ l H2, Ex H1 H2 → H1 l = none → H2 l = some (.lst xs) → Q [v1, .ref l] H2) → tCons t1 (tCons t2 tNil) σ H1 Q := fun H1 e Q k =>
  h1 H1 e _ fun H2 e2 => h2 H2 (e.trans e2) _ fun l H3 nl e3 h3 => k l H3 (e2.trans e3) (fresh_back e2 nl) h3
/-- a new guest -/
theorem eh_guest {aw al : Addr} {g : Kg75.Guest} {i j : Nat} (h1 : σ[i]? = some (some (.ref aw))) (h2 : σ[j]? = some (some (.ref al))) (hw : SqL K H aw (intsV [(g.rank : Int), g.since, g.country, g.sex, compI g.with_])) (hl : SqL K H al (natsV g.speaks)) :
    ∀ H1, Ex H H1 → ∀ Q : VK, (∀ x H2 l dx, Ex H1 H2 → H1 x = none → H1 l = none → H2 x = some (.ins ad.G dx (gF g l)) → H2 l = some (.lst (natsV g.speaks)) → Q (.ref x) H2) →
      tMakeF ad.G (sp_Guest K ad) (tCons (tVar i) (tCons (tCB (rListS K) (tCons (tVar j) tNil)) tNil)) σ H1 Q := by
  intro H1 e Q k
  refine te_make (ea_VL (ev_var (H := H) h1) (el_list (K := K) (ev_var (H := H) h2) hl) H1 e _ fun l H3 e3 nl h3 x dx hx hdx hne => ?_)
  have m := make_ex (C := ad.G) hx hdx
  have y3 := e.trans e3
  refine ⟨x, dx, aw, l, g, rfl, upd_same, ex_l (y3.trans m) hw, fun H4 hx4 eF => ⟨rfl, ?_⟩⟩
  have x4 : Ex H3 H4 := m.trans eF
  exact k x H4 l dx (e3.trans x4) (fresh_back e3 hx) nl hx4 (x4 _ _ h3)
theorem rd_put_guest (T : Txt K mg ad) (vs : List V) (H : Hp) (Q : VK) (E : XK) (h : sp_put_guest K ad vs H Q E) : t_put_guest w K ad { nx := fun _ H' => Q .non H', rt := Q } (start N_put_guest vs) H := by
  obtain ⟨a, aw, al, s, p, r, d, c, x, z, l, rfl, hp, W, hw, hl, hz, k⟩ := h
  have n9 := W.len
  let n := s.guests.length
  let g0 : Kg75.Guest := ⟨r.toNat, d.toNat, c.toNat, x.toNat, if 0 ≤ z then some z.toNat else none, l.map Int.toNat⟩
  have e0 : Kg75.spec s (.guest r d c x z l) = if (Kg75.within r 0 10 && (Kg75.within d 0 100000 && (Kg75.within c 0 30 && (Kg75.within x 0 1 && (Kg75.within z (-1) 99 && (l.all (fun z => Kg75.within z 0 7) && decide l.Nodup)))))) = false then (s, Kg75.num (-1))
    else if s.hosts ≠ [] then (s, Kg75.num (-3))
    else if 9 ≤ s.guests.length then (s, Kg75.num (-5))
    else if 0 ≤ z ∧ (Kg75.isGuest s z = false ∨ (s.guest z.toNat).with_.isSome = true) then (s, Kg75.num (-4))
    else ({ s with guests := (if 0 ≤ z then mateG s.guests z.toNat n else s.guests) ++ [g0] }, Kg75.num n) := rfl
  have gt : (Kg75.within r 0 10 && (Kg75.within d 0 100000 && (Kg75.within c 0 30 && (Kg75.within x 0 1 && (Kg75.within z (-1) 99 && (l.all (fun z => Kg75.within z 0 7) && decide l.Nodup)))))) = guestTold r d c x z l := by
    unfold guestTold areLangs
    rw [Bool.and_comm (l.all _) _]
  rw [e0, gt] at k
  have hw0 : SqL K H aw (intsV [r, d, c, x, z]) := ex_l ex_off hw
  have hl0 : SqL K H al (intsV l) := ex_l ex_off hl
  refine q_when (et_not (et_val (ev_callF (z := .bl (guestTold r d c x z l)) (ea_cons (ev_var (i := 1) rfl) (ea_cons (ev_var (i := 2) rfl) ea_nil)) fun H1 e Q q E => ⟨aw, al, r, d, c, x, z, l, rfl, ex_l e hw0, ex_l e hl0, hz, q⟩))) (fun hb H1 x1 => ?_) fun hb H1 x1 => ?_
  · rw [if_pos (neg_t hb)] at k
    exact k.same hp x1 el_num
  have hb := neg_f hb
  rw [if_neg (by rw [hb]; decide)] at k
  have hp1 := hp.ex x1
  refine q_when (et_test (ev_hasHosts T hp1 (ev_var (i := 0) rfl))) (fun hc H2 x2 => ?_) fun hc H2 x2 => ?_
  · have hc := of_decide_eq_false (neg_t hc)
    rw [if_pos hc] at k
    exact k.same hp (x1.trans x2) el_num
  have hc := of_decide_eq_true (neg_f hc)
  rw [if_neg (fun q => q hc)] at k
  have hp2 := hp1.ex x2
  refine q_when (b := decide (9 ≤ s.guests.length)) (et_test (ev_is (ev_op (ev_many T hp2 (ev_var (i := 0) rfl)) ev_c (rv_eq rfl)) (congrArg V.bl (by
    rw [dec_int, Bool.eq_iff_iff, beq_iff_eq, decide_eq_true_eq]
    omega)))) (fun hd H3 x3 => ?_) fun hd H3 x3 => ?_
  · rw [if_pos (of_decide_eq_true hd)] at k
    exact k.same hp ((x1.trans x2).trans x3) el_num
  have hd := of_decide_eq_false hd
  rw [if_neg hd] at k
  have hp3 := hp2.ex x3
  have y3 := (x1.trans x2).trans x3
  unfold guestTold at hb
  simp only [Bool.and_eq_true] at hb
  obtain ⟨b1, b2', b3, b4, b5, b6⟩ := hb
  unfold Kg75.within at b1 b2' b3 b4 b5
  simp only [Bool.and_eq_true, decide_eq_true_eq] at b1 b2' b3 b4 b5
  have mc : mayCome s z = !decide (0 ≤ z ∧ (Kg75.isGuest s z = false ∨ (s.guest z.toNat).with_.isSome = true)) := by
    unfold mayCome
    by_cases q : z = -1
    · subst q; rfl
    · have q0 : 0 ≤ z := by omega
      rw [decide_eq_false q, Bool.false_or]
      cases hg : Kg75.isGuest s z with
      | false => simp [q0]
      | true => cases hm : (s.guest z.toNat).with_ <;> simp [q0]
  refine q_when (et_not (et_val (ev_callF (z := .bl (mayCome s z)) (ea_cons (ev_var (i := 0) rfl) (ea_cons (ev_op (ev_var (i := 1) rfl) ev_c (rv_ixL (ex_l y3 hw0) (at4 rfl))) ea_nil)) fun H1 e Q q E => ⟨a, s, z, rfl, ⟨p, hp3.ex e⟩, q⟩))) (fun hf H4 x4 => ?_) fun hf H4 x4 => ?_
  · have hf := neg_t hf
    rw [mc] at hf
    rw [if_pos (of_decide_eq_true (neg_f hf))] at k
    exact k.same hp (y3.trans x4) el_num
  have hf := neg_f hf
  rw [mc] at hf
  have hf := of_decide_eq_false (neg_t hf)
  rw [if_neg hf] at k
  have hp4 := hp3.ex x4
  refine q_asg (ev_many T hp4 (ev_var (i := 0) rfl)) fun H5 x5 => ?_
  have hp5 := hp4.ex x5
  have y5 := (y3.trans x4).trans x5
  -- the numbers
  have cw : compI g0.with_ = z := by
    show compI (if 0 ≤ z then some z.toNat else none) = z
    by_cases q : 0 ≤ z
    · rw [if_pos q]; exact Int.toNat_of_nonneg q
    · rw [if_neg q]; show (-1 : Int) = z; omega
  have nums : intsV [(g0.rank : Int), g0.since, g0.country, g0.sex, compI g0.with_] = intsV [r, d, c, x, z] := by
    rw [cw]
    show intsV [(r.toNat : Int), (d.toNat : Int), (c.toNat : Int), (x.toNat : Int), z] = _
    rw [Int.toNat_of_nonneg b1.1, Int.toNat_of_nonneg b2'.1, Int.toNat_of_nonneg b3.1, Int.toNat_of_nonneg b4.1]
  have lpos : ∀ y ∈ l, 0 ≤ y := fun y hy => by
    unfold areLangs at b6
    rw [Bool.and_eq_true, List.all_eq_true] at b6
    have := b6.2 y hy
    unfold Kg75.within at this
    simp only [Bool.and_eq_true, decide_eq_true_eq] at this
    exact this.1
  have lng : natsV g0.speaks = intsV l := nats_toNat lpos
  -- from here both ways
  have fin : ∀ (H6 : Hp) (s6 : Kg75.State), HouseP ad.G ad.H H6 a s6 p → ExF (p.mut a) H H6 → (∀ F : List Addr, (∀ b ∈ F, H b ≠ none) → HouseP ad.G ad.H (off F H) a s p → HouseP ad.G ad.H (off F H6) a s6 p) → ({ s6 with guests := s6.guests ++ [g0] } : Kg75.State) = { s with guests := (if 0 ≤ z then mateG s.guests z.toNat n else s.guests) ++ [g0] } →
      (tSeq (tDrop (tBM K "list" rAppend (tFld K (tVar 0) "guests") (tCons (tMakeF ad.G (sp_Guest K ad) (tCons (tVar 1) (tCons (tCB (rListS K) (tCons (tVar 2) tNil)) tNil))) tNil))) (tRet (tLst (tCons (tVar 3) tNil)))) { nx := fun _ H' => Q .non H', rt := Q } [some (.ref a), some (.ref aw), some (.ref al), some (.int (n : Int))] H6 := by
    intro H6 s6 hp6 e6 fr6 hs6
    have gl6 := hp6.gl
    refine q_appH (R := fun v H2 => ∃ x l dx, v = .ref x ∧ H6 x = none ∧ H6 l = none ∧ H2 x = some (.ins ad.G dx (gF g0 l)) ∧ H2 l = some (.lst (natsV g0.speaks))) (xs := p.gs.map V.ref) hp6.og (ev_hguests T hp6 (ev_var (i := 0) rfl))
      (fun H7 e7 Q q => eh_guest (ad := ad) (H := H6) (g := g0) (aw := aw) (al := al) rfl rfl (by rw [nums]; exact ex_l e6 hw) (by rw [lng]; exact ex_l e6 hl) H7 e7 Q fun x H8 l dx e8 nx nl hx hl => q _ H8 e8 ⟨x, l, dx, rfl, fresh_back e7 nx, fresh_back e7 nl, hx, hl⟩)
      (by rw [List.length_map, hp5.gl]; omega) fun v H7 e7 hR => ?_
    obtain ⟨xg, lg, dx, rfl, nx, nl, hx, hl7⟩ := hR
    have hp7 := hp6.ex e7
    have xn : xg ∉ p.mut a := fun q => hp6.live _ q nx
    have ln : lg ∉ p.mut a := fun q => hp6.live _ q nl
    have hp8 := hp7.add_upd hx hl7 xn ln
    rw [hs6] at hp8
    rw [show (p.gs.map V.ref ++ [V.ref xg]) = (p.gs ++ [xg]).map V.ref by rw [List.map_append]; rfl]
    generalize hH8 : upd H7 p.lg (.lst ((p.gs ++ [xg]).map V.ref)) = H8 at hp8
    have x8 : ExF (p.mut a) H H8 := by rw [← hH8]; exact (e6.trans (ExF.of e7)).upd (.inl mut_g)
    have x68 : ExF (p.mut a) H6 H8 := by rw [← hH8]; exact (ExF.of e7).upd (.inl mut_g)
    have mu : ({ p with gs := p.gs ++ [xg] } : Parts).mut a = p.mut a ++ [xg] := rfl
    refine s_retL (xs := ansV (Kg75.num (n : Int))) (el_lst (ea_cons (ev_var (i := 3) rfl) ea_nil) (by show 1 ≤ 100000; decide)) fun r9 H9 hr9 x9 h9 => ?_
    have live : ∀ b ∈ p.mut a, H8 b ≠ none := fun b hb => hp8.live b (by rw [mu]; exact List.mem_append_left _ hb)
    have old : ∀ {y : Addr}, y ∉ p.mut a → H6 y = none → H y = none := fun {y} hn hy => by
      cases q : H y with
      | none => rfl
      | some u => rw [e6 _ _ (off_of q hn)] at hy; cases hy
    refine k H9 r9 _ (hp8.ex x9) (x8.trans (ExF.of x9)) (fun b hb => ?_) (fresh_mut (s0 := s) hp8 live x8 hr9) h9 fun F hF q => ?_
    · rw [mu] at hb
      rcases List.mem_append.mp hb with hb | hb
      · exact .inl hb
      · rw [List.mem_singleton.mp hb]
        exact .inr (old xn nx)
    · have q7 := (fr6 F hF q).ex (off_ex e7)
      have lF := (off_get q7.og).2
      have xF : xg ∉ F := fun h => hF _ h (old xn nx)
      have gF : lg ∉ F := fun h => hF _ h (old ln nl)
      have := q7.add_upd (off_of hx xF) (off_of hl7 gF) xn ln
      rw [hs6, ← off_upd_ne lF, hH8] at this
      exact this.ex (off_ex x9)
  refine q_when (b := !decide (z = -1)) (et_test (ev_is (ev_op (ev_op (ev_var (i := 1) rfl) ev_c (rv_ixL (ex_l y5 hw0) (at4 rfl))) ev_c (rv_ne rfl)) (congrArg (fun b => V.bl (!b)) (by rw [dec_int, Bool.beq_eq_decide_eq])))) (fun hg H6 x6 => ?_) fun hg H6 x6 => ?_
  · have hz1 := of_decide_eq_false (neg_t hg)
    have hz0 : 0 ≤ z := by omega
    have hig : Kg75.isGuest s z = true := by
      cases q : Kg75.isGuest s z with
      | true => rfl
      | false => exact absurd ⟨hz0, .inl q⟩ hf
    obtain ⟨j, rfl⟩ : ∃ j : Nat, z = j := ⟨z.toNat, by omega⟩
    have hj : j < s.guests.length := by have := isg_nat hig; omega
    have hp6 := hp5.ex x6
    have hjg : j < p.gs.length := by rw [hp6.gl]; exact hj
    obtain ⟨dx, lj, q1, q2⟩ := hp6.gat j _ (List.getElem?_eq_getElem hjg)
    have v0 : (p.gs.map V.ref)[j]? = some (V.ref p.gs[j]) := by rw [List.getElem?_map, List.getElem?_eq_getElem hjg]; rfl
    refine s_fld (D := { nx := _, rt := Q }) (ev_var (i := 3) rfl) (ev_op (ev_hguests T hp6 (ev_var (i := 0) rfl)) (ev_op (ev_var (i := 1) rfl) ev_c (rv_ixL (ex_l (y5.trans x6) hw0) (at4 rfl))) (rv_ixL (sq_of hp6.og) (atI_nat v0))) q1 T.cG T.gCompanion (by show 6 < 1000; decide) fun H7 x7 => ?_
    have e7 := gF_put (s.guest j) lj (some n)
    have e7' : putF "companion" (.int (n : Int)) (gF (s.guest j) lj) = gF { s.guest j with with_ := some n } lj := e7
    show (tSeq _ _) _ _ (upd H7 p.gs[j] (.ins ad.G dx (putF "companion" (.int (n : Int)) (gF (s.guest j) lj))))
    rw [e7']
    refine fin _ (mate s j n) ((hp6.ex x7).mate_upd (List.getElem?_eq_getElem hjg) (off_ex x7 _ _ q2)) ((ExF.of ((y5.trans x6).trans x7)).upd (.inl (mut_gs (List.getElem?_eq_getElem hjg)))) (fun F hF q => ?_) ?_
    · have q7 := q.ex (off_ex ((y5.trans x6).trans x7))
      obtain ⟨dy, ly, r1, r2⟩ := q7.gat j _ (List.getElem?_eq_getElem hjg)
      have gaF := (off_get r1).2
      have same := (off_get r1).1.symm.trans (x7 _ _ q1)
      have same := Option.some.inj same
      injection same with _ _ same
      have ely : ly = lj := by
        unfold gF at same
        injection same with _ same
        injection same with _ same
        injection same with _ same
        injection same with _ same
        injection same with _ same
        injection same with same _
        injection same with _ same
        injection same
      subst ely
      rw [off_upd_ne gaF]
      exact q7.mate_upd (List.getElem?_eq_getElem hjg) r2
    · rw [if_pos hz0]; rfl
  · have hz1 := of_decide_eq_true (neg_f hg)
    refine fin H6 s (hp5.ex x6) (ExF.of (y5.trans x6)) (fun F _ q => q.ex (off_ex (y5.trans x6))) ?_
    rw [if_neg (by omega)]
end
end FsR
namespace FsR
open PySem PySem.Spec PyProof.Rows L2 Evl
open Fs (compI WF)
section
variable {K : PySem.W.Frag} {mg : Str → Option Value} {ad : Ad} {w : World} {σ : L2.St} {H H' : Hp} {ta tb te tl tv : TE} {a d : Addr} {s : Kg75.State} {p : Parts} {g : TG} {tu tz : TS} {D : Ends} {t : TT}
theorem RetS.mono {x : Kg75.State × Kg75.Ans} {Q : VK} (k : RetS ad H d a s p x Q) (e : Ex H H') : RetS ad H' d a s p x Q := fun H2 r a' p' hd eF hb hr h fr =>
  k H2 r a' p' hd ((ExF.of e).trans eF) (fun b q => (hb b q).imp id (fresh_back e)) (fresh_back e hr) h fun F hF q => fr F (fun b hb => by
    obtain ⟨u, hu⟩ := Option.ne_none_iff_exists'.mp (hF b hb)
    rw [e _ _ hu]; exact Option.some_ne_none _) (q.ex (off_ex e))
theorem RetS.toH {x : Kg75.State × Kg75.Ans} {Q : VK} (k : RetS ad H d a s p x Q) (hd : DeskP ad H d a s p) : RetH ad H a s p x Q := fun H2 r p' hp eF hb hr h fr => by
  obtain ⟨⟨dx, q1⟩, q2, q3⟩ := hd
  have dn : d ∉ p'.mut a := fun z => by
    rcases hb d z with z | z
    · exact q3 z
    · rw [q1] at z; cases z
  refine k H2 r a p' ⟨⟨dx, eF.ex q1 q3⟩, hp, dn⟩ (eF.mono fun b hb => List.mem_cons_of_mem _ hb) hb hr h fun F hF q => ?_
  obtain ⟨⟨dy, r1⟩, r2, _⟩ := q
  obtain ⟨r3, r4⟩ := off_get r1
  exact ⟨⟨dy, off_of (eF.ex r3 q3) r4⟩, fr F hF r2, dn⟩
theorem RetS.toL {x : Kg75.Ans} {Q : VK} (k : RetS ad H d a s p (s, x) Q) (hd : DeskP ad H d a s p) : RetL (ansV x) H Q := fun r H2 hr e h => k H2 r a p (hd.ex e) (ExF.of e) (fun b hb => .inl hb) hr h fun F _ q => q.ex (off_ex e)
theorem ret_call {sp : Sp} {ts : TA} {vs : List V} (h : EvA ts σ H vs) (k : ∀ H1, Ex H H1 → sp vs H1 D.rt E0) : tRet (tCallF sp ts) D σ H := h H (Ex.refl H) _ k
theorem off_sub {F F' : List Addr} (h : ∀ b ∈ F', b ∈ F) : Ex (off F H) (off F' H) := fun b o q => by
  obtain ⟨q1, q2⟩ := off_get q
  exact off_of q1 fun z => q2 (h b z)
theorem ev_dhouse (T : Txt K mg ad) (hd : DeskP ad H d a s p) (h : Ev ta σ H (.ref d)) : Ev (tFld K ta "house") σ H (.ref a) := by
  obtain ⟨⟨dx, q⟩, _⟩ := hd
  exact ev_fld h q T.cD T.dHouse lk_here
theorem rd_answered (T : Txt K mg ad) (vs : List V) (H : Hp) (Q : VK) (E : XK) (h : sp_answered K ad vs H Q E) : t_answered w K ad { nx := fun _ H' => Q .non H', rt := Q } (start N_answered vs) H := by
  obtain ⟨d, a, aw, ar, s, p, kind, ws, R, c, rfl, hd, W, hw, hr, h13, hc, k⟩ := h
  have hw0 : SqL K H aw (intsV ws) := ex_l ex_off hw
  have hr0 : SqL K H ar (intsV R) := ex_l ex_off hr
  have sub : ∀ {H1}, Ex H H1 → Ex (off (d :: p.mut a) H) (off (p.mut a) H1) := fun e => (off_sub fun b hb => List.mem_cons_of_mem _ hb).trans (off_ex e)
  -- what reads
  have rd : ∀ {D : Ends} {H1 : Hp}, D.rt = Q → Reads c → (Kg75.spec s c).1 = s → Ex H H1 → tRet (tCallF (sp_asked K ad) (tCons (tFld K (tVar 0) "house") (tCons (tVar 1) (tCons (tVar 2) (tCons (tVar 3) tNil))))) D (start N_answered [.ref d, .int kind, .ref aw, .ref ar]) H1 := fun {D H1} hD hrd hs e => by
    have hd1 := hd.ex e
    have k1 := k.mono e
    rw [show Kg75.spec s c = (s, (Kg75.spec s c).2) from Prod.ext hs rfl] at k1
    refine ret_call (ea_cons (ev_dhouse T hd1 (ev_var (i := 0) rfl)) (ea_cons (ev_var (i := 1) rfl) (ea_cons (ev_var (i := 2) rfl) (ea_cons (ev_var (i := 3) rfl) ea_nil)))) fun H2 x2 => ?_
    have e2 := e.trans x2
    rw [hD]
    have k2 := (k1.mono x2).toL (hd1.ex x2)
    exact ⟨a, aw, ar, s, kind, ws, R, c, rfl, ⟨p, (hd1.ex x2).2.1⟩, W, ex_l e2 hw0, ex_l e2 hr0, hc, hrd, k2⟩
  cases c with
  | begin_ h =>
    obtain ⟨rfl, rfl⟩ := hc
    refine q_hit rfl rfl fun H1 x1 => ret_call (ea_cons (ev_var (i := 0) rfl) (ea_cons (ev_op (ev_var (i := 2) rfl) ev_c (rv_ixL (ex_l x1 hw0) (at0 rfl))) ea_nil)) fun H2 x2 => ?_
    exact ⟨d, a, s, p, h, rfl, hd.ex (x1.trans x2), k.mono (x1.trans x2)⟩
  | guest r1 d1 c1 x1 w1 l1 =>
    obtain ⟨rfl, rfl, rfl⟩ := hc
    refine q_skip rfl (by decide) fun H1 x1 => q_hit rfl rfl fun H2 x2 => ?_
    have e := x1.trans x2
    refine ret_call (ea_cons (ev_dhouse T (hd.ex e) (ev_var (i := 0) rfl)) (ea_cons (ev_var (i := 2) rfl) (ea_cons (ev_var (i := 3) rfl) ea_nil))) fun H3 x3 => ?_
    have e3 := e.trans x3
    exact ⟨a, aw, ar, s, p, _, _, _, _, _, _, rfl, (hd.ex e3).2.1, W, ex_l (sub e3) hw, ex_l (sub e3) hr, h13, (k.mono e3).toH (hd.ex e3)⟩
  | apart i j =>
    obtain ⟨rfl, rfl⟩ := hc
    refine q_skip rfl (by decide) fun H1 x1 => q_skip rfl (by decide) fun H2 x2 => q_hit rfl rfl fun H3 x3 => ?_
    have e := (x1.trans x2).trans x3
    refine ret_call (ea_cons (ev_dhouse T (hd.ex e) (ev_var (i := 0) rfl)) (ea_cons (ev_op (ev_var (i := 2) rfl) ev_c (rv_ixL (ex_l e hw0) (at0 rfl))) (ea_cons (ev_op (ev_var (i := 2) rfl) ev_c (rv_ixL (ex_l e hw0) (at1 rfl))) ea_nil))) fun H4 x4 => ?_
    have e4 := e.trans x4
    exact ⟨a, s, p, i, j, rfl, (hd.ex e4).2.1, W, (k.mono e4).toH (hd.ex e4)⟩
  | host i j =>
    obtain ⟨rfl, rfl⟩ := hc
    refine q_skip rfl (by decide) fun H1 x1 => q_skip rfl (by decide) fun H2 x2 => q_skip rfl (by decide) fun H3 x3 => q_hit rfl rfl fun H4 x4 => ?_
    have e := ((x1.trans x2).trans x3).trans x4
    refine ret_call (ea_cons (ev_dhouse T (hd.ex e) (ev_var (i := 0) rfl)) (ea_cons (ev_op (ev_var (i := 2) rfl) ev_c (rv_ixL (ex_l e hw0) (at0 rfl))) (ea_cons (ev_op (ev_var (i := 2) rfl) ev_c (rv_ixL (ex_l e hw0) (at1 rfl))) ea_nil))) fun H5 x5 => ?_
    have e5 := e.trans x5
    exact ⟨a, s, p, i, j, rfl, (hd.ex e5).2.1, W, (k.mono e5).toH (hd.ex e5)⟩
  | rules y0 y1 y2 y3 =>
    obtain ⟨rfl, rfl⟩ := hc
    refine q_skip rfl (by decide) fun H1 x1 => q_skip rfl (by decide) fun H2 x2 => q_skip rfl (by decide) fun H3 x3 => q_skip rfl (by decide) fun H4 x4 => q_hit rfl rfl fun H5 x5 => ?_
    have e := (((x1.trans x2).trans x3).trans x4).trans x5
    refine ret_call (ea_cons (ev_dhouse T (hd.ex e) (ev_var (i := 0) rfl)) (ea_cons (ev_var (i := 2) rfl) ea_nil)) fun H6 x6 => ?_
    have e6 := e.trans x6
    exact ⟨a, aw, s, p, y0, y1, y2, y3, rfl, (hd.ex e6).2.1, W, ex_l (sub e6) hw, (k.mono e6).toH (hd.ex e6)⟩
  | order =>
    obtain rfl : kind = 6 := hc
    exact q_skip rfl (by decide) fun H1 x1 => q_skip rfl (by decide) fun H2 x2 => q_skip rfl (by decide) fun H3 x3 => q_skip rfl (by decide) fun H4 x4 => q_skip rfl (by decide) fun H5 x5 => rd rfl trivial rfl ((((x1.trans x2).trans x3).trans x4).trans x5)
  | seats =>
    obtain rfl : kind = 7 := hc
    exact q_skip rfl (by decide) fun H1 x1 => q_skip rfl (by decide) fun H2 x2 => q_skip rfl (by decide) fun H3 x3 => q_skip rfl (by decide) fun H4 x4 => q_skip rfl (by decide) fun H5 x5 => rd rfl trivial rfl ((((x1.trans x2).trans x3).trans x4).trans x5)
  | plan =>
    obtain rfl : kind = 8 := hc
    exact q_skip rfl (by decide) fun H1 x1 => q_skip rfl (by decide) fun H2 x2 => q_skip rfl (by decide) fun H3 x3 => q_skip rfl (by decide) fun H4 x4 => q_skip rfl (by decide) fun H5 x5 => rd rfl trivial rfl ((((x1.trans x2).trans x3).trans x4).trans x5)
  | check l =>
    obtain rfl : kind = 9 := hc.1
    refine q_skip rfl (by decide) fun H1 x1 => q_skip rfl (by decide) fun H2 x2 => q_skip rfl (by decide) fun H3 x3 => q_skip rfl (by decide) fun H4 x4 => q_skip rfl (by decide) fun H5 x5 => rd rfl trivial ?_ ((((x1.trans x2).trans x3).trans x4).trans x5)
    unfold Kg75.spec
    dsimp only
    split <;> rfl
  | flags l =>
    obtain rfl : kind = 10 := hc.1
    refine q_skip rfl (by decide) fun H1 x1 => q_skip rfl (by decide) fun H2 x2 => q_skip rfl (by decide) fun H3 x3 => q_skip rfl (by decide) fun H4 x4 => q_skip rfl (by decide) fun H5 x5 => rd rfl trivial ?_ ((((x1.trans x2).trans x3).trans x4).trans x5)
    unfold Kg75.spec
    dsimp only
    split <;> rfl
theorem sp_answered_of {aw ar : Addr} {kind : Int} {ws R : List Int} {c : Kg75.Call} {Q : VK} {E : XK} (hd : DeskP ad H d a s p) (W : WF s) (hw : SqL K (off (d :: p.mut a) H) aw (intsV ws)) (hr : SqL K (off (d :: p.mut a) H) ar (intsV R)) (h13 : R.length ≤ 1300) (hc : CallIs kind ws R c) (k : RetS ad H d a s p (Kg75.spec s c) Q) :
    sp_answered K ad [.ref d, .int kind, .ref aw, .ref ar] H Q E := ⟨d, a, aw, ar, s, p, kind, ws, R, c, rfl, hd, W, hw, hr, h13, hc, k⟩
end
end FsR
namespace FsR
open PySem PySem.Spec PyProof.Rows L2 Evl
open Fs (compI WF)
/-! ### what is kept by every call -/
theorem wf_fresh {h : Nat} (hh : h ≤ 30) : WF (freshS h) :=
  ⟨Nat.zero_le _, hh, fun _ q => (by cases q), fun _ q => (by cases q), fun _ q => (by cases q), fun _ q => (by cases q), fun _ q => (by cases q), fun i j q => absurd q (Nat.not_lt_zero _), Nat.zero_le _, fun _ q => (by cases q), Nat.zero_le _, fun _ q => (by cases q), List.nodup_nil, List.nodup_nil⟩
theorem wf_init : WF Kg75.init := wf_fresh (Nat.zero_le _)
theorem mateG_mem {l : List Kg75.Guest} {j n : Nat} {P : Kg75.Guest → Prop} (hP : ∀ y w, P y → P { y with with_ := w }) (h : ∀ y ∈ l, P y) : ∀ y ∈ mateG l j n, P y := fun y hy => by
  unfold mateG at hy
  obtain ⟨z, hz, rfl⟩ := List.mem_map.mp hy
  have := h z.1 (List.fst_mem_of_mem_zipIdx hz)
  split
  · exact hP _ _ this
  · exact this
theorem wf_add {s : Kg75.State} {G : List Kg75.Guest} {g : Kg75.Guest} (W : WF s) (hl : G.length = s.guests.length) (h9 : s.guests.length < 9) (hh : s.hosts = []) (hG : ∀ P : Kg75.Guest → Prop, (∀ y w, P y → P { y with with_ := w }) → (∀ y ∈ s.guests, P y) → ∀ y ∈ G, P y)
    (g1 : g.rank ≤ 10) (g2 : g.since ≤ 100000) (g3 : g.country ≤ 30) (g4 : g.sex ≤ 1) (g5 : g.speaks.length ≤ 1300)
    (hm : ∀ i j, i < s.guests.length + 1 → (({ s with guests := G ++ [g] } : Kg75.State).guest i).with_ = some j → j < s.guests.length + 1 ∧ j ≠ i ∧ (({ s with guests := G ++ [g] } : Kg75.State).guest j).with_ = some i) : WF ({ s with guests := G ++ [g] } : Kg75.State) := by
  have all : ∀ P : Kg75.Guest → Prop, (∀ y w, P y → P { y with with_ := w }) → (∀ y ∈ s.guests, P y) → P g → ∀ y ∈ G ++ [g], P y := fun P p1 p2 p3 y hy => by
    rcases List.mem_append.mp hy with q | q
    · exact hG P p1 p2 y q
    · rw [List.mem_singleton.mp q]; exact p3
  have len : (G ++ [g]).length = s.guests.length + 1 := by rw [List.length_append, hl]; rfl
  refine ⟨?_, W.home, all (fun y => y.rank ≤ 10) (fun _ _ h => h) W.rank g1, all (fun y => y.since ≤ 100000) (fun _ _ h => h) W.since g2, all (fun y => y.country ≤ 30) (fun _ _ h => h) W.country g3, all (fun y => y.sex ≤ 1) (fun _ _ h => h) W.sex g4, all (fun y => y.speaks.length ≤ 1300) (fun _ _ h => h) W.speaks g5, ?_, W.apartLen, fun x hx => ?_, W.hostsLen, fun x hx => ?_, W.hostG, W.hostS⟩
  · show (G ++ [g]).length ≤ 9
    rw [len]; omega
  · intro i j hi hw
    have hi : i < (G ++ [g]).length := hi
    show j < (G ++ [g]).length ∧ _
    rw [len] at hi ⊢
    exact hm i j hi hw
  · have := W.apart x hx
    show x.1 < (G ++ [g]).length ∧ x.2 < (G ++ [g]).length ∧ _
    rw [len]
    exact ⟨by omega, by omega, this.2.2⟩
  · rw [show (({ s with guests := G ++ [g] } : Kg75.State).hosts) = [] from hh] at hx
    cases hx
theorem wf_spec {s : Kg75.State} (W : WF s) {c : Kg75.Call} (hc : ∀ r d e x w l, c = .guest r d e x w l → l.length ≤ 1300) : WF (Kg75.spec s c).1 := by
  cases c with
  | begin_ h =>
    show WF (if Kg75.within h 0 30 = false then (s, Kg75.num (-1)) else (freshS h.toNat, Kg75.num 0)).1
    by_cases q : Kg75.within h 0 30 = false
    · rw [if_pos q]; exact W
    · rw [if_neg q]
      unfold Kg75.within at q
      simp only [Bool.not_eq_false, Bool.and_eq_true, decide_eq_true_eq] at q
      exact wf_fresh (by omega)
  | guest r d e x w l =>
    have hl := hc r d e x w l rfl
    let g0 : Kg75.Guest := ⟨r.toNat, d.toNat, e.toNat, x.toNat, if 0 ≤ w then some w.toNat else none, l.map Int.toNat⟩
    show WF (if (Kg75.within r 0 10 && (Kg75.within d 0 100000 && (Kg75.within e 0 30 && (Kg75.within x 0 1 && (Kg75.within w (-1) 99 && (l.all (fun z => Kg75.within z 0 7) && decide l.Nodup)))))) = false then (s, Kg75.num (-1))
      else if s.hosts ≠ [] then (s, Kg75.num (-3))
      else if 9 ≤ s.guests.length then (s, Kg75.num (-5))
      else if 0 ≤ w ∧ (Kg75.isGuest s w = false ∨ (s.guest w.toNat).with_.isSome = true) then (s, Kg75.num (-4))
      else ({ s with guests := (if 0 ≤ w then mateG s.guests w.toNat s.guests.length else s.guests) ++ [g0] }, Kg75.num s.guests.length)).1
    by_cases q1 : (Kg75.within r 0 10 && (Kg75.within d 0 100000 && (Kg75.within e 0 30 && (Kg75.within x 0 1 && (Kg75.within w (-1) 99 && (l.all (fun z => Kg75.within z 0 7) && decide l.Nodup)))))) = false
    · rw [if_pos q1]; exact W
    rw [if_neg q1]
    by_cases q2 : s.hosts ≠ []
    · rw [if_pos q2]; exact W
    rw [if_neg q2]
    by_cases q3 : 9 ≤ s.guests.length
    · rw [if_pos q3]; exact W
    rw [if_neg q3]
    by_cases q4 : 0 ≤ w ∧ (Kg75.isGuest s w = false ∨ (s.guest w.toNat).with_.isSome = true)
    · rw [if_pos q4]; exact W
    rw [if_neg q4]
    unfold Kg75.within at q1
    simp only [Bool.not_eq_false, Bool.and_eq_true, decide_eq_true_eq] at q1
    obtain ⟨b1, b2, b3, b4, b5, _⟩ := q1
    have hh : s.hosts = [] := Classical.not_not.mp q2
    by_cases hw : 0 ≤ w
    · rw [if_pos hw]
      have hig : Kg75.isGuest s w = true := by
        cases z : Kg75.isGuest s w with
        | true => rfl
        | false => exact absurd ⟨hw, .inl z⟩ q4
      have hwn : (s.guest w.toNat).with_ = none := by
        cases z : (s.guest w.toNat).with_ with
        | none => rfl
        | some j => exact absurd ⟨hw, .inr (by rw [z]; rfl)⟩ q4
      have wl := isg_nat hig
      obtain ⟨m, rfl⟩ : ∃ m : Nat, w = m := ⟨w.toNat, by omega⟩
      rw [Int.toNat_natCast] at hwn ⊢
      refine wf_add W (mateG_len _ _ _) (by omega) hh (fun P p1 p2 => mateG_mem p1 p2) (by show r.toNat ≤ 10; omega) (by show d.toNat ≤ 100000; omega) (by show e.toNat ≤ 30; omega) (by show x.toNat ≤ 1; omega) (by show (l.map Int.toNat).length ≤ 1300; rw [List.length_map]; exact hl) ?_
      have gst : ∀ i, (({ s with guests := mateG s.guests m s.guests.length ++ [g0] } : Kg75.State).guest i).with_ = if i < s.guests.length then (if i = m then some s.guests.length else (s.guest i).with_) else if i = s.guests.length then some m else none := fun i => by
        have a := add_guest (s := mate s m s.guests.length) (g := g0) (i := i)
        have ln : (mate s m s.guests.length).guests.length = s.guests.length := mateG_len _ _ _
        rw [ln] at a
        show (({ mate s m s.guests.length with guests := (mate s m s.guests.length).guests ++ [g0] } : Kg75.State).guest i).with_ = _
        rw [a]
        by_cases c : i < s.guests.length
        · rw [if_pos c, if_pos c, mate_guest c]
          by_cases e : i = m
          · rw [if_pos e, if_pos e]
          · rw [if_neg e, if_neg e]
        · rw [if_neg c, if_neg c]
          by_cases e : i = s.guests.length
          · rw [if_pos e, if_pos e]
            show (if (0 : Int) ≤ (m : Int) then some (m : Int).toNat else none) = some m
            rw [if_pos hw, Int.toNat_natCast]
          · rw [if_neg e, if_neg e]
      intro i j hi hij
      rw [gst] at hij
      rw [gst]
      by_cases c : i < s.guests.length
      · rw [if_pos c] at hij
        by_cases e : i = m
        · rw [if_pos e] at hij
          have := Option.some.inj hij
          subst this
          refine ⟨by omega, by omega, ?_⟩
          rw [if_neg (by omega), if_pos rfl, e]
        · rw [if_neg e] at hij
          obtain ⟨h1, h2, h3⟩ := W.mates i j c hij
          refine ⟨by omega, h2, ?_⟩
          have jm : j ≠ m := fun q => by rw [q, hwn] at h3; cases h3
          rw [if_pos h1, if_neg jm]; exact h3
      · rw [if_neg c] at hij
        have e : i = s.guests.length := by omega
        rw [if_pos e] at hij
        have := Option.some.inj hij
        subst this
        refine ⟨by omega, by omega, ?_⟩
        rw [if_pos (by omega), if_pos rfl, e]
    · rw [if_neg hw]
      refine wf_add W rfl (by omega) hh (fun P _ p2 => p2) (by show r.toNat ≤ 10; omega) (by show d.toNat ≤ 100000; omega) (by show e.toNat ≤ 30; omega) (by show x.toNat ≤ 1; omega) (by show (l.map Int.toNat).length ≤ 1300; rw [List.length_map]; exact hl) ?_
      have gst : ∀ i, (({ s with guests := s.guests ++ [g0] } : Kg75.State).guest i).with_ = if i < s.guests.length then (s.guest i).with_ else none := fun i => by
        rw [add_guest]
        by_cases c : i < s.guests.length
        · rw [if_pos c, if_pos c]
        · rw [if_neg c, if_neg c]
          by_cases e : i = s.guests.length
          · rw [if_pos e]
            show (if 0 ≤ w then some w.toNat else none) = none
            rw [if_neg hw]
          · rw [if_neg e]
      intro i j hi hij
      rw [gst] at hij
      rw [gst]
      by_cases c : i < s.guests.length
      · rw [if_pos c] at hij
        obtain ⟨h1, h2, h3⟩ := W.mates i j c hij
        exact ⟨by omega, h2, by rw [if_pos h1]; exact h3⟩
      · rw [if_neg c] at hij; cases hij
  | apart i j =>
    show WF (if (Kg75.isGuest s i && (Kg75.isGuest s j && decide (i ≠ j))) = false then (s, Kg75.num (-1)) else if 40 ≤ s.apart.length then (s, Kg75.num (-5)) else ({ s with apart := s.apart ++ [(i.toNat, j.toNat)] }, Kg75.num (s.apart.length + 1 : Nat))).1
    by_cases q1 : (Kg75.isGuest s i && (Kg75.isGuest s j && decide (i ≠ j))) = false
    · rw [if_pos q1]; exact W
    rw [if_neg q1]
    by_cases q2 : 40 ≤ s.apart.length
    · rw [if_pos q2]; exact W
    rw [if_neg q2]
    simp only [Bool.not_eq_false, Bool.and_eq_true, decide_eq_true_eq] at q1
    have h1 := isg_nat q1.1
    have h2 := isg_nat q1.2.1
    have h3 := q1.2.2
    refine ⟨W.len, W.home, W.rank, W.since, W.country, W.sex, W.speaks, W.mates, ?_, fun x hx => ?_, W.hostsLen, W.hosts, W.hostG, W.hostS⟩
    · show (s.apart ++ [_]).length ≤ 40
      rw [List.length_append, List.length_singleton]; omega
    · rcases List.mem_append.mp (show x ∈ s.apart ++ [(i.toNat, j.toNat)] from hx) with hx | hx
      · exact W.apart x hx
      · rw [List.mem_singleton.mp hx]
        show i.toNat < s.guests.length ∧ j.toNat < s.guests.length ∧ i.toNat ≠ j.toNat
        omega
  | host i k =>
    show WF (if (Kg75.isGuest s i && Kg75.within k 0 ((s.guests.length : Int) - 1)) = false then (s, Kg75.num (-1)) else if 2 ≤ s.hosts.length ∨ (s.hosts.any fun x => x.1 == i.toNat || x.2 == k.toNat) = true then (s, Kg75.num (-4)) else ({ s with hosts := s.hosts ++ [(i.toNat, k.toNat)] }, Kg75.num (s.hosts.length + 1 : Nat))).1
    by_cases q1 : (Kg75.isGuest s i && Kg75.within k 0 ((s.guests.length : Int) - 1)) = false
    · rw [if_pos q1]; exact W
    rw [if_neg q1]
    by_cases q2 : 2 ≤ s.hosts.length ∨ (s.hosts.any fun x => x.1 == i.toNat || x.2 == k.toNat) = true
    · rw [if_pos q2]; exact W
    rw [if_neg q2]
    unfold Kg75.within at q1
    simp only [Bool.not_eq_false, Bool.and_eq_true, decide_eq_true_eq] at q1
    have h1 := isg_nat q1.1
    have n1 : ¬ 2 ≤ s.hosts.length := fun z => q2 (.inl z)
    have n2 : ∀ y ∈ s.hosts, y.1 ≠ i.toNat ∧ y.2 ≠ k.toNat := fun y hy => by
      refine ⟨fun z => q2 (.inr (List.any_eq_true.mpr ⟨y, hy, by simp [z]⟩)), fun z => q2 (.inr (List.any_eq_true.mpr ⟨y, hy, by simp [z]⟩))⟩
    refine ⟨W.len, W.home, W.rank, W.since, W.country, W.sex, W.speaks, W.mates, W.apartLen, W.apart, ?_, fun x hx => ?_, ?_, ?_⟩
    · show (s.hosts ++ [_]).length ≤ 2
      rw [List.length_append, List.length_singleton]; omega
    · rcases List.mem_append.mp (show x ∈ s.hosts ++ [(i.toNat, k.toNat)] from hx) with hx | hx
      · exact W.hosts x hx
      · rw [List.mem_singleton.mp hx]
        show i.toNat < s.guests.length ∧ k.toNat < s.guests.length
        omega
    · show ((s.hosts ++ [(i.toNat, k.toNat)]).map (·.1)).Nodup
      rw [List.map_append, List.nodup_append]
      refine ⟨W.hostG, by simp, fun b hb c hc z => ?_⟩
      obtain ⟨y, hy, rfl⟩ := List.mem_map.mp hb
      have : c = i.toNat := List.mem_singleton.mp hc
      exact (n2 y hy).1 (z.trans this)
    · show ((s.hosts ++ [(i.toNat, k.toNat)]).map (·.2)).Nodup
      rw [List.map_append, List.nodup_append]
      refine ⟨W.hostS, by simp, fun b hb c hc z => ?_⟩
      obtain ⟨y, hy, rfl⟩ := List.mem_map.mp hb
      have : c = k.toNat := List.mem_singleton.mp hc
      exact (n2 y hy).2 (z.trans this)
  | rules a b c d =>
    show WF (if (Kg75.within a 0 1 && (Kg75.within b 0 1 && (Kg75.within c 0 1 && Kg75.within d 0 1))) = false then (s, Kg75.num (-1)) else ({ s with rules := ⟨a == 1, b == 1, c == 1, d == 1⟩ }, Kg75.num 0)).1
    split
    · exact W
    · exact ⟨W.len, W.home, W.rank, W.since, W.country, W.sex, W.speaks, W.mates, W.apartLen, W.apart, W.hostsLen, W.hosts, W.hostG, W.hostS⟩
  | order => exact W
  | seats => exact W
  | plan => exact W
  | check l =>
    unfold Kg75.spec
    dsimp only
    split <;> exact W
  | flags w =>
    unfold Kg75.spec
    dsimp only
    split <;> exact W
/-! ### a call, read -/
def wl (kind : Int) : Bool := inV (.int kind) [.int 2, .int 9]
structure CallOk (c : List (List Int)) (kind : Int) (ws R : List Int) (kc : Kg75.Call) : Prop where
  eq : c = (kind :: ws) :: (if wl kind = true then [R] else [])
  of : Kg75Neutral.callOf c = some kc
  is : CallIs kind ws R kc
  tab : (kind, (ws.length : Int)) ∈ wTable
  len : R.length ≤ 12
  emp : wl kind = false → R = []
theorem row12 {l : List Int} (h : Kg75Neutral.row l 12 = true) : l.length ≤ 12 := by
  unfold Kg75Neutral.row at h
  simp only [Bool.and_eq_true, decide_eq_true_eq] at h
  exact h.2
theorem call_ok {c : List (List Int)} (h : Kg75Neutral.asked1 c = true) : ∃ kind ws R kc, CallOk c kind ws R kc := by
  unfold Kg75Neutral.asked1 at h
  split at h
  · rename_i a; exact ⟨1, [a], [], .begin_ a, rfl, rfl, ⟨rfl, rfl⟩, by show ((1 : Int), (1 : Int)) ∈ wTable; decide, Nat.zero_le _, fun _ => rfl⟩
  · rename_i r d c x w l
    refine ⟨2, [r, d, c, x, w], l, .guest r d c x w l, rfl, rfl, ⟨rfl, rfl, rfl⟩, by show ((2 : Int), (5 : Int)) ∈ wTable; decide, row12 ?_, fun h => by cases h⟩
    simp only [Bool.and_eq_true] at h
    exact h.2.2.2.2.2
  · rename_i i j; exact ⟨3, [i, j], [], .apart i j, rfl, rfl, ⟨rfl, rfl⟩, by show ((3 : Int), (2 : Int)) ∈ wTable; decide, Nat.zero_le _, fun _ => rfl⟩
  · rename_i i j; exact ⟨4, [i, j], [], .host i j, rfl, rfl, ⟨rfl, rfl⟩, by show ((4 : Int), (2 : Int)) ∈ wTable; decide, Nat.zero_le _, fun _ => rfl⟩
  · rename_i a b c d; exact ⟨5, [a, b, c, d], [], .rules a b c d, rfl, rfl, ⟨rfl, rfl⟩, by show ((5 : Int), (4 : Int)) ∈ wTable; decide, Nat.zero_le _, fun _ => rfl⟩
  · exact ⟨6, [], [], .order, rfl, rfl, rfl, by show ((6 : Int), (0 : Int)) ∈ wTable; decide, Nat.zero_le _, fun _ => rfl⟩
  · exact ⟨7, [], [], .seats, rfl, rfl, rfl, by show ((7 : Int), (0 : Int)) ∈ wTable; decide, Nat.zero_le _, fun _ => rfl⟩
  · exact ⟨8, [], [], .plan, rfl, rfl, rfl, by show ((8 : Int), (0 : Int)) ∈ wTable; decide, Nat.zero_le _, fun _ => rfl⟩
  · rename_i l; exact ⟨9, [], l, .check l, rfl, rfl, ⟨rfl, rfl, row12 h⟩, by show ((9 : Int), (0 : Int)) ∈ wTable; decide, row12 h, fun h => by cases h⟩
  · rename_i w; exact ⟨10, [w], [], .flags w, rfl, rfl, ⟨rfl, rfl⟩, by show ((10 : Int), (1 : Int)) ∈ wTable; decide, Nat.zero_le _, fun _ => rfl⟩
  · cases h
theorem whole_id (c : List (List Int)) : PyKg75.whole c = c := by
  unfold PyKg75.whole
  split <;> rfl
/-- the calls, one behind another -/
def stAt (cs : List (List (List Int))) : Kg75.State := cs.foldl (fun s c => (Kg75Neutral.step s c).1) Kg75.init
def outAt (cs : List (List (List Int))) : List Int := PyFlat.told (PyFlat.played Kg75Neutral.step Kg75.init cs)
theorem played_append : ∀ (cs ds : List (List (List Int))) (s : Kg75.State), PyFlat.played Kg75Neutral.step s (cs ++ ds) = PyFlat.played Kg75Neutral.step s cs ++ PyFlat.played Kg75Neutral.step (cs.foldl (fun s c => (Kg75Neutral.step s c).1) s) ds
  | [], ds, s => rfl
  | c :: cs, ds, s => by
    rw [List.cons_append, PyFlat.played, PyFlat.played, played_append cs ds, List.foldl_cons]; rfl
theorem out_snoc (cs : List (List (List Int))) (c : List (List Int)) : outAt (cs ++ [c]) = outAt cs ++ (((Kg75Neutral.step (stAt cs) c).2.length : Int) :: (Kg75Neutral.step (stAt cs) c).2) := by
  unfold outAt
  rw [played_append]
  unfold PyFlat.told
  rw [List.flatMap_append]
  congr 1
  rw [PyFlat.played, PyFlat.played, List.flatMap_cons, List.flatMap_nil, List.append_nil]; rfl
theorem st_snoc (cs : List (List (List Int))) (c : List (List Int)) : stAt (cs ++ [c]) = (Kg75Neutral.step (stAt cs) c).1 := by
  unfold stAt
  rw [List.foldl_append]; rfl
theorem out_len (cs ds : List (List (List Int))) : (outAt cs).length ≤ (outAt (cs ++ ds)).length := by
  unfold outAt
  rw [played_append]
  unfold PyFlat.told
  rw [List.flatMap_append, List.length_append]
  omega
/-- what the asking tells -/
theorem asked_calls {ns : List Int} (h : PyKg75.answers_asked ns = true) : ∃ cs, ns = PyFlat.put cs ∧ (∀ c ∈ cs, Kg75Neutral.asked1 c = true) ∧ PyKg75.answers ns = outAt cs ∧ (outAt cs).length ≤ 10000000 := by
  unfold PyKg75.answers_asked at h
  cases q : PyFlat.calls PyKg75.shape ns.length ns with
  | none => rw [q] at h; cases h
  | some raw =>
    rw [q] at h
    have wid : raw.map PyKg75.whole = raw := by
      rw [List.map_congr_left (g := id) fun c _ => whole_id c, List.map_id]
    simp only [Bool.and_eq_true] at h
    obtain ⟨⟨_, h4⟩, h5⟩ := h
    rw [wid] at h4
    unfold Kg75Neutral.asked at h4
    simp only [Bool.and_eq_true, List.all_eq_true] at h4
    have ans : PyKg75.answers ns = outAt raw := by
      unfold PyKg75.answers PyKg75.calls
      rw [q]
      dsimp only
      rw [wid]; rfl
    rw [ans] at h5
    unfold PyFlat.short at h5
    exact ⟨raw, (PyFlat.put_calls _ _ _ q).1, h4.1, ans, of_decide_eq_true h5⟩
end FsR
namespace FsR
open PySem PySem.Spec PyProof.Rows L2 Evl
open Fs (compI WF)
def sp_answers : PySem.W.Frag → L2.Sp := fun K vs H Q _ => ∃ (a : Addr) (ns : List Int), vs = [.ref a] ∧ SqL K H a (intsV ns) ∧ PyKg75.answers_asked ns = true ∧ ∀ (H' : L2.Hp) (p : Addr), H' p = some (.lst (intsV (PyKg75.answers ns))) → Q (.ref p) H'
section
variable {K : PySem.W.Frag} {mg : Str → Option Value} {ad : Ad} {w : World} {σ : L2.St} {H H' : Hp} {ta tb te tl tv : TE} {a d : Addr} {s : Kg75.State} {p : Parts} {g : TG} {tu tz : TS} {D : Ends} {t : TT}
theorem cut_mid {X Y Z : List V} {i j : Nat} (hi : i = X.length) (hj : j = X.length + Y.length) : cutV (X ++ (Y ++ Z)) (some (i : Int)) (some (j : Int)) = Y := by
  unfold cutV
  rw [HT.sIx_nat, HT.sIx_nat, List.length_append, List.length_append, Nat.min_eq_left (by omega), Nat.min_eq_left (by omega), hi, hj, List.drop_left', show X.length + Y.length - X.length = Y.length by omega, List.take_left']
  · rfl
  · rfl
theorem at_mid {X Z : List V} {v : V} {i : Nat} (hi : i = X.length) : (X ++ (v :: Z))[i]? = some v := by
  rw [hi, List.getElem?_append_right (Nat.le_refl _), Nat.sub_self]; rfl
theorem ints_app (l m : List Int) : intsV (l ++ m) = intsV l ++ intsV m := List.map_append
theorem ints_len (l : List Int) : (intsV l).length = l.length := List.length_map ..
theorem sz10 {n : Nat} (h : n ≤ 10000001) : n < sizeLine := by rw [sizeLine_eq]; omega
theorem q_appS {l : Addr} {xs : List V} {v : V} (hl : H l = some (.lst xs)) (ha : Ev ta σ H (.ref l)) (h : Ev te σ H v) (hz : xs.length < sizeLine) (k : ∀ H1, Ex H H1 → tz D σ (upd H1 l (.lst (xs ++ [v])))) : tSeq (tDrop (tBM K "list" rAppend ta (tCons te tNil))) tz D σ H := ha H (Ex.refl H) _ fun H1 e1 =>
  ⟨Or.inl ⟨rfl, xs, sq_of (e1 l _ hl)⟩, h H1 e1 _ fun H2 e2 => ⟨l, xs, v, rfl, rfl, e2 l _ (e1 l _ hl), hz, k H2 (e1.trans e2)⟩⟩
theorem rv_whole (T : Txt K mg ad) {k n : Int} (h : (k, n) ∈ wTable) : RV (rIxKI K) (.ref ad.W) (.int k) H (.int n) := fun H1 e Q q => by
  obtain ⟨es, m, lk, lit, tab⟩ := T.dW
  obtain ⟨u, fd, r⟩ := tab _ h
  exact ⟨ad.W, k, .int n, es, m, u, rfl, rfl, lk, lit, fd, r, q H1 (Ex.refl H1)⟩
/-- the desk in hand, the answers so far -/
structure Run (ad : Ad) (H0 H : Hp) (d lf : Addr) (pre : List (List (List Int))) (a : Addr) (p : Parts) : Prop where
  hd : DeskP ad (off [lf] H) d a (stAt pre) p
  wf : WF (stAt pre)
  ex : Ex H0 H
  fr : ∀ b ∈ lf :: d :: p.mut a, H0 b = none
  fo : H lf = some (.lst (intsV (outAt pre)))
theorem Run.ex' {H0 : Hp} {lf : Addr} {pre : List (List (List Int))} (h : Run ad H0 H d lf pre a p) (e : Ex H H') : Run ad H0 H' d lf pre a p := ⟨h.hd.ex (off_ex e), h.wf, h.ex.trans e, h.fr, e _ _ h.fo⟩
theorem DeskP.live {lf : Addr} (h : DeskP ad (off [lf] H) d a s p) : (∀ b ∈ d :: p.mut a, H b ≠ none) ∧ lf ∉ d :: p.mut a := by
  obtain ⟨⟨dx, q1⟩, q2, q3⟩ := h
  have l1 : ∀ b ∈ d :: p.mut a, off [lf] H b ≠ none := fun b hb => by
    rcases List.mem_cons.mp hb with rfl | hb
    · rw [q1]; exact Option.some_ne_none _
    · exact q2.live b hb
  refine ⟨fun b hb => ?_, fun hb => ?_⟩
  · obtain ⟨u, hu⟩ := Option.ne_none_iff_exists'.mp (l1 b hb)
    rw [(off_get hu).1]; exact Option.some_ne_none _
  · obtain ⟨u, hu⟩ := Option.ne_none_iff_exists'.mp (l1 lf hb)
    exact (off_get hu).2 (List.mem_singleton.mpr rfl)
theorem rd_answers (T : Txt K mg ad) (vs : List V) (H : Hp) (Q : VK) (E : XK) (h : sp_answers K vs H Q E) : t_answers w K ad { nx := fun _ H' => Q .non H', rt := Q } (start N_answers vs) H := by
  obtain ⟨a0, ns, rfl, hq, hask, kk⟩ := h
  obtain ⟨cs, hns, hcs, hans, hsz⟩ := asked_calls hask
  refine q_asgE (te_make ?_)
  show ∀ x dx, _
  intro x dx hx hdx hne
  refine ⟨x, dx, rfl, upd_same, fun H1 a p hd eF hb => ⟨rfl, ?_⟩⟩
  have m := make_ex (C := ad.D) hx hdx
  have x1 : Ex H H1 := m.trans eF
  have fr1 : ∀ b ∈ p.mut a, H b = none := fun b q => by
    cases z : H b with
    | none => rfl
    | some u => have := hb b q; rw [(off_get (m _ _ z)).1] at this; cases this
  show tSeq _ _ _ [some (.ref a0), some (.ref x), none, none, none, none, none, none, none, none] H1
  refine q_asgL el_nil fun lf H2 hlf x2 h2 => ?_
  have e2 : Ex H1 (off [lf] H2) := fun b o q => off_of (x2 _ _ q) fun z => by rw [List.mem_singleton.mp z, hlf] at q; cases q
  refine q_asg (v := .int (0 : Int)) ev_c fun H3 x3 => ?_
  have run0 : Run ad H H3 x lf [] a p := Run.ex' (H := H2) ⟨hd.ex e2, wf_init, x1.trans x2, fun b hb => by
    rcases List.mem_cons.mp hb with rfl | hb
    · exact fresh_back x1 hlf
    · rcases List.mem_cons.mp hb with rfl | hb
      · exact hx
      · exact fr1 b hb, h2⟩ x3
  refine q_while (fun m σ' H' => ∃ pre rest, cs = pre ++ rest ∧ rest.length = m ∧ (∃ v4 v5 v6 v7 v8 v9, σ' = [some (.ref a0), some (.ref x), some (.ref lf), some (.int ((PyFlat.put pre).length : Int)), v4, v5, v6, v7, v8, v9]) ∧ ∃ a p, Run ad H H' x lf pre a p) cs.length
    ⟨[], cs, rfl, rfl, ⟨_, _, _, _, _, _, rfl⟩, a, p, run0⟩ ?_
  rintro m σ' H4 ⟨pre, rest, hpr, hm, ⟨v4, v5, v6, v7, v8, v9, rfl⟩, a, p, run⟩
  have put_app : ∀ A B : List (List (List Int)), PyFlat.put (A ++ B) = PyFlat.put A ++ PyFlat.put B := fun A B => by
    induction A with
    | nil => rfl
    | cons c A ih => rw [List.cons_append, PyFlat.put, PyFlat.put, ih, List.append_assoc]
  have hq4 := ex_l run.ex hq
  refine ⟨decide (((PyFlat.put pre).length : Int) < (ns.length : Int)), et_test (ev_op (ev_var (i := 3) rfl) (ev_is (ev_len (ev_var (i := 0) rfl) hq4) (by rw [ints_len])) rv_I0), fun hlt H5 x5 => ?_, fun hlt H5 x5 => ?_⟩
  · have hlt := of_decide_eq_true hlt
    cases rest with
    | nil =>
      rw [List.append_nil] at hpr
      rw [hns, hpr] at hlt
      omega
    | cons c rest =>
      subst hm
      have hc := hcs c (by rw [hpr]; exact List.mem_append_right _ List.mem_cons_self)
      obtain ⟨kind, ws, R, kc, ok⟩ := call_ok hc
      have run := run.ex' x5
      have hq5 := ex_l run.ex hq
      -- the list, laid out
      let A := PyFlat.put pre
      have c1 : PyFlat.put1 c = kind :: (ws ++ PyFlat.putRows (if wl kind = true then [R] else [])) := by rw [ok.eq]; rfl
      have lay : ns = A ++ (kind :: (ws ++ (PyFlat.putRows (if wl kind = true then [R] else []) ++ PyFlat.put rest))) := by
        rw [hns, hpr, put_app]
        show A ++ (PyFlat.put1 c ++ PyFlat.put rest) = _
        rw [c1, List.cons_append, List.append_assoc]
      have lenNext : (PyFlat.put (pre ++ [c])).length = A.length + 1 + ws.length + (PyFlat.putRows (if wl kind = true then [R] else [])).length := by
        rw [put_app]
        show (A ++ (PyFlat.put1 c ++ [])).length = _
        rw [List.append_nil, c1, List.length_append, List.length_cons, List.length_append]
        omega
      have stp2 : Kg75Neutral.step (stAt pre) c = ((Kg75.spec (stAt pre) kc).1, (Kg75.spec (stAt pre) kc).2.value :: (Kg75.spec (stAt pre) kc).2.out) := by
        unfold Kg75Neutral.step
        rw [ok.of]
      have outN : outAt (pre ++ [c]) = outAt pre ++ ((((Kg75.spec (stAt pre) kc).2.value :: (Kg75.spec (stAt pre) kc).2.out).length : Int) :: ((Kg75.spec (stAt pre) kc).2.value :: (Kg75.spec (stAt pre) kc).2.out)) := by
        rw [out_snoc, stp2]
      have stN : stAt (pre ++ [c]) = (Kg75.spec (stAt pre) kc).1 := by rw [st_snoc, stp2]
      have szN : (outAt (pre ++ [c])).length ≤ 10000000 := by
        refine Nat.le_trans (out_len (pre ++ [c]) rest) ?_
        rw [List.append_assoc]
        show (outAt (pre ++ (c :: rest))).length ≤ _
        rw [← hpr]; exact hsz
      have wfN : WF (stAt (pre ++ [c])) := by
        rw [stN]
        refine wf_spec run.wf fun r d e x w l he => ?_
        have := ok.is
        rw [he] at this
        have h12 := ok.len
        rw [this.2.2] at h12
        omega
      refine ⟨fun σ' H' => ∃ v4 v5 v6 v7 v8 v9, σ' = [some (.ref a0), some (.ref x), some (.ref lf), some (.int ((PyFlat.put (pre ++ [c])).length : Int)), v4, v5, v6, v7, v8, v9] ∧ ∃ a p, Run ad H H' x lf (pre ++ [c]) a p, ?_, ?_⟩
      · rintro σ2 H6 ⟨v4, v5, v6, v7, v8, v9, rfl, a, p, r⟩
        exact ⟨rest.length, by rw [List.length_cons]; omega, pre ++ [c], rest, by rw [List.append_assoc]; exact hpr, rfl, ⟨_, _, _, _, _, _, rfl⟩, a, p, r⟩
      · -- kind
        refine q_asg (v := .int kind) (ev_op (ev_var (i := 0) rfl) (ev_var (i := 3) rfl) (rv_ixL hq5 (atI_nat (by rw [lay, ints_app]; exact at_mid (by rw [ints_len]))))) fun H6 x6 => ?_
        have run := run.ex' x6
        refine q_asg (v := .int ((A.length + 1 + ws.length : Nat) : Int)) (ev_is (ev_op (ev_op (ev_var (i := 3) rfl) ev_c rv_I0) (ev_op ev_c (ev_var (i := 4) rfl) (rv_whole T ok.tab)) rv_I0) (congrArg V.int (by show ((A.length : Int) + 1) + (ws.length : Int) = _; omega))) fun H7 x7 => ?_
        have run := run.ex' x7
        have hq7 := ex_l run.ex hq
        have cutW : cutV (intsV ns) (some ((A.length + 1 : Nat) : Int)) (some ((A.length + 1 + ws.length : Nat) : Int)) = intsV ws := by
          have e : intsV ns = intsV (A ++ [kind]) ++ (intsV ws ++ intsV (PyFlat.putRows (if wl kind = true then [R] else []) ++ PyFlat.put rest)) := by
            rw [← ints_app, ← ints_app, List.append_assoc, lay]; rfl
          rw [e]
          exact cut_mid (by rw [ints_len, List.length_append]; rfl) (by rw [ints_len, ints_len, List.length_append]; rfl)
        have sl1 : EvL (L2.tSl (rSlL K) (tVar 0) (tPart (tOp rAddI (tVar 3) (tC (.int 1)))) (tPart (tVar 5))) [some (.ref a0), some (.ref x), some (.ref lf), some (.int (A.length : Int)), some (.int kind), some (.int ((A.length + 1 + ws.length : Nat) : Int)), v6, v7, v8, v9] H7 (intsV ws) := by
          rw [← cutW]
          exact el_sl (ev_var (i := 0) rfl) (eo_some (ev_is (ev_op (ev_var (i := 3) rfl) ev_c rv_I0) (congrArg V.int (by show (A.length : Int) + 1 = _; omega)))) (eo_some (ev_var (i := 5) rfl)) hq7
        refine q_asgL sl1 fun lw H8 hlw x8 h8 => ?_
        have run8 := run.ex' x8
        refine q_asgL el_nil fun lr H9 hlr x9 h9 => ?_
        have run9 := run8.ex' x9
        have lv7 := DeskP.live run.hd
        have lv8 := DeskP.live run8.hd
        have lwn : lw ∉ x :: p.mut a := fun q => lv7.1 _ q hlw
        -- the call, and what follows
        have fin : ∀ (H10 : Hp) (lr : Addr) (v8 : Option V), Run ad H H10 x lf pre a p → off (x :: p.mut a) H10 lw = some (.lst (intsV ws)) → off (x :: p.mut a) H10 lr = some (.lst (intsV R)) →
            tSeq (tAsg (tCallF (sp_answered K ad) (tCons (tVar 1) (tCons (tVar 4) (tCons (tVar 6) (tCons (tVar 7) tNil))))) (gName 9)) (tSeq (tDrop (tBM K "list" rAppend (tVar 2) (tCons (tCB (rLenS K) (tCons (tVar 9) tNil)) tNil))) (tSeq (tDrop (tBM K "list" rExtend (tVar 2) (tCons (tVar 9) tNil))) (tAsg (tVar 5) (gName 3))))
              { nx := fun σ' H' => ∃ v4 v5 v6 v7 v8 v9, σ' = [some (.ref a0), some (.ref x), some (.ref lf), some (.int ((PyFlat.put (pre ++ [c])).length : Int)), v4, v5, v6, v7, v8, v9] ∧ ∃ a p, Run ad H H' x lf (pre ++ [c]) a p, rt := Q, bk := (tRet (tVar 2)) { nx := fun _ H' => Q .non H', rt := Q }, ct := fun σ' H' => ∃ v4 v5 v6 v7 v8 v9, σ' = [some (.ref a0), some (.ref x), some (.ref lf), some (.int ((PyFlat.put (pre ++ [c])).length : Int)), v4, v5, v6, v7, v8, v9] ∧ ∃ a p, Run ad H H' x lf (pre ++ [c]) a p }
              [some (.ref a0), some (.ref x), some (.ref lf), some (.int (A.length : Int)), some (.int kind), some (.int ((PyFlat.put (pre ++ [c])).length : Int)), some (.ref lw), some (.ref lr), v8, v9] H10 := by
          intro H10 lr v8 run10 hw hr
          refine q_asgC (vs := [.ref x, .int kind, .ref lw, .ref lr]) (ea_cons (ev_var (i := 1) rfl) (ea_cons (ev_var (i := 4) rfl) (ea_cons (ev_var (i := 6) rfl) (ea_cons (ev_var (i := 7) rfl) ea_nil)))) fun H11 x11 => ?_
          have run11 := run10.ex' x11
          have lv := DeskP.live run11.hd
          refine sp_answered_of (run11.hd.ex ex_off) run11.wf (sq_of (off_ex x11 _ _ hw)) (sq_of (off_ex x11 _ _ hr)) (by have := ok.len; omega) ok.is fun H12 r a2 p2 hd2 eF hb hr0 h12 fr => ?_
          have hlf11 := run11.fo
          have hlf12 : H12 lf = some (.lst (intsV (outAt pre))) := eF.ex hlf11 lv.2
          have hd12 := fr [lf] (fun b hb => by rw [List.mem_singleton.mp hb, hlf11]; exact Option.some_ne_none _) run11.hd
          have rlf : r ≠ lf := fun z => by rw [z, hlf11] at hr0; cases hr0
          rw [← stN] at hd12
          have ansE : ansV (Kg75.spec (stAt pre) kc).2 = intsV ((Kg75.spec (stAt pre) kc).2.value :: (Kg75.spec (stAt pre) kc).2.out) := rfl
          rw [ansE] at h12
          have o1 : (outAt pre).length + 1 + ((Kg75.spec (stAt pre) kc).2.value :: (Kg75.spec (stAt pre) kc).2.out).length ≤ 10000000 := by
            rw [outN, List.length_append, List.length_cons] at szN
            omega
          generalize (Kg75.spec (stAt pre) kc).2.value :: (Kg75.spec (stAt pre) kc).2.out = an at h12 o1 outN
          show tSeq _ _ _ [some (.ref a0), some (.ref x), some (.ref lf), some (.int (A.length : Int)), some (.int kind), some (.int ((PyFlat.put (pre ++ [c])).length : Int)), some (.ref lw), some (.ref lr), v8, some (.ref r)] H12
          refine q_appS hlf12 (ev_var (i := 2) rfl) (ev_is (ev_len (ev_var (i := 9) rfl) (sq_of h12)) (by rw [ints_len])) (sz10 (by rw [ints_len]; omega)) fun H13 x13 => ?_
          have k13 : (upd H13 lf (.lst (intsV (outAt pre) ++ [V.int (an.length : Int)]))) r = some (.lst (intsV an)) := by rw [upd_ne rlf]; exact x13 _ _ h12
          refine q_ext upd_same (ev_var (i := 2) rfl) (ev_var (i := 9) rfl) k13 (Nat.le_of_lt (sz10 (by rw [List.length_append, ints_len, ints_len, List.length_singleton]; omega))) fun H14 x14 => ?_
          refine s_asg (ev_var (i := 5) rfl) fun H15 x15 => ?_
          refine ⟨_, _, _, _, _, _, rfl, a2, p2, Run.ex' (H := upd H14 lf (.lst (intsV (outAt pre) ++ [V.int (an.length : Int)] ++ intsV an))) ⟨?_, wfN, ?_, ?_, ?_⟩ x15⟩
          · rw [off_upd (List.mem_singleton.mpr rfl)]
            refine hd12.ex ?_
            refine Ex.trans (off_ex x13) ?_
            have := off_ex (F := [lf]) x14
            rw [off_upd (List.mem_singleton.mpr rfl)] at this
            exact this
          · -- what was there at first
            have y12 : Ex H H12 := fun b o q => eF.ex (run11.ex _ _ q) fun z => by
              have := run11.fr b (List.mem_cons_of_mem _ z)
              rw [this] at q; cases q
            have lf0 : H lf = none := run11.fr lf List.mem_cons_self
            have z1 : Ex H (upd H13 lf (.lst (intsV (outAt pre) ++ [V.int (an.length : Int)]))) := Ex.mut (y12.trans x13) lf0
            exact Ex.mut (z1.trans x14) lf0
          · intro b hb'
            rcases List.mem_cons.mp hb' with rfl | hb'
            · exact run11.fr _ List.mem_cons_self
            · rcases List.mem_cons.mp hb' with rfl | hb'
              · exact run11.fr _ (List.mem_cons_of_mem _ List.mem_cons_self)
              · rcases hb b hb' with q | q
                · exact run11.fr b (List.mem_cons_of_mem _ (List.mem_cons_of_mem _ q))
                · exact fresh_back run11.ex q
          · rw [upd_same, outN, ints_app, List.append_assoc]; rfl
        have ew : off (x :: p.mut a) H9 lw = some (.lst (intsV ws)) := off_of (x9 _ _ h8) lwn
        have isT : Ev (tOp (rIn K false) (tVar 4) (tC (.ref ad.T))) [some (.ref a0), some (.ref x), some (.ref lf), some (.int (A.length : Int)), some (.int kind), some (.int ((A.length + 1 + ws.length : Nat) : Int)), some (.ref lw), some (.ref lr), v8, v9] H9 (.bl (wl kind)) := ev_op (ev_var (i := 4) rfl) ev_c (rv_isT (T.tW H9) rfl rfl)
        refine q_when (et_test isT) (fun hb H10 x10 => ?_) fun hb H10 x10 => ?_
        · rw [if_pos hb] at lay lenNext
          have rows1 : PyFlat.putRows [R] = (R.length : Int) :: R := by
            show (R.length : Int) :: R ++ [] = _
            rw [List.append_nil]
          rw [rows1] at lay lenNext
          have run10 := run9.ex' x10
          refine q_asg (v := .int ((A.length + 1 + ws.length + 1 : Nat) : Int)) (ev_is (ev_op (ev_var (i := 5) rfl) ev_c rv_I0) (congrArg V.int (by show ((A.length + 1 + ws.length : Nat) : Int) + 1 = _; omega))) fun H11 x11 => ?_
          have run11 := run10.ex' x11
          have hq11 := ex_l run11.ex hq
          have e1 : intsV ns = intsV (A ++ (kind :: ws)) ++ (V.int (R.length : Int) :: intsV (R ++ PyFlat.put rest)) := by
            rw [lay]
            show intsV _ = intsV _ ++ intsV ((R.length : Int) :: (R ++ PyFlat.put rest))
            rw [← ints_app, List.append_assoc]; rfl
          refine q_asg (v := .int ((A.length + 1 + ws.length + 1 + R.length : Nat) : Int)) (ev_is (ev_op (ev_var (i := 8) rfl) (ev_op (ev_var (i := 0) rfl) (ev_var (i := 5) rfl) (rv_ixL (v := .int (R.length : Int)) hq11 (atI_nat (by
            rw [e1]
            exact at_mid (by rw [ints_len, List.length_append, List.length_cons]; omega))))) rv_I0) (congrArg V.int (by show ((A.length + 1 + ws.length + 1 : Nat) : Int) + (R.length : Int) = _; omega))) fun H12 x12 => ?_
          have run12 := run11.ex' x12
          have hq12 := ex_l run12.ex hq
          have cutR : cutV (intsV ns) (some ((A.length + 1 + ws.length + 1 : Nat) : Int)) (some ((A.length + 1 + ws.length + 1 + R.length : Nat) : Int)) = intsV R := by
            have e : intsV ns = intsV (A ++ (kind :: ws) ++ [(R.length : Int)]) ++ (intsV R ++ intsV (PyFlat.put rest)) := by
              rw [← ints_app, ← ints_app, lay]
              simp
            rw [e]
            have l0 : (A ++ (kind :: ws) ++ [(R.length : Int)]).length = A.length + 1 + ws.length + 1 := by
              rw [List.length_append, List.length_append, List.length_cons, List.length_singleton]; omega
            exact cut_mid (by rw [ints_len, l0]) (by rw [ints_len, ints_len, l0])
          have sl2 : EvL (L2.tSl (rSlL K) (tVar 0) (tPart (tVar 8)) (tPart (tVar 5))) [some (.ref a0), some (.ref x), some (.ref lf), some (.int (A.length : Int)), some (.int kind), some (.int ((A.length + 1 + ws.length + 1 + R.length : Nat) : Int)), some (.ref lw), some (.ref lr), some (.int ((A.length + 1 + ws.length + 1 : Nat) : Int)), v9] H12 (intsV R) := by
            rw [← cutR]
            exact el_sl (ev_var (i := 0) rfl) (eo_some (ev_var (i := 8) rfl)) (eo_some (ev_var (i := 5) rfl)) hq12
          refine s_asgL sl2 fun lr2 H13 hlr2 x13 h13 => ?_
          have lv12 := DeskP.live run12.hd
          have f := fin H13 lr2 (some (.int ((A.length + 1 + ws.length + 1 : Nat) : Int))) (run12.ex' x13) (off_ex (((x10.trans x11).trans x12).trans x13) _ _ ew) (off_of h13 fun q => lv12.1 _ q hlr2)
          have l9 : (PyFlat.put (pre ++ [c])).length = A.length + 1 + ws.length + 1 + R.length := by rw [lenNext, List.length_cons]; omega
          rw [l9] at f ⊢
          exact f
        · have hb' : ¬ wl kind = true := by rw [hb]; decide
          rw [if_neg hb'] at lay lenNext
          have R0 := ok.emp hb
          have l9 : (PyFlat.put (pre ++ [c])).length = A.length + 1 + ws.length := by rw [lenNext]; rfl
          have f := fin H10 lr v8 (run9.ex' x10) (off_ex x10 _ _ ew) (off_ex x10 _ _ (off_of (by rw [R0]; exact h9) fun q => lv8.1 _ q hlr))
          rw [l9] at f ⊢
          exact f
  · have hlt := of_decide_eq_false hlt
    have hr : rest = [] := by
      cases rest with
      | nil => rfl
      | cons c rest =>
        exfalso
        have hc := hcs c (by rw [hpr]; exact List.mem_append_right _ List.mem_cons_self)
        obtain ⟨kind, ws, R, kc, ok⟩ := call_ok hc
        apply hlt
        rw [hns, hpr, put_app]
        show ((PyFlat.put pre).length : Int) < ((PyFlat.put pre ++ (PyFlat.put1 c ++ PyFlat.put rest)).length : Int)
        rw [ok.eq]
        show ((PyFlat.put pre).length : Int) < ((PyFlat.put pre ++ (((kind :: ws) ++ _) ++ PyFlat.put rest)).length : Int)
        rw [List.length_append, List.length_append, List.length_append, List.length_cons]
        omega
    rw [hr, List.append_nil] at hpr
    refine s_ret (ev_var (i := 2) rfl) fun H6 x6 => kk H6 lf ?_
    rw [x6 _ _ (x5 _ _ run.fo), hans, hpr]
end
end FsR
namespace FsR
open PySem PySem.Spec PyProof.Rows L2 Evl
/-! ### the join (printed by gen_end.py) -/
/-- a def of the module, found -/
def FnF (K : PySem.W.Frag) (mg : Str → Option Value) (x : Str) (st : Stmt) : Prop := ∃ f fd, mg x = some (.ref f) ∧ Fun K x x st f fd
/-- a class of the module, found -/
structure ClF (K : PySem.W.Frag) (mg : Str → Option Value) (x qual : Str) (st : Stmt) (ats : List Str) (C : Addr) : Prop where
  at_ : mg x = some (.ref C)
  cls : Cls K C
  ats_ : ∀ z ∈ ats, NoAttr K C z
  mk_ : ∃ f fd, Mk K C f ∧ Fun K "__init__" qual st f fd
section
variable {P : Program} {w : World} {K : PySem.W.Frag} {h base : Heap} {mg : Str → Option Value}
theorem fn_fact {x : Str} {st : Stmt} {f : Addr} {oc : Value} {od an : Option Addr} {osl : Array (Option Value)} {kV dc pm cdv ct : Value} (X : K.In h) (G : h.Ns mainGlobals mg) (a : PySem.W.nsIn K mainGlobals x = some (some (.ref f)))
    (l : K.lookup f = some ⟨oc, od, .func (PySem.W.fnOf x x (defArgs st) (defBody st) (defScope st) .none kV dc pm an cdv ct), osl⟩) (c : PySem.W.codeIn K cdv x = true) (k : PySem.W.keepIn K (.ref f) = true) : FnF K mg x st := ⟨f, _, PySem.W.mg_of X G a, fun_mk l c k⟩
theorem ci_fact {x : Str} {i : Int} {t : Nat} (X : K.In h) (G : h.Ns mainGlobals mg) (a : PySem.W.nsIn K mainGlobals x = some (some (.int i t))) : CI mg x i := ⟨t, PySem.W.mg_of X G a⟩
theorem cls_fact_Guest {C f : Addr} {oc : Value} {od an : Option Addr} {osl : Array (Option Value)} {kV dc pm cdv ct : Value} (X : K.In h) (G : h.Ns mainGlobals mg) (a : PySem.W.nsIn K mainGlobals "Guest" = some (some (.ref C)))
    (pg : PySem.W.plainGet K C Str.empty = true) (hd : PySem.W.hasDictIn K C = true) (po : PySem.W.plainOver K C = true) (sa : PySem.W.findIn K (.ref C) "__setattr__" = some (some (.builtin "object.__setattr__"))) (mk : PySem.W.makesIn K C = true) (ai : PySem.W.findIn K (.ref C) "__init__" = some (some (.ref f)))
    (ifn : PySem.W.isFn K (.ref f) = true) (kc : PySem.W.keepIn K (.ref C) = true) (l : K.lookup f = some ⟨oc, od, .func (PySem.W.fnOf "__init__" "Guest.__init__" (defArgs st_Guest) (defBody st_Guest) (defScope st_Guest) .none kV dc pm an cdv ct), osl⟩) (c : PySem.W.codeIn K cdv "Guest.__init__" = true) (k : PySem.W.keepIn K (.ref f) = true)
    (n_rank : PySem.W.findIn K (.ref C) "rank" = some none) (n_day : PySem.W.findIn K (.ref C) "day" = some none) (n_country : PySem.W.findIn K (.ref C) "country" = some none) (n_sex : PySem.W.findIn K (.ref C) "sex" = some none) (n_companion : PySem.W.findIn K (.ref C) "companion" = some none) (n_languages : PySem.W.findIn K (.ref C) "languages" = some none) : ClF K mg "Guest" "Guest.__init__" st_Guest ["rank", "day", "country", "sex", "companion", "languages"] C :=
  ⟨PySem.W.mg_of X G a, ⟨pg, hd, po, sa⟩, fun z hz => by
    simp only [List.mem_cons, List.not_mem_nil, or_false] at hz
    rcases hz with rfl | rfl | rfl | rfl | rfl | rfl
    · exact n_rank
    · exact n_day
    · exact n_country
    · exact n_sex
    · exact n_companion
    · exact n_languages, f, _, ⟨mk, ai, ifn, kc⟩, fun_mk l c k⟩
theorem cls_fact_House {C f : Addr} {oc : Value} {od an : Option Addr} {osl : Array (Option Value)} {kV dc pm cdv ct : Value} (X : K.In h) (G : h.Ns mainGlobals mg) (a : PySem.W.nsIn K mainGlobals "House" = some (some (.ref C)))
    (pg : PySem.W.plainGet K C Str.empty = true) (hd : PySem.W.hasDictIn K C = true) (po : PySem.W.plainOver K C = true) (sa : PySem.W.findIn K (.ref C) "__setattr__" = some (some (.builtin "object.__setattr__"))) (mk : PySem.W.makesIn K C = true) (ai : PySem.W.findIn K (.ref C) "__init__" = some (some (.ref f)))
    (ifn : PySem.W.isFn K (.ref f) = true) (kc : PySem.W.keepIn K (.ref C) = true) (l : K.lookup f = some ⟨oc, od, .func (PySem.W.fnOf "__init__" "House.__init__" (defArgs st_House) (defBody st_House) (defScope st_House) .none kV dc pm an cdv ct), osl⟩) (c : PySem.W.codeIn K cdv "House.__init__" = true) (k : PySem.W.keepIn K (.ref f) = true)
    (n_country : PySem.W.findIn K (.ref C) "country" = some none) (n_guests : PySem.W.findIn K (.ref C) "guests" = some none) (n_apart : PySem.W.findIn K (.ref C) "apart" = some none) (n_hosts : PySem.W.findIn K (.ref C) "hosts" = some none) (n_rules : PySem.W.findIn K (.ref C) "rules" = some none) : ClF K mg "House" "House.__init__" st_House ["country", "guests", "apart", "hosts", "rules"] C :=
  ⟨PySem.W.mg_of X G a, ⟨pg, hd, po, sa⟩, fun z hz => by
    simp only [List.mem_cons, List.not_mem_nil, or_false] at hz
    rcases hz with rfl | rfl | rfl | rfl | rfl
    · exact n_country
    · exact n_guests
    · exact n_apart
    · exact n_hosts
    · exact n_rules, f, _, ⟨mk, ai, ifn, kc⟩, fun_mk l c k⟩
theorem cls_fact_Search {C f : Addr} {oc : Value} {od an : Option Addr} {osl : Array (Option Value)} {kV dc pm cdv ct : Value} (X : K.In h) (G : h.Ns mainGlobals mg) (a : PySem.W.nsIn K mainGlobals "Search" = some (some (.ref C)))
    (pg : PySem.W.plainGet K C Str.empty = true) (hd : PySem.W.hasDictIn K C = true) (po : PySem.W.plainOver K C = true) (sa : PySem.W.findIn K (.ref C) "__setattr__" = some (some (.builtin "object.__setattr__"))) (mk : PySem.W.makesIn K C = true) (ai : PySem.W.findIn K (.ref C) "__init__" = some (some (.ref f)))
    (ifn : PySem.W.isFn K (.ref f) = true) (kc : PySem.W.keepIn K (.ref C) = true) (l : K.lookup f = some ⟨oc, od, .func (PySem.W.fnOf "__init__" "Search.__init__" (defArgs st_Search) (defBody st_Search) (defScope st_Search) .none kV dc pm an cdv ct), osl⟩) (c : PySem.W.codeIn K cdv "Search.__init__" = true) (k : PySem.W.keepIn K (.ref f) = true)
    (n_house : PySem.W.findIn K (.ref C) "house" = some none) (n_guests : PySem.W.findIn K (.ref C) "guests" = some none) (n_seats : PySem.W.findIn K (.ref C) "seats" = some none) (n_barred : PySem.W.findIn K (.ref C) "barred" = some none) (n_shared : PySem.W.findIn K (.ref C) "shared" = some none) (n_sitting : PySem.W.findIn K (.ref C) "sitting" = some none) : ClF K mg "Search" "Search.__init__" st_Search ["house", "guests", "seats", "barred", "shared", "sitting"] C :=
  ⟨PySem.W.mg_of X G a, ⟨pg, hd, po, sa⟩, fun z hz => by
    simp only [List.mem_cons, List.not_mem_nil, or_false] at hz
    rcases hz with rfl | rfl | rfl | rfl | rfl | rfl
    · exact n_house
    · exact n_guests
    · exact n_seats
    · exact n_barred
    · exact n_shared
    · exact n_sitting, f, _, ⟨mk, ai, ifn, kc⟩, fun_mk l c k⟩
theorem cls_fact_Desk {C f : Addr} {oc : Value} {od an : Option Addr} {osl : Array (Option Value)} {kV dc pm cdv ct : Value} (X : K.In h) (G : h.Ns mainGlobals mg) (a : PySem.W.nsIn K mainGlobals "Desk" = some (some (.ref C)))
    (pg : PySem.W.plainGet K C Str.empty = true) (hd : PySem.W.hasDictIn K C = true) (po : PySem.W.plainOver K C = true) (sa : PySem.W.findIn K (.ref C) "__setattr__" = some (some (.builtin "object.__setattr__"))) (mk : PySem.W.makesIn K C = true) (ai : PySem.W.findIn K (.ref C) "__init__" = some (some (.ref f)))
    (ifn : PySem.W.isFn K (.ref f) = true) (kc : PySem.W.keepIn K (.ref C) = true) (l : K.lookup f = some ⟨oc, od, .func (PySem.W.fnOf "__init__" "Desk.__init__" (defArgs st_Desk) (defBody st_Desk) (defScope st_Desk) .none kV dc pm an cdv ct), osl⟩) (c : PySem.W.codeIn K cdv "Desk.__init__" = true) (k : PySem.W.keepIn K (.ref f) = true)
    (n_house : PySem.W.findIn K (.ref C) "house" = some none) : ClF K mg "Desk" "Desk.__init__" st_Desk ["house"] C :=
  ⟨PySem.W.mg_of X G a, ⟨pg, hd, po, sa⟩, fun z hz => by
    simp only [List.mem_cons, List.not_mem_nil, or_false] at hz
    subst hz
    exact n_house, f, _, ⟨mk, ai, ifn, kc⟩, fun_mk l c k⟩
theorem wholes_fact {W : Addr} {a1 b1 a2 b2 a3 b3 a4 b4 a5 b5 a6 b6 a7 b7 a8 b8 a9 b9 a10 b10 : Nat} (l : K.lookup W = some ⟨.type "dict", none, .dict #[⟨1, .int 1 a1, .int 1 b1⟩, ⟨2, .int 2 a2, .int 5 b2⟩, ⟨3, .int 3 a3, .int 2 b3⟩, ⟨4, .int 4 a4, .int 2 b4⟩, ⟨5, .int 5 a5, .int 4 b5⟩, ⟨6, .int 6 a6, .int 0 b6⟩, ⟨7, .int 7 a7, .int 0 b7⟩, ⟨8, .int 8 a8, .int 0 b8⟩, ⟨9, .int 9 a9, .int 0 b9⟩, ⟨10, .int 10 a10, .int 1 b10⟩] 10, #[]⟩) :
    ∃ es n, K.lookup W = some ⟨.type "dict", none, .dict es n, #[]⟩ ∧ IntsLit es ∧ ∀ z ∈ wTable, ∃ u, findBy Value.isInt es z.1 = some u ∧ RelV (.int z.2) u := by
  refine ⟨_, _, l, ?_, ?_⟩
  · intro e he
    simp only [List.mem_toArray, List.mem_cons, List.not_mem_nil, or_false] at he
    rcases he with rfl | rfl | rfl | rfl | rfl | rfl | rfl | rfl | rfl | rfl
    · exact ⟨1, rfl, rfl⟩
    · exact ⟨2, rfl, rfl⟩
    · exact ⟨3, rfl, rfl⟩
    · exact ⟨4, rfl, rfl⟩
    · exact ⟨5, rfl, rfl⟩
    · exact ⟨6, rfl, rfl⟩
    · exact ⟨7, rfl, rfl⟩
    · exact ⟨8, rfl, rfl⟩
    · exact ⟨9, rfl, rfl⟩
    · exact ⟨10, rfl, rfl⟩
  · intro z hz
    unfold wTable at hz
    simp only [List.mem_cons, List.not_mem_nil, or_false] at hz
    rcases hz with rfl | rfl | rfl | rfl | rfl | rfl | rfl | rfl | rfl | rfl
    · exact ⟨.int 1 b1, rfl, ⟨b1, rfl⟩⟩
    · exact ⟨.int 5 b2, rfl, ⟨b2, rfl⟩⟩
    · exact ⟨.int 2 b3, rfl, ⟨b3, rfl⟩⟩
    · exact ⟨.int 2 b4, rfl, ⟨b4, rfl⟩⟩
    · exact ⟨.int 4 b5, rfl, ⟨b5, rfl⟩⟩
    · exact ⟨.int 0 b6, rfl, ⟨b6, rfl⟩⟩
    · exact ⟨.int 0 b7, rfl, ⟨b7, rfl⟩⟩
    · exact ⟨.int 0 b8, rfl, ⟨b8, rfl⟩⟩
    · exact ⟨.int 0 b9, rfl, ⟨b9, rfl⟩⟩
    · exact ⟨.int 1 b10, rfl, ⟨b10, rfl⟩⟩
theorem with_fact {T n t u : Nat} {od : Option Addr} {sl : Array (Option Value)} (l : K.lookup T = some ⟨.type "tuple", od, .seq #[.int 2 t, .int 9 u] n, sl⟩) : ∀ H, SqT K H T [.int 2, .int 9] := fun H =>
  .inr ⟨_, _, _, l, rfl, rfl, by show 2 ≤ sizeLine; decide, .cons ⟨t, rfl⟩ (.cons ⟨u, rfl⟩ .nil)⟩
theorem mkMk {x qual : Str} {st : Stmt} {C f : Addr} {fd : FuncData} {N ps : List Str} {k : Nat} {sp : Sp} {t : TS} (M : Mk K C f) (F : Fun K "__init__" qual st f fd) (S : FnScope N ps (defScope st)) (hm : mg x = some (.ref C)) (hb : Binds K fd ps [])
    (len : ∀ vs H Q E, sp vs H Q E → vs.length = ps.length)
    (der : ∀ (cdv : Value) (A : Around) (outer : List Env) (s : Shared) (H : Hp) (E : XK), Room k (cxA P w K mg base N qual st f cdv A outer s H E).A → PSs (cxA P w K mg base N qual st f cdv A outer s H E) (defBody st) t)
    (rd : ∀ vs H Q E, sp vs H Q E → t { nx := fun _ H' => Q .non H', rt := Q } (start N vs) H) : MkAt P w K mg base x (k + 1) ps C sp :=
  ⟨f, fd, M, F.ok S len fun cdv A outer s H vs Q E hr h => ⟨t, der cdv A outer s H E hr, rd vs H Q E h⟩, hm, hb⟩
theorem seated_at {f : Addr} {fd : FuncData} {ad : Ad} (T : Txt K mg ad) (F : Fun K "is_seated" "is_seated" st_is_seated f fd) (hm : mg "is_seated" = some (.ref f)) (G_is_well : FnAt P w K mg base "is_well" 3 P_is_well (sp_is_well K ad)) :
    ∀ d, FnAt P w K mg base "is_seated" (5 + d) P_is_seated (sp_is_seated d K ad)
  | 0 => ⟨f, fd, F.ok sc_is_seated (fun vs H Q E h => by obtain ⟨_, _, _, _, _, _, rfl, _⟩ := h; rfl) fun cdv A outer s H vs Q E hr h => (by
      obtain ⟨_, _, _, _, _, _, _, _, _, _, hlt, _⟩ := h
      exact absurd hlt (Nat.not_lt_zero _)), hm, F.kp, F.binds (fun _ _ _ _ _ _ us hl => match us, hl with | [_, _], _ => rfl)⟩
  | d + 1 => mkFn F sc_is_seated hm (F.binds (fun _ _ _ _ _ _ us hl => match us, hl with | [_, _], _ => rfl)) (fun vs H Q E h => by obtain ⟨_, _, _, _, _, _, rfl, _⟩ := h; rfl) (fun cdv A outer s H E hr => der_is_seated (dd := d) T (j := 5 + d) (by omega) hr (kk := 5 + d) (Nat.le_refl _) (seated_at T F hm G_is_well d) G_is_well) (fun vs H Q E h => rd_is_seated T d vs H Q E h)
theorem fin_mk {G H S D W T : Addr} {fa : Addr}
    (c_Guest : ClF K mg "Guest" "Guest.__init__" st_Guest ["rank", "day", "country", "sex", "companion", "languages"] G) (c_House : ClF K mg "House" "House.__init__" st_House ["country", "guests", "apart", "hosts", "rules"] H) (c_Search : ClF K mg "Search" "Search.__init__" st_Search ["house", "guests", "seats", "barred", "shared", "sitting"] S) (c_Desk : ClF K mg "Desk" "Desk.__init__" st_Desk ["house"] D)
    (k_NOBODY : CI mg "NOBODY" (-1)) (k_NO_RANK : CI mg "NO_RANK" (10)) (k_MOST_GUESTS : CI mg "MOST_GUESTS" (9)) (k_MOST_APART : CI mg "MOST_APART" (40)) (k_MOST_HOSTS : CI mg "MOST_HOSTS" (2)) (k_MOST_COUNTRY : CI mg "MOST_COUNTRY" (30)) (k_NOT_RIGHT : CI mg "NOT_RIGHT" (-1)) (k_NO_HOST : CI mg "NO_HOST" (-2)) (k_HAS_HOST : CI mg "HAS_HOST" (-3)) (k_NOT_SO : CI mg "NOT_SO" (-4)) (k_FULL : CI mg "FULL" (-5)) (k_NONE : CI mg "NONE" (-6))
    (b_len : mg "len" = none) (b_set : mg "set" = none) (b_list : mg "list" = none) (b_range : mg "range" = none) (b_sorted : mg "sorted" = none) (b_int : mg "int" = none) (b_min : mg "min" = none) (b_max : mg "max" = none)
    (f_within : FnF K mg "within" st_within) (f_are_languages : FnF K mg "are_languages" st_are_languages) (f_is_guest_told : FnF K mg "is_guest_told" st_is_guest_told) (f_is_guest : FnF K mg "is_guest" st_is_guest) (f_may_come_with : FnF K mg "may_come_with" st_may_come_with) (f_key_of : FnF K mg "key_of" st_key_of) (f_follows : FnF K mg "follows" st_follows) (f_order_of : FnF K mg "order_of" st_order_of) (f_flags_of : FnF K mg "flags_of" st_flags_of) (f_seats_of : FnF K mg "seats_of" st_seats_of) (f_may_not : FnF K mg "may_not" st_may_not) (f_do_share : FnF K mg "do_share" st_do_share) (f_right_of : FnF K mg "right_of" st_right_of) (f_left_of : FnF K mg "left_of" st_left_of) (f_is_lonely : FnF K mg "is_lonely" st_is_lonely) (f_breaks_of : FnF K mg "breaks_of" st_breaks_of) (f_is_barred : FnF K mg "is_barred" st_is_barred) (f_has_nobody_to_talk_to : FnF K mg "has_nobody_to_talk_to" st_has_nobody_to_talk_to) (f_is_well : FnF K mg "is_well" st_is_well) (f_is_seated : FnF K mg "is_seated" st_is_seated) (f_plan_of : FnF K mg "plan_of" st_plan_of) (f_begin : FnF K mg "begin" st_begin) (f_put_guest : FnF K mg "put_guest" st_put_guest) (f_put_apart : FnF K mg "put_apart" st_put_apart) (f_put_host : FnF K mg "put_host" st_put_host) (f_put_rules : FnF K mg "put_rules" st_put_rules) (f_told : FnF K mg "told" st_told) (f_seats : FnF K mg "seats" st_seats) (f_plan : FnF K mg "plan" st_plan) (f_check : FnF K mg "check" st_check) (f_flags : FnF K mg "flags" st_flags) (f_asked : FnF K mg "asked" st_asked) (f_answered : FnF K mg "answered" st_answered) (f_answers : FnF K mg "answers" st_answers)
    (hW : mg "WHOLES" = some (.ref W)) (hT : mg "WITH_LIST" = some (.ref T)) (dW : ∃ es n, K.lookup W = some ⟨.type "dict", none, .dict es n, #[]⟩ ∧ IntsLit es ∧ ∀ z ∈ wTable, ∃ u, findBy Value.isInt es z.1 = some u ∧ RelV (.int z.2) u) (tW : ∀ H, SqT K H T [.int 2, .int 9])
    (hfa : mg "answers" = some (.ref fa)) :
    ∃ fd : FuncData, (∀ (s : Shared) (us : List Value), us.length = (["calls"] : List Str).length → BindsTo s fd ⟨us, []⟩ ((["calls"] : List Str).zip us)) ∧ ∀ base : Heap, K.In base → base.Ns mainGlobals mg → FnOk P w K mg base CX0 40 fa fd ["calls"] (sp_answers K) := by
  let ad : Ad := ⟨G, H, S, D, W, T⟩
  have T : Txt K mg ad := ⟨c_Guest.cls, c_House.cls, c_Search.cls, c_Desk.cls, c_Guest.ats_ "rank" (by decide), c_Guest.ats_ "day" (by decide), c_Guest.ats_ "country" (by decide), c_Guest.ats_ "sex" (by decide), c_Guest.ats_ "companion" (by decide), c_Guest.ats_ "languages" (by decide), c_House.ats_ "country" (by decide), c_House.ats_ "guests" (by decide), c_House.ats_ "apart" (by decide), c_House.ats_ "hosts" (by decide), c_House.ats_ "rules" (by decide), c_Search.ats_ "house" (by decide), c_Search.ats_ "guests" (by decide), c_Search.ats_ "seats" (by decide), c_Search.ats_ "barred" (by decide), c_Search.ats_ "shared" (by decide), c_Search.ats_ "sitting" (by decide), c_Desk.ats_ "house" (by decide), k_NOBODY, k_NO_RANK, k_MOST_GUESTS, k_MOST_APART, k_MOST_HOSTS, k_MOST_COUNTRY, k_NOT_RIGHT, k_NO_HOST, k_HAS_HOST, k_NOT_SO, k_FULL, k_NONE, hW, hT, dW, tW, b_len, b_set, b_list, b_range, b_sorted, b_int, b_min, b_max⟩
  obtain ⟨a_within, d_within, m_within, F_within⟩ := f_within
  obtain ⟨a_are_languages, d_are_languages, m_are_languages, F_are_languages⟩ := f_are_languages
  obtain ⟨a_is_guest_told, d_is_guest_told, m_is_guest_told, F_is_guest_told⟩ := f_is_guest_told
  obtain ⟨a_is_guest, d_is_guest, m_is_guest, F_is_guest⟩ := f_is_guest
  obtain ⟨a_may_come_with, d_may_come_with, m_may_come_with, F_may_come_with⟩ := f_may_come_with
  obtain ⟨a_key_of, d_key_of, m_key_of, F_key_of⟩ := f_key_of
  obtain ⟨a_follows, d_follows, m_follows, F_follows⟩ := f_follows
  obtain ⟨a_order_of, d_order_of, m_order_of, F_order_of⟩ := f_order_of
  obtain ⟨a_flags_of, d_flags_of, m_flags_of, F_flags_of⟩ := f_flags_of
  obtain ⟨a_seats_of, d_seats_of, m_seats_of, F_seats_of⟩ := f_seats_of
  obtain ⟨a_may_not, d_may_not, m_may_not, F_may_not⟩ := f_may_not
  obtain ⟨a_do_share, d_do_share, m_do_share, F_do_share⟩ := f_do_share
  obtain ⟨a_right_of, d_right_of, m_right_of, F_right_of⟩ := f_right_of
  obtain ⟨a_left_of, d_left_of, m_left_of, F_left_of⟩ := f_left_of
  obtain ⟨a_is_lonely, d_is_lonely, m_is_lonely, F_is_lonely⟩ := f_is_lonely
  obtain ⟨a_breaks_of, d_breaks_of, m_breaks_of, F_breaks_of⟩ := f_breaks_of
  obtain ⟨a_is_barred, d_is_barred, m_is_barred, F_is_barred⟩ := f_is_barred
  obtain ⟨a_has_nobody_to_talk_to, d_has_nobody_to_talk_to, m_has_nobody_to_talk_to, F_has_nobody_to_talk_to⟩ := f_has_nobody_to_talk_to
  obtain ⟨a_is_well, d_is_well, m_is_well, F_is_well⟩ := f_is_well
  obtain ⟨a_is_seated, d_is_seated, m_is_seated, F_is_seated⟩ := f_is_seated
  obtain ⟨a_plan_of, d_plan_of, m_plan_of, F_plan_of⟩ := f_plan_of
  obtain ⟨a_begin, d_begin, m_begin, F_begin⟩ := f_begin
  obtain ⟨a_put_guest, d_put_guest, m_put_guest, F_put_guest⟩ := f_put_guest
  obtain ⟨a_put_apart, d_put_apart, m_put_apart, F_put_apart⟩ := f_put_apart
  obtain ⟨a_put_host, d_put_host, m_put_host, F_put_host⟩ := f_put_host
  obtain ⟨a_put_rules, d_put_rules, m_put_rules, F_put_rules⟩ := f_put_rules
  obtain ⟨a_told, d_told, m_told, F_told⟩ := f_told
  obtain ⟨a_seats, d_seats, m_seats, F_seats⟩ := f_seats
  obtain ⟨a_plan, d_plan, m_plan, F_plan⟩ := f_plan
  obtain ⟨a_check, d_check, m_check, F_check⟩ := f_check
  obtain ⟨a_flags, d_flags, m_flags, F_flags⟩ := f_flags
  obtain ⟨a_asked, d_asked, m_asked, F_asked⟩ := f_asked
  obtain ⟨a_answered, d_answered, m_answered, F_answered⟩ := f_answered
  obtain ⟨a_answers, d_answers, m_answers, F_answers⟩ := f_answers
  obtain ⟨a_Guest, d_Guest, M_Guest, F_Guest⟩ := c_Guest.mk_
  obtain ⟨a_House, d_House, M_House, F_House⟩ := c_House.mk_
  obtain ⟨a_Search, d_Search, M_Search, F_Search⟩ := c_Search.mk_
  obtain ⟨a_Desk, d_Desk, M_Desk, F_Desk⟩ := c_Desk.mk_
  obtain rfl : a_answers = fa := by
    rw [m_answers] at hfa
    injection hfa with hfa
    injection hfa
  refine ⟨d_answers, ?_, fun base _ _ => ?_⟩
  · obtain ⟨oc, od, kV, doc, pm, an, cdv, ct, osl, rfl, _, _⟩ := F_answers.ex
    exact fun s us hu => match us, hu with | [_], _ => .of_eq rfl
  have G_Guest : MkAt P w K mg base "Guest" 1 P_Guest ad.G (sp_Guest K ad) := mkMk M_Guest F_Guest sc_Guest c_Guest.at_ (F_Guest.binds fun _ _ _ _ _ _ us hl => match us, hl with | [_, _, _], _ => rfl) (fun vs H Q E h => by obtain ⟨_, _, _, _, _, rfl, _⟩ := h; rfl) (fun cdv A outer s H E hr => der_Guest T hr ) (fun vs H Q E h => rd_Guest T vs H Q E h)
  have G_House : MkAt P w K mg base "House" 1 P_House ad.H (sp_House K ad) := mkMk M_House F_House sc_House c_House.at_ (F_House.binds fun _ _ _ _ _ _ us hl => match us, hl with | [_, _], _ => rfl) (fun vs H Q E h => by obtain ⟨_, _, _, rfl, _⟩ := h; rfl) (fun cdv A outer s H E hr => der_House T hr ) (fun vs H Q E h => rd_House T vs H Q E h)
  have G_within : FnAt P w K mg base "within" 1 P_within (sp_within K ad) := mkFn F_within sc_within m_within (F_within.binds fun _ _ _ _ _ _ us hl => match us, hl with | [_, _, _], _ => rfl) (fun vs H Q E h => by obtain ⟨_, _, _, rfl, _⟩ := h; rfl) (fun cdv A outer s H E hr => der_within T hr ) (fun vs H Q E h => rd_within vs H Q E h)
  have G_are_languages : FnAt P w K mg base "are_languages" 2 P_are_languages (sp_are_languages K ad) := mkFn F_are_languages sc_are_languages m_are_languages (F_are_languages.binds fun _ _ _ _ _ _ us hl => match us, hl with | [_], _ => rfl) (fun vs H Q E h => by obtain ⟨_, _, rfl, _⟩ := h; rfl) (fun cdv A outer s H E hr => der_are_languages T hr G_within) (fun vs H Q E h => rd_are_languages vs H Q E h)
  have G_is_guest_told : FnAt P w K mg base "is_guest_told" 3 P_is_guest_told (sp_is_guest_told K ad) := mkFn F_is_guest_told sc_is_guest_told m_is_guest_told (F_is_guest_told.binds fun _ _ _ _ _ _ us hl => match us, hl with | [_, _], _ => rfl) (fun vs H Q E h => by obtain ⟨_, _, _, _, _, _, _, _, rfl, _⟩ := h; rfl) (fun cdv A outer s H E hr => der_is_guest_told T hr G_are_languages G_within) (fun vs H Q E h => rd_is_guest_told vs H Q E h)
  have G_is_guest : FnAt P w K mg base "is_guest" 2 P_is_guest (sp_is_guest K ad) := mkFn F_is_guest sc_is_guest m_is_guest (F_is_guest.binds fun _ _ _ _ _ _ us hl => match us, hl with | [_, _], _ => rfl) (fun vs H Q E h => by obtain ⟨_, _, _, rfl, _⟩ := h; rfl) (fun cdv A outer s H E hr => der_is_guest T hr G_within) (fun vs H Q E h => rd_is_guest T vs H Q E h)
  have G_may_come_with : FnAt P w K mg base "may_come_with" 3 P_may_come_with (sp_may_come_with K ad) := mkFn F_may_come_with sc_may_come_with m_may_come_with (F_may_come_with.binds fun _ _ _ _ _ _ us hl => match us, hl with | [_, _], _ => rfl) (fun vs H Q E h => by obtain ⟨_, _, _, rfl, _⟩ := h; rfl) (fun cdv A outer s H E hr => der_may_come_with T hr G_is_guest) (fun vs H Q E h => rd_may_come_with T vs H Q E h)
  have G_key_of : FnAt P w K mg base "key_of" 1 P_key_of (sp_key_of K ad) := mkFn F_key_of sc_key_of m_key_of (F_key_of.binds fun _ _ _ _ _ _ us hl => match us, hl with | [_, _], _ => rfl) (fun vs H Q E h => by obtain ⟨_, _, _, rfl, _⟩ := h; rfl) (fun cdv A outer s H E hr => der_key_of T hr ) (fun vs H Q E h => rd_key_of T vs H Q E h)
  have G_follows : FnAt P w K mg base "follows" 1 P_follows (sp_follows K ad) := mkFn F_follows sc_follows m_follows (F_follows.binds fun _ _ _ _ _ _ us hl => match us, hl with | [_, _], _ => rfl) (fun vs H Q E h => by obtain ⟨_, _, _, rfl, _⟩ := h; rfl) (fun cdv A outer s H E hr => der_follows T hr ) (fun vs H Q E h => rd_follows T vs H Q E h)
  have G_order_of : FnAt P w K mg base "order_of" 2 P_order_of (sp_order_of K ad) := mkFn F_order_of sc_order_of m_order_of (F_order_of.binds fun _ _ _ _ _ _ us hl => match us, hl with | [_], _ => rfl) (fun vs H Q E h => by obtain ⟨_, _, rfl, _⟩ := h; rfl) (fun cdv A outer s H E hr => der_order_of T hr G_follows G_key_of) (fun vs H Q E h => rd_order_of T vs H Q E h)
  have G_flags_of : FnAt P w K mg base "flags_of" 1 P_flags_of (sp_flags_of K ad) := mkFn F_flags_of sc_flags_of m_flags_of (F_flags_of.binds fun _ _ _ _ _ _ us hl => match us, hl with | [_, _], _ => rfl) (fun vs H Q E h => by obtain ⟨_, _, _, rfl, _⟩ := h; rfl) (fun cdv A outer s H E hr => der_flags_of T hr ) (fun vs H Q E h => rd_flags_of T vs H Q E h)
  have G_do_share : FnAt P w K mg base "do_share" 1 P_do_share (sp_do_share K ad) := mkFn F_do_share sc_do_share m_do_share (F_do_share.binds fun _ _ _ _ _ _ us hl => match us, hl with | [_, _, _], _ => rfl) (fun vs H Q E h => by obtain ⟨_, _, _, _, rfl, _⟩ := h; rfl) (fun cdv A outer s H E hr => der_do_share T hr ) (fun vs H Q E h => rd_do_share T vs H Q E h)
  have G_may_not : FnAt P w K mg base "may_not" 1 P_may_not (sp_may_not K ad) := mkFn F_may_not sc_may_not m_may_not (F_may_not.binds fun _ _ _ _ _ _ us hl => match us, hl with | [_, _, _], _ => rfl) (fun vs H Q E h => by obtain ⟨_, _, _, _, rfl, _⟩ := h; rfl) (fun cdv A outer s H E hr => der_may_not T hr ) (fun vs H Q E h => rd_may_not T vs H Q E h)
  have G_Search : MkAt P w K mg base "Search" 2 P_Search ad.S (sp_Search K ad) := mkMk M_Search F_Search sc_Search c_Search.at_ (F_Search.binds fun _ _ _ _ _ _ us hl => match us, hl with | [_, _, _, _], _ => rfl) (fun vs H Q E h => by obtain ⟨_, _, _, _, _, _, _, rfl, _⟩ := h; rfl) (fun cdv A outer s H E hr => der_Search T hr G_do_share G_may_not) (fun vs H Q E h => rd_Search T vs H Q E h)
  have G_seats_of : FnAt P w K mg base "seats_of" 1 P_seats_of (sp_seats_of K ad) := mkFn F_seats_of sc_seats_of m_seats_of (F_seats_of.binds fun _ _ _ _ _ _ us hl => match us, hl with | [_], _ => rfl) (fun vs H Q E h => by obtain ⟨_, _, rfl, _⟩ := h; rfl) (fun cdv A outer s H E hr => der_seats_of T hr ) (fun vs H Q E h => rd_seats_of T vs H Q E h)
  have G_right_of : FnAt P w K mg base "right_of" 1 P_right_of (sp_right_of K ad) := mkFn F_right_of sc_right_of m_right_of (F_right_of.binds fun _ _ _ _ _ _ us hl => match us, hl with | [_, _], _ => rfl) (fun vs H Q E h => by obtain ⟨_, _, _, _, rfl, _⟩ := h; rfl) (fun cdv A outer s H E hr => der_right_of T hr ) (fun vs H Q E h => rd_right_of vs H Q E h)
  have G_left_of : FnAt P w K mg base "left_of" 1 P_left_of (sp_left_of K ad) := mkFn F_left_of sc_left_of m_left_of (F_left_of.binds fun _ _ _ _ _ _ us hl => match us, hl with | [_, _], _ => rfl) (fun vs H Q E h => by obtain ⟨_, _, _, _, rfl, _⟩ := h; rfl) (fun cdv A outer s H E hr => der_left_of T hr ) (fun vs H Q E h => rd_left_of vs H Q E h)
  have G_is_lonely : FnAt P w K mg base "is_lonely" 2 P_is_lonely (sp_is_lonely K ad) := mkFn F_is_lonely sc_is_lonely m_is_lonely (F_is_lonely.binds fun _ _ _ _ _ _ us hl => match us, hl with | [_, _, _], _ => rfl) (fun vs H Q E h => by obtain ⟨_, _, _, _, _, rfl, _⟩ := h; rfl) (fun cdv A outer s H E hr => der_is_lonely T hr G_do_share G_left_of G_right_of) (fun vs H Q E h => rd_is_lonely vs H Q E h)
  have G_breaks_of : FnAt P w K mg base "breaks_of" 3 P_breaks_of (sp_breaks_of K ad) := mkFn F_breaks_of sc_breaks_of m_breaks_of (F_breaks_of.binds fun _ _ _ _ _ _ us hl => match us, hl with | [_, _], _ => rfl) (fun vs H Q E h => by obtain ⟨_, _, _, _, rfl, _⟩ := h; rfl) (fun cdv A outer s H E hr => der_breaks_of T hr G_is_lonely G_may_not G_right_of) (fun vs H Q E h => rd_breaks_of T vs H Q E h)
  have G_is_barred : FnAt P w K mg base "is_barred" 2 P_is_barred (sp_is_barred K ad) := mkFn F_is_barred sc_is_barred m_is_barred (F_is_barred.binds fun _ _ _ _ _ _ us hl => match us, hl with | [_, _], _ => rfl) (fun vs H Q E h => by obtain ⟨_, _, _, _, _, _, _, rfl, _⟩ := h; rfl) (fun cdv A outer s H E hr => der_is_barred T hr G_left_of G_right_of) (fun vs H Q E h => rd_is_barred T vs H Q E h)
  have G_has_nobody_to_talk_to : FnAt P w K mg base "has_nobody_to_talk_to" 2 P_has_nobody_to_talk_to (sp_has_nobody_to_talk_to K ad) := mkFn F_has_nobody_to_talk_to sc_has_nobody_to_talk_to m_has_nobody_to_talk_to (F_has_nobody_to_talk_to.binds fun _ _ _ _ _ _ us hl => match us, hl with | [_, _], _ => rfl) (fun vs H Q E h => by obtain ⟨_, _, _, _, _, _, rfl, _⟩ := h; rfl) (fun cdv A outer s H E hr => der_has_nobody_to_talk_to T hr G_left_of G_right_of) (fun vs H Q E h => rd_has_nobody_to_talk_to T vs H Q E h)
  have G_is_well : FnAt P w K mg base "is_well" 3 P_is_well (sp_is_well K ad) := mkFn F_is_well sc_is_well m_is_well (F_is_well.binds fun _ _ _ _ _ _ us hl => match us, hl with | [_, _], _ => rfl) (fun vs H Q E h => by obtain ⟨_, _, _, _, _, _, _, rfl, _⟩ := h; rfl) (fun cdv A outer s H E hr => der_is_well T hr G_has_nobody_to_talk_to G_is_barred) (fun vs H Q E h => rd_is_well T vs H Q E h)
  have G_is_seated : FnAt P w K mg base "is_seated" 15 P_is_seated (sp_is_seated 10 K ad) := seated_at T F_is_seated m_is_seated G_is_well 10
  have G_plan_of : FnAt P w K mg base "plan_of" 16 P_plan_of (sp_plan_of K ad) := mkFn F_plan_of sc_plan_of m_plan_of (F_plan_of.binds fun _ _ _ _ _ _ us hl => match us, hl with | [_], _ => rfl) (fun vs H Q E h => by obtain ⟨_, _, rfl, _⟩ := h; rfl) (fun cdv A outer s H E hr => der_plan_of T hr G_Search G_is_seated G_is_well G_order_of G_seats_of) (fun vs H Q E h => rd_plan_of T vs H Q E h)
  have G_Desk : MkAt P w K mg base "Desk" 3 P_Desk ad.D (sp_Desk K ad) := mkMk M_Desk F_Desk sc_Desk c_Desk.at_ (F_Desk.binds fun _ _ _ _ _ _ us hl => match us, hl with | [_], _ => rfl) (fun vs H Q E h => by obtain ⟨_, _, rfl, _⟩ := h; rfl) (fun cdv A outer s H E hr => der_Desk T hr G_House) (fun vs H Q E h => rd_Desk T vs H Q E h)
  have G_begin : FnAt P w K mg base "begin" 3 P_begin (sp_begin K ad) := mkFn F_begin sc_begin m_begin (F_begin.binds fun _ _ _ _ _ _ us hl => match us, hl with | [_, _], _ => rfl) (fun vs H Q E h => by obtain ⟨_, _, _, _, _, rfl, _⟩ := h; rfl) (fun cdv A outer s H E hr => der_begin T hr G_House G_within) (fun vs H Q E h => rd_begin T vs H Q E h)
  have G_put_guest : FnAt P w K mg base "put_guest" 4 P_put_guest (sp_put_guest K ad) := mkFn F_put_guest sc_put_guest m_put_guest (F_put_guest.binds fun _ _ _ _ _ _ us hl => match us, hl with | [_, _, _], _ => rfl) (fun vs H Q E h => by obtain ⟨_, _, _, _, _, _, _, _, _, _, _, rfl, _⟩ := h; rfl) (fun cdv A outer s H E hr => der_put_guest T hr G_Guest G_is_guest_told G_may_come_with) (fun vs H Q E h => rd_put_guest T vs H Q E h)
  have G_put_apart : FnAt P w K mg base "put_apart" 3 P_put_apart (sp_put_apart K ad) := mkFn F_put_apart sc_put_apart m_put_apart (F_put_apart.binds fun _ _ _ _ _ _ us hl => match us, hl with | [_, _, _], _ => rfl) (fun vs H Q E h => by obtain ⟨_, _, _, _, _, rfl, _⟩ := h; rfl) (fun cdv A outer s H E hr => der_put_apart T hr G_is_guest) (fun vs H Q E h => rd_put_apart T vs H Q E h)
  have G_put_host : FnAt P w K mg base "put_host" 3 P_put_host (sp_put_host K ad) := mkFn F_put_host sc_put_host m_put_host (F_put_host.binds fun _ _ _ _ _ _ us hl => match us, hl with | [_, _, _], _ => rfl) (fun vs H Q E h => by obtain ⟨_, _, _, _, _, rfl, _⟩ := h; rfl) (fun cdv A outer s H E hr => der_put_host T hr G_is_guest) (fun vs H Q E h => rd_put_host T vs H Q E h)
  have G_put_rules : FnAt P w K mg base "put_rules" 1 P_put_rules (sp_put_rules K ad) := mkFn F_put_rules sc_put_rules m_put_rules (F_put_rules.binds fun _ _ _ _ _ _ us hl => match us, hl with | [_, _], _ => rfl) (fun vs H Q E h => by obtain ⟨_, _, _, _, _, _, _, _, rfl, _⟩ := h; rfl) (fun cdv A outer s H E hr => der_put_rules T hr ) (fun vs H Q E h => rd_put_rules T vs H Q E h)
  have G_told : FnAt P w K mg base "told" 1 P_told (sp_told K ad) := mkFn F_told sc_told m_told (F_told.binds fun _ _ _ _ _ _ us hl => match us, hl with | [_], _ => rfl) (fun vs H Q E h => by obtain ⟨_, _, rfl, _⟩ := h; rfl) (fun cdv A outer s H E hr => der_told T hr ) (fun vs H Q E h => rd_told vs H Q E h)
  have G_seats : FnAt P w K mg base "seats" 2 P_seats (sp_seats K ad) := mkFn F_seats sc_seats m_seats (F_seats.binds fun _ _ _ _ _ _ us hl => match us, hl with | [_], _ => rfl) (fun vs H Q E h => by obtain ⟨_, _, rfl, _⟩ := h; rfl) (fun cdv A outer s H E hr => der_seats T hr G_seats_of G_told) (fun vs H Q E h => rd_seats T vs H Q E h)
  have G_plan : FnAt P w K mg base "plan" 17 P_plan (sp_plan K ad) := mkFn F_plan sc_plan m_plan (F_plan.binds fun _ _ _ _ _ _ us hl => match us, hl with | [_], _ => rfl) (fun vs H Q E h => by obtain ⟨_, _, rfl, _⟩ := h; rfl) (fun cdv A outer s H E hr => der_plan T hr G_plan_of G_told) (fun vs H Q E h => rd_plan T vs H Q E h)
  have G_check : FnAt P w K mg base "check" 4 P_check (sp_check K ad) := mkFn F_check sc_check m_check (F_check.binds fun _ _ _ _ _ _ us hl => match us, hl with | [_, _], _ => rfl) (fun vs H Q E h => by obtain ⟨_, _, _, _, rfl, _⟩ := h; rfl) (fun cdv A outer s H E hr => der_check T hr G_breaks_of) (fun vs H Q E h => rd_check T vs H Q E h)
  have G_flags : FnAt P w K mg base "flags" 2 P_flags (sp_flags K ad) := mkFn F_flags sc_flags m_flags (F_flags.binds fun _ _ _ _ _ _ us hl => match us, hl with | [_, _], _ => rfl) (fun vs H Q E h => by obtain ⟨_, _, _, rfl, _⟩ := h; rfl) (fun cdv A outer s H E hr => der_flags T hr G_flags_of G_told G_within) (fun vs H Q E h => rd_flags T vs H Q E h)
  have G_asked : FnAt P w K mg base "asked" 18 P_asked (sp_asked K ad) := mkFn F_asked sc_asked m_asked (F_asked.binds fun _ _ _ _ _ _ us hl => match us, hl with | [_, _, _, _], _ => rfl) (fun vs H Q E h => by obtain ⟨_, _, _, _, _, _, _, _, rfl, _⟩ := h; rfl) (fun cdv A outer s H E hr => der_asked T hr G_check G_flags G_order_of G_plan G_seats G_told) (fun vs H Q E h => rd_asked T vs H Q E h)
  have G_answered : FnAt P w K mg base "answered" 19 P_answered (sp_answered K ad) := mkFn F_answered sc_answered m_answered (F_answered.binds fun _ _ _ _ _ _ us hl => match us, hl with | [_, _, _, _], _ => rfl) (fun vs H Q E h => by obtain ⟨_, _, _, _, _, _, _, _, _, _, rfl, _⟩ := h; rfl) (fun cdv A outer s H E hr => der_answered T hr G_asked G_begin G_put_apart G_put_guest G_put_host G_put_rules) (fun vs H Q E h => rd_answered T vs H Q E h)
  have G_answers : FnOk P w K mg base CX0 20 a_answers d_answers P_answers (sp_answers K) := F_answers.ok sc_answers (fun vs H Q E h => by obtain ⟨_, _, rfl, _⟩ := h; rfl) fun cdv A outer s H vs Q E hr h => ⟨_, der_answers T hr G_Desk G_answered, rd_answers T vs H Q E h⟩
  exact G_answers.mono (by decide)
end
end FsR
set_option Elab.async false
set_option maxRecDepth 100000
open PySem PySem.W PyProof.Rows
set_option maxRecDepth 100000 in
set_option maxHeartbeats 16000000 in
theorem PySem.Challenge.cw_firstseat_s01_answers_holds : PySem.Challenge.rw_firstseat_s01_answers.Holds := by
  w_on; k_headS; (case hw => exact ⟨[.list [.int 6]], by decide +kernel, by decide +kernel⟩)
  k_fillS
  refine L2.walk_specK (r := PySem.Challenge.rw_firstseat_s01_answers) (k := 40) (CX := L2.CX0) (ps := ["calls"]) (sp := FsR.sp_answers) (by decide +kernel) rfl rfl ⟨rfl, by decide, by decide⟩ (fun w h Y => PySem.W.kIn_of Y) ?F ?S (fun _ _ _ _ z => z)
  case F =>
    intro w mg fa h Y KX G hmg
    clear Y
    have f_within : FsR.FnF (cw_firstseat_s01_answers_holds.heap_1 w.params) mg "within" FsR.st_within := by
      refine' FsR.fn_fact KX G ?a ?l ?c ?k
      (case a => k_is); (case l => k_is); (case c => k_is); (case k => k_is)
    have f_are_languages : FsR.FnF (cw_firstseat_s01_answers_holds.heap_1 w.params) mg "are_languages" FsR.st_are_languages := by
      refine' FsR.fn_fact KX G ?a ?l ?c ?k
      (case a => k_is); (case l => k_is); (case c => k_is); (case k => k_is)
    have f_is_guest_told : FsR.FnF (cw_firstseat_s01_answers_holds.heap_1 w.params) mg "is_guest_told" FsR.st_is_guest_told := by
      refine' FsR.fn_fact KX G ?a ?l ?c ?k
      (case a => k_is); (case l => k_is); (case c => k_is); (case k => k_is)
    have f_is_guest : FsR.FnF (cw_firstseat_s01_answers_holds.heap_1 w.params) mg "is_guest" FsR.st_is_guest := by
      refine' FsR.fn_fact KX G ?a ?l ?c ?k
      (case a => k_is); (case l => k_is); (case c => k_is); (case k => k_is)
    have f_may_come_with : FsR.FnF (cw_firstseat_s01_answers_holds.heap_1 w.params) mg "may_come_with" FsR.st_may_come_with := by
      refine' FsR.fn_fact KX G ?a ?l ?c ?k
      (case a => k_is); (case l => k_is); (case c => k_is); (case k => k_is)
    have f_key_of : FsR.FnF (cw_firstseat_s01_answers_holds.heap_1 w.params) mg "key_of" FsR.st_key_of := by
      refine' FsR.fn_fact KX G ?a ?l ?c ?k
      (case a => k_is); (case l => k_is); (case c => k_is); (case k => k_is)
    have f_follows : FsR.FnF (cw_firstseat_s01_answers_holds.heap_1 w.params) mg "follows" FsR.st_follows := by
      refine' FsR.fn_fact KX G ?a ?l ?c ?k
      (case a => k_is); (case l => k_is); (case c => k_is); (case k => k_is)
    have f_order_of : FsR.FnF (cw_firstseat_s01_answers_holds.heap_1 w.params) mg "order_of" FsR.st_order_of := by
      refine' FsR.fn_fact KX G ?a ?l ?c ?k
      (case a => k_is); (case l => k_is); (case c => k_is); (case k => k_is)
    have f_flags_of : FsR.FnF (cw_firstseat_s01_answers_holds.heap_1 w.params) mg "flags_of" FsR.st_flags_of := by
      refine' FsR.fn_fact KX G ?a ?l ?c ?k
      (case a => k_is); (case l => k_is); (case c => k_is); (case k => k_is)
    have f_seats_of : FsR.FnF (cw_firstseat_s01_answers_holds.heap_1 w.params) mg "seats_of" FsR.st_seats_of := by
      refine' FsR.fn_fact KX G ?a ?l ?c ?k
      (case a => k_is); (case l => k_is); (case c => k_is); (case k => k_is)
    have f_may_not : FsR.FnF (cw_firstseat_s01_answers_holds.heap_1 w.params) mg "may_not" FsR.st_may_not := by
      refine' FsR.fn_fact KX G ?a ?l ?c ?k
      (case a => k_is); (case l => k_is); (case c => k_is); (case k => k_is)
    have f_do_share : FsR.FnF (cw_firstseat_s01_answers_holds.heap_1 w.params) mg "do_share" FsR.st_do_share := by
      refine' FsR.fn_fact KX G ?a ?l ?c ?k
      (case a => k_is); (case l => k_is); (case c => k_is); (case k => k_is)
    have f_right_of : FsR.FnF (cw_firstseat_s01_answers_holds.heap_1 w.params) mg "right_of" FsR.st_right_of := by
      refine' FsR.fn_fact KX G ?a ?l ?c ?k
      (case a => k_is); (case l => k_is); (case c => k_is); (case k => k_is)
    have f_left_of : FsR.FnF (cw_firstseat_s01_answers_holds.heap_1 w.params) mg "left_of" FsR.st_left_of := by
      refine' FsR.fn_fact KX G ?a ?l ?c ?k
      (case a => k_is); (case l => k_is); (case c => k_is); (case k => k_is)
    have f_is_lonely : FsR.FnF (cw_firstseat_s01_answers_holds.heap_1 w.params) mg "is_lonely" FsR.st_is_lonely := by
      refine' FsR.fn_fact KX G ?a ?l ?c ?k
      (case a => k_is); (case l => k_is); (case c => k_is); (case k => k_is)
    have f_breaks_of : FsR.FnF (cw_firstseat_s01_answers_holds.heap_1 w.params) mg "breaks_of" FsR.st_breaks_of := by
      refine' FsR.fn_fact KX G ?a ?l ?c ?k
      (case a => k_is); (case l => k_is); (case c => k_is); (case k => k_is)
    have f_is_barred : FsR.FnF (cw_firstseat_s01_answers_holds.heap_1 w.params) mg "is_barred" FsR.st_is_barred := by
      refine' FsR.fn_fact KX G ?a ?l ?c ?k
      (case a => k_is); (case l => k_is); (case c => k_is); (case k => k_is)
    have f_has_nobody_to_talk_to : FsR.FnF (cw_firstseat_s01_answers_holds.heap_1 w.params) mg "has_nobody_to_talk_to" FsR.st_has_nobody_to_talk_to := by
      refine' FsR.fn_fact KX G ?a ?l ?c ?k
      (case a => k_is); (case l => k_is); (case c => k_is); (case k => k_is)
    have f_is_well : FsR.FnF (cw_firstseat_s01_answers_holds.heap_1 w.params) mg "is_well" FsR.st_is_well := by
      refine' FsR.fn_fact KX G ?a ?l ?c ?k
      (case a => k_is); (case l => k_is); (case c => k_is); (case k => k_is)
    have f_is_seated : FsR.FnF (cw_firstseat_s01_answers_holds.heap_1 w.params) mg "is_seated" FsR.st_is_seated := by
      refine' FsR.fn_fact KX G ?a ?l ?c ?k
      (case a => k_is); (case l => k_is); (case c => k_is); (case k => k_is)
    have f_plan_of : FsR.FnF (cw_firstseat_s01_answers_holds.heap_1 w.params) mg "plan_of" FsR.st_plan_of := by
      refine' FsR.fn_fact KX G ?a ?l ?c ?k
      (case a => k_is); (case l => k_is); (case c => k_is); (case k => k_is)
    have f_begin : FsR.FnF (cw_firstseat_s01_answers_holds.heap_1 w.params) mg "begin" FsR.st_begin := by
      refine' FsR.fn_fact KX G ?a ?l ?c ?k
      (case a => k_is); (case l => k_is); (case c => k_is); (case k => k_is)
    have f_put_guest : FsR.FnF (cw_firstseat_s01_answers_holds.heap_1 w.params) mg "put_guest" FsR.st_put_guest := by
      refine' FsR.fn_fact KX G ?a ?l ?c ?k
      (case a => k_is); (case l => k_is); (case c => k_is); (case k => k_is)
    have f_put_apart : FsR.FnF (cw_firstseat_s01_answers_holds.heap_1 w.params) mg "put_apart" FsR.st_put_apart := by
      refine' FsR.fn_fact KX G ?a ?l ?c ?k
      (case a => k_is); (case l => k_is); (case c => k_is); (case k => k_is)
    have f_put_host : FsR.FnF (cw_firstseat_s01_answers_holds.heap_1 w.params) mg "put_host" FsR.st_put_host := by
      refine' FsR.fn_fact KX G ?a ?l ?c ?k
      (case a => k_is); (case l => k_is); (case c => k_is); (case k => k_is)
    have f_put_rules : FsR.FnF (cw_firstseat_s01_answers_holds.heap_1 w.params) mg "put_rules" FsR.st_put_rules := by
      refine' FsR.fn_fact KX G ?a ?l ?c ?k
      (case a => k_is); (case l => k_is); (case c => k_is); (case k => k_is)
    have f_told : FsR.FnF (cw_firstseat_s01_answers_holds.heap_1 w.params) mg "told" FsR.st_told := by
      refine' FsR.fn_fact KX G ?a ?l ?c ?k
      (case a => k_is); (case l => k_is); (case c => k_is); (case k => k_is)
    have f_seats : FsR.FnF (cw_firstseat_s01_answers_holds.heap_1 w.params) mg "seats" FsR.st_seats := by
      refine' FsR.fn_fact KX G ?a ?l ?c ?k
      (case a => k_is); (case l => k_is); (case c => k_is); (case k => k_is)
    have f_plan : FsR.FnF (cw_firstseat_s01_answers_holds.heap_1 w.params) mg "plan" FsR.st_plan := by
      refine' FsR.fn_fact KX G ?a ?l ?c ?k
      (case a => k_is); (case l => k_is); (case c => k_is); (case k => k_is)
    have f_check : FsR.FnF (cw_firstseat_s01_answers_holds.heap_1 w.params) mg "check" FsR.st_check := by
      refine' FsR.fn_fact KX G ?a ?l ?c ?k
      (case a => k_is); (case l => k_is); (case c => k_is); (case k => k_is)
    have f_flags : FsR.FnF (cw_firstseat_s01_answers_holds.heap_1 w.params) mg "flags" FsR.st_flags := by
      refine' FsR.fn_fact KX G ?a ?l ?c ?k
      (case a => k_is); (case l => k_is); (case c => k_is); (case k => k_is)
    have f_asked : FsR.FnF (cw_firstseat_s01_answers_holds.heap_1 w.params) mg "asked" FsR.st_asked := by
      refine' FsR.fn_fact KX G ?a ?l ?c ?k
      (case a => k_is); (case l => k_is); (case c => k_is); (case k => k_is)
    have f_answered : FsR.FnF (cw_firstseat_s01_answers_holds.heap_1 w.params) mg "answered" FsR.st_answered := by
      refine' FsR.fn_fact KX G ?a ?l ?c ?k
      (case a => k_is); (case l => k_is); (case c => k_is); (case k => k_is)
    have f_answers : FsR.FnF (cw_firstseat_s01_answers_holds.heap_1 w.params) mg "answers" FsR.st_answers := by
      refine' FsR.fn_fact KX G ?a ?l ?c ?k
      (case a => k_is); (case l => k_is); (case c => k_is); (case k => k_is)
    have b_len : mg "len" = none := by
      refine' PySem.W.mg_none_of KX G ?a
      (case a => k_is)
    have b_set : mg "set" = none := by
      refine' PySem.W.mg_none_of KX G ?a
      (case a => k_is)
    have b_list : mg "list" = none := by
      refine' PySem.W.mg_none_of KX G ?a
      (case a => k_is)
    have b_range : mg "range" = none := by
      refine' PySem.W.mg_none_of KX G ?a
      (case a => k_is)
    have b_sorted : mg "sorted" = none := by
      refine' PySem.W.mg_none_of KX G ?a
      (case a => k_is)
    have b_int : mg "int" = none := by
      refine' PySem.W.mg_none_of KX G ?a
      (case a => k_is)
    have b_min : mg "min" = none := by
      refine' PySem.W.mg_none_of KX G ?a
      (case a => k_is)
    have b_max : mg "max" = none := by
      refine' PySem.W.mg_none_of KX G ?a
      (case a => k_is)
    have k_NOBODY : FsR.CI mg "NOBODY" (-1) := by
      refine' FsR.ci_fact KX G ?a
      (case a => k_is)
    have k_NO_RANK : FsR.CI mg "NO_RANK" (10) := by
      refine' FsR.ci_fact KX G ?a
      (case a => k_is)
    have k_MOST_GUESTS : FsR.CI mg "MOST_GUESTS" (9) := by
      refine' FsR.ci_fact KX G ?a
      (case a => k_is)
    have k_MOST_APART : FsR.CI mg "MOST_APART" (40) := by
      refine' FsR.ci_fact KX G ?a
      (case a => k_is)
    have k_MOST_HOSTS : FsR.CI mg "MOST_HOSTS" (2) := by
      refine' FsR.ci_fact KX G ?a
      (case a => k_is)
    have k_MOST_COUNTRY : FsR.CI mg "MOST_COUNTRY" (30) := by
      refine' FsR.ci_fact KX G ?a
      (case a => k_is)
    have k_NOT_RIGHT : FsR.CI mg "NOT_RIGHT" (-1) := by
      refine' FsR.ci_fact KX G ?a
      (case a => k_is)
    have k_NO_HOST : FsR.CI mg "NO_HOST" (-2) := by
      refine' FsR.ci_fact KX G ?a
      (case a => k_is)
    have k_HAS_HOST : FsR.CI mg "HAS_HOST" (-3) := by
      refine' FsR.ci_fact KX G ?a
      (case a => k_is)
    have k_NOT_SO : FsR.CI mg "NOT_SO" (-4) := by
      refine' FsR.ci_fact KX G ?a
      (case a => k_is)
    have k_FULL : FsR.CI mg "FULL" (-5) := by
      refine' FsR.ci_fact KX G ?a
      (case a => k_is)
    have k_NONE : FsR.CI mg "NONE" (-6) := by
      refine' FsR.ci_fact KX G ?a
      (case a => k_is)
    obtain ⟨cG, c_Guest⟩ : ∃ C, FsR.ClF (cw_firstseat_s01_answers_holds.heap_1 w.params) mg "Guest" "Guest.__init__" FsR.st_Guest ["rank", "day", "country", "sex", "companion", "languages"] C := by
      refine' ⟨?A_Guest, FsR.cls_fact_Guest KX G ?a ?pg ?hd ?po ?sa ?mk ?ai ?ifn ?kc ?l ?c ?k ?n_rank ?n_day ?n_country ?n_sex ?n_companion ?n_languages⟩
      (case a => k_is); (case pg => k_is); (case hd => k_is); (case po => k_is); (case sa => k_is); (case mk => k_is); (case ai => k_is); (case ifn => k_is); (case kc => k_is); (case l => k_is); (case c => k_is); (case k => k_is); (case n_rank => k_is); (case n_day => k_is); (case n_country => k_is); (case n_sex => k_is); (case n_companion => k_is); (case n_languages => k_is)
    obtain ⟨cH, c_House⟩ : ∃ C, FsR.ClF (cw_firstseat_s01_answers_holds.heap_1 w.params) mg "House" "House.__init__" FsR.st_House ["country", "guests", "apart", "hosts", "rules"] C := by
      refine' ⟨?A_House, FsR.cls_fact_House KX G ?a ?pg ?hd ?po ?sa ?mk ?ai ?ifn ?kc ?l ?c ?k ?n_country ?n_guests ?n_apart ?n_hosts ?n_rules⟩
      (case a => k_is); (case pg => k_is); (case hd => k_is); (case po => k_is); (case sa => k_is); (case mk => k_is); (case ai => k_is); (case ifn => k_is); (case kc => k_is); (case l => k_is); (case c => k_is); (case k => k_is); (case n_country => k_is); (case n_guests => k_is); (case n_apart => k_is); (case n_hosts => k_is); (case n_rules => k_is)
    obtain ⟨cS, c_Search⟩ : ∃ C, FsR.ClF (cw_firstseat_s01_answers_holds.heap_1 w.params) mg "Search" "Search.__init__" FsR.st_Search ["house", "guests", "seats", "barred", "shared", "sitting"] C := by
      refine' ⟨?A_Search, FsR.cls_fact_Search KX G ?a ?pg ?hd ?po ?sa ?mk ?ai ?ifn ?kc ?l ?c ?k ?n_house ?n_guests ?n_seats ?n_barred ?n_shared ?n_sitting⟩
      (case a => k_is); (case pg => k_is); (case hd => k_is); (case po => k_is); (case sa => k_is); (case mk => k_is); (case ai => k_is); (case ifn => k_is); (case kc => k_is); (case l => k_is); (case c => k_is); (case k => k_is); (case n_house => k_is); (case n_guests => k_is); (case n_seats => k_is); (case n_barred => k_is); (case n_shared => k_is); (case n_sitting => k_is)
    obtain ⟨cD, c_Desk⟩ : ∃ C, FsR.ClF (cw_firstseat_s01_answers_holds.heap_1 w.params) mg "Desk" "Desk.__init__" FsR.st_Desk ["house"] C := by
      refine' ⟨?A_Desk, FsR.cls_fact_Desk KX G ?a ?pg ?hd ?po ?sa ?mk ?ai ?ifn ?kc ?l ?c ?k ?n_house⟩
      (case a => k_is); (case pg => k_is); (case hd => k_is); (case po => k_is); (case sa => k_is); (case mk => k_is); (case ai => k_is); (case ifn => k_is); (case kc => k_is); (case l => k_is); (case c => k_is); (case k => k_is); (case n_house => k_is)
    obtain ⟨W, hW, dW⟩ : ∃ W, mg "WHOLES" = some (.ref W) ∧ ∃ es n, (cw_firstseat_s01_answers_holds.heap_1 w.params).lookup W = some ⟨.type "dict", none, .dict es n, #[]⟩ ∧ FsR.IntsLit es ∧ ∀ z ∈ FsR.wTable, ∃ u, findBy Value.isInt es z.1 = some u ∧ L2.RelV (.int z.2) u := by
      refine' ⟨?A_W, PySem.W.mg_of KX G ?a, FsR.wholes_fact ?l⟩
      (case a => k_is); (case l => k_is)
    obtain ⟨T, hT, tW⟩ : ∃ T, mg "WITH_LIST" = some (.ref T) ∧ ∀ H, L2.SqT (cw_firstseat_s01_answers_holds.heap_1 w.params) H T [.int 2, .int 9] := by
      refine' ⟨?A_T, PySem.W.mg_of KX G ?a, FsR.with_fact ?l⟩
      (case a => k_is); (case l => k_is)
    exact FsR.fin_mk c_Guest c_House c_Search c_Desk k_NOBODY k_NO_RANK k_MOST_GUESTS k_MOST_APART k_MOST_HOSTS k_MOST_COUNTRY k_NOT_RIGHT k_NO_HOST k_HAS_HOST k_NOT_SO k_FULL k_NONE b_len b_set b_list b_range b_sorted b_int b_min b_max f_within f_are_languages f_is_guest_told f_is_guest f_may_come_with f_key_of f_follows f_order_of f_flags_of f_seats_of f_may_not f_do_share f_right_of f_left_of f_is_lonely f_breaks_of f_is_barred f_has_nobody_to_talk_to f_is_well f_is_seated f_plan_of f_begin f_put_guest f_put_apart f_put_host f_put_rules f_told f_seats f_plan f_check f_flags f_asked f_answered f_answers hW hT dW tW hmg
  case S =>
    intro K H xs a hO hwi hask hx
    cases hx with
    | cons h1 h2 =>
      cases h2
      cases h1 with
      | lst hs ha =>
        have e := L2.ints_dw a.1 _ ha
        subst e
        exact ⟨_, a.1, rfl, hs, hask, fun H' p hp => .lst (L2.SqL.of hp) (L2.dw_ints _)⟩
