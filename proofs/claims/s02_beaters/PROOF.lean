import PyProof.Rows.All
import Wide.All
import OpenK.AllK
import Wide.FinOn
import Open.SpecLaws
import KE.OsGo
import HandS.ForSpec
import HandS.Comp
import HandS.Conv
import HandS.Deep
import PySem.Challenge.RW_cabinetstands_s02_beaters
set_option Elab.async false
set_option linter.all false
set_option maxRecDepth 100000
set_option maxHeartbeats 4000000

namespace Cab
open Ks467
/-! ### 1. The mathematics: plain Lean about the specification, no program in sight -/
/-- a party's number: 0 its seats, 1 and 2 what it wants, 3 and 4 how much it cares -/
def fld (p : Party) (k : Nat) : Nat := match k with
  | 0 => p.seats
  | 1 => p.x
  | 2 => p.y
  | 3 => p.carex
  | _ => p.carey
/-- the house as it is handed in: five numbers of each party -/
def flat (h : House) : List Nat := h.flatMap fun p => [p.seats, p.x, p.y, p.carex, p.carey]
theorem flat_cons (p : Party) (h : House) : flat (p :: h) = p.seats :: p.x :: p.y :: p.carex :: p.carey :: flat h := rfl
theorem flat_len : ∀ h : House, (flat h).length = 5 * h.length
  | [] => rfl
  | p :: h => by
    rw [flat_cons]
    simp only [List.length_cons, flat_len h]
    omega
theorem party_cons0 (p : Party) (h : House) : party (p :: h) 0 = p := rfl
theorem party_succ (p : Party) (h : House) (i : Nat) : party (p :: h) (i + 1) = party h i := rfl
theorem flat_get : ∀ (h : House) (i k : Nat), i < h.length → k < 5 → (flat h)[5 * i + k]? = some (fld (party h i) k)
  | [], _, _, hi, _ => by simp at hi
  | p :: h, 0, k, _, hk => by
    rw [flat_cons, party_cons0]
    match k, hk with
    | 0, _ => rfl
    | 1, _ => rfl
    | 2, _ => rfl
    | 3, _ => rfl
    | 4, _ => rfl
    | k + 5, hk => omega
  | p :: h, i + 1, k, hi, hk => by
    have ih := flat_get h i k (by simpa using hi) hk
    rw [flat_cons, party_succ, ← ih, show 5 * (i + 1) + k = (5 * i + k) + 1 + 1 + 1 + 1 + 1 by omega]
    simp only [List.getElem?_cons_succ]
theorem five_flat : ∀ (n : Nat) (l : List Nat), l.length = 5 * n → flat (five l) = l ∧ (five l).length = n
  | 0, l, h => by
    have e : l = [] := List.eq_nil_of_length_eq_zero (by omega)
    subst e
    exact ⟨rfl, rfl⟩
  | n + 1, a :: b :: c :: d :: e :: l, h => by
    have ih := five_flat n l (by simp only [List.length_cons] at h; omega)
    refine ⟨?_, ?_⟩
    · show a :: b :: c :: d :: e :: flat (five l) = _
      rw [ih.1]
    · show (five l).length + 1 = n + 1
      rw [ih.2]
  | n + 1, [], h => by simp at h
  | n + 1, [_], h => by simp only [List.length_cons, List.length_nil] at h; omega
  | n + 1, [_, _], h => by simp only [List.length_cons, List.length_nil] at h; omega
  | n + 1, [_, _, _], h => by simp only [List.length_cons, List.length_nil] at h; omega
  | n + 1, [_, _, _, _], h => by simp only [List.length_cons, List.length_nil] at h; omega
theorem five_of {l : List Nat} (h : l.length % 5 = 0) : flat (five l) = l ∧ (five l).length = l.length / 5 :=
  five_flat (l.length / 5) l (by omega)
/-- whether a party is as told -/
def told1 (p : Party) : Bool := decide (1 ≤ p.seats) && decide (p.seats ≤ SEATS) && decide (p.x ≤ PLANE) && decide (p.y ≤ PLANE) && decide (1 ≤ p.carex) && decide (p.carex ≤ CARE) && decide (1 ≤ p.carey) && decide (p.carey ≤ CARE)
theorem told1_iff (p : Party) : told1 p = true ↔ (1 ≤ p.seats ∧ p.seats ≤ 200) ∧ (p.x ≤ 30 ∧ 1 ≤ p.carex ∧ p.carex ≤ 5) ∧ p.y ≤ 30 ∧ 1 ≤ p.carey ∧ p.carey ≤ 5 := by
  unfold told1 SEATS PLANE CARE
  simp only [Bool.and_eq_true, decide_eq_true_eq]
  omega
theorem told1_all (p : Party) : told1 p = true ↔ (1 ≤ p.seats ∧ p.seats ≤ 200) ∧ ∀ k, k < 2 → fld p (1 + k) ≤ 30 ∧ 1 ≤ fld p (3 + k) ∧ fld p (3 + k) ≤ 5 := by
  rw [told1_iff]
  constructor
  · rintro ⟨h0, h1, h2⟩
    refine ⟨h0, fun k hk => ?_⟩
    match k, hk with
    | 0, _ => exact h1
    | 1, _ => exact h2
    | k + 2, hk => omega
  · rintro ⟨h0, h1⟩
    exact ⟨h0, h1 0 (by decide), h1 1 (by decide)⟩
/-- whether a list of numbers is a house as told -/
def okL (l : List Nat) : Bool := decide (l.length % 5 = 0) && (decide (1 ≤ l.length / 5) && decide (l.length / 5 ≤ 5)) && (five l).all told1
theorem okL_iff (l : List Nat) : okL l = true ↔ l.length % 5 = 0 ∧ l.length ≤ 5 * PARTIES ∧ okHouse (five l) = true := by
  unfold okL
  constructor
  · intro h
    simp only [Bool.and_eq_true, decide_eq_true_eq] at h
    obtain ⟨⟨h0, h1, h2⟩, h3⟩ := h
    have e := (five_of h0).2
    refine ⟨h0, by unfold PARTIES; omega, ?_⟩
    unfold okHouse
    simp only [Bool.and_eq_true, decide_eq_true_eq]
    refine ⟨⟨by omega, by unfold PARTIES; omega⟩, ?_⟩
    exact h3
  · rintro ⟨h0, h1, h2⟩
    have e := (five_of h0).2
    unfold okHouse at h2
    simp only [Bool.and_eq_true, decide_eq_true_eq] at h2
    obtain ⟨⟨h3, h4⟩, h5⟩ := h2
    unfold PARTIES at h4
    simp only [Bool.and_eq_true, decide_eq_true_eq]
    exact ⟨⟨h0, by omega, by omega⟩, h5⟩
/-- what the refusal is: 0 where there is none -/
def refN (l hs : List Nat) : Int := if okL l = true then (if hs.any (fun x => decide (l.length / 5 ≤ x)) = true then -2 else 0) else -22
theorem refN_house {l hs : List Nat} (h : okL l = false) : refN l hs = -22 := by
  unfold refN
  rw [if_neg (by rw [h]; exact Bool.false_ne_true)]
theorem refN_party {l hs : List Nat} (h : okL l = true) (p : hs.any (fun x => decide (l.length / 5 ≤ x)) = true) : refN l hs = -2 := by
  unfold refN
  rw [if_pos h, if_pos p]
theorem refN_none {l hs : List Nat} (h : okL l = true) (p : hs.any (fun x => decide (l.length / 5 ≤ x)) = false) : refN l hs = 0 := by
  unfold refN
  rw [if_pos h, if_neg (by rw [p]; exact Bool.false_ne_true)]
/-- a house as told: at most five parties, small numbers -/
structure Good (h : House) : Prop where
  least : 1 ≤ h.length
  most : h.length ≤ 5
  told : ∀ i, i < h.length → told1 (party h i) = true
theorem party_get {h : House} {i : Nat} (hi : i < h.length) : party h i = h[i] := by
  unfold party
  rw [List.getD_eq_getElem?_getD, List.getElem?_eq_getElem hi]
  rfl
theorem good_of {l : List Nat} (h : okL l = true) : Good (five l) := by
  unfold okL at h
  simp only [Bool.and_eq_true, decide_eq_true_eq] at h
  obtain ⟨⟨h0, h1, h2⟩, h3⟩ := h
  have e := (five_of h0).2
  refine ⟨by omega, by omega, fun i hi => ?_⟩
  rw [party_get hi]
  exact List.all_eq_true.mp h3 _ (List.getElem_mem hi)
theorem okL_of {l : List Nat} (c0 : l.length % 5 = 0) (c1 : 1 ≤ l.length / 5 ∧ l.length / 5 ≤ 5) (t : ∀ k, k < (five l).length → told1 (party (five l) k) = true) : okL l = true := by
  unfold okL
  simp only [Bool.and_eq_true, decide_eq_true_eq]
  refine ⟨⟨c0, c1⟩, List.all_eq_true.mpr fun p hp => ?_⟩
  obtain ⟨k, hk, e⟩ := List.getElem_of_mem hp
  have q := t k hk
  rw [party_get hk, e] at q
  exact q
theorem Good.small {h : House} (g : Good h) {i : Nat} (hi : i < h.length) (k : Nat) : fld (party h i) k ≤ 200 := by
  have q := (told1_iff _).mp (g.told i hi)
  unfold fld
  split <;> omega
theorem given_ok {l : List Nat} (h : okL l = true) (f : House → Ans) : given l f = f (five l) := by
  unfold given
  rw [if_pos ((okL_iff l).mp h)]
theorem given_no {l : List Nat} (h : okL l ≠ true) (f : House → Ans) : given l f = no (-22) := by
  unfold given
  rw [if_neg (fun z => h ((okL_iff l).mpr z))]
/-! the sums -/
theorem seatsOf_snoc (h : House) (l : List Nat) (i : Nat) : seatsOf h (l ++ [i]) = seatsOf h l + (party h i).seats := by
  unfold seatsOf
  rw [List.foldl_append]
  rfl
theorem seats_more (h : House) (p : Nat → Bool) (i : Nat) : seatsOf h ((List.range (i + 1)).filter p) = seatsOf h ((List.range i).filter p) + (if p i = true then (party h i).seats else 0) := by
  rw [List.range_succ, List.filter_append]
  by_cases c : p i = true
  · rw [show List.filter p [i] = [i] by simp [c], seatsOf_snoc, if_pos c]
  · rw [show List.filter p [i] = [] by simp [c], List.append_nil, if_neg c, Nat.add_zero]
theorem seats_all (h : House) (i : Nat) : seatsOf h (List.range (i + 1)) = seatsOf h (List.range i) + (party h i).seats := by
  rw [List.range_succ, seatsOf_snoc]
theorem seats_bound {h : House} (g : Good h) (p : Nat → Bool) : ∀ i, i ≤ h.length → seatsOf h ((List.range i).filter p) ≤ 200 * i
  | 0, _ => by simp [seatsOf]
  | i + 1, hi => by
    have ih := seats_bound g p i (by omega)
    have q : (party h i).seats ≤ 200 := g.small (k := 0) (by omega)
    rw [seats_more]
    split <;> omega
/-! how far -/
theorem gap_int (a b : Nat) : (if (a : Int) < (b : Int) then (b : Int) - a else (a : Int) - b) = ((gap a b : Nat) : Int) := by
  unfold gap
  split <;> omega
theorem gap_comm (a b : Nat) : gap a b = gap b a := by
  unfold gap
  rw [Nat.max_comm, Nat.min_comm]
/-- a cabinet's holder of a question -/
def hold (c : Cabinet) (q : Nat) : Nat := if q = 0 then c.1 else c.2
/-- a question's part of how far -/
def part (h : House) (i : Nat) (c : Cabinet) (q : Nat) : Nat := fld (party h i) (3 + q) * gap (fld (party h (hold c q)) (1 + q)) (fld (party h i) (1 + q))
theorem far_is (h : House) (i : Nat) (c : Cabinet) : far h i c = part h i c 0 + part h i c 1 := by
  unfold far part hold
  rw [gap_comm (party h i).x, gap_comm (party h i).y]
  rfl
/-- the parts so far -/
def upto (h : House) (i : Nat) (c : Cabinet) : Nat → Nat
  | 0 => 0
  | n + 1 => upto h i c n + part h i c n
theorem upto_far (h : House) (i : Nat) (c : Cabinet) : far h i c = upto h i c 2 := by
  rw [far_is]
  show _ = (0 + part h i c 0) + part h i c 1
  rw [Nat.zero_add]
/-- both holders are parties -/
def In (h : House) (c : Cabinet) : Prop := c.1 < h.length ∧ c.2 < h.length
theorem In.hold {h : House} {c : Cabinet} (i : In h c) (q : Nat) : hold c q < h.length := by
  unfold Cab.hold
  split
  · exact i.1
  · exact i.2
/-! the cabinets -/
theorem cabinets_eq (h : House) : cabinets h = (List.range h.length).flatMap fun a => (List.range h.length).map fun b => (a, b) := rfl
theorem mem_cabinets {h : House} {c : Cabinet} : c ∈ cabinets h ↔ In h c := by
  rw [cabinets_eq]
  simp only [List.mem_flatMap, List.mem_range, List.mem_map]
  constructor
  · rintro ⟨a, ha, b, hb, rfl⟩
    exact ⟨ha, hb⟩
  · rintro ⟨h1, h2⟩
    exact ⟨c.1, h1, c.2, h2, rfl⟩
theorem cabs_more (n i : Nat) : ((List.range (i + 1)).flatMap fun a => (List.range n).map fun b => ((a, b) : Cabinet)) = ((List.range i).flatMap fun a => (List.range n).map fun b => ((a, b) : Cabinet)) ++ (List.range n).map fun b => ((i, b) : Cabinet) := by
  rw [List.range_succ, List.flatMap_append]
  simp
theorem row_more (a j : Nat) : ((List.range (j + 1)).map fun b => ((a, b) : Cabinet)) = ((List.range j).map fun b => ((a, b) : Cabinet)) ++ [(a, j)] := by
  rw [List.range_succ, List.map_append]
  rfl
theorem cabs_len (n : Nat) : ∀ i, ((List.range i).flatMap fun a => (List.range n).map fun b => ((a, b) : Cabinet)).length = i * n
  | 0 => by simp
  | i + 1 => by
    rw [cabs_more, List.length_append, cabs_len n i, List.length_map, List.length_range, Nat.succ_mul]
theorem cabinets_len (h : House) : (cabinets h).length = h.length * h.length := cabs_len _ _
theorem Good.few {h : House} (g : Good h) : (cabinets h).length ≤ 25 := by
  rw [cabinets_len]
  have q := Nat.mul_le_mul g.most g.most
  omega
/-! who unseats whom, in the program's order -/
theorem unseats_eq (h : House) (c d : Cabinet) : unseats h c d = (beats h c d && (rather h c.1 c d && rather h c.2 c d)) := by
  unfold unseats
  rw [Bool.and_assoc]
/-! in the middle -/
/-- the program's test: those who want less have no more than half, nor those who want more -/
def midI (h : House) (i k : Nat) : Bool := decide (2 * seatsOf h ((List.range h.length).filter fun j => decide (fld (party h j) k < fld (party h i) k)) ≤ all h) && decide (2 * seatsOf h ((List.range h.length).filter fun j => decide (fld (party h i) k < fld (party h j) k)) ≤ all h)
theorem midI_not (h : House) (i k : Nat) : midI h i k = (!decide (all h < 2 * seatsOf h ((List.range h.length).filter fun j => decide (fld (party h j) k < fld (party h i) k))) && !decide (all h < 2 * seatsOf h ((List.range h.length).filter fun j => decide (fld (party h i) k < fld (party h j) k)))) := by
  unfold midI
  rw [← decide_not, ← decide_not]
  simp only [Nat.not_lt]
theorem middle_x (h : House) : middle h (fun p => p.x) = (List.range h.length).filter fun i => midI h i 1 := rfl
theorem middle_y (h : House) : middle h (fun p => p.y) = (List.range h.length).filter fun i => midI h i 2 := rfl
theorem filter_row (p q : Nat → Bool) (l : List Nat) (a : Nat) : (l.map fun b => ((a, b) : Cabinet)).filter (fun c => p c.1 && q c.2) = if p a = true then (l.filter q).map (fun b => (a, b)) else [] := by
  induction l with
  | nil => simp
  | cons x r ih =>
    rw [List.map_cons, List.filter_cons, ih]
    by_cases c : p a = true
    · simp only [c, Bool.true_and, if_true, List.filter_cons]
      by_cases d : q x = true
      · rw [if_pos d, if_pos d, List.map_cons]
      · rw [if_neg d, if_neg d]
    · simp only [c, Bool.false_and, if_false, Bool.false_eq_true]
theorem filter_box (p q : Nat → Bool) (l : List Nat) : ∀ k : List Nat, ((k.flatMap fun a => l.map fun b => ((a, b) : Cabinet)).filter fun c => p c.1 && q c.2) = (k.filter p).flatMap fun a => (l.filter q).map fun b => ((a, b) : Cabinet)
  | [] => rfl
  | a :: k => by
    rw [List.flatMap_cons, List.filter_append, filter_box p q l k, filter_row]
    by_cases c : p a = true
    · rw [if_pos c, List.filter_cons, if_pos c, List.flatMap_cons]
    · rw [if_neg c, List.filter_cons, if_neg c, List.nil_append]
theorem middles_eq (h : House) : middles h = (cabinets h).filter fun c => midI h c.1 1 && midI h c.2 2 := by
  unfold middles
  rw [cabinets_eq, filter_box (fun i => midI h i 1) (fun i => midI h i 2), middle_x, middle_y]
/-! the answers -/
def toldI (cs : List Cabinet) : List Int := (cs.length : Int) :: (cs.flatMap fun c => [(c.1 : Int), (c.2 : Int)])
theorem toldI_eq (cs : List Cabinet) : Ks467Neutral.out (told cs) = toldI cs := by
  unfold Ks467Neutral.out told toldI Ks467Neutral.ints
  congr 1
  induction cs with
  | nil => rfl
  | cons c r ih =>
    rw [List.flatMap_cons, List.map_append, ih]
    rfl
theorem pairs_len : ∀ cs : List Cabinet, (cs.flatMap fun c => [(c.1 : Int), (c.2 : Int)]).length = 2 * cs.length
  | [] => rfl
  | c :: r => by
    have e : (c :: r).length = r.length + 1 := rfl
    rw [List.flatMap_cons, List.length_append, pairs_len r, e]
    show 2 + _ = _
    omega
theorem pairs_more {cs : List Cabinet} {i : Nat} {c : Cabinet} (h : cs[i]? = some c) : (cs.take (i + 1)).flatMap (fun c => [(c.1 : Int), (c.2 : Int)]) = ((cs.take i).flatMap fun c => [(c.1 : Int), (c.2 : Int)]) ++ [(c.1 : Int), (c.2 : Int)] := by
  rw [List.take_add_one, h, List.flatMap_append]
  simp
/-! the way down -/
theorem nodup_le : ∀ (l m : List Cabinet), l.Nodup → (∀ x ∈ l, x ∈ m) → l.length ≤ m.length
  | [], _, _, _ => Nat.zero_le _
  | a :: l, m, hn, hs => by
    rw [List.nodup_cons] at hn
    have ha : a ∈ m := hs a List.mem_cons_self
    have ih := nodup_le l (m.erase a) hn.2 fun x hx => by
      have hne : x ≠ a := fun e => hn.1 (e ▸ hx)
      exact (List.mem_erase_of_ne hne).mpr (hs x (List.mem_cons_of_mem _ hx))
    rw [List.length_erase_of_mem ha] at ih
    have : 0 < m.length := List.length_pos_of_mem ha
    rw [List.length_cons]
    omega
/-- there: those gone through, the last first; w: what stands behind the first so far -/
structure Way (h : House) (p : Cabinet) (i : Nat) (th : List Cabinet) : Prop where
  len : th.length = i + 1
  nod : th.Nodup
  ins : ∀ x ∈ th, In h x
  eq : ∃ d l, th.getLast? = some d ∧ (∀ x, l.contains x = th.contains x) ∧ th.drop 1 ++ fall h (26 - i) l d = fall h 26 [p] p
theorem Way.start {h : House} {p : Cabinet} (hp : In h p) : Way h p 0 [p] :=
  ⟨rfl, by simp, fun x hx => by rw [List.mem_singleton] at hx; subst hx; exact hp, p, [p], rfl, fun _ => rfl, rfl⟩
theorem Way.room {h : House} {p : Cabinet} {i : Nat} {th : List Cabinet} (w : Way h p i th) : i + 1 ≤ (cabinets h).length := by
  have q := nodup_le th (cabinets h) w.nod fun x hx => mem_cabinets.mpr (w.ins x hx)
  rw [w.len] at q
  exact q
theorem Way.stop {h : House} {p d : Cabinet} {i : Nat} {th : List Cabinet} (g : Good h) (w : Way h p i th) (hd : th.getLast? = some d) (hu : unseaters h d = []) : th.drop 1 = fall h 26 [p] p := by
  obtain ⟨d', l, h1, h2, h3⟩ := w.eq
  rw [hd] at h1
  cases h1
  have r := w.room
  have f := g.few
  obtain ⟨k, hk⟩ : ∃ k, 26 - i = k + 1 := ⟨25 - i, by omega⟩
  rw [hk] at h3
  generalize fall h 26 [p] p = R at h3 ⊢
  unfold fall at h3
  rw [hu] at h3
  dsimp only at h3
  rw [List.append_nil] at h3
  exact h3
theorem Way.back {h : House} {p d c : Cabinet} {i : Nat} {th us : List Cabinet} (g : Good h) (w : Way h p i th) (hd : th.getLast? = some d) (hu : unseaters h d = c :: us) (hc : th.contains c = true) : (th ++ [c]).drop 1 = fall h 26 [p] p := by
  obtain ⟨d', l, h1, h2, h3⟩ := w.eq
  rw [hd] at h1
  cases h1
  have r := w.room
  have f := g.few
  obtain ⟨k, hk⟩ : ∃ k, 26 - i = k + 1 := ⟨25 - i, by omega⟩
  rw [hk] at h3
  generalize fall h 26 [p] p = R at h3 ⊢
  unfold fall at h3
  rw [hu] at h3
  dsimp only at h3
  rw [if_pos (by rw [h2]; exact hc)] at h3
  rw [List.drop_append_of_le_length (by rw [w.len]; omega)]
  exact h3
theorem mem_unseaters {h : House} {c d : Cabinet} {us : List Cabinet} (hu : unseaters h d = c :: us) : In h c := by
  have q : c ∈ unseaters h d := by rw [hu]; exact List.mem_cons_self
  exact mem_cabinets.mp (List.mem_filter.mp q).1
theorem Way.next {h : House} {p d c : Cabinet} {i : Nat} {th us : List Cabinet} (g : Good h) (w : Way h p i th) (hd : th.getLast? = some d) (hu : unseaters h d = c :: us) (hc : ¬ th.contains c = true) : Way h p (i + 1) (th ++ [c]) := by
  obtain ⟨d', l, h1, h2, h3⟩ := w.eq
  rw [hd] at h1
  cases h1
  have r := w.room
  have f := g.few
  obtain ⟨k, hk⟩ : ∃ k, 26 - i = k + 1 := ⟨25 - i, by omega⟩
  rw [hk] at h3
  unfold fall at h3
  rw [hu] at h3
  dsimp only at h3
  rw [if_neg (by rw [h2]; exact hc)] at h3
  have hcm : c ∉ th := fun z => hc (List.contains_iff_mem.mpr z)
  refine ⟨by rw [List.length_append, w.len]; rfl, ?_, ?_, c, c :: l, by simp, fun x => ?_, ?_⟩
  · rw [List.nodup_append]
    refine ⟨w.nod, by simp, fun a ha b hb => ?_⟩
    rw [List.mem_singleton] at hb
    subst hb
    exact fun e => hcm (e ▸ ha)
  · intro x hx
    rcases List.mem_append.mp hx with hx | hx
    · exact w.ins x hx
    · rw [List.mem_singleton] at hx
      subst hx
      exact mem_unseaters hu
  · have e1 := h2 x
    simp only [List.contains_eq_any_beq, List.any_cons, List.any_append, List.any_nil, Bool.or_false] at e1 ⊢
    rw [e1, Bool.or_comm]
  · rw [List.drop_append_of_le_length (by rw [w.len]; omega), show 26 - (i + 1) = k by omega, List.append_assoc]
    exact h3
theorem fall_len (h : House) : ∀ (k : Nat) (l : List Cabinet) (d : Cabinet), (fall h k l d).length ≤ k
  | 0, _, _ => Nat.le_refl _
  | k + 1, l, d => by
    unfold fall
    split
    · exact Nat.zero_le _
    · rename_i c _ _
      split
      · show 1 ≤ k + 1
        omega
      · have ih := fall_len h k (c :: l) c
        show (fall h k (c :: l) c).length + 1 ≤ k + 1
        omega
/-! the calls: what is refused, and what is not -/
theorem cab_ok {h : House} {a b : Nat} (i : a < h.length ∧ b < h.length) (f : Cabinet → Ans) : cab h a b f = f (a, b) := by
  unfold cab
  rw [if_pos i]
theorem cab_no {h : House} {a b : Nat} (i : ¬ (a < h.length ∧ b < h.length)) (f : Cabinet → Ans) : cab h a b f = no (-2) := by
  unfold cab
  rw [if_neg i]
theorem okL_len {l : List Nat} (c : okL l = true) : (five l).length = l.length / 5 := (five_of ((okL_iff l).mp c).1).2
/-- no party is asked for -/
theorem call0 (l : List Nat) (f : House → Ans) : (refN l [] < 0 ∧ [refN l []] = Ks467Neutral.out (given l f)) ∨ (¬ refN l [] < 0 ∧ okL l = true ∧ Good (five l) ∧ given l f = f (five l)) := by
  by_cases c : okL l = true
  · refine .inr ⟨?_, c, good_of c, given_ok c f⟩
    rw [refN_none c rfl]
    decide
  · rw [refN_house (Bool.eq_false_iff.mpr c), given_no c]
    exact .inl ⟨by decide, rfl⟩
/-- a cabinet is asked for -/
theorem call2 (a b : Nat) (l : List Nat) (f : House → Cabinet → Ans) : (refN l [a, b] < 0 ∧ [refN l [a, b]] = Ks467Neutral.out (given l fun h => cab h a b (f h))) ∨ (¬ refN l [a, b] < 0 ∧ okL l = true ∧ Good (five l) ∧ In (five l) (a, b) ∧ (given l fun h => cab h a b (f h)) = f (five l) (a, b)) := by
  by_cases c : okL l = true
  · have e := okL_len c
    by_cases i : a < (five l).length ∧ b < (five l).length
    · refine .inr ⟨?_, c, good_of c, i, by rw [given_ok c, cab_ok i]⟩
      rw [refN_none c (by
        rw [List.any_eq_false]
        intro x hx
        simp only [List.mem_cons, List.not_mem_nil, or_false] at hx
        rw [decide_eq_true_eq]
        omega)]
      decide
    · rw [refN_party c (by
        rw [List.any_eq_true]
        by_cases j : a < (five l).length
        · exact ⟨b, by simp, decide_eq_true (by omega)⟩
        · exact ⟨a, by simp, decide_eq_true (by omega)⟩), given_ok c, cab_no i]
      exact .inl ⟨by decide, rfl⟩
  · rw [refN_house (Bool.eq_false_iff.mpr c), given_no c]
    exact .inl ⟨by decide, rfl⟩
/-- two cabinets are asked for -/
theorem call4 (a b d e : Nat) (l : List Nat) (f : House → Cabinet → Cabinet → Ans) : (refN l [a, b, d, e] < 0 ∧ [refN l [a, b, d, e]] = Ks467Neutral.out (given l fun h => cab h a b fun p => cab h d e fun q => f h p q)) ∨
    (¬ refN l [a, b, d, e] < 0 ∧ okL l = true ∧ Good (five l) ∧ In (five l) (a, b) ∧ In (five l) (d, e) ∧ (given l fun h => cab h a b fun p => cab h d e fun q => f h p q) = f (five l) (a, b) (d, e)) := by
  by_cases c : okL l = true
  · have en := okL_len c
    by_cases i : a < (five l).length ∧ b < (five l).length
    · by_cases j : d < (five l).length ∧ e < (five l).length
      · refine .inr ⟨?_, c, good_of c, i, j, by rw [given_ok c, cab_ok i, cab_ok j]⟩
        rw [refN_none c (by
          rw [List.any_eq_false]
          intro x hx
          simp only [List.mem_cons, List.not_mem_nil, or_false] at hx
          rw [decide_eq_true_eq]
          omega)]
        decide
      · rw [refN_party c (by
          rw [List.any_eq_true]
          by_cases k : d < (five l).length
          · exact ⟨e, by simp, decide_eq_true (by omega)⟩
          · exact ⟨d, by simp, decide_eq_true (by omega)⟩), given_ok c, cab_ok i, cab_no j]
        exact .inl ⟨by decide, rfl⟩
    · rw [refN_party c (by
        rw [List.any_eq_true]
        by_cases j : a < (five l).length
        · exact ⟨b, by simp, decide_eq_true (by omega)⟩
        · exact ⟨a, by simp, decide_eq_true (by omega)⟩), given_ok c, cab_no i]
      exact .inl ⟨by decide, rfl⟩
  · rw [refN_house (Bool.eq_false_iff.mpr c), given_no c]
    exact .inl ⟨by decide, rfl⟩
theorem nats_cast (l : List Nat) : Ks467Neutral.nats (l.map fun n : Nat => (n : Int)) = l := by
  unfold Ks467Neutral.nats
  rw [List.map_map]
  exact List.map_id' l
theorem f_beats (a b d e : Nat) (l : List Nat) : PyKs467.beats (a : Int) (b : Int) (d : Int) (e : Int) (l.map fun n : Nat => (n : Int)) = Ks467Neutral.out (answer (.beats a b d e l)) := by
  show Ks467Neutral.out (answer (.beats a b d e (Ks467Neutral.nats (l.map fun n : Nat => (n : Int))))) = _
  rw [nats_cast]
theorem f_beaters (a b : Nat) (l : List Nat) : PyKs467.beaters (a : Int) (b : Int) (l.map fun n : Nat => (n : Int)) = Ks467Neutral.out (answer (.beaters a b l)) := by
  show Ks467Neutral.out (answer (.beaters a b (Ks467Neutral.nats (l.map fun n : Nat => (n : Int))))) = _
  rw [nats_cast]
theorem f_unseaters (a b : Nat) (l : List Nat) : PyKs467.unseaters (a : Int) (b : Int) (l.map fun n : Nat => (n : Int)) = Ks467Neutral.out (answer (.unseaters a b l)) := by
  show Ks467Neutral.out (answer (.unseaters a b (Ks467Neutral.nats (l.map fun n : Nat => (n : Int))))) = _
  rw [nats_cast]
theorem f_standing (l : List Nat) : PyKs467.standing (l.map fun n : Nat => (n : Int)) = Ks467Neutral.out (answer (.standing l)) := by
  show Ks467Neutral.out (answer (.standing (Ks467Neutral.nats (l.map fun n : Nat => (n : Int))))) = _
  rw [nats_cast]
theorem f_holding (l : List Nat) : PyKs467.holding (l.map fun n : Nat => (n : Int)) = Ks467Neutral.out (answer (.holding l)) := by
  show Ks467Neutral.out (answer (.holding (Ks467Neutral.nats (l.map fun n : Nat => (n : Int))))) = _
  rw [nats_cast]
theorem f_middles (l : List Nat) : PyKs467.middles (l.map fun n : Nat => (n : Int)) = Ks467Neutral.out (answer (.middles l)) := by
  show Ks467Neutral.out (answer (.middles (Ks467Neutral.nats (l.map fun n : Nat => (n : Int))))) = _
  rw [nats_cast]
theorem f_strong (l : List Nat) : PyKs467.strong (l.map fun n : Nat => (n : Int)) = Ks467Neutral.out (answer (.strong l)) := by
  show Ks467Neutral.out (answer (.strong (Ks467Neutral.nats (l.map fun n : Nat => (n : Int))))) = _
  rw [nats_cast]
theorem f_fall (a b : Nat) (l : List Nat) : PyKs467.fall (a : Int) (b : Int) (l.map fun n : Nat => (n : Int)) = Ks467Neutral.out (answer (.fall a b l)) := by
  show Ks467Neutral.out (answer (.fall a b (Ks467Neutral.nats (l.map fun n : Nat => (n : Int))))) = _
  rw [nats_cast]
theorem nats_len (l : List Int) : (Ks467Neutral.nats l).length = l.length := List.length_map ..
theorem nats_back {l : List Int} (h : ∀ x ∈ l, 0 ≤ x) : (Ks467Neutral.nats l).map (fun n : Nat => (n : Int)) = l := by
  unfold Ks467Neutral.nats
  rw [List.map_map]
  induction l with
  | nil => rfl
  | cons x r ih =>
    rw [List.map_cons, ih fun y hy => h y (List.mem_cons_of_mem _ hy)]
    have := h x List.mem_cons_self
    show ((x.toNat : Nat) : Int) :: r = x :: r
    rw [Int.toNat_of_nonneg this]
end Cab

namespace Cab
open PySem PySem.Spec PyProof.Rows L2
/-! ### 2. Words for the walk: numbers, houses, cabinets as they lie in the heap -/
abbrev nI (n : Nat) : V := .int (n : Int)
/-- the house's numbers, as values -/
def hv (h : Ks467.House) : List V := (flat h).map nI
theorem hv_len (h : Ks467.House) : (hv h).length = 5 * h.length := by
  unfold hv
  rw [List.length_map, flat_len]
theorem hv_count (h : Ks467.House) : (hv h).length / 5 = h.length := by
  rw [hv_len]
  omega
theorem at_hv {h : Ks467.House} {i k : Nat} {z : Int} (hi : i < h.length) (hk : k < 5) (e : z = ((5 * i + k : Nat) : Int)) : atI (hv h) z = some (nI (fld (Ks467.party h i) k)) := by
  refine at_of e ?_
  unfold hv
  rw [List.getElem?_map, flat_get h i k hi hk]
  rfl
def HouseAt (K : PySem.W.Frag) (H : Hp) (a : Addr) (h : Ks467.House) : Prop := SqL K H a (hv h)
theorem HouseAt.same {K : PySem.W.Frag} {H H' : Hp} {a : Addr} {h : Ks467.House} (s : Same H H') (x : HouseAt K H a h) : HouseAt K H' a h := s.seq x
theorem same_upd {H : Hp} {p : Addr} {o : HO} (n : H p = none) : Same H (upd H p o) := fun b x e => by
  rw [upd_ne (ne_of_none e n)]
  exact e
theorem same_put {H H1 : Hp} {p : Addr} {o : HO} (s : Same H H1) (n : H p = none) : Same H (upd H1 p o) := fun b x e => by
  rw [upd_ne (ne_of_none e n)]
  exact s b x e
/-- a cabinet: a tuple that was made -/
def CabAt (H : Hp) (v : V) (c : Ks467.Cabinet) : Prop := ∃ t, v = .ref t ∧ H t = some (.tup [nI c.1, nI c.2])
abbrev Cabs (H : Hp) (vs : List V) (cs : List Ks467.Cabinet) : Prop := Paired (CabAt H) vs cs
theorem CabAt.same {H H' : Hp} {v : V} {c : Ks467.Cabinet} (s : Same H H') (x : CabAt H v c) : CabAt H' v c := by
  obtain ⟨t, e, h⟩ := x
  exact ⟨t, e, s _ _ h⟩
theorem CabAt.put {H : Hp} {v : V} {c : Ks467.Cabinet} {L : Addr} {xs ys : List V} (l : H L = some (.lst xs)) (x : CabAt H v c) : CabAt (upd H L (.lst ys)) v c := by
  obtain ⟨t, e, h⟩ := x
  refine ⟨t, e, ?_⟩
  rw [upd_ne (ne_of h l (by intro z; cases z))]
  exact h
theorem Cabs.same {H H' : Hp} {vs : List V} {cs : List Ks467.Cabinet} (s : Same H H') (x : Cabs H vs cs) : Cabs H' vs cs := Paired.mapP x fun _ _ y => y.same s
theorem Cabs.put {H : Hp} {vs : List V} {cs : List Ks467.Cabinet} {L : Addr} {xs ys : List V} (l : H L = some (.lst xs)) (x : Cabs H vs cs) : Cabs (upd H L (.lst ys)) vs cs := Paired.mapP x fun _ _ y => y.put l
theorem paired_get {A B : Type} {F : A → B → Prop} {l : List A} {m : List B} (p : Paired F l m) : ∀ {i : Nat} {x : A}, l[i]? = some x → ∃ y, m[i]? = some y ∧ F x y := by
  induction p with
  | nil =>
    intro i x e
    simp at e
  | cons r _ ih =>
    intro i x e
    cases i with
    | zero => exact ⟨_, rfl, Option.some.inj e ▸ r⟩
    | succ i => exact ih e
theorem get_nI {n i : Nat} {x : V} (e : ((List.range n).map nI)[i]? = some x) : i < n ∧ x = nI i := by
  rw [List.getElem?_map] at e
  by_cases hi : i < n
  · rw [List.getElem?_range hi] at e
    exact ⟨hi, (Option.some.inj e).symm⟩
  · rw [List.getElem?_eq_none (by simpa using hi)] at e
    cases e
theorem get_two {i : Nat} {x : V} (e : [nI 0, nI 1][i]? = some x) : i < 2 ∧ x = nI i := by
  match i, e with
  | 0, e => exact ⟨by omega, (Option.some.inj e).symm⟩
  | 1, e => exact ⟨by omega, (Option.some.inj e).symm⟩
  | i + 2, e => simp at e
theorem cut1 (xs : List V) : cutV xs (some 1) none = xs.drop 1 := by
  unfold cutV
  rw [show HT.sIx xs.length 0 (some 1) = min 1 xs.length from HT.sIx_nat xs.length 0 1, HT.sIx_none]
  cases xs with
  | nil => rfl
  | cons x r =>
    rw [show min 1 (x :: r).length = 1 by
      rw [List.length_cons]
      omega]
    show (List.take ((x :: r).length - 1) r) = r
    rw [List.length_cons, Nat.add_sub_cancel]
    exact List.take_length
theorem cabs_drop1 {H : Hp} {vs : List V} {cs : List Ks467.Cabinet} (h : Cabs H vs cs) : Cabs H (vs.drop 1) (cs.drop 1) := by
  cases h with
  | nil => exact .nil
  | cons _ t => exact t
/-- the last one -/
theorem cabs_last {H : Hp} {vs : List V} {cs : List Ks467.Cabinet} {c : Ks467.Cabinet} (h : Cabs H vs cs) (hc : cs.getLast? = some c) : ∃ x, atI vs (-1) = some x ∧ CabAt H x c := by
  have hl := h.length
  have h0 : cs ≠ [] := fun e => by
    subst e
    cases hc
  have n0 : vs ≠ [] := fun e => by
    subst e
    exact h0 (List.eq_nil_of_length_eq_zero hl.symm)
  have e1 : vs = vs.dropLast ++ [vs.getLast n0] := (List.dropLast_concat_getLast n0).symm
  have e2 : atI (vs.dropLast ++ [vs.getLast n0]) (-1) = some (vs.getLast n0) := atI_last _ _
  rw [← e1] at e2
  refine ⟨vs.getLast n0, e2, ?_⟩
  have g1 : vs[vs.length - 1]? = some (vs.getLast n0) := by
    rw [← List.getLast?_eq_getElem?, List.getLast?_eq_getLast n0]
  obtain ⟨c', h1, h2⟩ := paired_get h g1
  rw [hl, ← List.getLast?_eq_getElem?, hc] at h1
  cases h1
  exact h2
/-! a cabinet as data -/
def cabD (c : Ks467.Cabinet) : PyData := .tuple [.int (c.1 : Int), .int (c.2 : Int)]
theorem dp_cab {K : PySem.W.Frag} {H : Hp} {v : V} {c : Ks467.Cabinet} (h : CabAt H v c) : Dp K H v (cabD c) := by
  obtain ⟨t, rfl, ht⟩ := h
  exact .tup (SqT.of ht) (.cons (.int _) (.cons (.int _) .nil))
theorem dp_cabs {K : PySem.W.Frag} {H : Hp} : ∀ {vs : List V} {cs : List Ks467.Cabinet}, Cabs H vs cs → DpAll K H vs (cs.map cabD)
  | _, _, .nil => .nil
  | _, _, .cons h t => .cons (dp_cab h) (dp_cabs t)
/-- a list of cabinets as data: flat enough to be compared -/
theorem cabs_flat (cs : List Ks467.Cabinet) : PyData.canLayAll0 (cs.map cabD) = true ∧ PyData.depthAll (cs.map cabD) ≤ 1 := by
  induction cs with
  | nil => exact ⟨by simp [PyData.canLayAll0], by simp [PyData.depthAll]⟩
  | cons c r ih =>
    refine ⟨?_, ?_⟩
    · rw [List.map_cons]
      simp [PyData.canLayAll0, cabD, PyData.canLay0, ih.1]
    · have := ih.2
      simp only [List.map_cons, cabD, PyData.depthAll, PyData.depth] at this ⊢
      omega
theorem cab_shaped (c : Ks467.Cabinet) : SeqAt.shaped (cabD c) = true := by
  simp [SeqAt.shaped, cabD, PyData.canLay0, PyData.canLayAll0, PyData.depth, PyData.depthAll]
theorem cabs_shaped (cs : List Ks467.Cabinet) : SeqAt.shaped (.list (cs.map cabD)) = true := by
  obtain ⟨h1, h2⟩ := cabs_flat cs
  have h3 : PyData.depth (.list (cs.map cabD)) ≤ 64 := by
    simp only [PyData.depth]
    omega
  simp only [SeqAt.shaped, PyData.canLay0, h1, decide_eq_true h3, Bool.and_self]
theorem cab_eqv (a c : Ks467.Cabinet) : PyData.eqv (cabD a) (cabD c) = decide (a = c) := by
  rw [Bool.eq_iff_iff, decide_eq_true_eq, Prod.ext_iff]
  simp only [cabD, PyData.eqv, PyData.eqvAll, Bool.and_true, Bool.and_eq_true, beq_iff_eq]
  omega
theorem any_eqv (th : List Ks467.Cabinet) (z : Ks467.Cabinet) : ((th.map cabD).any fun x => PyData.eqv x (cabD z)) = th.contains z := by
  rw [List.any_map, List.contains_eq_any_beq]
  congr 1
  funext x
  show PyData.eqv (cabD x) (cabD z) = (z == x)
  rw [cab_eqv, Bool.eq_iff_iff, decide_eq_true_eq, beq_iff_eq]
  exact eq_comm
/-! ### 3. Defs of the module -/
/-- a def as its text stands under its name -/
def Txt (K : PySem.W.Frag) (mg : Str → Option Value) (x : Str) (ps : List Str) (st : Stmt) : Prop :=
  ∃ f fd, Fun K x x st f fd ∧ mg x = some (.ref f) ∧ ∀ us : List Value, us.length = ps.length → bindArgs fd ⟨us, []⟩ = pure (ps.zip us)
/-- .. that keeps a promise -/
def Def (P : Program) (w : World) (K : PySem.W.Frag) (mg : Str → Option Value) (base : Heap) (k : Nat) (x : Str) (ps : List Str) (sp : Sp) : Prop :=
  ∃ f fd, FnOk P w K mg base CX0 k f fd ps sp ∧ mg x = some (.ref f) ∧ PySem.W.keepIn K (.ref f) = true ∧ (∀ us : List Value, us.length = ps.length → bindArgs fd ⟨us, []⟩ = pure (ps.zip us)) ∧ ∃ oc od osl, K.lookup f = some ⟨oc, od, .func fd, osl⟩
section
variable {P : Program} {w : World} {K : PySem.W.Frag} {mg : Str → Option Value} {base : Heap}
theorem Txt.ok {x : Str} {st : Stmt} {N ps : List Str} {k : Nat} {sp : Sp} (T : Txt K mg x ps st) (S : FnScope N ps (defScope st)) (len : ∀ vs H Q E, sp vs H Q E → vs.length = ps.length)
    (hbody : ∀ (f : Addr) (cdv : Value) (A : Around) (outer : List Env) (s : Shared) (H : Hp) (vs : List V) (Q : VK) (E : XK), Room k (A.deeper (envOfC x (defScope st) s.heap.objs.size f cdv)) → sp vs H Q E →
      ∃ t, PSs (cxOf CX0 P w K mg base N x (defScope st) f cdv A outer s H E).nox (defBody st) t ∧ t { nx := fun _ H' => Q .non H', rt := Q } (start N vs) H) : Def P w K mg base (k + 1) x ps sp := by
  obtain ⟨f, fd, F, gm, b⟩ := T
  refine ⟨f, fd, F.ok S len (hbody f), gm, F.kp, b, ?_⟩
  obtain ⟨oc, od, _, _, _, _, _, _, osl, _, lk, _⟩ := F.ex
  exact ⟨oc, od, osl, lk⟩
theorem txt_of {h : Heap} {x : Str} {ps : List Str} {st : Stmt} {f : Addr} {oc kV doc pm cdv ct : Value} {od an : Option Addr} {osl : Array (Option Value)} (X : K.In h) (G : h.Ns mainGlobals mg)
    (hb : ∀ (kV doc pm : Value) (an : Option Addr) (cdv ct : Value) (us : List Value), us.length = ps.length → bindArgs (PySem.W.fnOf x x (defArgs st) (defBody st) (defScope st) .none kV doc pm an cdv ct) ⟨us, []⟩ = pure (ps.zip us))
    (a : PySem.W.nsIn K mainGlobals x = some (some (.ref f))) (l : K.lookup f = some ⟨oc, od, .func (PySem.W.fnOf x x (defArgs st) (defBody st) (defScope st) .none kV doc pm an cdv ct), osl⟩) (c : PySem.W.codeIn K cdv x = true) (k : PySem.W.keepIn K (.ref f) = true) : Txt K mg x ps st :=
  ⟨f, _, fun_mk l c k, PySem.W.mg_of X G a, hb kV doc pm an cdv ct⟩
/-- the row's own def -/
theorem top_of {x : Str} {ps : List Str} {sp : Sp} {k : Nat} {fa : Addr} {st : Stmt} (T : Txt K mg x ps st) (hfa : mg x = some (.ref fa)) (D : ∀ base : Heap, K.In base → base.Ns mainGlobals mg → Def P w K mg base k x ps sp) :
    ∃ fd : FuncData, (∀ (s : Shared) (us : List Value), us.length = ps.length → BindsTo s fd ⟨us, []⟩ (ps.zip us)) ∧ ∀ base : Heap, K.In base → base.Ns mainGlobals mg → FnOk P w K mg base CX0 k fa fd ps sp := by
  obtain ⟨f, fd, F, gm, b⟩ := T
  rw [hfa] at gm
  cases gm
  obtain ⟨oc, od, _, _, _, _, _, _, osl, _, lk, _⟩ := F.ex
  refine ⟨fd, fun s us hu => .of_eq (b us hu), fun base h1 h2 => ?_⟩
  obtain ⟨f', fd', G', gm', _, _, oc', od', osl', lk'⟩ := D base h1 h2
  rw [hfa] at gm'
  cases gm'
  rw [lk] at lk'
  cases lk'
  exact G'
end
section
variable {X : Cx}
/-- a call of a def of the module -/
theorem pe_def {x : Str} {ps : List Str} {k j : Nat} {sp : Sp} {p pos : Pos} {e : Expr} {es : List Expr} {t : TA} (D : Def X.prog X.w X.K X.mg X.base j x ps sp) (hr : Room k X.A) (ha : PA X (e :: es) t) (hj : j ≤ k := by decide) (hg : Gl X x := by rfl) (hdb : (x == ("__debug__" : Str)) = false := by decide)
    (he : starEach (e :: es) X.env = (false, eval e X.env) :: starEach es X.env := by rfl) (hpl : (backTo pos (starEach es X.env)).any (·.1) = false := by rfl) : PE X (.Call (.Name x p) (e :: es) [] pos) (tCall sp [] E0 t) := by
  obtain ⟨f, fd, G, gm, kp, b, _⟩ := D
  exact pe_call G (hr.mono hj) hg gm kp (.all b) .nil pass0 ha hdb he hpl
theorem room65 {k : Nat} {A : Around} (hr : Room k A) : A.units + 65 < cLine := by
  have := hr.un
  omega
/-- a number that the module names -/
theorem pe_num {x : Str} {n : Int} {pos : Pos} (h : ∃ t, X.mg x = some (.int n t)) (hg : Gl X x := by rfl) (hd : (x == ("__debug__" : Str)) = false := by decide) : PE X (.Name x pos) (tC (.int n)) := by
  obtain ⟨t, e⟩ := h
  exact pe_glob hg e ⟨t, rfl⟩ hd
end
/-- the module's own numbers, its questions, and the built-in names that it leaves as they are -/
structure Cst (K : PySem.W.Frag) (mg : Str → Option Value) : Prop where
  fields : ∃ t, mg "FIELDS" = some (.int 5 t)
  parties : ∃ t, mg "MOST_PARTIES" = some (.int 5 t)
  seats : ∃ t, mg "MOST_SEATS" = some (.int 200 t)
  wanted : ∃ t, mg "MOST_WANTED" = some (.int 30 t)
  care : ∃ t, mg "MOST_CARE" = some (.int 5 t)
  noHouse : ∃ t, mg "NO_HOUSE" = some (.int (-22) t)
  noParty : ∃ t, mg "NO_PARTY" = some (.int (-2) t)
  quest : ∃ q : Addr, mg "QUESTIONS" = some (.ref q) ∧ ∀ H : Hp, SqT K H q [nI 0, nI 1]
  len : mg "len" = none
  range : mg "range" = none
  list : mg "list" = none
theorem quest_of {K : PySem.W.Frag} {q : Addr} {od : Option Addr} {sl : Array (Option Value)} {n : Nat} {t0 t1 : Tok} (l : K.lookup q = some ⟨.type "tuple", od, .seq #[.int 0 t0, .int 1 t1] n, sl⟩) (H : Hp) : SqT K H q [nI 0, nI 1] :=
  .inr ⟨_, _, n, l, rfl, rfl, by rw [sizeLine_eq]; show 2 ≤ 16777216; decide, .cons ⟨t0, rfl⟩ (.cons ⟨t1, rfl⟩ .nil)⟩
theorem cst_of {K : PySem.W.Frag} {mg : Str → Option Value} {h : Heap} (X : K.In h) (G : h.Ns mainGlobals mg) {t1 t2 t3 t4 t5 t6 t7 t8 t9 : Tok} {q : Addr} {od : Option Addr} {sl : Array (Option Value)} {n : Nat}
    (a1 : PySem.W.nsIn K mainGlobals "FIELDS" = some (some (.int 5 t1))) (a2 : PySem.W.nsIn K mainGlobals "MOST_PARTIES" = some (some (.int 5 t2))) (a3 : PySem.W.nsIn K mainGlobals "MOST_SEATS" = some (some (.int 200 t3)))
    (a4 : PySem.W.nsIn K mainGlobals "MOST_WANTED" = some (some (.int 30 t4))) (a5 : PySem.W.nsIn K mainGlobals "MOST_CARE" = some (some (.int 5 t5))) (a6 : PySem.W.nsIn K mainGlobals "NO_HOUSE" = some (some (.int (-22) t6))) (a7 : PySem.W.nsIn K mainGlobals "NO_PARTY" = some (some (.int (-2) t7)))
    (a8 : PySem.W.nsIn K mainGlobals "QUESTIONS" = some (some (.ref q))) (l : K.lookup q = some ⟨.type "tuple", od, .seq #[.int 0 t8, .int 1 t9] n, sl⟩)
    (z1 : PySem.W.nsIn K mainGlobals "len" = some none) (z2 : PySem.W.nsIn K mainGlobals "range" = some none) (z3 : PySem.W.nsIn K mainGlobals "list" = some none) : Cst K mg :=
  ⟨⟨_, PySem.W.mg_of X G a1⟩, ⟨_, PySem.W.mg_of X G a2⟩, ⟨_, PySem.W.mg_of X G a3⟩, ⟨_, PySem.W.mg_of X G a4⟩, ⟨_, PySem.W.mg_of X G a5⟩, ⟨_, PySem.W.mg_of X G a6⟩, ⟨_, PySem.W.mg_of X G a7⟩, ⟨q, PySem.W.mg_of X G a8, quest_of l⟩, PySem.W.mg_none_of X G z1, PySem.W.mg_none_of X G z2, PySem.W.mg_none_of X G z3⟩
theorem len_of {K : PySem.W.Frag} {H : Hp} {p : Addr} {ws : List V} (h : H p = some (.lst ws)) : LenV K (.ref p) H ws.length := by
  exact .inl ⟨ws, SqL.of h, rfl⟩
theorem none_there {H : Hp} {vs : List V} {cs : List Ks467.Cabinet} (h : Cabs H vs cs) : (((vs.length : Nat) : Int) == 0) = cs.isEmpty := by
  have l := h.length
  cases cs with
  | nil =>
    rw [l]
    rfl
  | cons c r =>
    rw [l]
    show (((r.length + 1 : Nat) : Int) == 0) = false
    rw [beq_eq_false_iff_ne]
    omega
theorem nat_beq (m n : Nat) : ((m : Int) == (n : Int)) = (m == n) := by
  rw [Bool.eq_iff_iff, beq_iff_eq, beq_iff_eq]
  omega
/-! ### 4. The promises -/
def spCount (K : PySem.W.Frag) : Sp := fun vs H Q _ => ∃ (a : Addr) (xs : List V), vs = [.ref a] ∧ SqL K H a xs ∧ Q (nI (xs.length / 5)) H
def spParties (K : PySem.W.Frag) : Sp := fun vs H Q _ => ∃ (a : Addr) (xs : List V), vs = [.ref a] ∧ SqL K H a xs ∧ xs.length ≤ 32 ∧ ∀ p, H p = none → Q (.ref p) (upd H p (.lst ((List.range (xs.length / 5)).map nI)))
def spSeats (K : PySem.W.Frag) : Sp := fun vs H Q _ => ∃ (a : Addr) (h : Ks467.House) (i : Nat), vs = [.ref a, nI i] ∧ HouseAt K H a h ∧ i < h.length ∧ Q (nI (Ks467.party h i).seats) H
def spWanted (K : PySem.W.Frag) : Sp := fun vs H Q _ => ∃ (a : Addr) (h : Ks467.House) (i q : Nat), vs = [.ref a, nI i, nI q] ∧ HouseAt K H a h ∧ i < h.length ∧ q < 2 ∧ Q (nI (fld (Ks467.party h i) (1 + q))) H
def spCare (K : PySem.W.Frag) : Sp := fun vs H Q _ => ∃ (a : Addr) (h : Ks467.House) (i q : Nat), vs = [.ref a, nI i, nI q] ∧ HouseAt K H a h ∧ i < h.length ∧ q < 2 ∧ Q (nI (fld (Ks467.party h i) (3 + q))) H
def spBetween : Sp := fun vs H Q _ => ∃ n l m : Int, vs = [.int n, .int l, .int m] ∧ Q (.bl (decide (l ≤ n) && decide (n ≤ m))) H
def spTold (K : PySem.W.Frag) : Sp := fun vs H Q _ => ∃ (a : Addr) (h : Ks467.House) (i : Nat), vs = [.ref a, nI i] ∧ HouseAt K H a h ∧ i < h.length ∧ Q (.bl (told1 (Ks467.party h i))) H
def spHouse (K : PySem.W.Frag) : Sp := fun vs H Q _ => ∃ (a : Addr) (l : List Nat), vs = [.ref a] ∧ SqL K H a (l.map nI) ∧ l.length ≤ 32 ∧ ∀ H', Same H H' → Q (.bl (okL l)) H'
def spRefusal (K : PySem.W.Frag) : Sp := fun vs H Q _ => ∃ (a b : Addr) (l hs : List Nat), vs = [.ref a, .ref b] ∧ SqL K H a (l.map nI) ∧ l.length ≤ 32 ∧ SqL K H b (hs.map nI) ∧ ∀ H', Same H H' → Q (.int (refN l hs)) H'
def spGap : Sp := fun vs H Q _ => ∃ m n : Nat, vs = [nI m, nI n] ∧ Q (nI (Ks467.gap m n)) H
def spDone (K : PySem.W.Frag) : Sp := fun vs H Q _ => ∃ (a : Addr) (h : Ks467.House) (v : V) (c : Ks467.Cabinet) (q : Nat), vs = [.ref a, v, nI q] ∧ HouseAt K H a h ∧ CabAt H v c ∧ In h c ∧ q < 2 ∧ Q (nI (fld (Ks467.party h (hold c q)) (1 + q))) H
def spFar (K : PySem.W.Frag) : Sp := fun vs H Q _ => ∃ (a : Addr) (h : Ks467.House) (i : Nat) (v : V) (c : Ks467.Cabinet), vs = [.ref a, nI i, v] ∧ HouseAt K H a h ∧ Good h ∧ i < h.length ∧ CabAt H v c ∧ In h c ∧ Q (nI (Ks467.far h i c)) H
def spRather (K : PySem.W.Frag) : Sp := fun vs H Q _ => ∃ (a : Addr) (h : Ks467.House) (i : Nat) (v u : V) (c d : Ks467.Cabinet), vs = [.ref a, nI i, v, u] ∧ HouseAt K H a h ∧ Good h ∧ i < h.length ∧ CabAt H v c ∧ In h c ∧ CabAt H u d ∧ In h d ∧ Q (.bl (Ks467.rather h i c d)) H
def spAll (K : PySem.W.Frag) : Sp := fun vs H Q _ => ∃ (a : Addr) (h : Ks467.House), vs = [.ref a] ∧ HouseAt K H a h ∧ Good h ∧ ∀ H', Same H H' → Q (nI (Ks467.all h)) H'
def spMore (K : PySem.W.Frag) : Sp := fun vs H Q _ => ∃ (a : Addr) (h : Ks467.House) (n : Nat), vs = [.ref a, nI n] ∧ HouseAt K H a h ∧ Good h ∧ ∀ H', Same H H' → Q (.bl (decide (Ks467.all h < 2 * n))) H'
/-- two cabinets are handed in; what is given back: f -/
def spTwo (K : PySem.W.Frag) (f : Ks467.House → Ks467.Cabinet → Ks467.Cabinet → V) : Sp := fun vs H Q _ => ∃ (a : Addr) (h : Ks467.House) (v u : V) (c d : Ks467.Cabinet), vs = [.ref a, v, u] ∧ HouseAt K H a h ∧ Good h ∧ CabAt H v c ∧ In h c ∧ CabAt H u d ∧ In h d ∧ ∀ H', Same H H' → Q (f h c d) H'
/-- the house alone; given back: a new list of cabinets -/
def spList (K : PySem.W.Frag) (f : Ks467.House → List Ks467.Cabinet) : Sp := fun vs H Q _ => ∃ (a : Addr) (h : Ks467.House), vs = [.ref a] ∧ HouseAt K H a h ∧ Good h ∧ ∀ H' p ws, Same H H' → H' p = some (.lst ws) → Cabs H' ws (f h) → Q (.ref p) H'
/-- the house and a cabinet; given back: a new list of cabinets -/
def spFrom (K : PySem.W.Frag) (f : Ks467.House → Ks467.Cabinet → List Ks467.Cabinet) : Sp := fun vs H Q _ => ∃ (a : Addr) (h : Ks467.House) (v : V) (d : Ks467.Cabinet), vs = [.ref a, v] ∧ HouseAt K H a h ∧ Good h ∧ CabAt H v d ∧ In h d ∧ ∀ H' p ws, Same H H' → H' p = some (.lst ws) → Cabs H' ws (f h d) → Q (.ref p) H'
def spAnswer : Sp := fun vs H Q _ => ∃ (p : Addr) (ws : List V) (cs : List Ks467.Cabinet), vs = [.ref p] ∧ H p = some (.lst ws) ∧ Cabs H ws cs ∧ cs.length ≤ 100 ∧ ∀ H' o, Same H H' → H' o = some (.lst ((toldI cs).map V.int)) → Q (.ref o) H'
def spHolds : Sp := fun vs H Q _ => ∃ (i : Nat) (v : V) (c : Ks467.Cabinet), vs = [nI i, v] ∧ CabAt H v c ∧ Q (.bl (!(c.1 == i || c.2 == i))) H
/-- the house and a party; given back: f -/
def spParty (K : PySem.W.Frag) (f : Ks467.House → Nat → V) : Sp := fun vs H Q _ => ∃ (a : Addr) (h : Ks467.House) (i : Nat), vs = [.ref a, nI i] ∧ HouseAt K H a h ∧ Good h ∧ i < h.length ∧ ∀ H', Same H H' → Q (f h i) H'
def spStrong (K : PySem.W.Frag) : Sp := fun vs H Q _ => ∃ (a : Addr) (h : Ks467.House), vs = [.ref a] ∧ HouseAt K H a h ∧ Good h ∧ ∀ H' p, Same H H' → H' p = some (.lst ((Ks467.strong h).map nI)) → Q (.ref p) H'
/-- the house, a party and a question; given back: f of the party's number of that question -/
def spAsk (K : PySem.W.Frag) (f : Ks467.House → Nat → Nat → V) : Sp := fun vs H Q _ => ∃ (a : Addr) (h : Ks467.House) (i q : Nat), vs = [.ref a, nI i, nI q] ∧ HouseAt K H a h ∧ Good h ∧ i < h.length ∧ q < 2 ∧ ∀ H', Same H H' → Q (f h i (1 + q)) H'
/-! the module's calls: house's numbers, and up to four others -/
def spCall0 (K : PySem.W.Frag) (g : List Nat → List Int) : Sp := fun vs H Q _ => ∃ (r : Addr) (l : List Nat), vs = [.ref r] ∧ SqL K H r (l.map nI) ∧ l.length ≤ 32 ∧ ∀ H' p, H' p = some (.lst ((g l).map V.int)) → Q (.ref p) H'
def spCall2 (K : PySem.W.Frag) (g : Nat → Nat → List Nat → List Int) : Sp := fun vs H Q _ => ∃ (a b : Nat) (r : Addr) (l : List Nat), vs = [nI a, nI b, .ref r] ∧ SqL K H r (l.map nI) ∧ l.length ≤ 32 ∧ ∀ H' p, H' p = some (.lst ((g a b l).map V.int)) → Q (.ref p) H'
def spCall4 (K : PySem.W.Frag) (g : Nat → Nat → Nat → Nat → List Nat → List Int) : Sp := fun vs H Q _ => ∃ (a b c d : Nat) (r : Addr) (l : List Nat), vs = [nI a, nI b, nI c, nI d, .ref r] ∧ SqL K H r (l.map nI) ∧ l.length ≤ 32 ∧ ∀ H' p, H' p = some (.lst ((g a b c d l).map V.int)) → Q (.ref p) H'
end Cab

namespace Cab
open PySem PySem.Spec PyProof.Rows L2
/-! ### 5. The bodies -/
def top (i : Nat) : Stmt := PySem.Challenge.pw_cabinetstands_s02_beaters.main.body.getD i (.Pass ⟨0, 0, 0, 0⟩)

abbrev s_party_count : Stmt := top 9
theorem sc_party_count : FnScope ["house"] ["house"] (defScope s_party_count) := ⟨rfl, rfl, rfl, by decide +kernel, rfl, by decide +kernel, by decide +kernel⟩
theorem bi_party_count : ∀ (kV doc pm : Value) (an : Option Addr) (cdv ct : Value) (us : List Value), us.length = (["house"] : List Str).length → bindArgs (PySem.W.fnOf "party_count" "party_count" (defArgs s_party_count) (defBody s_party_count) (defScope s_party_count) .none kV doc pm an cdv ct) ⟨us, []⟩ = pure ((["house"] : List Str).zip us) := fun _ _ _ _ _ _ us hl => match us, hl with | [_], _ => rfl
theorem ok_party_count {P : Program} {w : World} {K : PySem.W.Frag} {mg : Str → Option Value} {base : Heap} (T : Txt K mg "party_count" ["house"] s_party_count) (C : Cst K mg) : Def P w K mg base 1 "party_count" ["house"] (spCount K) := by
  refine T.ok sc_party_count (fun vs H Q E h => ?_) (fun f cdv A outer s H vs Q E hr h => ?_)
  · obtain ⟨a, xs, rfl, _⟩ := h
    rfl
  · obtain ⟨a, xs, rfl, hS, q⟩ := h
    refine ⟨_, pss_one (ps_ret (pe_op op_fdiv (pe_callB call_len_seq (by rfl) C.len PySem.boot_len (pa_cons (pv 0) pa_nil)) (pe_num C.fields))), ?_⟩
    exact ⟨.ref a, rfl, a, xs, rfl, .inl hS, _, _, rfl, rfl, ⟨by decide, by decide⟩, q⟩
abbrev s_parties_of : Stmt := top 10
theorem sc_parties_of : FnScope ["house"] ["house"] (defScope s_parties_of) := ⟨rfl, rfl, rfl, by decide +kernel, rfl, by decide +kernel, by decide +kernel⟩
theorem bi_parties_of : ∀ (kV doc pm : Value) (an : Option Addr) (cdv ct : Value) (us : List Value), us.length = (["house"] : List Str).length → bindArgs (PySem.W.fnOf "parties_of" "parties_of" (defArgs s_parties_of) (defBody s_parties_of) (defScope s_parties_of) .none kV doc pm an cdv ct) ⟨us, []⟩ = pure ((["house"] : List Str).zip us) := fun _ _ _ _ _ _ us hl => match us, hl with | [_], _ => rfl
theorem ok_parties_of {P : Program} {w : World} {K : PySem.W.Frag} {mg : Str → Option Value} {base : Heap} (T : Txt K mg "parties_of" ["house"] s_parties_of) (C : Cst K mg) (D_party_count : Def P w K mg base 1 "party_count" ["house"] (spCount K)) : Def P w K mg base 2 "parties_of" ["house"] (spParties K) := by
  refine T.ok sc_parties_of (fun vs H Q E h => ?_) (fun f cdv A outer s H vs Q E hr h => ?_)
  · obtain ⟨a, xs, rfl, _⟩ := h
    rfl
  · obtain ⟨a, xs, rfl, hS, hlen, q⟩ := h
    refine ⟨_, pss_one (ps_ret (pe_listRg rfl (by rfl) C.list (prg_1 (by rfl) C.range (pe_def D_party_count hr (pa_cons (pv 0) pa_nil))))), ?_⟩
    refine ⟨.ref a, rfl, a, xs, rfl, hS, ((xs.length / 5 : Nat) : Int), rfl, RgOk.of_le (by decide) (by omega) (by decide) (by omega), fun p np => ?_⟩
    have e : rgV 0 ((xs.length / 5 : Nat) : Int) = (List.range (xs.length / 5)).map nI := by
      unfold rgV
      rw [Int.sub_zero, Int.toNat_natCast]
      refine List.map_congr_left fun i _ => ?_
      show V.int (0 + (i : Int)) = V.int (i : Int)
      rw [Int.zero_add]
    rw [e]
    exact q p np
abbrev s_seats_of : Stmt := top 11
theorem sc_seats_of : FnScope ["house", "party"] ["house", "party"] (defScope s_seats_of) := ⟨rfl, rfl, rfl, by decide +kernel, rfl, by decide +kernel, by decide +kernel⟩
theorem bi_seats_of : ∀ (kV doc pm : Value) (an : Option Addr) (cdv ct : Value) (us : List Value), us.length = (["house", "party"] : List Str).length → bindArgs (PySem.W.fnOf "seats_of" "seats_of" (defArgs s_seats_of) (defBody s_seats_of) (defScope s_seats_of) .none kV doc pm an cdv ct) ⟨us, []⟩ = pure ((["house", "party"] : List Str).zip us) := fun _ _ _ _ _ _ us hl => match us, hl with | [_, _], _ => rfl
theorem ok_seats_of {P : Program} {w : World} {K : PySem.W.Frag} {mg : Str → Option Value} {base : Heap} (T : Txt K mg "seats_of" ["house", "party"] s_seats_of) (C : Cst K mg) : Def P w K mg base 1 "seats_of" ["house", "party"] (spSeats K) := by
  refine T.ok sc_seats_of (fun vs H Q E h => ?_) (fun f cdv A outer s H vs Q E hr h => ?_)
  · obtain ⟨a, h, i, rfl, _⟩ := h
    rfl
  · obtain ⟨a, h, i, rfl, hS, hi, q⟩ := h
    refine ⟨_, pss_one (ps_ret (pe_ix ix_list (pv 0) (pe_op op_mul (pe_num C.fields) (pv 1)) (fun _ _ => rfl))), ?_⟩
    exact ⟨.ref a, rfl, nI i, rfl, 5, i, rfl, rfl, .inl ⟨by decide, by decide⟩, a, _, _, _, rfl, rfl, hS, at_hv (k := 0) hi (by decide) (by omega), q⟩
abbrev s_wanted : Stmt := top 12
theorem sc_wanted : FnScope ["house", "party", "question"] ["house", "party", "question"] (defScope s_wanted) := ⟨rfl, rfl, rfl, by decide +kernel, rfl, by decide +kernel, by decide +kernel⟩
theorem bi_wanted : ∀ (kV doc pm : Value) (an : Option Addr) (cdv ct : Value) (us : List Value), us.length = (["house", "party", "question"] : List Str).length → bindArgs (PySem.W.fnOf "wanted" "wanted" (defArgs s_wanted) (defBody s_wanted) (defScope s_wanted) .none kV doc pm an cdv ct) ⟨us, []⟩ = pure ((["house", "party", "question"] : List Str).zip us) := fun _ _ _ _ _ _ us hl => match us, hl with | [_, _, _], _ => rfl
theorem ok_wanted {P : Program} {w : World} {K : PySem.W.Frag} {mg : Str → Option Value} {base : Heap} (T : Txt K mg "wanted" ["house", "party", "question"] s_wanted) (C : Cst K mg) : Def P w K mg base 1 "wanted" ["house", "party", "question"] (spWanted K) := by
  refine T.ok sc_wanted (fun vs H Q E h => ?_) (fun f cdv A outer s H vs Q E hr h => ?_)
  · obtain ⟨a, h, i, k, rfl, _⟩ := h
    rfl
  · obtain ⟨a, h, i, k, rfl, hS, hi, hk, q⟩ := h
    refine ⟨_, pss_one (ps_ret (pe_ix ix_list (pv 0) (pe_op op_add (pe_op op_add (pe_op op_mul (pe_num C.fields) (pv 1)) pe_int) (pv 2)) (fun _ _ => rfl))), ?_⟩
    exact ⟨.ref a, rfl, nI i, rfl, 5, i, rfl, rfl, .inl ⟨by decide, by decide⟩, _, _, rfl, rfl, nI k, rfl, _, _, rfl, rfl, a, _, _, _, rfl, rfl, hS, at_hv (k := 1 + k) hi (by omega) (by omega), q⟩
abbrev s_care : Stmt := top 13
theorem sc_care : FnScope ["house", "party", "question"] ["house", "party", "question"] (defScope s_care) := ⟨rfl, rfl, rfl, by decide +kernel, rfl, by decide +kernel, by decide +kernel⟩
theorem bi_care : ∀ (kV doc pm : Value) (an : Option Addr) (cdv ct : Value) (us : List Value), us.length = (["house", "party", "question"] : List Str).length → bindArgs (PySem.W.fnOf "care" "care" (defArgs s_care) (defBody s_care) (defScope s_care) .none kV doc pm an cdv ct) ⟨us, []⟩ = pure ((["house", "party", "question"] : List Str).zip us) := fun _ _ _ _ _ _ us hl => match us, hl with | [_, _, _], _ => rfl
theorem ok_care {P : Program} {w : World} {K : PySem.W.Frag} {mg : Str → Option Value} {base : Heap} (T : Txt K mg "care" ["house", "party", "question"] s_care) (C : Cst K mg) : Def P w K mg base 1 "care" ["house", "party", "question"] (spCare K) := by
  refine T.ok sc_care (fun vs H Q E h => ?_) (fun f cdv A outer s H vs Q E hr h => ?_)
  · obtain ⟨a, h, i, k, rfl, _⟩ := h
    rfl
  · obtain ⟨a, h, i, k, rfl, hS, hi, hk, q⟩ := h
    refine ⟨_, pss_one (ps_ret (pe_ix ix_list (pv 0) (pe_op op_add (pe_op op_add (pe_op op_mul (pe_num C.fields) (pv 1)) pe_int) (pv 2)) (fun _ _ => rfl))), ?_⟩
    exact ⟨.ref a, rfl, nI i, rfl, 5, i, rfl, rfl, .inl ⟨by decide, by decide⟩, _, _, rfl, rfl, nI k, rfl, _, _, rfl, rfl, a, _, _, _, rfl, rfl, hS, at_hv (k := 3 + k) hi (by omega) (by omega), q⟩
abbrev s_is_between : Stmt := top 14
theorem sc_is_between : FnScope ["number", "least", "most"] ["number", "least", "most"] (defScope s_is_between) := ⟨rfl, rfl, rfl, by decide +kernel, rfl, by decide +kernel, by decide +kernel⟩
theorem bi_is_between : ∀ (kV doc pm : Value) (an : Option Addr) (cdv ct : Value) (us : List Value), us.length = (["number", "least", "most"] : List Str).length → bindArgs (PySem.W.fnOf "is_between" "is_between" (defArgs s_is_between) (defBody s_is_between) (defScope s_is_between) .none kV doc pm an cdv ct) ⟨us, []⟩ = pure ((["number", "least", "most"] : List Str).zip us) := fun _ _ _ _ _ _ us hl => match us, hl with | [_, _, _], _ => rfl
theorem ok_is_between {P : Program} {w : World} {K : PySem.W.Frag} {mg : Str → Option Value} {base : Heap} (T : Txt K mg "is_between" ["number", "least", "most"] s_is_between) (C : Cst K mg) : Def P w K mg base 1 "is_between" ["number", "least", "most"] (spBetween) := by
  refine T.ok sc_is_between (fun vs H Q E h => ?_) (fun f cdv A outer s H vs Q E hr h => ?_)
  · obtain ⟨n, l, m, rfl, _⟩ := h
    rfl
  · obtain ⟨n, l, m, rfl, q⟩ := h
    refine ⟨_, pss_one (ps_ret (pe_and (pe_cmpR op_le (pv 1) (pv 0) (nomark _)) (pe_one (pe_cmpR op_le (pv 0) (pv 2) (nomark _))))), ?_⟩
    refine ⟨.int l, rfl, .int n, rfl, l, n, rfl, rfl, decide (l ≤ n), rfl, ?_⟩
    by_cases c : l ≤ n
    · rw [decide_eq_true c] at q ⊢
      refine iteT ⟨.int n, rfl, .int m, rfl, n, m, rfl, rfl, ?_⟩
      rw [Bool.true_and] at q
      exact q
    · rw [decide_eq_false c] at q ⊢
      exact iteF q
abbrev s_is_party_told : Stmt := top 15
theorem sc_is_party_told : FnScope ["house", "party", "question"] ["house", "party"] (defScope s_is_party_told) := ⟨rfl, rfl, rfl, by decide +kernel, rfl, by decide +kernel, by decide +kernel⟩
theorem bi_is_party_told : ∀ (kV doc pm : Value) (an : Option Addr) (cdv ct : Value) (us : List Value), us.length = (["house", "party"] : List Str).length → bindArgs (PySem.W.fnOf "is_party_told" "is_party_told" (defArgs s_is_party_told) (defBody s_is_party_told) (defScope s_is_party_told) .none kV doc pm an cdv ct) ⟨us, []⟩ = pure ((["house", "party"] : List Str).zip us) := fun _ _ _ _ _ _ us hl => match us, hl with | [_, _], _ => rfl
theorem ok_is_party_told {P : Program} {w : World} {K : PySem.W.Frag} {mg : Str → Option Value} {base : Heap} (T : Txt K mg "is_party_told" ["house", "party"] s_is_party_told) (C : Cst K mg) (D_seats_of : Def P w K mg base 1 "seats_of" ["house", "party"] (spSeats K)) (D_wanted : Def P w K mg base 1 "wanted" ["house", "party", "question"] (spWanted K)) (D_care : Def P w K mg base 1 "care" ["house", "party", "question"] (spCare K)) (D_is_between : Def P w K mg base 1 "is_between" ["number", "least", "most"] (spBetween)) : Def P w K mg base 2 "is_party_told" ["house", "party"] (spTold K) := by
  refine T.ok sc_is_party_told (fun vs H Q E h => ?_) (fun f cdv A outer s H vs Q E hr h => ?_)
  · obtain ⟨a, h, i, rfl, _⟩ := h
    rfl
  · obtain ⟨a, h, i, rfl, hS, hi, q⟩ := h
    obtain ⟨qa, hq, hQ⟩ := C.quest
    refine ⟨_, pss_cons (ps_if (pt_not (pt_val (pe_def D_is_between hr (pa_cons (pe_def D_seats_of hr (pa_cons (pv 0) (pa_cons (pv 1) pa_nil))) (pa_cons pe_int (pa_cons (pe_num C.seats) pa_nil)))))) (pss_one (ps_ret pe_bl)) pss_nil)
      (pss_cons (ps_for PassesOwn.never rfl (pi_tup (pe_glob (by rfl) hq (v := .ref qa) rfl)) (pg_name (i := 2) sc_is_party_told.nd rfl (.inl rfl))
        (pss_cons (ps_if (pt_not (pt_val (pe_def D_is_between hr (pa_cons (pe_def D_wanted hr (pa_cons (pv 0) (pa_cons (pv 1) (pa_cons (pv 2) pa_nil)))) (pa_cons pe_int (pa_cons (pe_num C.wanted) pa_nil)))))) (pss_one (ps_ret pe_bl)) pss_nil)
        (pss_one (ps_if (pt_not (pt_val (pe_def D_is_between hr (pa_cons (pe_def D_care hr (pa_cons (pv 0) (pa_cons (pv 1) (pa_cons (pv 2) pa_nil)))) (pa_cons pe_int (pa_cons (pe_num C.care) pa_nil)))))) (pss_one (ps_ret pe_bl)) pss_nil))))
      (pss_one (ps_ret pe_bl))), ?_⟩
    have ht := told1_all (Ks467.party h i)
    refine ⟨.ref a, rfl, nI i, rfl, a, h, i, rfl, hS, hi, _, _, _, rfl, _, rfl, ?_⟩
    by_cases c0 : 1 ≤ (Ks467.party h i).seats ∧ (Ks467.party h i).seats ≤ 200
    · have e0 : (decide ((1 : Int) ≤ ((Ks467.party h i).seats : Int)) && decide (((Ks467.party h i).seats : Int) ≤ 200)) = true := by
        rw [Bool.and_eq_true, decide_eq_true_eq, decide_eq_true_eq]
        omega
      rw [e0]
      refine iteF ?_
      refine ⟨qa, rfl, ⟨_, hQ H⟩, for_tup (K := K) (a := qa) (xs := [nI 0, nI 1]) (fun n σ H' => ∃ v, σ = [some (.ref a), some (nI i), v] ∧ H' = H ∧ ∀ k, k < n → k < 2 → fld (Ks467.party h i) (1 + k) ≤ 30 ∧ 1 ≤ fld (Ks467.party h i) (3 + k) ∧ fld (Ks467.party h i) (3 + k) ≤ 5)
        ⟨none, rfl, rfl, fun k hk => absurd hk (Nat.not_lt_zero k)⟩ (fun n σ H' _ _ => hQ H') ?_ ?_⟩
      · rintro n x σ H' hx ⟨v, rfl, rfl, told⟩
        obtain ⟨hn, rfl⟩ := get_two hx
        refine ⟨.ref a, rfl, nI i, rfl, nI n, rfl, a, h, i, n, rfl, hS, hi, hn, _, _, _, rfl, _, rfl, ?_⟩
        by_cases c1 : fld (Ks467.party h i) (1 + n) ≤ 30
        · have e1 : (decide ((0 : Int) ≤ (fld (Ks467.party h i) (1 + n) : Int)) && decide ((fld (Ks467.party h i) (1 + n) : Int) ≤ 30)) = true := by
            rw [Bool.and_eq_true, decide_eq_true_eq, decide_eq_true_eq]
            omega
          rw [e1]
          refine iteF ?_
          refine ⟨.ref a, rfl, nI i, rfl, nI n, rfl, a, h, i, n, rfl, hS, hi, hn, _, _, _, rfl, _, rfl, ?_⟩
          by_cases c2 : 1 ≤ fld (Ks467.party h i) (3 + n) ∧ fld (Ks467.party h i) (3 + n) ≤ 5
          · have e2 : (decide ((1 : Int) ≤ (fld (Ks467.party h i) (3 + n) : Int)) && decide ((fld (Ks467.party h i) (3 + n) : Int) ≤ 5)) = true := by
              rw [Bool.and_eq_true, decide_eq_true_eq, decide_eq_true_eq]
              omega
            rw [e2]
            refine iteF ⟨_, rfl, rfl, fun k hk hk2 => ?_⟩
            by_cases ek : k = n
            · subst ek
              exact ⟨c1, c2⟩
            · exact told k (by omega) hk2
          · have e2 : (decide ((1 : Int) ≤ (fld (Ks467.party h i) (3 + n) : Int)) && decide ((fld (Ks467.party h i) (3 + n) : Int) ≤ 5)) = false := by
              rw [Bool.and_eq_false_iff, decide_eq_false_iff_not, decide_eq_false_iff_not]
              omega
            rw [e2]
            refine iteT ?_
            rw [Bool.eq_false_iff.mpr (fun z => c2 ((ht.mp z).2 n hn).2)] at q
            exact q
        · have e1 : (decide ((0 : Int) ≤ (fld (Ks467.party h i) (1 + n) : Int)) && decide ((fld (Ks467.party h i) (1 + n) : Int) ≤ 30)) = false := by
            rw [Bool.and_eq_false_iff, decide_eq_false_iff_not, decide_eq_false_iff_not]
            omega
          rw [e1]
          refine iteT ?_
          rw [Bool.eq_false_iff.mpr (fun z => c1 ((ht.mp z).2 n hn).1)] at q
          exact q
      · rintro σ H' ⟨v, rfl, rfl, told⟩
        rw [ht.mpr ⟨c0, fun k hk => told k hk hk⟩] at q
        exact q
    · have e0 : (decide ((1 : Int) ≤ ((Ks467.party h i).seats : Int)) && decide (((Ks467.party h i).seats : Int) ≤ 200)) = false := by
        rw [Bool.and_eq_false_iff, decide_eq_false_iff_not, decide_eq_false_iff_not]
        omega
      rw [e0]
      refine iteT ?_
      rw [Bool.eq_false_iff.mpr (fun z => c0 (ht.mp z).1)] at q
      exact q
abbrev s_is_house : Stmt := top 16
theorem sc_is_house : FnScope ["house", "party"] ["house"] (defScope s_is_house) := ⟨rfl, rfl, rfl, by decide +kernel, rfl, by decide +kernel, by decide +kernel⟩
theorem bi_is_house : ∀ (kV doc pm : Value) (an : Option Addr) (cdv ct : Value) (us : List Value), us.length = (["house"] : List Str).length → bindArgs (PySem.W.fnOf "is_house" "is_house" (defArgs s_is_house) (defBody s_is_house) (defScope s_is_house) .none kV doc pm an cdv ct) ⟨us, []⟩ = pure ((["house"] : List Str).zip us) := fun _ _ _ _ _ _ us hl => match us, hl with | [_], _ => rfl
theorem ok_is_house {P : Program} {w : World} {K : PySem.W.Frag} {mg : Str → Option Value} {base : Heap} (T : Txt K mg "is_house" ["house"] s_is_house) (C : Cst K mg) (D_party_count : Def P w K mg base 1 "party_count" ["house"] (spCount K)) (D_parties_of : Def P w K mg base 2 "parties_of" ["house"] (spParties K)) (D_is_between : Def P w K mg base 1 "is_between" ["number", "least", "most"] (spBetween)) (D_is_party_told : Def P w K mg base 2 "is_party_told" ["house", "party"] (spTold K)) : Def P w K mg base 3 "is_house" ["house"] (spHouse K) := by
  refine T.ok sc_is_house (fun vs H Q E h => ?_) (fun f cdv A outer s H vs Q E hr h => ?_)
  · obtain ⟨a, l, rfl, _⟩ := h
    rfl
  · obtain ⟨a, l, rfl, hS, hlen, q⟩ := h
    refine ⟨_, pss_cons (ps_if (PW.pt (pw_or (pt_cmpR op_ne (pe_op op_mod (pe_callB call_len_seq (by rfl) C.len PySem.boot_len (pa_cons (pv 0) pa_nil)) (pe_num C.fields)) pe_int (nomark _))
          (pw_or1 (pt_not (pt_val (pe_def D_is_between hr (pa_cons (pe_def D_party_count hr (pa_cons (pv 0) pa_nil)) (pa_cons pe_int (pa_cons (pe_num C.parties) pa_nil))))))))) (pss_one (ps_ret pe_bl)) pss_nil)
      (pss_cons (ps_for PassesOwn.never rfl (pi_list (pe_def D_parties_of hr (pa_cons (pv 0) pa_nil))) (pg_name (i := 1) sc_is_house.nd rfl (.inl rfl))
        (pss_one (ps_if (pt_not (pt_val (pe_def D_is_party_told hr (pa_cons (pv 0) (pa_cons (pv 1) pa_nil))))) (pss_one (ps_ret pe_bl)) pss_nil)))
      (pss_one (ps_ret pe_bl))), ?_⟩
    have el : (l.map nI).length = l.length := List.length_map ..
    refine ⟨.ref a, rfl, a, _, rfl, .inl hS, _, 5, rfl, rfl, (by show (0 : Int) < 5; decide), rfl, _, rfl, ?_⟩
    rw [dec_int, el]
    by_cases c0 : l.length % 5 = 0
    · have e0 : (!(((l.length : Nat) : Int) % 5 == 0)) = false := by
        rw [Bool.not_eq_false', beq_iff_eq]
        omega
      rw [e0]
      refine iteF ?_
      refine ⟨.ref a, rfl, a, _, rfl, hS, _, _, _, rfl, _, rfl, ?_⟩
      rw [el]
      have eC := (five_of c0).2
      by_cases c1 : 1 ≤ l.length / 5 ∧ l.length / 5 ≤ 5
      · have e1 : (decide ((1 : Int) ≤ ((l.length / 5 : Nat) : Int)) && decide (((l.length / 5 : Nat) : Int) ≤ 5)) = true := by
          rw [Bool.and_eq_true, decide_eq_true_eq, decide_eq_true_eq]
          omega
        rw [e1]
        refine iteF ?_
        refine ⟨.ref a, rfl, a, _, rfl, hS, by rw [el]; exact hlen, fun p np => ?_⟩
        rw [el]
        have s1 : Same H (upd H p (.lst ((List.range (l.length / 5)).map nI))) := same_upd np
        have hH : HouseAt K (upd H p (.lst ((List.range (l.length / 5)).map nI))) a (Ks467.five l) := by
          show SqL K _ a ((flat (Ks467.five l)).map nI)
          rw [(five_of c0).1]
          exact s1.seq hS
        refine ⟨p, rfl, ⟨_, SqL.of upd_same⟩, for_list (K := K) (a := p) (xs := (List.range (l.length / 5)).map nI) (fun n σ H' => ∃ v, σ = [some (.ref a), v] ∧ H' = upd H p (.lst ((List.range (l.length / 5)).map nI)) ∧ ∀ k, k < n → k < (Ks467.five l).length → told1 (Ks467.party (Ks467.five l) k) = true)
          ⟨none, rfl, rfl, fun k hk => absurd hk (Nat.not_lt_zero k)⟩ (fun n σ H' _ hP => ?_) ?_ ?_⟩
        · obtain ⟨_, _, rfl, _⟩ := hP
          exact SqL.of upd_same
        · rintro n x σ H' hx ⟨v, rfl, rfl, told⟩
          obtain ⟨hn, rfl⟩ := get_nI hx
          refine ⟨.ref a, rfl, nI n, rfl, a, Ks467.five l, n, rfl, hH, by rw [eC]; exact hn, _, rfl, ?_⟩
          by_cases c2 : told1 (Ks467.party (Ks467.five l) n) = true
          · rw [c2]
            refine iteF ⟨_, rfl, rfl, fun k hk hk2 => ?_⟩
            by_cases ek : k = n
            · subst ek
              exact c2
            · exact told k (by omega) hk2
          · have e2 : told1 (Ks467.party (Ks467.five l) n) = false := Bool.eq_false_iff.mpr c2
            rw [e2]
            refine iteT ?_
            have q2 := q _ s1
            rw [Bool.eq_false_iff.mpr (fun z => c2 ((good_of z).told n (by rw [eC]; exact hn)))] at q2
            exact q2
        · rintro σ H' ⟨v, rfl, rfl, told⟩
          have q2 := q _ s1
          rw [okL_of c0 c1 (fun k hk => told k (by rw [List.length_map, List.length_range, ← eC]; exact hk) hk)] at q2
          exact q2
      · have e1 : (decide ((1 : Int) ≤ ((l.length / 5 : Nat) : Int)) && decide (((l.length / 5 : Nat) : Int) ≤ 5)) = false := by
          rw [Bool.and_eq_false_iff, decide_eq_false_iff_not, decide_eq_false_iff_not]
          omega
        rw [e1]
        refine iteT ?_
        have q2 := q _ (Same.refl H)
        rw [Bool.eq_false_iff.mpr (fun z : okL l = true => c1 (by have g := good_of z; have m1 := g.least; have m2 := g.most; omega))] at q2
        exact q2
    · have e0 : (!(((l.length : Nat) : Int) % 5 == 0)) = true := by
        rw [Bool.not_eq_true', beq_eq_false_iff_ne]
        omega
      rw [e0]
      refine iteT (iteT ?_)
      have q2 := q _ (Same.refl H)
      rw [Bool.eq_false_iff.mpr (fun z => c0 ((okL_iff l).mp z).1)] at q2
      exact q2
abbrev s_refusal_of : Stmt := top 17
theorem sc_refusal_of : FnScope ["house", "holders", "holder"] ["house", "holders"] (defScope s_refusal_of) := ⟨rfl, rfl, rfl, by decide +kernel, rfl, by decide +kernel, by decide +kernel⟩
theorem bi_refusal_of : ∀ (kV doc pm : Value) (an : Option Addr) (cdv ct : Value) (us : List Value), us.length = (["house", "holders"] : List Str).length → bindArgs (PySem.W.fnOf "refusal_of" "refusal_of" (defArgs s_refusal_of) (defBody s_refusal_of) (defScope s_refusal_of) .none kV doc pm an cdv ct) ⟨us, []⟩ = pure ((["house", "holders"] : List Str).zip us) := fun _ _ _ _ _ _ us hl => match us, hl with | [_, _], _ => rfl
theorem ok_refusal_of {P : Program} {w : World} {K : PySem.W.Frag} {mg : Str → Option Value} {base : Heap} (T : Txt K mg "refusal_of" ["house", "holders"] s_refusal_of) (C : Cst K mg) (D_is_house : Def P w K mg base 3 "is_house" ["house"] (spHouse K)) (D_party_count : Def P w K mg base 1 "party_count" ["house"] (spCount K)) : Def P w K mg base 4 "refusal_of" ["house", "holders"] (spRefusal K) := by
  refine T.ok sc_refusal_of (fun vs H Q E h => ?_) (fun f cdv A outer s H vs Q E hr h => ?_)
  · obtain ⟨a, b, l, hs, rfl, _⟩ := h
    rfl
  · obtain ⟨a, b, l, hs, rfl, hS, hlen, hB, q⟩ := h
    refine ⟨_, pss_cons (ps_if (pt_not (pt_val (pe_def D_is_house hr (pa_cons (pv 0) pa_nil)))) (pss_one (ps_ret (pe_num C.noHouse))) pss_nil)
      (pss_cons (ps_for PassesOwn.never rfl (pi_list (pv 1)) (pg_name (i := 2) sc_refusal_of.nd rfl (.inl rfl))
        (pss_one (ps_if (PW.pt (pw_or (pt_cmpR op_lt (pv 2) pe_int (nomark _)) (pw_or1 (pt_cmpR op_ge (pv 2) (pe_def D_party_count hr (pa_cons (pv 0) pa_nil)) (nomark _))))) (pss_one (ps_ret (pe_num C.noParty))) pss_nil)))
      (pss_one (ps_ret pe_int))), ?_⟩
    have el : (l.map nI).length = l.length := List.length_map ..
    refine ⟨.ref a, rfl, a, l, rfl, hS, hlen, fun H1 s1 => ⟨_, rfl, ?_⟩⟩
    by_cases c0 : okL l = true
    · rw [c0]
      refine iteF ?_
      refine ⟨.ref b, rfl, b, rfl, ⟨_, s1.seq hB⟩, for_list (K := K) (a := b) (xs := hs.map nI) (fun n σ H' => ∃ v, σ = [some (.ref a), some (.ref b), v] ∧ H' = H1 ∧ (hs.take n).any (fun x => decide (l.length / 5 ≤ x)) = false)
        ⟨none, rfl, rfl, rfl⟩ (fun n σ H' _ hP => ?_) ?_ ?_⟩
      · obtain ⟨_, _, rfl, _⟩ := hP
        exact s1.seq hB
      · rintro n x σ H' hx ⟨v, rfl, rfl, no⟩
        obtain ⟨m, hm, rfl⟩ : ∃ m, hs[n]? = some m ∧ x = nI m := by
          rw [List.getElem?_map] at hx
          cases e : hs[n]? with
          | none =>
            rw [e] at hx
            cases hx
          | some m =>
            rw [e] at hx
            exact ⟨m, rfl, (Option.some.inj hx).symm⟩
        refine ⟨nI m, rfl, (m : Int), 0, rfl, rfl, _, rfl, ?_⟩
        rw [decide_eq_false (show ¬ (m : Int) < 0 by omega)]
        refine iteF ?_
        refine ⟨nI m, rfl, .ref a, rfl, a, _, rfl, s1.seq hS, (m : Int), _, rfl, rfl, _, rfl, ?_⟩
        rw [el]
        by_cases c1 : l.length / 5 ≤ m
        · rw [decide_eq_true (show ((l.length / 5 : Nat) : Int) ≤ (m : Int) by omega)]
          refine iteT ?_
          have q2 := q _ s1
          rw [refN_party c0 (List.any_eq_true.mpr ⟨m, List.mem_of_getElem? hm, decide_eq_true c1⟩)] at q2
          exact q2
        · rw [decide_eq_false (show ¬ ((l.length / 5 : Nat) : Int) ≤ (m : Int) by omega)]
          refine iteF ⟨_, rfl, rfl, ?_⟩
          rw [List.take_add_one, hm, List.any_append, no]
          simpa using c1
      · rintro σ H' ⟨v, rfl, rfl, no⟩
        rw [List.length_map, List.take_length] at no
        have q2 := q _ s1
        rw [refN_none c0 no] at q2
        exact q2
    · have e0 : okL l = false := Bool.eq_false_iff.mpr c0
      rw [e0]
      refine iteT ?_
      have q2 := q _ s1
      rw [refN_house e0] at q2
      exact q2
abbrev s_gap : Stmt := top 19
theorem sc_gap : FnScope ["one", "other"] ["one", "other"] (defScope s_gap) := ⟨rfl, rfl, rfl, by decide +kernel, rfl, by decide +kernel, by decide +kernel⟩
theorem bi_gap : ∀ (kV doc pm : Value) (an : Option Addr) (cdv ct : Value) (us : List Value), us.length = (["one", "other"] : List Str).length → bindArgs (PySem.W.fnOf "gap" "gap" (defArgs s_gap) (defBody s_gap) (defScope s_gap) .none kV doc pm an cdv ct) ⟨us, []⟩ = pure ((["one", "other"] : List Str).zip us) := fun _ _ _ _ _ _ us hl => match us, hl with | [_, _], _ => rfl
theorem ok_gap {P : Program} {w : World} {K : PySem.W.Frag} {mg : Str → Option Value} {base : Heap} (T : Txt K mg "gap" ["one", "other"] s_gap) (C : Cst K mg) : Def P w K mg base 1 "gap" ["one", "other"] (spGap) := by
  refine T.ok sc_gap (fun vs H Q E h => ?_) (fun f cdv A outer s H vs Q E hr h => ?_)
  · obtain ⟨m, n, rfl, _⟩ := h
    rfl
  · obtain ⟨m, n, rfl, q⟩ := h
    refine ⟨_, pss_cons (ps_if (pt_cmpR op_lt (pv 0) (pv 1) (nomark _)) (pss_one (ps_ret (pe_op op_sub (pv 1) (pv 0)))) pss_nil) (pss_one (ps_ret (pe_op op_sub (pv 0) (pv 1)))), ?_⟩
    refine ⟨nI m, rfl, nI n, rfl, (m : Int), (n : Int), rfl, rfl, _, rfl, ?_⟩
    have e := gap_int m n
    by_cases c : (m : Int) < (n : Int)
    · rw [decide_eq_true c]
      rw [if_pos c] at e
      refine iteT ⟨nI n, rfl, nI m, rfl, (n : Int), (m : Int), rfl, rfl, ?_⟩
      show Q (V.int ((n : Int) - (m : Int))) H
      rw [e]
      exact q
    · rw [decide_eq_false c]
      rw [if_neg c] at e
      refine iteF ⟨nI m, rfl, nI n, rfl, (m : Int), (n : Int), rfl, rfl, ?_⟩
      show Q (V.int ((m : Int) - (n : Int))) H
      rw [e]
      exact q
abbrev s_done_in : Stmt := top 20
theorem sc_done_in : FnScope ["house", "cabinet", "question"] ["house", "cabinet", "question"] (defScope s_done_in) := ⟨rfl, rfl, rfl, by decide +kernel, rfl, by decide +kernel, by decide +kernel⟩
theorem bi_done_in : ∀ (kV doc pm : Value) (an : Option Addr) (cdv ct : Value) (us : List Value), us.length = (["house", "cabinet", "question"] : List Str).length → bindArgs (PySem.W.fnOf "done_in" "done_in" (defArgs s_done_in) (defBody s_done_in) (defScope s_done_in) .none kV doc pm an cdv ct) ⟨us, []⟩ = pure ((["house", "cabinet", "question"] : List Str).zip us) := fun _ _ _ _ _ _ us hl => match us, hl with | [_, _, _], _ => rfl
theorem ok_done_in {P : Program} {w : World} {K : PySem.W.Frag} {mg : Str → Option Value} {base : Heap} (T : Txt K mg "done_in" ["house", "cabinet", "question"] s_done_in) (C : Cst K mg) (D_wanted : Def P w K mg base 1 "wanted" ["house", "party", "question"] (spWanted K)) : Def P w K mg base 2 "done_in" ["house", "cabinet", "question"] (spDone K) := by
  refine T.ok sc_done_in (fun vs H Q E h => ?_) (fun f cdv A outer s H vs Q E hr h => ?_)
  · obtain ⟨a, h, v, c, k, rfl, _⟩ := h
    rfl
  · obtain ⟨a, h, v, c, k, rfl, hS, ⟨t, rfl, ht⟩, hc, hk, q⟩ := h
    refine ⟨_, pss_one (ps_ret (pe_def D_wanted hr (pa_cons (pv 0) (pa_cons (pe_ix ix_tup (pv 1) (pv 2) (fun _ _ => rfl)) (pa_cons (pv 2) pa_nil))))), ?_⟩
    have ei : atI [nI c.1, nI c.2] (k : Int) = some (nI (hold c k)) := by
      refine at_of rfl ?_
      match k, hk with
      | 0, _ => rfl
      | 1, _ => rfl
    exact ⟨.ref a, rfl, .ref t, rfl, nI k, rfl, t, _, _, _, rfl, rfl, SqT.of ht, ei, nI k, rfl, a, h, hold c k, k, rfl, hS, hc.hold k, hk, q⟩
abbrev s_far : Stmt := top 21
theorem sc_far : FnScope ["house", "party", "cabinet", "total", "question"] ["house", "party", "cabinet"] (defScope s_far) := ⟨rfl, rfl, rfl, by decide +kernel, rfl, by decide +kernel, by decide +kernel⟩
theorem bi_far : ∀ (kV doc pm : Value) (an : Option Addr) (cdv ct : Value) (us : List Value), us.length = (["house", "party", "cabinet"] : List Str).length → bindArgs (PySem.W.fnOf "far" "far" (defArgs s_far) (defBody s_far) (defScope s_far) .none kV doc pm an cdv ct) ⟨us, []⟩ = pure ((["house", "party", "cabinet"] : List Str).zip us) := fun _ _ _ _ _ _ us hl => match us, hl with | [_, _, _], _ => rfl
theorem ok_far {P : Program} {w : World} {K : PySem.W.Frag} {mg : Str → Option Value} {base : Heap} (T : Txt K mg "far" ["house", "party", "cabinet"] s_far) (C : Cst K mg) (D_care : Def P w K mg base 1 "care" ["house", "party", "question"] (spCare K)) (D_done_in : Def P w K mg base 2 "done_in" ["house", "cabinet", "question"] (spDone K)) (D_wanted : Def P w K mg base 1 "wanted" ["house", "party", "question"] (spWanted K)) (D_gap : Def P w K mg base 1 "gap" ["one", "other"] (spGap)) : Def P w K mg base 3 "far" ["house", "party", "cabinet"] (spFar K) := by
  refine T.ok sc_far (fun vs H Q E h => ?_) (fun f cdv A outer s H vs Q E hr h => ?_)
  · obtain ⟨a, h, i, v, c, rfl, _⟩ := h
    rfl
  · obtain ⟨a, h, i, v, c, rfl, hS, hG, hi, hv, hc, q⟩ := h
    obtain ⟨qa, hq, hQ⟩ := C.quest
    refine ⟨_, pss_cons (ps_set (i := 3) sc_far.nd rfl (.inl rfl) pe_int)
      (pss_cons (ps_for PassesOwn.never rfl (pi_tup (pe_glob (by rfl) hq (v := .ref qa) rfl)) (pg_name (i := 4) sc_far.nd rfl (.inl rfl))
        (pss_one (ps_aug (i := 3) sc_far.nd rfl (.inl rfl) (pe_op op_mul (pe_def D_care hr (pa_cons (pv 0) (pa_cons (pv 1) (pa_cons (pv 4) pa_nil))))
          (pe_def D_gap hr (pa_cons (pe_def D_done_in hr (pa_cons (pv 0) (pa_cons (pv 2) (pa_cons (pv 4) pa_nil)))) (pa_cons (pe_def D_wanted hr (pa_cons (pv 0) (pa_cons (pv 1) (pa_cons (pv 4) pa_nil)))) pa_nil)))) ip_add)))
      (pss_one (ps_ret (pv 3)))), ?_⟩
    refine ⟨qa, rfl, ⟨_, hQ H⟩, for_tup (K := K) (a := qa) (xs := [nI 0, nI 1]) (fun n σ H' => ∃ x, σ = [some (.ref a), some (nI i), some v, some (nI (upto h i c n)), x] ∧ H' = H)
      ⟨none, rfl, rfl⟩ (fun n σ H' _ _ => hQ H') ?_ ?_⟩
    · rintro n x σ H' hx ⟨y, rfl, rfl⟩
      obtain ⟨hn, rfl⟩ := get_two hx
      refine ⟨_, rfl, .ref a, rfl, nI i, rfl, nI n, rfl, a, h, i, n, rfl, hS, hi, hn, .ref a, rfl, v, rfl, nI n, rfl, a, h, v, c, n, rfl, hS, hv, hc, hn, .ref a, rfl, nI i, rfl, nI n, rfl, a, h, i, n, rfl, hS, hi, hn, _, _, rfl, _, _, rfl, rfl, .inl ?_, _, _, rfl, rfl, some (nI n), ?_, rfl⟩
      · have b := hG.small hi (3 + n)
        omega
      · show _ = [some (.ref a), some (nI i), some v, some (nI (upto h i c n + part h i c n)), some (nI n)]
        unfold part
        rw [show nI (upto h i c n + fld (Ks467.party h i) (3 + n) * Ks467.gap (fld (Ks467.party h (hold c n)) (1 + n)) (fld (Ks467.party h i) (1 + n))) = V.int ((upto h i c n : Int) + (fld (Ks467.party h i) (3 + n) : Int) * (Ks467.gap (fld (Ks467.party h (hold c n)) (1 + n)) (fld (Ks467.party h i) (1 + n)) : Int)) from congrArg V.int (by rw [Int.natCast_add, Int.natCast_mul])]
        rfl
    · rintro σ H' ⟨y, rfl, rfl⟩
      refine ⟨_, rfl, ?_⟩
      rw [upto_far] at q
      exact q
abbrev s_would_rather : Stmt := top 22
theorem sc_would_rather : FnScope ["house", "party", "one", "other"] ["house", "party", "one", "other"] (defScope s_would_rather) := ⟨rfl, rfl, rfl, by decide +kernel, rfl, by decide +kernel, by decide +kernel⟩
theorem bi_would_rather : ∀ (kV doc pm : Value) (an : Option Addr) (cdv ct : Value) (us : List Value), us.length = (["house", "party", "one", "other"] : List Str).length → bindArgs (PySem.W.fnOf "would_rather" "would_rather" (defArgs s_would_rather) (defBody s_would_rather) (defScope s_would_rather) .none kV doc pm an cdv ct) ⟨us, []⟩ = pure ((["house", "party", "one", "other"] : List Str).zip us) := fun _ _ _ _ _ _ us hl => match us, hl with | [_, _, _, _], _ => rfl
theorem ok_would_rather {P : Program} {w : World} {K : PySem.W.Frag} {mg : Str → Option Value} {base : Heap} (T : Txt K mg "would_rather" ["house", "party", "one", "other"] s_would_rather) (C : Cst K mg) (D_far : Def P w K mg base 3 "far" ["house", "party", "cabinet"] (spFar K)) : Def P w K mg base 4 "would_rather" ["house", "party", "one", "other"] (spRather K) := by
  refine T.ok sc_would_rather (fun vs H Q E h => ?_) (fun f cdv A outer s H vs Q E hr h => ?_)
  · obtain ⟨a, h, i, v, u, c, d, rfl, _⟩ := h
    rfl
  · obtain ⟨a, h, i, v, u, c, d, rfl, hS, hG, hi, hv, hc, hu, hd, q⟩ := h
    refine ⟨_, pss_one (ps_ret (pe_cmpR op_lt (pe_def D_far hr (pa_cons (pv 0) (pa_cons (pv 1) (pa_cons (pv 2) pa_nil)))) (pe_def D_far hr (pa_cons (pv 0) (pa_cons (pv 1) (pa_cons (pv 3) pa_nil)))) (nomark _))), ?_⟩
    refine ⟨.ref a, rfl, nI i, rfl, v, rfl, a, h, i, v, c, rfl, hS, hG, hi, hv, hc, .ref a, rfl, nI i, rfl, u, rfl, a, h, i, u, d, rfl, hS, hG, hi, hu, hd, _, _, rfl, rfl, ?_⟩
    have e : decide (((Ks467.far h i c : Nat) : Int) < ((Ks467.far h i d : Nat) : Int)) = Ks467.rather h i c d := by
      unfold Ks467.rather
      exact decide_eq_decide.mpr Int.ofNat_lt
    rw [← e] at q
    exact q
abbrev s_all_seats : Stmt := top 24
theorem sc_all_seats : FnScope ["house", "total", "party"] ["house"] (defScope s_all_seats) := ⟨rfl, rfl, rfl, by decide +kernel, rfl, by decide +kernel, by decide +kernel⟩
theorem bi_all_seats : ∀ (kV doc pm : Value) (an : Option Addr) (cdv ct : Value) (us : List Value), us.length = (["house"] : List Str).length → bindArgs (PySem.W.fnOf "all_seats" "all_seats" (defArgs s_all_seats) (defBody s_all_seats) (defScope s_all_seats) .none kV doc pm an cdv ct) ⟨us, []⟩ = pure ((["house"] : List Str).zip us) := fun _ _ _ _ _ _ us hl => match us, hl with | [_], _ => rfl
theorem ok_all_seats {P : Program} {w : World} {K : PySem.W.Frag} {mg : Str → Option Value} {base : Heap} (T : Txt K mg "all_seats" ["house"] s_all_seats) (C : Cst K mg) (D_parties_of : Def P w K mg base 2 "parties_of" ["house"] (spParties K)) (D_seats_of : Def P w K mg base 1 "seats_of" ["house", "party"] (spSeats K)) : Def P w K mg base 3 "all_seats" ["house"] (spAll K) := by
  refine T.ok sc_all_seats (fun vs H Q E h => ?_) (fun f cdv A outer s H vs Q E hr h => ?_)
  · obtain ⟨a, h, rfl, _⟩ := h
    rfl
  · obtain ⟨a, h, rfl, hS, hG, q⟩ := h
    refine ⟨_, pss_cons (ps_set (i := 1) sc_all_seats.nd rfl (.inl rfl) pe_int)
      (pss_cons (ps_for PassesOwn.never rfl (pi_list (pe_def D_parties_of hr (pa_cons (pv 0) pa_nil))) (pg_name (i := 2) sc_all_seats.nd rfl (.inl rfl))
        (pss_one (ps_aug (i := 1) sc_all_seats.nd rfl (.inl rfl) (pe_def D_seats_of hr (pa_cons (pv 0) (pa_cons (pv 2) pa_nil))) ip_add)))
      (pss_one (ps_ret (pv 1)))), ?_⟩
    have hm := hG.most
    refine ⟨.ref a, rfl, a, _, rfl, hS, by rw [hv_len]; omega, fun p np => ?_⟩
    rw [hv_count]
    have s1 : Same H (upd H p (.lst ((List.range h.length).map nI))) := same_upd np
    refine ⟨p, rfl, ⟨_, SqL.of upd_same⟩, for_list (K := K) (a := p) (xs := (List.range h.length).map nI) (fun n σ H' => ∃ x, σ = [some (.ref a), some (nI (Ks467.seatsOf h (List.range n))), x] ∧ H' = upd H p (.lst ((List.range h.length).map nI)))
      ⟨none, rfl, rfl⟩ (fun n σ H' _ hP => ?_) ?_ ?_⟩
    · obtain ⟨_, _, rfl⟩ := hP
      exact SqL.of upd_same
    · rintro n x σ H' hx ⟨y, rfl, rfl⟩
      obtain ⟨hn, rfl⟩ := get_nI hx
      refine ⟨_, rfl, .ref a, rfl, nI n, rfl, a, h, n, rfl, hS.same s1, hn, _, _, rfl, rfl, some (nI n), ?_, rfl⟩
      rw [seats_all, show nI (Ks467.seatsOf h (List.range n) + (Ks467.party h n).seats) = V.int ((Ks467.seatsOf h (List.range n) : Int) + ((Ks467.party h n).seats : Int)) from congrArg V.int (Int.natCast_add _ _)]
      rfl
    · rintro σ H' ⟨y, rfl, rfl⟩
      refine ⟨_, rfl, ?_⟩
      rw [List.length_map, List.length_range]
      exact q _ s1
abbrev s_is_more_than_half : Stmt := top 25
theorem sc_is_more_than_half : FnScope ["house", "seats"] ["house", "seats"] (defScope s_is_more_than_half) := ⟨rfl, rfl, rfl, by decide +kernel, rfl, by decide +kernel, by decide +kernel⟩
theorem bi_is_more_than_half : ∀ (kV doc pm : Value) (an : Option Addr) (cdv ct : Value) (us : List Value), us.length = (["house", "seats"] : List Str).length → bindArgs (PySem.W.fnOf "is_more_than_half" "is_more_than_half" (defArgs s_is_more_than_half) (defBody s_is_more_than_half) (defScope s_is_more_than_half) .none kV doc pm an cdv ct) ⟨us, []⟩ = pure ((["house", "seats"] : List Str).zip us) := fun _ _ _ _ _ _ us hl => match us, hl with | [_, _], _ => rfl
theorem ok_is_more_than_half {P : Program} {w : World} {K : PySem.W.Frag} {mg : Str → Option Value} {base : Heap} (T : Txt K mg "is_more_than_half" ["house", "seats"] s_is_more_than_half) (C : Cst K mg) (D_all_seats : Def P w K mg base 3 "all_seats" ["house"] (spAll K)) : Def P w K mg base 4 "is_more_than_half" ["house", "seats"] (spMore K) := by
  refine T.ok sc_is_more_than_half (fun vs H Q E h => ?_) (fun f cdv A outer s H vs Q E hr h => ?_)
  · obtain ⟨a, h, n, rfl, _⟩ := h
    rfl
  · obtain ⟨a, h, n, rfl, hS, hG, q⟩ := h
    refine ⟨_, pss_one (ps_ret (pe_cmpR op_gt (pe_op op_mul pe_int (pv 1)) (pe_def D_all_seats hr (pa_cons (pv 0) pa_nil)) (nomark _))), ?_⟩
    refine ⟨nI n, rfl, 2, (n : Int), rfl, rfl, .inl ⟨by decide, by decide⟩, .ref a, rfl, a, h, rfl, hS, hG, fun H1 s1 => ⟨_, _, rfl, rfl, ?_⟩⟩
    have e : decide (((Ks467.all h : Nat) : Int) < 2 * (n : Int)) = decide (Ks467.all h < 2 * n) := decide_eq_decide.mpr (by omega)
    have q2 := q _ s1
    rw [← e] at q2
    exact q2
abbrev s_seats_for : Stmt := top 26
theorem sc_seats_for : FnScope ["house", "one", "other", "total", "party"] ["house", "one", "other"] (defScope s_seats_for) := ⟨rfl, rfl, rfl, by decide +kernel, rfl, by decide +kernel, by decide +kernel⟩
theorem bi_seats_for : ∀ (kV doc pm : Value) (an : Option Addr) (cdv ct : Value) (us : List Value), us.length = (["house", "one", "other"] : List Str).length → bindArgs (PySem.W.fnOf "seats_for" "seats_for" (defArgs s_seats_for) (defBody s_seats_for) (defScope s_seats_for) .none kV doc pm an cdv ct) ⟨us, []⟩ = pure ((["house", "one", "other"] : List Str).zip us) := fun _ _ _ _ _ _ us hl => match us, hl with | [_, _, _], _ => rfl
theorem ok_seats_for {P : Program} {w : World} {K : PySem.W.Frag} {mg : Str → Option Value} {base : Heap} (T : Txt K mg "seats_for" ["house", "one", "other"] s_seats_for) (C : Cst K mg) (D_parties_of : Def P w K mg base 2 "parties_of" ["house"] (spParties K)) (D_would_rather : Def P w K mg base 4 "would_rather" ["house", "party", "one", "other"] (spRather K)) (D_seats_of : Def P w K mg base 1 "seats_of" ["house", "party"] (spSeats K)) : Def P w K mg base 5 "seats_for" ["house", "one", "other"] (spTwo K fun h c d => nI (Ks467.forIt h c d)) := by
  refine T.ok sc_seats_for (fun vs H Q E h => ?_) (fun f cdv A outer s H vs Q E hr h => ?_)
  · obtain ⟨a, h, v, u, c, d, rfl, _⟩ := h
    rfl
  · obtain ⟨a, h, v, u, c, d, rfl, hS, hG, hv, hc, hu, hd, q⟩ := h
    refine ⟨_, pss_cons (ps_set (i := 3) sc_seats_for.nd rfl (.inl rfl) pe_int)
      (pss_cons (ps_for PassesOwn.never rfl (pi_list (pe_def D_parties_of hr (pa_cons (pv 0) pa_nil))) (pg_name (i := 4) sc_seats_for.nd rfl (.inl rfl))
        (pss_one (ps_if (pt_val (pe_def D_would_rather hr (pa_cons (pv 0) (pa_cons (pv 4) (pa_cons (pv 1) (pa_cons (pv 2) pa_nil))))))
          (pss_one (ps_aug (i := 3) sc_seats_for.nd rfl (.inl rfl) (pe_def D_seats_of hr (pa_cons (pv 0) (pa_cons (pv 4) pa_nil))) ip_add)) pss_nil)))
      (pss_one (ps_ret (pv 3)))), ?_⟩
    have hm := hG.most
    refine ⟨.ref a, rfl, a, _, rfl, hS, by rw [hv_len]; omega, fun p np => ?_⟩
    rw [hv_count]
    have s1 : Same H (upd H p (.lst ((List.range h.length).map nI))) := same_upd np
    refine ⟨p, rfl, ⟨_, SqL.of upd_same⟩, for_list (K := K) (a := p) (xs := (List.range h.length).map nI) (fun n σ H' => ∃ x, σ = [some (.ref a), some v, some u, some (nI (Ks467.seatsOf h ((List.range n).filter fun i => Ks467.rather h i c d))), x] ∧ H' = upd H p (.lst ((List.range h.length).map nI)))
      ⟨none, rfl, rfl⟩ (fun n σ H' _ hP => ?_) ?_ ?_⟩
    · obtain ⟨_, _, rfl⟩ := hP
      exact SqL.of upd_same
    · rintro n x σ H' hx ⟨y, rfl, rfl⟩
      obtain ⟨hn, rfl⟩ := get_nI hx
      refine ⟨.ref a, rfl, nI n, rfl, v, rfl, u, rfl, a, h, n, v, u, c, d, rfl, hS.same s1, hG, hn, hv.same s1, hc, hu.same s1, hd, _, rfl, ?_⟩
      by_cases e : Ks467.rather h n c d = true
      · rw [e]
        refine iteT ⟨_, rfl, .ref a, rfl, nI n, rfl, a, h, n, rfl, hS.same s1, hn, _, _, rfl, rfl, some (nI n), ?_, rfl⟩
        rw [seats_more, if_pos e, show nI (Ks467.seatsOf h ((List.range n).filter fun i => Ks467.rather h i c d) + (Ks467.party h n).seats) = V.int ((Ks467.seatsOf h ((List.range n).filter fun i => Ks467.rather h i c d) : Int) + ((Ks467.party h n).seats : Int)) from congrArg V.int (Int.natCast_add _ _)]
        rfl
      · have e' : Ks467.rather h n c d = false := Bool.eq_false_iff.mpr e
        rw [e']
        refine iteF ⟨some (nI n), ?_, rfl⟩
        rw [seats_more, if_neg e, Nat.add_zero]
        rfl
    · rintro σ H' ⟨y, rfl, rfl⟩
      refine ⟨_, rfl, ?_⟩
      rw [List.length_map, List.length_range]
      exact q _ s1
abbrev s_is_beating : Stmt := top 27
theorem sc_is_beating : FnScope ["house", "one", "other"] ["house", "one", "other"] (defScope s_is_beating) := ⟨rfl, rfl, rfl, by decide +kernel, rfl, by decide +kernel, by decide +kernel⟩
theorem bi_is_beating : ∀ (kV doc pm : Value) (an : Option Addr) (cdv ct : Value) (us : List Value), us.length = (["house", "one", "other"] : List Str).length → bindArgs (PySem.W.fnOf "is_beating" "is_beating" (defArgs s_is_beating) (defBody s_is_beating) (defScope s_is_beating) .none kV doc pm an cdv ct) ⟨us, []⟩ = pure ((["house", "one", "other"] : List Str).zip us) := fun _ _ _ _ _ _ us hl => match us, hl with | [_, _, _], _ => rfl
theorem ok_is_beating {P : Program} {w : World} {K : PySem.W.Frag} {mg : Str → Option Value} {base : Heap} (T : Txt K mg "is_beating" ["house", "one", "other"] s_is_beating) (C : Cst K mg) (D_is_more_than_half : Def P w K mg base 4 "is_more_than_half" ["house", "seats"] (spMore K)) (D_seats_for : Def P w K mg base 5 "seats_for" ["house", "one", "other"] (spTwo K fun h c d => nI (Ks467.forIt h c d))) : Def P w K mg base 6 "is_beating" ["house", "one", "other"] (spTwo K fun h c d => .bl (Ks467.beats h c d)) := by
  refine T.ok sc_is_beating (fun vs H Q E h => ?_) (fun f cdv A outer s H vs Q E hr h => ?_)
  · obtain ⟨a, h, v, u, c, d, rfl, _⟩ := h
    rfl
  · obtain ⟨a, h, v, u, c, d, rfl, hS, hG, hv, hc, hu, hd, q⟩ := h
    refine ⟨_, pss_one (ps_ret (pe_def D_is_more_than_half hr (pa_cons (pv 0) (pa_cons (pe_def D_seats_for hr (pa_cons (pv 0) (pa_cons (pv 1) (pa_cons (pv 2) pa_nil)))) pa_nil)))), ?_⟩
    exact ⟨.ref a, rfl, .ref a, rfl, v, rfl, u, rfl, a, h, v, u, c, d, rfl, hS, hG, hv, hc, hu, hd, fun H1 s1 => ⟨a, h, _, rfl, hS.same s1, hG, fun H2 s2 => q _ (s1.trans s2)⟩⟩
abbrev s_all_cabinets : Stmt := top 29
theorem sc_all_cabinets : FnScope ["house", "found", "first", "second"] ["house"] (defScope s_all_cabinets) := ⟨rfl, rfl, rfl, by decide +kernel, rfl, by decide +kernel, by decide +kernel⟩
theorem bi_all_cabinets : ∀ (kV doc pm : Value) (an : Option Addr) (cdv ct : Value) (us : List Value), us.length = (["house"] : List Str).length → bindArgs (PySem.W.fnOf "all_cabinets" "all_cabinets" (defArgs s_all_cabinets) (defBody s_all_cabinets) (defScope s_all_cabinets) .none kV doc pm an cdv ct) ⟨us, []⟩ = pure ((["house"] : List Str).zip us) := fun _ _ _ _ _ _ us hl => match us, hl with | [_], _ => rfl
theorem ok_all_cabinets {P : Program} {w : World} {K : PySem.W.Frag} {mg : Str → Option Value} {base : Heap} (T : Txt K mg "all_cabinets" ["house"] s_all_cabinets) (C : Cst K mg) (D_parties_of : Def P w K mg base 2 "parties_of" ["house"] (spParties K)) : Def P w K mg base 3 "all_cabinets" ["house"] (spList K Ks467.cabinets) := by
  refine T.ok sc_all_cabinets (fun vs H Q E h => ?_) (fun f cdv A outer s H vs Q E hr h => ?_)
  · obtain ⟨a, h, rfl, _⟩ := h
    rfl
  · obtain ⟨a, h, rfl, hS, hG, q⟩ := h
    refine ⟨_, pss_cons (ps_set (i := 1) sc_all_cabinets.nd rfl (.inl rfl) (pe_lst pa_nil))
      (pss_cons (ps_for PassesOwn.never rfl (pi_list (pe_def D_parties_of hr (pa_cons (pv 0) pa_nil))) (pg_name (i := 2) sc_all_cabinets.nd rfl (.inl rfl))
        (pss_one (ps_for PassesOwn.never rfl (pi_list (pe_def D_parties_of hr (pa_cons (pv 0) pa_nil))) (pg_name (i := 3) sc_all_cabinets.nd rfl (.inl rfl))
          (pss_one (ps_expr (pe_bm PySem.F.plainAttrs_list PySem.F.slot_list_append PySem.F.type_list_append mt_append (pv 1) (pa_cons (pe_tup (pa_cons (pv 2) (pa_cons (pv 3) pa_nil))) pa_nil)))))))
      (pss_one (ps_ret (pv 1)))), ?_⟩
    have hm := hG.most
    have h32 : (hv h).length ≤ 32 := by
      rw [hv_len]
      omega
    refine ⟨Nat.zero_le _, fun L nL => ?_⟩
    have sL : Same H (upd H L (.lst [])) := same_upd nL
    refine ⟨.ref a, rfl, a, _, rfl, hS.same sL, h32, fun p np => ?_⟩
    rw [hv_count]
    have npL : p ≠ L := fun e => by
      rw [e, upd_same] at np
      cases np
    have npH : H p = none := sL.free np
    refine ⟨p, rfl, ⟨_, SqL.of upd_same⟩, for_list (K := K) (a := p) (xs := (List.range h.length).map nI) (fun n σ H' => ∃ x y ws, σ = [some (.ref a), some (.ref L), x, y] ∧ Same H H' ∧ H' p = some (.lst ((List.range h.length).map nI)) ∧ H' L = some (.lst ws) ∧ Cabs H' ws ((List.range n).flatMap fun a => (List.range h.length).map fun b => ((a, b) : Ks467.Cabinet)))
      ⟨none, none, [], rfl, same_put sL npH, upd_same, by rw [upd_ne (Ne.symm npL), upd_same], .nil⟩ (fun n σ H' _ hP => ?_) ?_ ?_⟩
    · obtain ⟨_, _, _, _, _, hp, _⟩ := hP
      exact SqL.of hp
    · rintro n x σ H' hx ⟨x0, y0, ws, rfl, s1, hp, hL, hW⟩
      obtain ⟨hn, rfl⟩ := get_nI hx
      refine ⟨.ref a, rfl, a, _, rfl, hS.same s1, h32, fun p2 np2 => ?_⟩
      rw [hv_count]
      have n2L : p2 ≠ L := Ne.symm (ne_of_none hL np2)
      have n2p : p2 ≠ p := Ne.symm (ne_of_none hp np2)
      have s2 : Same H' (upd H' p2 (.lst ((List.range h.length).map nI))) := same_upd np2
      refine ⟨p2, rfl, ⟨_, SqL.of upd_same⟩, for_list (K := K) (a := p2) (xs := (List.range h.length).map nI) (fun m σ H2 => ∃ y ws, σ = [some (.ref a), some (.ref L), some (nI n), y] ∧ Same H H2 ∧ H2 p = some (.lst ((List.range h.length).map nI)) ∧ H2 p2 = some (.lst ((List.range h.length).map nI)) ∧ H2 L = some (.lst ws) ∧ Cabs H2 ws (((List.range n).flatMap fun a => (List.range h.length).map fun b => ((a, b) : Ks467.Cabinet)) ++ (List.range m).map fun b => ((n, b) : Ks467.Cabinet)))
        ⟨y0, ws, rfl, s1.trans s2, s2 _ _ hp, upd_same, s2 _ _ hL, ?_⟩ (fun m σ H2 _ hP => ?_) ?_ ?_⟩
      · show Cabs _ ws (_ ++ [])
        rw [List.append_nil]
        exact hW.same s2
      · obtain ⟨_, _, _, _, _, hp2, _⟩ := hP
        exact SqL.of hp2
      · rintro m x2 σ H2 hx2 ⟨y1, ws2, rfl, s3, hp3, hp4, hL2, hW2⟩
        obtain ⟨hm2, rfl⟩ := get_nI hx2
        refine ⟨.ref L, rfl, .inl ⟨rfl, _, SqL.of hL2⟩, nI n, rfl, nI m, rfl, (by show 2 ≤ sizeLine; rw [sizeLine_eq]; decide), fun t nt => ?_⟩
        have st : Same H2 (upd H2 t (.tup [nI n, nI m])) := same_upd nt
        have hL3 := st _ _ hL2
        have lw := hW2.length
        refine ⟨L, ws2, .ref t, rfl, rfl, hL3, ?_, some (nI m), ws2 ++ [.ref t], rfl, ?_, ?_, ?_, upd_same, ?_⟩
        · refine Nat.lt_of_lt_of_le (Nat.lt_of_le_of_lt (Nat.le_of_eq lw) ?_) (Nat.le_of_lt (small1000 (Nat.le_refl 1000)))
          rw [List.length_append, cabs_len, List.length_map, List.length_range]
          have e1 := Nat.mul_le_mul (show n ≤ 5 by omega) hm
          omega
        · exact same_put (s3.trans st) nL
        · rw [upd_ne npL]
          exact st _ _ hp3
        · rw [upd_ne n2L]
          exact st _ _ hp4
        · rw [row_more, ← List.append_assoc]
          exact ((hW2.same st).put hL3).snoc (CabAt.put hL3 ⟨t, rfl, upd_same⟩)
      · rintro σ H2 ⟨y1, ws2, rfl, s3, hp3, _, hL2, hW2⟩
        refine ⟨some (nI n), y1, ws2, rfl, s3, hp3, hL2, ?_⟩
        rw [List.length_map, List.length_range] at hW2
        rw [cabs_more]
        exact hW2
    · rintro σ H' ⟨x0, y0, ws, rfl, s1, hp, hL, hW⟩
      rw [List.length_map, List.length_range] at hW
      exact ⟨_, rfl, q H' L ws s1 hL hW⟩
abbrev s_beaters_of : Stmt := top 30
theorem sc_beaters_of : FnScope ["house", "cabinet", "one"] ["house", "cabinet"] (defScope s_beaters_of) := ⟨rfl, rfl, rfl, by decide +kernel, rfl, by decide +kernel, by decide +kernel⟩
theorem bi_beaters_of : ∀ (kV doc pm : Value) (an : Option Addr) (cdv ct : Value) (us : List Value), us.length = (["house", "cabinet"] : List Str).length → bindArgs (PySem.W.fnOf "beaters_of" "beaters_of" (defArgs s_beaters_of) (defBody s_beaters_of) (defScope s_beaters_of) .none kV doc pm an cdv ct) ⟨us, []⟩ = pure ((["house", "cabinet"] : List Str).zip us) := fun _ _ _ _ _ _ us hl => match us, hl with | [_, _], _ => rfl
theorem ok_beaters_of {P : Program} {w : World} {K : PySem.W.Frag} {mg : Str → Option Value} {base : Heap} (T : Txt K mg "beaters_of" ["house", "cabinet"] s_beaters_of) (C : Cst K mg) (D_all_cabinets : Def P w K mg base 3 "all_cabinets" ["house"] (spList K Ks467.cabinets)) (D_is_beating : Def P w K mg base 6 "is_beating" ["house", "one", "other"] (spTwo K fun h c d => .bl (Ks467.beats h c d))) : Def P w K mg base 7 "beaters_of" ["house", "cabinet"] (spFrom K fun h d => (Ks467.cabinets h).filter fun c => Ks467.beats h c d) := by
  refine T.ok sc_beaters_of (fun vs H Q E h => ?_) (fun f cdv A outer s H vs Q E hr h => ?_)
  · obtain ⟨a, h, v, d, rfl, _⟩ := h
    rfl
  · obtain ⟨a, h, v, d, rfl, hS, hG, hv, hd, q⟩ := h
    refine ⟨_, pss_one (ps_ret (pe_lc (own := [("one", 2)]) (g := gName 2) (tt := tB (tCall (spTwo K fun h c d => .bl (Ks467.beats h c d)) [] E0 (tCons (tVar 0) (tCons (tVar 2) (tCons (tVar 1) tNil))))) (te := tVar 2) (by rfl) sc_beaters_of.nd (pi_list (pe_def D_all_cabinets hr (pa_cons (pv 0) pa_nil))) (blkOk_by (own := [("one", 2)]) (N := ["house", "cabinet", "one"]) (sc := defScope s_beaters_of) (by decide +kernel))
      (fun _ _ _ _ _ => pg_name (i := 2) sc_beaters_of.nd rfl (Or.inl rfl)) (fun _ _ _ _ _ => pts_one (pt_val (pe_def D_is_beating hr (pa_cons (pv 0) (pa_cons (pv 2) (pa_cons (pv 1) pa_nil)))))) (fun _ _ _ _ _ => pv 2))), ?_⟩
    refine ⟨.ref a, rfl, a, h, rfl, hS, hG, fun H1 p ws s1 hp hW => ⟨p, rfl, ⟨_, SqL.of hp⟩, fun D nD => ?_⟩⟩
    have npD : p ≠ D := ne_of_none hp nD
    have nDH : H D = none := s1.free nD
    have lw := hW.length
    have f25 := hG.few
    refine lc_list (K := K) (a := p) (xs := ws) (fun n H' => ∃ us, Same H1 H' ∧ H' D = some (.lst us) ∧ us.length ≤ n ∧ Cabs H' us (((Ks467.cabinets h).take n).filter fun c => Ks467.beats h c d))
      ⟨[], same_upd nD, upd_same, Nat.le_refl _, .nil⟩ (fun n H' _ hP => ?_) ?_ ?_
    · obtain ⟨_, s2, _⟩ := hP
      exact SqL.of (s2 _ _ hp)
    · rintro n x H' hx ⟨us, s2, hD, hl, hU⟩
      obtain ⟨c, hc, hxc⟩ := paired_get hW hx
      have hin : In h c := mem_cabinets.mp (List.mem_of_getElem? hc)
      have hn : n < ws.length := (List.getElem?_eq_some_iff.mp hx).1
      refine ⟨rfl, .ref a, rfl, x, rfl, v, rfl, a, h, x, v, c, d, rfl, hS.same (s1.trans s2), hG, hxc.same s2, hin, hv.same (s1.trans s2), hd, fun H3 s3 => ⟨_, rfl, ?_⟩⟩
      have e2 := take_succ_filter (fun c => Ks467.beats h c d) (Ks467.cabinets h) n c hc
      by_cases e : Ks467.beats h c d = true
      · rw [e]
        refine iteT ⟨x, rfl, us, s3 _ _ hD, small1000 (by omega), us ++ [x], ?_, upd_same, ?_, ?_⟩
        · intro b o hb
          rw [upd_ne (ne_of_none hb nD)]
          exact s3 _ _ (s2 _ _ hb)
        · rw [List.length_append, List.length_singleton]
          omega
        · rw [e2, if_pos e]
          exact ((hU.same s3).put (s3 _ _ hD)).snoc (CabAt.put (s3 _ _ hD) (hxc.same (s2.trans s3)))
      · rw [Bool.eq_false_iff.mpr e]
        refine iteF ⟨us, s2.trans s3, s3 _ _ hD, by omega, ?_⟩
        rw [e2, if_neg e, List.append_nil]
        exact hU.same s3
    · rintro H' ⟨us, s2, hD, hl, hU⟩
      rw [lw, List.take_length] at hU
      exact q H' D us (s1.trans s2) hD hU
abbrev s_answer_of : Stmt := top 31
theorem sc_answer_of : FnScope ["cabinets", "found", "cabinet"] ["cabinets"] (defScope s_answer_of) := ⟨rfl, rfl, rfl, by decide +kernel, rfl, by decide +kernel, by decide +kernel⟩
theorem bi_answer_of : ∀ (kV doc pm : Value) (an : Option Addr) (cdv ct : Value) (us : List Value), us.length = (["cabinets"] : List Str).length → bindArgs (PySem.W.fnOf "answer_of" "answer_of" (defArgs s_answer_of) (defBody s_answer_of) (defScope s_answer_of) .none kV doc pm an cdv ct) ⟨us, []⟩ = pure ((["cabinets"] : List Str).zip us) := fun _ _ _ _ _ _ us hl => match us, hl with | [_], _ => rfl
theorem ok_answer_of {P : Program} {w : World} {K : PySem.W.Frag} {mg : Str → Option Value} {base : Heap} (T : Txt K mg "answer_of" ["cabinets"] s_answer_of) (C : Cst K mg) : Def P w K mg base 1 "answer_of" ["cabinets"] (spAnswer) := by
  refine T.ok sc_answer_of (fun vs H Q E h => ?_) (fun f cdv A outer s H vs Q E hr h => ?_)
  · obtain ⟨p, ws, cs, rfl, _⟩ := h
    rfl
  · obtain ⟨p, ws, cs, rfl, hp, hW, hlen, q⟩ := h
    refine ⟨_, pss_cons (ps_set (i := 1) sc_answer_of.nd rfl (.inl rfl) (pe_lst (pa_cons (pe_callB call_len_seq (by rfl) C.len PySem.boot_len (pa_cons (pv 0) pa_nil)) pa_nil)))
      (pss_cons (ps_for PassesOwn.never rfl (pi_list (pv 0)) (pg_name (i := 2) sc_answer_of.nd rfl (.inl rfl))
        (pss_cons (ps_expr (pe_bm PySem.F.plainAttrs_list PySem.F.slot_list_append PySem.F.type_list_append mt_append (pv 1) (pa_cons (pe_ix ix_tup (pv 2) pe_int (fun _ _ => rfl)) pa_nil)))
        (pss_one (ps_expr (pe_bm PySem.F.plainAttrs_list PySem.F.slot_list_append PySem.F.type_list_append mt_append (pv 1) (pa_cons (pe_ix ix_tup (pv 2) pe_int (fun _ _ => rfl)) pa_nil))))))
      (pss_one (ps_ret (pv 1)))), ?_⟩
    have lw := hW.length
    refine ⟨.ref p, rfl, p, ws, rfl, .inl (SqL.of hp), (by show 1 ≤ sizeLine; rw [sizeLine_eq]; decide), fun L nL => ?_⟩
    have sL : Same H (upd H L (.lst [.int ws.length])) := same_upd nL
    have npL : p ≠ L := ne_of_none hp nL
    refine ⟨.ref p, rfl, p, rfl, ⟨_, SqL.of (sL _ _ hp)⟩, for_list (K := K) (a := p) (xs := ws) (fun n σ H' => ∃ x, σ = [some (.ref p), some (.ref L), x] ∧ Same H H' ∧ H' L = some (.lst (((cs.length : Int) :: ((cs.take n).flatMap fun c => [(c.1 : Int), (c.2 : Int)])).map V.int)))
      ⟨none, rfl, sL, ?_⟩ (fun n σ H' _ hP => ?_) ?_ ?_⟩
    · rw [upd_same, lw]
      rfl
    · obtain ⟨_, _, s1, _⟩ := hP
      exact SqL.of (s1 _ _ hp)
    · rintro n x σ H' hx ⟨y, rfl, s1, hL⟩
      obtain ⟨c, hc, ⟨t, rfl, ht⟩⟩ := paired_get hW hx
      have hn : n < cs.length := (List.getElem?_eq_some_iff.mp hc).1
      have ht1 := s1 _ _ ht
      have tL : t ≠ L := ne_of ht1 hL (by intro z; cases z)
      have hsz : (((cs.length : Int) :: ((cs.take n).flatMap fun c => [(c.1 : Int), (c.2 : Int)])).map V.int).length ≤ 201 := by
        rw [List.length_map, List.length_cons, pairs_len, List.length_take]
        omega
      refine ⟨.ref L, rfl, .inl ⟨rfl, _, SqL.of hL⟩, .ref t, rfl, t, _, 0, nI c.1, rfl, rfl, SqT.of ht1, at_of (j := 0) rfl rfl, L, _, _, rfl, rfl, hL, small1000 (by omega), ?_⟩
      refine ⟨.ref L, rfl, .inl ⟨rfl, _, SqL.of upd_same⟩, .ref t, rfl, t, [nI c.1, nI c.2], 1, nI c.2, rfl, rfl, SqT.of ?_, at_of (j := 1) rfl rfl, L, _, _, rfl, rfl, upd_same, small1000 ?_, ?_⟩
      · rw [upd_ne tL]
        exact ht1
      · rw [List.length_append, List.length_singleton]
        omega
      · refine ⟨some (.ref t), rfl, ?_, ?_⟩
        · rw [upd_upd]
          exact same_put s1 nL
        · rw [upd_same, pairs_more hc, List.append_assoc, ← List.cons_append, List.map_append]
          rfl
    · rintro σ H' ⟨y, rfl, s1, hL⟩
      rw [lw, List.take_length] at hL
      exact ⟨_, rfl, q H' L s1 hL⟩
abbrev s_beaters : Stmt := top 33
theorem sc_beaters : FnScope ["a", "b", "house", "refused"] ["a", "b", "house"] (defScope s_beaters) := ⟨rfl, rfl, rfl, by decide +kernel, rfl, by decide +kernel, by decide +kernel⟩
theorem bi_beaters : ∀ (kV doc pm : Value) (an : Option Addr) (cdv ct : Value) (us : List Value), us.length = (["a", "b", "house"] : List Str).length → bindArgs (PySem.W.fnOf "beaters" "beaters" (defArgs s_beaters) (defBody s_beaters) (defScope s_beaters) .none kV doc pm an cdv ct) ⟨us, []⟩ = pure ((["a", "b", "house"] : List Str).zip us) := fun _ _ _ _ _ _ us hl => match us, hl with | [_, _, _], _ => rfl
theorem ok_beaters {P : Program} {w : World} {K : PySem.W.Frag} {mg : Str → Option Value} {base : Heap} (T : Txt K mg "beaters" ["a", "b", "house"] s_beaters) (C : Cst K mg) (D_refusal_of : Def P w K mg base 4 "refusal_of" ["house", "holders"] (spRefusal K)) (D_answer_of : Def P w K mg base 1 "answer_of" ["cabinets"] (spAnswer)) (D_beaters_of : Def P w K mg base 7 "beaters_of" ["house", "cabinet"] (spFrom K fun h d => (Ks467.cabinets h).filter fun c => Ks467.beats h c d)) : Def P w K mg base 10 "beaters" ["a", "b", "house"] (spCall2 K fun a b l => Ks467Neutral.out (Ks467.answer (.beaters a b l))) := by
  refine T.ok sc_beaters (fun vs H Q E h => ?_) (fun f cdv A outer s H vs Q E hr h => ?_)
  · obtain ⟨a, b, r, l, rfl, _⟩ := h
    rfl
  · obtain ⟨a, b, r, l, rfl, hS, hlen, q⟩ := h
    refine ⟨_, pss_cons (ps_set (i := 3) sc_beaters.nd rfl (.inl rfl) (pe_def D_refusal_of hr (pa_cons (pv 2) (pa_cons (pe_lst (pa_cons (pv 0) (pa_cons (pv 1) pa_nil))) pa_nil))))
      (pss_cons (ps_if (pt_cmpR op_lt (pv 3) pe_int (nomark _)) (pss_one (ps_ret (pe_lst (pa_cons (pv 3) pa_nil)))) pss_nil)
      (pss_one (ps_ret (pe_def D_answer_of hr (pa_cons (pe_def D_beaters_of hr (pa_cons (pv 2) (pa_cons (pe_tup (pa_cons (pv 0) (pa_cons (pv 1) pa_nil))) pa_nil))) pa_nil))))), ?_⟩
    have q : ∀ (H' : Hp) (p : Addr), H' p = some (.lst ((Ks467Neutral.out (Ks467.given l fun h => Ks467.cab h a b ((fun h p => Ks467.told (Ks467.beaters h p)) h))).map V.int)) → Q (.ref p) H' := q
    refine ⟨.ref r, rfl, nI a, rfl, nI b, rfl, (by show 2 ≤ sizeLine; rw [sizeLine_eq]; decide), fun B nB => ?_⟩
    have sB : Same H (upd H B (.lst [nI a, nI b])) := same_upd nB
    refine ⟨r, B, l, [a, b], rfl, sB.seq hS, hlen, SqL.of upd_same, fun H1 s1 => ⟨.int (refN l [a, b]), rfl, refN l [a, b], 0, rfl, rfl, _, rfl, ?_⟩⟩
    have s01 : Same H H1 := sB.trans s1
    rcases call2 a b l (fun h p => Ks467.told (Ks467.beaters h p)) with ⟨hn, he⟩ | ⟨hn, hk, hG, hin, he⟩
    · rw [decide_eq_true hn]
      refine iteT ⟨_, rfl, (by show 1 ≤ sizeLine; rw [sizeLine_eq]; decide), fun p np => q _ p ?_⟩
      rw [upd_same, ← he]
      rfl
    · rw [decide_eq_false hn]
      rw [he] at q
      have hH : HouseAt K H1 r (Ks467.five l) := by
        show SqL K _ r ((flat (Ks467.five l)).map nI)
        rw [(five_of ((okL_iff l).mp hk).1).1]
        exact s01.seq hS
      refine iteF ?_
      refine ⟨.ref r, rfl, nI a, rfl, nI b, rfl, (by show 2 ≤ sizeLine; rw [sizeLine_eq]; decide), fun t nt => ?_⟩
      have st : Same H1 (upd H1 t (.tup [nI a, nI b])) := same_upd nt
      refine ⟨r, Ks467.five l, .ref t, (a, b), rfl, hH.same st, hG, ⟨t, rfl, upd_same⟩, hin, fun H2 p ws s2 hp hW => ⟨p, ws, _, rfl, hp, hW, ?_, fun H3 o s3 ho => q H3 o ?_⟩⟩
      · have := hG.few
        exact Nat.le_trans (List.length_filter_le _ _) (by omega)
      · rw [ho]
        exact congrArg (fun z => some (HO.lst (List.map V.int z))) (toldI_eq _).symm
end Cab
namespace Cab
open PySem PySem.Spec PyProof.Rows L2
/-! ### 6. All together -/
theorem all_ok {P : Program} {w : World} {K : PySem.W.Frag} {mg : Str → Option Value} {fa : Addr} (hfa : mg "beaters" = some (.ref fa)) (C : Cst K mg) (T_party_count : Txt K mg "party_count" ["house"] s_party_count) (T_parties_of : Txt K mg "parties_of" ["house"] s_parties_of) (T_seats_of : Txt K mg "seats_of" ["house", "party"] s_seats_of) (T_wanted : Txt K mg "wanted" ["house", "party", "question"] s_wanted) (T_care : Txt K mg "care" ["house", "party", "question"] s_care) (T_is_between : Txt K mg "is_between" ["number", "least", "most"] s_is_between) (T_is_party_told : Txt K mg "is_party_told" ["house", "party"] s_is_party_told) (T_is_house : Txt K mg "is_house" ["house"] s_is_house) (T_refusal_of : Txt K mg "refusal_of" ["house", "holders"] s_refusal_of) (T_gap : Txt K mg "gap" ["one", "other"] s_gap) (T_done_in : Txt K mg "done_in" ["house", "cabinet", "question"] s_done_in) (T_far : Txt K mg "far" ["house", "party", "cabinet"] s_far) (T_would_rather : Txt K mg "would_rather" ["house", "party", "one", "other"] s_would_rather) (T_all_seats : Txt K mg "all_seats" ["house"] s_all_seats) (T_is_more_than_half : Txt K mg "is_more_than_half" ["house", "seats"] s_is_more_than_half) (T_seats_for : Txt K mg "seats_for" ["house", "one", "other"] s_seats_for) (T_is_beating : Txt K mg "is_beating" ["house", "one", "other"] s_is_beating) (T_all_cabinets : Txt K mg "all_cabinets" ["house"] s_all_cabinets) (T_beaters_of : Txt K mg "beaters_of" ["house", "cabinet"] s_beaters_of) (T_answer_of : Txt K mg "answer_of" ["cabinets"] s_answer_of) (T_beaters : Txt K mg "beaters" ["a", "b", "house"] s_beaters) :
    ∃ fd : FuncData, (∀ (s : Shared) (us : List Value), us.length = (["a", "b", "house"] : List Str).length → BindsTo s fd ⟨us, []⟩ ((["a", "b", "house"] : List Str).zip us)) ∧ ∀ base : Heap, K.In base → base.Ns mainGlobals mg → FnOk P w K mg base CX0 10 fa fd ["a", "b", "house"] (spCall2 K fun a b l => Ks467Neutral.out (Ks467.answer (.beaters a b l))) := by
  refine top_of T_beaters hfa fun base _ _ => ?_
  have D_party_count : Def P w K mg base 1 "party_count" ["house"] (spCount K) := ok_party_count T_party_count C
  have D_parties_of : Def P w K mg base 2 "parties_of" ["house"] (spParties K) := ok_parties_of T_parties_of C D_party_count
  have D_seats_of : Def P w K mg base 1 "seats_of" ["house", "party"] (spSeats K) := ok_seats_of T_seats_of C
  have D_wanted : Def P w K mg base 1 "wanted" ["house", "party", "question"] (spWanted K) := ok_wanted T_wanted C
  have D_care : Def P w K mg base 1 "care" ["house", "party", "question"] (spCare K) := ok_care T_care C
  have D_is_between : Def P w K mg base 1 "is_between" ["number", "least", "most"] (spBetween) := ok_is_between T_is_between C
  have D_is_party_told : Def P w K mg base 2 "is_party_told" ["house", "party"] (spTold K) := ok_is_party_told T_is_party_told C D_seats_of D_wanted D_care D_is_between
  have D_is_house : Def P w K mg base 3 "is_house" ["house"] (spHouse K) := ok_is_house T_is_house C D_party_count D_parties_of D_is_between D_is_party_told
  have D_refusal_of : Def P w K mg base 4 "refusal_of" ["house", "holders"] (spRefusal K) := ok_refusal_of T_refusal_of C D_is_house D_party_count
  have D_gap : Def P w K mg base 1 "gap" ["one", "other"] (spGap) := ok_gap T_gap C
  have D_done_in : Def P w K mg base 2 "done_in" ["house", "cabinet", "question"] (spDone K) := ok_done_in T_done_in C D_wanted
  have D_far : Def P w K mg base 3 "far" ["house", "party", "cabinet"] (spFar K) := ok_far T_far C D_care D_done_in D_wanted D_gap
  have D_would_rather : Def P w K mg base 4 "would_rather" ["house", "party", "one", "other"] (spRather K) := ok_would_rather T_would_rather C D_far
  have D_all_seats : Def P w K mg base 3 "all_seats" ["house"] (spAll K) := ok_all_seats T_all_seats C D_parties_of D_seats_of
  have D_is_more_than_half : Def P w K mg base 4 "is_more_than_half" ["house", "seats"] (spMore K) := ok_is_more_than_half T_is_more_than_half C D_all_seats
  have D_seats_for : Def P w K mg base 5 "seats_for" ["house", "one", "other"] (spTwo K fun h c d => nI (Ks467.forIt h c d)) := ok_seats_for T_seats_for C D_parties_of D_would_rather D_seats_of
  have D_is_beating : Def P w K mg base 6 "is_beating" ["house", "one", "other"] (spTwo K fun h c d => .bl (Ks467.beats h c d)) := ok_is_beating T_is_beating C D_is_more_than_half D_seats_for
  have D_all_cabinets : Def P w K mg base 3 "all_cabinets" ["house"] (spList K Ks467.cabinets) := ok_all_cabinets T_all_cabinets C D_parties_of
  have D_beaters_of : Def P w K mg base 7 "beaters_of" ["house", "cabinet"] (spFrom K fun h d => (Ks467.cabinets h).filter fun c => Ks467.beats h c d) := ok_beaters_of T_beaters_of C D_all_cabinets D_is_beating
  have D_answer_of : Def P w K mg base 1 "answer_of" ["cabinets"] (spAnswer) := ok_answer_of T_answer_of C
  exact ok_beaters T_beaters C D_refusal_of D_answer_of D_beaters_of
end Cab
open PySem PySem.W PyProof.Rows
set_option maxRecDepth 100000 in
set_option maxHeartbeats 0 in
theorem PySem.Challenge.cw_cabinetstands_s02_beaters_holds : PySem.Challenge.rw_cabinetstands_s02_beaters.Holds := by
  w_on; k_headS; (case hw => exact ⟨[.int 0, .int 0, .list []], by decide +kernel, by decide +kernel⟩)
  k_fillS
  refine L2.walk_specK (r := PySem.Challenge.rw_cabinetstands_s02_beaters) (k := 10) (CX := L2.CX0) (ps := ["a", "b", "house"]) (sp := fun K => Cab.spCall2 K fun a b l => Ks467Neutral.out (Ks467.answer (.beaters a b l))) (by decide +kernel) rfl rfl ⟨rfl, by decide, by decide⟩ (fun w h Y => PySem.W.kIn_of Y) ?F ?S (fun _ _ _ _ z => z)
  case F =>
    intro w mg fa h Y KX G hmg
    refine' Cab.all_ok hmg (Cab.cst_of KX G ?a1 ?a2 ?a3 ?a4 ?a5 ?a6 ?a7 ?a8 ?l ?z1 ?z2 ?z3)
      (Cab.txt_of KX G Cab.bi_party_count ?a_party_count ?l_party_count ?c_party_count ?k_party_count)
      (Cab.txt_of KX G Cab.bi_parties_of ?a_parties_of ?l_parties_of ?c_parties_of ?k_parties_of)
      (Cab.txt_of KX G Cab.bi_seats_of ?a_seats_of ?l_seats_of ?c_seats_of ?k_seats_of)
      (Cab.txt_of KX G Cab.bi_wanted ?a_wanted ?l_wanted ?c_wanted ?k_wanted)
      (Cab.txt_of KX G Cab.bi_care ?a_care ?l_care ?c_care ?k_care)
      (Cab.txt_of KX G Cab.bi_is_between ?a_is_between ?l_is_between ?c_is_between ?k_is_between)
      (Cab.txt_of KX G Cab.bi_is_party_told ?a_is_party_told ?l_is_party_told ?c_is_party_told ?k_is_party_told)
      (Cab.txt_of KX G Cab.bi_is_house ?a_is_house ?l_is_house ?c_is_house ?k_is_house)
      (Cab.txt_of KX G Cab.bi_refusal_of ?a_refusal_of ?l_refusal_of ?c_refusal_of ?k_refusal_of)
      (Cab.txt_of KX G Cab.bi_gap ?a_gap ?l_gap ?c_gap ?k_gap)
      (Cab.txt_of KX G Cab.bi_done_in ?a_done_in ?l_done_in ?c_done_in ?k_done_in)
      (Cab.txt_of KX G Cab.bi_far ?a_far ?l_far ?c_far ?k_far)
      (Cab.txt_of KX G Cab.bi_would_rather ?a_would_rather ?l_would_rather ?c_would_rather ?k_would_rather)
      (Cab.txt_of KX G Cab.bi_all_seats ?a_all_seats ?l_all_seats ?c_all_seats ?k_all_seats)
      (Cab.txt_of KX G Cab.bi_is_more_than_half ?a_is_more_than_half ?l_is_more_than_half ?c_is_more_than_half ?k_is_more_than_half)
      (Cab.txt_of KX G Cab.bi_seats_for ?a_seats_for ?l_seats_for ?c_seats_for ?k_seats_for)
      (Cab.txt_of KX G Cab.bi_is_beating ?a_is_beating ?l_is_beating ?c_is_beating ?k_is_beating)
      (Cab.txt_of KX G Cab.bi_all_cabinets ?a_all_cabinets ?l_all_cabinets ?c_all_cabinets ?k_all_cabinets)
      (Cab.txt_of KX G Cab.bi_beaters_of ?a_beaters_of ?l_beaters_of ?c_beaters_of ?k_beaters_of)
      (Cab.txt_of KX G Cab.bi_answer_of ?a_answer_of ?l_answer_of ?c_answer_of ?k_answer_of)
      (Cab.txt_of KX G Cab.bi_beaters ?a_beaters ?l_beaters ?c_beaters ?k_beaters)
    (case a1 => k_is); (case a2 => k_is); (case a3 => k_is); (case a4 => k_is); (case a5 => k_is); (case a6 => k_is); (case a7 => k_is); (case a8 => k_is); (case l => k_is); (case z1 => k_is); (case z2 => k_is); (case z3 => k_is)
    (case a_party_count => k_is); (case l_party_count => k_is); (case c_party_count => k_is); (case k_party_count => k_is)
    (case a_parties_of => k_is); (case l_parties_of => k_is); (case c_parties_of => k_is); (case k_parties_of => k_is)
    (case a_seats_of => k_is); (case l_seats_of => k_is); (case c_seats_of => k_is); (case k_seats_of => k_is)
    (case a_wanted => k_is); (case l_wanted => k_is); (case c_wanted => k_is); (case k_wanted => k_is)
    (case a_care => k_is); (case l_care => k_is); (case c_care => k_is); (case k_care => k_is)
    (case a_is_between => k_is); (case l_is_between => k_is); (case c_is_between => k_is); (case k_is_between => k_is)
    (case a_is_party_told => k_is); (case l_is_party_told => k_is); (case c_is_party_told => k_is); (case k_is_party_told => k_is)
    (case a_is_house => k_is); (case l_is_house => k_is); (case c_is_house => k_is); (case k_is_house => k_is)
    (case a_refusal_of => k_is); (case l_refusal_of => k_is); (case c_refusal_of => k_is); (case k_refusal_of => k_is)
    (case a_gap => k_is); (case l_gap => k_is); (case c_gap => k_is); (case k_gap => k_is)
    (case a_done_in => k_is); (case l_done_in => k_is); (case c_done_in => k_is); (case k_done_in => k_is)
    (case a_far => k_is); (case l_far => k_is); (case c_far => k_is); (case k_far => k_is)
    (case a_would_rather => k_is); (case l_would_rather => k_is); (case c_would_rather => k_is); (case k_would_rather => k_is)
    (case a_all_seats => k_is); (case l_all_seats => k_is); (case c_all_seats => k_is); (case k_all_seats => k_is)
    (case a_is_more_than_half => k_is); (case l_is_more_than_half => k_is); (case c_is_more_than_half => k_is); (case k_is_more_than_half => k_is)
    (case a_seats_for => k_is); (case l_seats_for => k_is); (case c_seats_for => k_is); (case k_seats_for => k_is)
    (case a_is_beating => k_is); (case l_is_beating => k_is); (case c_is_beating => k_is); (case k_is_beating => k_is)
    (case a_all_cabinets => k_is); (case l_all_cabinets => k_is); (case c_all_cabinets => k_is); (case k_all_cabinets => k_is)
    (case a_beaters_of => k_is); (case l_beaters_of => k_is); (case c_beaters_of => k_is); (case k_beaters_of => k_is)
    (case a_answer_of => k_is); (case l_answer_of => k_is); (case c_answer_of => k_is); (case k_answer_of => k_is)
    (case a_beaters => k_is); (case l_beaters => k_is); (case c_beaters => k_is); (case k_beaters => k_is)
  case S =>
    intro K H xs a hO hwi hask hx
    cases hx with
    | cons h0 hx =>
    cases h0
    cases hx with
    | cons h1 hx =>
    cases h1
    cases hx with
    | cons hl hx =>
    cases hx
    cases hl with
    | lst hs ha =>
      obtain ⟨x0, x1, xl, u⟩ := a
      have e := L2.ints_dw xl _ ha
      subst e
      have q : (Codec.inInt 0 4294967295 x0 && (Codec.inInt 0 4294967295 x1 && ((Codec.inLen 0 32 xl && xl.all (Codec.inInt 0 4294967295)) && true))) = true := hwi
      rw [Bool.and_eq_true, Bool.and_eq_true, Bool.and_true, Bool.and_eq_true] at q
      obtain ⟨q0, ⟨q1, ⟨ql, qx⟩⟩⟩ := q
      obtain ⟨n0, rfl⟩ : ∃ n : Nat, x0 = (n : Int) := ⟨x0.toNat, (Int.toNat_of_nonneg (Codec.inInt_iff.mp q0).1).symm⟩
      obtain ⟨n1, rfl⟩ : ∃ n : Nat, x1 = (n : Int) := ⟨x1.toNat, (Int.toNat_of_nonneg (Codec.inInt_iff.mp q1).1).symm⟩
      obtain ⟨l, rfl⟩ : ∃ l : List Nat, xl = l.map fun n : Nat => (n : Int) := ⟨_, (Cab.nats_back fun x hx => (Codec.inInt_iff.mp (List.all_eq_true.mp qx x hx)).1).symm⟩
      rw [List.map_map] at hs
      have hl : l.length ≤ 32 := by
        have := (Codec.inNat_iff.mp ql).2
        rwa [List.length_map] at this
      refine ⟨n0, n1, _, l, rfl, hs, hl, fun H' p hp => ?_⟩
      show L2.Dw K H' (.ref p) (WData.list ((PyKs467.beaters (n0 : Int) (n1 : Int) (l.map fun n : Nat => (n : Int))).map WData.int))
      rw [Cab.f_beaters]
      exact .lst (L2.SqL.of hp) (L2.dw_ints _)
#print axioms PySem.Challenge.cw_cabinetstands_s02_beaters_holds
