import PyProof.Rows.All
import Wide.All
import OpenK.AllK
import Wide.FinOn
import PyProof.EqAt
import PyProof.EqKinds
import PyProof.TupleCall
import PyProof.StrOps2
import KE.KNest
import KE.DataMinMax
import HandS.Base
import HandS.Call
import HandS.List
import HandS.Comp
import HandS.Iter
import HandS.Walk
import HandS.SortKw
import HandS.AnyAll
import HandS.ForMost
import HandS.Defaults
import HandS.Deep
import HandS.Text
import HandS.IsInst
import KE.KStateDown
import Lean
import HandS.Ends
import HandS.EndTab
import HandS.HeadWalk
import HandS.Head0
import HandS.Head1
import HandS.Head2
import HandS.HeadEnd
import HandS.HeadHook1
import HandS.HeadHook2
import HandS.HeadHook3
import HandS.HeadHook4
import PySem.Challenge.RW_edgelink_k16_tunings

section
set_option linter.all false
/-! Plain mathematics of law_k16_tunings: mirrors of the program's defs over lists, and their laws. -/
namespace Tun

/-! ### stuffing -/
/-- one turn of stuff: what was found, the ones -/
def stuffStep (L : Int) (st : List Bool × Int) (b : Bool) : List Bool × Int :=
  if (if b then st.2 + 1 else 0) = L then ((st.1 ++ [b]) ++ [false], 0) else (st.1 ++ [b], if b then st.2 + 1 else 0)
def stuff (L : Int) (bs : List Bool) : List Bool := (bs.foldl (stuffStep L) ([], 0)).1
/-- the same from o ones on -/
def stf (L : Int) : Int → List Bool → List Bool
  | _, [] => []
  | o, b :: r => if (if b then o + 1 else 0) = L then b :: false :: stf L 0 r else b :: stf L (if b then o + 1 else 0) r
theorem stuff_fold (L : Int) : ∀ (bs acc : List Bool) (o : Int), (bs.foldl (stuffStep L) (acc, o)).1 = acc ++ stf L o bs
  | [], acc, o => by simp [stf]
  | b :: r, acc, o => by
    rw [List.foldl_cons]
    by_cases h : (if b then o + 1 else 0) = L
    · rw [show stuffStep L (acc, o) b = ((acc ++ [b]) ++ [false], 0) from if_pos h, stuff_fold L r, stf, if_pos h]
      simp
    · rw [show stuffStep L (acc, o) b = (acc ++ [b], if b then o + 1 else 0) from if_neg h, stuff_fold L r, stf, if_neg h]
      simp
theorem stuff_eq (L : Int) (bs : List Bool) : stuff L bs = stf L 0 bs := by
  unfold stuff
  rw [stuff_fold]
  rfl
theorem stuffFold_len (L : Int) : ∀ (bs acc : List Bool) (o : Int), (bs.foldl (stuffStep L) (acc, o)).1.length ≤ acc.length + 2 * bs.length
  | [], acc, o => by simp
  | b :: r, acc, o => by
    rw [List.foldl_cons]
    by_cases h : (if b then o + 1 else 0) = L
    · rw [show stuffStep L (acc, o) b = ((acc ++ [b]) ++ [false], 0) from if_pos h]
      have := stuffFold_len L r ((acc ++ [b]) ++ [false]) 0
      simp only [List.length_append, List.length_cons, List.length_nil] at this ⊢
      omega
    · rw [show stuffStep L (acc, o) b = (acc ++ [b], if b then o + 1 else 0) from if_neg h]
      have := stuffFold_len L r (acc ++ [b]) (if b then o + 1 else 0)
      simp only [List.length_append, List.length_cons, List.length_nil] at this ⊢
      omega
theorem stuff_len (L : Int) (bs : List Bool) : (stuff L bs).length ≤ 2 * bs.length := by
  have := stuffFold_len L bs [] 0
  simpa [stuff] using this

/-! ### frames -/
def flag (L : Int) : List Bool := false :: (List.replicate (L + 1).toNat true ++ [false])
def frame (L : Int) (bs : List Bool) : List Bool := flag L ++ stuff L bs ++ flag L
theorem flag_len (L : Int) : (flag L).length = (L + 1).toNat + 2 := by simp [flag]
theorem frame_len (L : Int) (bs : List Bool) (h : L ≤ 7) : (frame L bs).length ≤ 20 + 2 * bs.length := by
  have := stuff_len L bs
  unfold frame
  rw [List.length_append, List.length_append, flag_len]
  omega
/-- the places of the zeros, from place k on -/
def zerosFrom (k : Int) : List Bool → List Int
  | [] => []
  | b :: r => if b then zerosFrom (k + 1) r else k :: zerosFrom (k + 1) r
def zeros (bs : List Bool) : List Int := zerosFrom 0 bs
def dists : List Int → List Int
  | x :: y :: r => (y - x) :: dists (y :: r)
  | _ => []
theorem dists_len : ∀ xs : List Int, (dists xs).length = xs.length - 1
  | [] => rfl
  | [_] => rfl
  | x :: y :: r => by
    show (dists (y :: r)).length + 1 = (y :: r).length + 1 - 1
    rw [dists_len (y :: r)]
    simp
theorem dists_get : ∀ (ns : List Int) (i : Nat) (x y : Int), ns[i]? = some x → ns[i + 1]? = some y → (dists ns)[i]? = some (y - x)
  | [], _, _, _, h, _ => by simp at h
  | [_], 0, _, _, _, h => by simp at h
  | [_], i + 1, _, _, h, _ => by simp at h
  | a :: b :: r, 0, x, y, h, h2 => by
    have e1 : a = x := by simpa using h
    have e2 : b = y := by simpa using h2
    subst e1 e2
    rfl
  | a :: b :: r, i + 1, x, y, h, h2 => by
    have := dists_get (b :: r) i x y (by simpa using h) (by simpa using h2)
    simpa [dists] using this
theorem dists_bd {M : Int} : ∀ (ns : List Int), (∀ x ∈ ns, 0 ≤ x ∧ x ≤ M) → ∀ d ∈ dists ns, -M ≤ d ∧ d ≤ M
  | [], _, _, h => by cases h
  | [_], _, _, h => by cases h
  | x :: y :: r, h, d, hd => by
    rcases List.mem_cons.mp (show d ∈ (y - x) :: dists (y :: r) from hd) with e | hd
    · have h1 := h x List.mem_cons_self
      have h2 := h y (List.mem_cons_of_mem _ List.mem_cons_self)
      omega
    · exact dists_bd (y :: r) (fun z hz => h z (List.mem_cons_of_mem _ hz)) d hd
theorem dists_snoc : ∀ (l : List Int) (x y : Int), dists ((l ++ [x]) ++ [y]) = dists (l ++ [x]) ++ [y - x]
  | [], x, y => rfl
  | [a], x, y => rfl
  | a :: b :: r, x, y => by
    have ih := dists_snoc (b :: r) x y
    show (b - a) :: dists (((b :: r) ++ [x]) ++ [y]) = (b - a) :: dists ((b :: r) ++ [x]) ++ [y - x]
    rw [ih]
    rfl
theorem zerosFrom_len : ∀ (bs : List Bool) (k : Int), (zerosFrom k bs).length ≤ bs.length
  | [], _ => Nat.le_refl _
  | b :: r, k => by
    unfold zerosFrom
    have := zerosFrom_len r (k + 1)
    cases b <;> simp <;> omega
theorem zerosFrom_mem : ∀ (bs : List Bool) (k z : Int), z ∈ zerosFrom k bs → k ≤ z ∧ z < k + bs.length
  | [], _, _, h => by simp [zerosFrom] at h
  | b :: r, k, z, h => by
    unfold zerosFrom at h
    cases b with
    | true =>
      simp only [if_true] at h
      have := zerosFrom_mem r (k + 1) z h
      simp only [List.length_cons]
      omega
    | false =>
      simp only [Bool.false_eq_true, if_false, List.mem_cons] at h
      simp only [List.length_cons]
      rcases h with h | h
      · omega
      · have := zerosFrom_mem r (k + 1) z h
        omega
theorem zerosFrom_snoc : ∀ (bs : List Bool) (b : Bool) (k : Int), zerosFrom k (bs ++ [b]) = zerosFrom k bs ++ (if b then [] else [k + bs.length])
  | [], b, k => by cases b <;> simp [zerosFrom]
  | c :: r, b, k => by
    rw [List.cons_append]
    unfold zerosFrom
    rw [zerosFrom_snoc r b (k + 1)]
    have e : k + 1 + (r.length : Int) = k + ((c :: r).length : Int) := by simp only [List.length_cons]; omega
    rw [e]
    cases c <;> simp
theorem zerosFrom_asc : ∀ (bs : List Bool) (k : Int), (zerosFrom k bs).Pairwise (· < ·)
  | [], _ => List.Pairwise.nil
  | b :: r, k => by
    unfold zerosFrom
    cases b with
    | true =>
      simp only [if_true]
      exact zerosFrom_asc r (k + 1)
    | false =>
      simp only [Bool.false_eq_true, if_false]
      refine List.Pairwise.cons (fun z hz => ?_) (zerosFrom_asc r (k + 1))
      have := zerosFrom_mem r (k + 1) z hz
      omega
/-- the edges of bits -/
def edges (st bt : Int) (bs : List Bool) : List Int := (zeros bs).map fun z => st + z * bt
theorem edges_mem {st bt : Int} {bs : List Bool} {x : Int} (h : x ∈ edges st bt bs) : ∃ z : Int, 0 ≤ z ∧ z < (bs.length : Int) ∧ x = st + z * bt := by
  obtain ⟨z, hz, e⟩ := List.mem_map.mp h
  have := zerosFrom_mem bs 0 z hz
  exact ⟨z, by omega, by omega, e.symm⟩
theorem edges_asc {st bt : Int} (hb : 1 ≤ bt) (bs : List Bool) : (edges st bt bs).Pairwise (· < ·) := by
  unfold edges
  rw [List.pairwise_map]
  refine (zerosFrom_asc bs 0).imp fun {a b} h => ?_
  have := Int.mul_lt_mul_of_pos_right h (show 0 < bt by omega)
  omega
theorem edges_nonneg {st bt : Int} (h0 : 0 ≤ st) (hb : 1 ≤ bt) (bs : List Bool) : ∀ x ∈ edges st bt bs, 0 ≤ x := by
  intro x hx
  obtain ⟨z, hz, _, e⟩ := edges_mem hx
  have := Int.mul_nonneg hz (show 0 ≤ bt by omega)
  omega
theorem edges_len (st bt : Int) (bs : List Bool) : (edges st bt bs).length ≤ bs.length := by
  unfold edges zeros
  rw [List.length_map]
  exact zerosFrom_len bs 0
theorem edges_ne (st bt L : Int) (bs : List Bool) : edges st bt (frame L bs) ≠ [] := by
  unfold edges zeros frame flag
  intro z
  have h : zerosFrom 0 (false :: (List.replicate (L + 1).toNat true ++ [false]) ++ stuff L bs ++ false :: (List.replicate (L + 1).toNat true ++ [false])) = [] := List.map_eq_nil_iff.mp z
  simp [zerosFrom] at h
theorem edges_bd {bt : Int} {bs : List Bool} (h1 : 1 ≤ bt) (h2 : bt ≤ 30) (hl : bs.length ≤ 100) : ∀ x ∈ edges 5 bt bs, 0 ≤ x ∧ x ≤ 3005 := by
  intro x hx
  obtain ⟨z, z0, z1, e⟩ := edges_mem hx
  have m0 := Int.mul_nonneg z0 (show 0 ≤ bt by omega)
  have m1 := Int.mul_le_mul (show z ≤ 100 by omega) h2 (by omega) (by omega)
  omega
/-- the gaps of bits, k ones behind the last zero -/
def gapsFrom : Int → List Bool → List Int
  | _, [] => []
  | k, b :: r => if b then gapsFrom (k + 1) r else (k + 1) :: gapsFrom 0 r
theorem gaps_of_zeros : ∀ (s : List Bool) (p q : Int), dists (p :: zerosFrom q s) = gapsFrom (q - p - 1) s
  | [], p, q => rfl
  | b :: r, p, q => by
    unfold zerosFrom gapsFrom
    cases b with
    | true =>
      simp only [if_true]
      rw [gaps_of_zeros r p (q + 1)]
      congr 1
      omega
    | false =>
      simp only [Bool.false_eq_true, if_false]
      show (q - p) :: dists (q :: zerosFrom (q + 1) r) = _
      rw [gaps_of_zeros r q (q + 1)]
      congr 1
      · omega
      · congr 1
        omega
theorem dists_map (b c : Int) : ∀ xs : List Int, dists (xs.map fun p => c + p * b) = (dists xs).map fun g => g * b
  | [] => rfl
  | [_] => rfl
  | x :: y :: r => by
    have ih := dists_map b c (y :: r)
    simp only [List.map_cons] at ih ⊢
    simp only [dists, List.map_cons]
    rw [ih]
    congr 1
    rw [Int.sub_mul]
    omega

/-! ### the reader -/
structure Rd where
  bits : Option (List Bool)
  closed : Bool
  pays : List (List Bool)
def rd0 : Rd := ⟨none, false, []⟩
def rdStep (L : Int) (r : Rd) (g : Int) : Rd :=
  ⟨if g = L + 2 then some [] else if ¬ (1 ≤ g ∧ g ≤ L + 1) then none else r.bits.map fun b => (b ++ List.replicate (g - 1).toNat true) ++ (if g ≤ L then [false] else []),
   decide (1 ≤ g ∧ g ≤ L),
   if g = L + 2 ∧ r.closed = true then (match r.bits with | some b => r.pays ++ [b.dropLast] | none => r.pays) else r.pays⟩
theorem rdStep_in {L g : Int} {r : Rd} (hg : ¬ g = L + 2) (hin : 1 ≤ g ∧ g ≤ L + 1) :
    rdStep L r g = ⟨r.bits.map fun b => (b ++ List.replicate (g - 1).toNat true) ++ (if g ≤ L then [false] else []), decide (1 ≤ g ∧ g ≤ L), r.pays⟩ := by
  unfold rdStep
  rw [if_neg hg, if_neg (fun z => z hin), if_neg (show ¬ (g = L + 2 ∧ r.closed = true) from fun z => hg z.1)]
theorem rdStep_out {L g : Int} {r : Rd} (hg : ¬ g = L + 2) (hin : ¬ (1 ≤ g ∧ g ≤ L + 1)) : rdStep L r g = ⟨none, decide (1 ≤ g ∧ g ≤ L), r.pays⟩ := by
  unfold rdStep
  rw [if_neg hg, if_pos hin, if_neg (show ¬ (g = L + 2 ∧ r.closed = true) from fun z => hg z.1)]
def reads (L : Int) (gs : List Int) : List (List Bool) := (gs.foldl (rdStep L) rd0).pays

theorem rdStep_bits {L g : Int} {r : Rd} {n : Nat} (hL : L ≤ 7) (h : ∀ b, r.bits = some b → b.length ≤ n) : ∀ b, (rdStep L r g).bits = some b → b.length ≤ n + 8 := by
  intro b hb
  by_cases hg : g = L + 2
  · have e : (rdStep L r g).bits = some [] := if_pos hg
    rw [e] at hb
    cases hb
    simp
  · by_cases hin : 1 ≤ g ∧ g ≤ L + 1
    · rw [rdStep_in hg hin] at hb
      cases hr : r.bits with
      | none => rw [hr] at hb; cases hb
      | some a =>
        rw [hr] at hb
        have h1 := h a hr
        simp only [Option.map_some, Option.some.injEq] at hb
        subst hb
        by_cases h2 : g ≤ L
        · rw [if_pos h2]
          simp only [List.length_append, List.length_replicate, List.length_cons, List.length_nil]
          omega
        · rw [if_neg h2]
          simp only [List.length_append, List.length_replicate, List.length_nil]
          omega
    · rw [rdStep_out hg hin] at hb
      cases hb
theorem rdStep_pays {L g : Int} {r : Rd} {n : Nat} (h : r.pays.length ≤ n) : (rdStep L r g).pays.length ≤ n + 1 := by
  unfold rdStep
  simp only
  split
  · split
    · rw [List.length_append, List.length_singleton]
      omega
    · omega
  · omega
theorem rd_bound {L : Int} (hL : L ≤ 7) : ∀ (gs : List Int), (∀ b, (gs.foldl (rdStep L) rd0).bits = some b → b.length ≤ 8 * gs.length) ∧ (gs.foldl (rdStep L) rd0).pays.length ≤ gs.length := by
  intro gs
  have gen : ∀ (gs : List Int) (r : Rd) (n m : Nat), (∀ b, r.bits = some b → b.length ≤ n) → r.pays.length ≤ m → (∀ b, (gs.foldl (rdStep L) r).bits = some b → b.length ≤ n + 8 * gs.length) ∧ (gs.foldl (rdStep L) r).pays.length ≤ m + gs.length := by
    intro gs
    induction gs with
    | nil => intro r n m h1 h2; exact ⟨h1, h2⟩
    | cons g gs ih =>
      intro r n m h1 h2
      rw [List.foldl_cons]
      obtain ⟨k1, k2⟩ := ih (rdStep L r g) (n + 8) (m + 1) (rdStep_bits hL h1) (rdStep_pays h2)
      rw [List.length_cons]
      refine ⟨fun b hb => ?_, by omega⟩
      have := k1 b hb
      omega
  obtain ⟨h1, h2⟩ := gen gs rd0 0 0 (fun b hb => by cases hb) (Nat.le_refl _)
  refine ⟨fun b hb => ?_, ?_⟩
  · have := h1 b hb
    omega
  · omega
/-- reading what stuffing gives -/
theorem read_stf {L : Int} (hL : 2 ≤ L) (rest : List Bool) (pays : List (List Bool)) : ∀ (p acc : List Bool) (o : Int) (c : Bool), 0 ≤ o → o < L →
    (gapsFrom o (stf L o p ++ false :: rest)).foldl (rdStep L) ⟨some acc, c, pays⟩ =
      (gapsFrom 0 rest).foldl (rdStep L) ⟨some (acc ++ List.replicate o.toNat true ++ p ++ [false]), true, pays⟩
  | [], acc, o, c, h0, h1 => by
    show ((o + 1) :: gapsFrom 0 rest).foldl _ _ = _
    rw [List.foldl_cons]
    congr 1
    unfold rdStep
    have e1 : ¬ (o + 1 = L + 2) := by omega
    have e2 : (1 ≤ o + 1 ∧ o + 1 ≤ L + 1) := by omega
    have e3 : o + 1 ≤ L := by omega
    have e4 : o + 1 - 1 = o := by omega
    have e5 : (1 ≤ o + 1 ∧ o + 1 ≤ L) := by omega
    simp [e1, e2, e3, e4, e5]
  | b :: r, acc, o, c, h0, h1 => by
    unfold stf
    cases b with
    | true =>
      simp only [if_true]
      by_cases h : o + 1 = L
      · rw [if_pos h]
        simp only [List.cons_append]
        have e : gapsFrom o (true :: false :: (stf L 0 r ++ false :: rest)) = (o + 1 + 1) :: gapsFrom 0 (stf L 0 r ++ false :: rest) := by
          simp [gapsFrom]
        rw [e, List.foldl_cons]
        have e2 : rdStep L ⟨some acc, c, pays⟩ (o + 1 + 1) = ⟨some (acc ++ List.replicate (o + 1).toNat true), false, pays⟩ := by
          unfold rdStep
          have e1 : ¬ (o + 1 + 1 = L + 2) := by omega
          have e2 : (1 ≤ o + 1 + 1 ∧ o + 1 + 1 ≤ L + 1) := by omega
          have e3 : ¬ (o + 1 + 1 ≤ L) := by omega
          have e4 : o + 1 + 1 - 1 = o + 1 := by omega
          have e5 : ¬ (1 ≤ o + 1 + 1 ∧ o + 1 + 1 ≤ L) := by omega
          simp [e1, e2, e3, e4, e5]
        rw [e2, read_stf hL rest pays r _ 0 _ (by omega) (by omega)]
        congr 1
        have e3 : (o + 1).toNat = o.toNat + 1 := by omega
        rw [e3, List.replicate_succ']
        simp
      · rw [if_neg h]
        simp only [List.cons_append]
        have e : gapsFrom o (true :: (stf L (o + 1) r ++ false :: rest)) = gapsFrom (o + 1) (stf L (o + 1) r ++ false :: rest) := by
          simp [gapsFrom]
        rw [e, read_stf hL rest pays r acc (o + 1) c (by omega) (by omega)]
        congr 1
        have e3 : (o + 1).toNat = o.toNat + 1 := by omega
        rw [e3, List.replicate_succ']
        simp
    | false =>
      simp only [Bool.false_eq_true, if_false]
      have h : ¬ (0 = L) := by omega
      rw [if_neg h]
      simp only [List.cons_append]
      have e : gapsFrom o (false :: (stf L 0 r ++ false :: rest)) = (o + 1) :: gapsFrom 0 (stf L 0 r ++ false :: rest) := by
        simp [gapsFrom]
      rw [e, List.foldl_cons]
      have e2 : rdStep L ⟨some acc, c, pays⟩ (o + 1) = ⟨some (acc ++ List.replicate o.toNat true ++ [false]), true, pays⟩ := by
        unfold rdStep
        have e1 : ¬ (o + 1 = L + 2) := by omega
        have e2 : (1 ≤ o + 1 ∧ o + 1 ≤ L + 1) := by omega
        have e3 : o + 1 ≤ L := by omega
        have e4 : o + 1 - 1 = o := by omega
        have e5 : (1 ≤ o + 1 ∧ o + 1 ≤ L) := by omega
        simp [e1, e2, e3, e4, e5]
      rw [e2, read_stf hL rest pays r _ 0 _ (by omega) (by omega)]
      congr 1
      simp
theorem gaps_ones (n : Nat) (k : Int) (r : List Bool) : gapsFrom k (List.replicate n true ++ r) = gapsFrom (k + n) r := by
  induction n generalizing k with
  | zero => simp
  | succ n ih =>
    rw [List.replicate_succ, List.cons_append]
    show gapsFrom (k + 1) _ = _
    rw [ih]
    congr 1
    omega
/-- the gaps of a frame -/
def fgaps (L : Int) (bs : List Bool) : List Int := dists (zeros (frame L bs))
theorem fgaps_eq {L : Int} (hL : 0 ≤ L) (bs : List Bool) : fgaps L bs = (L + 2) :: gapsFrom 0 (stf L 0 bs ++ false :: (List.replicate (L + 1).toNat true ++ [false])) := by
  unfold fgaps zeros frame flag
  rw [stuff_eq]
  have e : (false :: (List.replicate (L + 1).toNat true ++ [false]) ++ stf L 0 bs ++ false :: (List.replicate (L + 1).toNat true ++ [false])) =
      false :: (List.replicate (L + 1).toNat true ++ false :: (stf L 0 bs ++ false :: (List.replicate (L + 1).toNat true ++ [false]))) := by simp
  rw [e]
  show dists (0 :: zerosFrom (0 + 1) _) = _
  rw [gaps_of_zeros, gaps_ones]
  show (0 + 1 - 0 - 1 + (((L + 1).toNat : Nat) : Int) + 1) :: gapsFrom 0 _ = _
  congr 1
  omega
theorem gaps_last {L : Int} (hL : 0 ≤ L) : gapsFrom 0 (List.replicate (L + 1).toNat true ++ [false]) = [L + 2] := by
  rw [gaps_ones]
  show [(0 + (((L + 1).toNat : Nat) : Int) + 1)] = _
  congr 1
  omega
theorem reads_frame {L : Int} (hL : 2 ≤ L) (bs : List Bool) : reads L (fgaps L bs) = [bs] := by
  unfold reads
  rw [fgaps_eq (by omega), List.foldl_cons]
  have e : rdStep L rd0 (L + 2) = ⟨some [], false, []⟩ := by
    unfold rdStep rd0
    have e5 : ¬ (1 ≤ L + 2 ∧ L + 2 ≤ L) := by omega
    simp [e5]
  rw [e, read_stf hL _ _ bs [] 0 _ (by omega) (by omega), gaps_last (by omega)]
  simp only [List.foldl_cons, List.foldl_nil]
  unfold rdStep
  simp

/-! ### what belongs to a frame -/
/-- the places from a up to (not with) b are set -/
def setR (l : List Bool) (a n : Nat) : List Bool := (List.range n).foldl (fun l k => l.set (a + k) true) l
structure Fr where
  found : List Bool
  begin : Option Nat
def frStep (L : Int) (gs : List Int) (s : Fr) (p : Int × Nat) : Fr :=
  if p.1 = L + 2 then
    ⟨match s.begin with
      | some b => if b + 1 < p.2 ∧ gs.getD (p.2 - 1) 0 ≤ L then setR s.found b (p.2 + 1 - b) else s.found
      | none => s.found, some p.2⟩
  else if ¬ (1 ≤ p.1 ∧ p.1 ≤ L + 1) then ⟨s.found, none⟩ else s
def framed (L : Int) (gs : List Int) : List Bool := (gs.zipIdx.foldl (frStep L gs) ⟨gs.map fun _ => false, none⟩).found
def strangers (L : Int) (gs : List Int) : Nat := ((framed L gs).filter fun b => !b).length

theorem setR_len : ∀ (n a : Nat) (l : List Bool), (setR l a n).length = l.length := by
  intro n
  induction n with
  | zero => intro a l; rfl
  | succ n ih =>
    intro a l
    unfold setR
    rw [List.range_succ, List.foldl_append]
    simp only [List.foldl_cons, List.foldl_nil, List.length_set]
    exact ih a l
theorem setR_succ (l : List Bool) (a n : Nat) : setR l a (n + 1) = (setR l a n).set (a + n) true := by
  unfold setR
  rw [List.range_succ, List.foldl_append]
  rfl
theorem setR_get : ∀ (n a : Nat) (l : List Bool) (i : Nat), i < l.length → (setR l a n)[i]? = if a ≤ i ∧ i < a + n then some true else l[i]? := by
  intro n
  induction n with
  | zero =>
    intro a l i h
    have e : ¬ (a ≤ i ∧ i < a + 0) := by omega
    rw [if_neg e]
    rfl
  | succ n ih =>
    intro a l i h
    rw [setR_succ, List.getElem?_set]
    by_cases e : a + n = i
    · rw [if_pos e, setR_len, if_pos (by omega), if_pos (by omega)]
    · rw [if_neg e, ih a l i h]
      by_cases e2 : a ≤ i ∧ i < a + n
      · rw [if_pos e2, if_pos (by omega)]
      · rw [if_neg e2, if_neg (by omega)]
theorem frStep_len (L : Int) (gs : List Int) (s : Fr) (p : Int × Nat) : (frStep L gs s p).found.length = s.found.length := by
  unfold frStep
  split
  · simp only
    split
    · split
      · rw [setR_len]
      · rfl
    · rfl
  · split <;> rfl
theorem frFold_len (L : Int) (gs : List Int) : ∀ (ps : List (Int × Nat)) (s : Fr), (ps.foldl (frStep L gs) s).found.length = s.found.length
  | [], _ => rfl
  | p :: ps, s => by
    rw [List.foldl_cons, frFold_len L gs ps, frStep_len]
theorem frStep_flag {L : Int} {gs : List Int} {s : Fr} {i : Nat} : frStep L gs s (L + 2, i) = ⟨match s.begin with
      | some b => if b + 1 < i ∧ gs.getD (i - 1) 0 ≤ L then setR s.found b (i + 1 - b) else s.found
      | none => s.found, some i⟩ := by
  unfold frStep
  rw [if_pos rfl]
theorem frStep_in {L g : Int} {gs : List Int} {s : Fr} {i : Nat} (h : ¬ g = L + 2) (hin : 1 ≤ g ∧ g ≤ L + 1) : frStep L gs s (g, i) = s := by
  unfold frStep
  rw [if_neg h, if_neg (fun z => z hin)]
theorem frStep_out {L g : Int} {gs : List Int} {s : Fr} {i : Nat} (h : ¬ g = L + 2) (hin : ¬ (1 ≤ g ∧ g ≤ L + 1)) : frStep L gs s (g, i) = ⟨s.found, none⟩ := by
  unfold frStep
  rw [if_neg h, if_pos hin]
theorem zip_take (L : Int) (gs : List Int) (s : Fr) {i : Nat} (hi : i < gs.length) : (gs.zipIdx.take (i + 1)).foldl (frStep L gs) s = frStep L gs ((gs.zipIdx.take i).foldl (frStep L gs) s) (gs[i], i) := by
  have e : gs.zipIdx[i]? = some (gs[i], i) := by
    rw [List.getElem?_zipIdx, List.getElem?_eq_getElem hi]
    simp
  rw [List.take_add_one, e, List.foldl_append]
  rfl
/-- the middle of a frame -/
theorem mid_stf {L : Int} (hL : 2 ≤ L) (rest : List Bool) : ∀ (p : List Bool) (o : Int), 0 ≤ o → o < L →
    ∃ mid last, gapsFrom o (stf L o p ++ false :: rest) = (mid ++ [last]) ++ gapsFrom 0 rest ∧ (∀ g ∈ mid ++ [last], 1 ≤ g ∧ g ≤ L + 1) ∧ last ≤ L
  | [], o, h0, h1 => by
    refine ⟨[], o + 1, ?_, ?_, by omega⟩
    · simp [stf, gapsFrom]
    · intro g hg
      simp at hg
      omega
  | b :: r, o, h0, h1 => by
    unfold stf
    cases b with
    | true =>
      simp only [if_true]
      by_cases h : o + 1 = L
      · rw [if_pos h]
        obtain ⟨mid, last, e, hm, hl⟩ := mid_stf hL rest r 0 (by omega) (by omega)
        refine ⟨(o + 2) :: mid, last, ?_, ?_, hl⟩
        · simp only [List.cons_append, gapsFrom, if_true, Bool.false_eq_true, if_false]
          rw [e]
          simp only [List.append_assoc, List.cons.injEq, and_true]
          omega
        · intro g hg
          simp only [List.cons_append, List.mem_cons] at hg
          rcases hg with hg | hg
          · omega
          · exact hm g hg
      · rw [if_neg h]
        obtain ⟨mid, last, e, hm, hl⟩ := mid_stf hL rest r (o + 1) (by omega) (by omega)
        refine ⟨mid, last, ?_, hm, hl⟩
        simp only [List.cons_append, gapsFrom, if_true]
        exact e
    | false =>
      simp only [Bool.false_eq_true, if_false]
      have h : ¬ (0 = L) := by omega
      rw [if_neg h]
      obtain ⟨mid, last, e, hm, hl⟩ := mid_stf hL rest r 0 (by omega) (by omega)
      refine ⟨(o + 1) :: mid, last, ?_, ?_, hl⟩
      · simp only [List.cons_append, gapsFrom, Bool.false_eq_true, if_false]
        rw [e]
      · intro g hg
        simp only [List.cons_append, List.mem_cons] at hg
        rcases hg with hg | hg
        · omega
        · exact hm g hg
theorem fgaps_shape {L : Int} (hL : 2 ≤ L) (bs : List Bool) : ∃ mid last, fgaps L bs = (L + 2) :: ((mid ++ [last]) ++ [L + 2]) ∧ (∀ g ∈ mid ++ [last], 1 ≤ g ∧ g ≤ L + 1) ∧ last ≤ L := by
  obtain ⟨mid, last, e, hm, hl⟩ := mid_stf hL (List.replicate (L + 1).toNat true ++ [false]) bs 0 (by omega) (by omega)
  refine ⟨mid, last, ?_, hm, hl⟩
  rw [fgaps_eq (by omega), e, gaps_last (by omega)]
theorem fold_mid (L : Int) (gs : List Int) (s : Fr) : ∀ (m : List Int) (k : Nat), (∀ g ∈ m, 1 ≤ g ∧ g ≤ L + 1) → (m.zipIdx k).foldl (frStep L gs) s = s
  | [], _, _ => rfl
  | g :: m, k, h => by
    rw [List.zipIdx_cons, List.foldl_cons]
    have hg := h g List.mem_cons_self
    have e : frStep L gs s (g, k) = s := by
      unfold frStep
      simp only
      rw [if_neg (by omega), if_neg (by omega)]
    rw [e]
    exact fold_mid L gs s m (k + 1) fun x hx => h x (List.mem_cons_of_mem _ hx)
theorem framed_frame {L : Int} (hL : 2 ≤ L) (bs : List Bool) : strangers L (fgaps L bs) = 0 := by
  obtain ⟨mid, last, e, hm, hl⟩ := fgaps_shape hL bs
  unfold strangers framed
  rw [e]
  generalize hM : mid ++ [last] = M at *
  have hMl : M.length = mid.length + 1 := by rw [← hM]; simp
  rw [List.zipIdx_cons, List.zipIdx_append, List.foldl_cons, List.foldl_append]
  generalize hG : (L + 2) :: (M ++ [L + 2]) = G
  have hGl : G.length = M.length + 2 := by rw [← hG]; simp
  have e1 : frStep L G ⟨G.map fun _ => false, none⟩ (L + 2, 0) = ⟨G.map fun _ => false, some 0⟩ := by
    unfold frStep
    simp
  rw [e1, fold_mid L G _ M _ hm]
  have hlast : G.getD M.length 0 = last := by
    rw [← hG, List.getD_eq_getElem?_getD, hMl, List.getElem?_cons_succ, List.getElem?_append_left (by omega), ← hM, List.getElem?_append_right (Nat.le_refl _)]
    simp
  have e2 : ([L + 2].zipIdx (0 + 1 + M.length)).foldl (frStep L G) ⟨G.map fun _ => false, some 0⟩ = ⟨setR (G.map fun _ => false) 0 (M.length + 2), some (M.length + 1)⟩ := by
    simp only [List.zipIdx_cons, List.zipIdx_nil, List.foldl_cons, List.foldl_nil]
    have e3 : 0 + 1 + M.length = M.length + 1 := by omega
    rw [e3]
    unfold frStep
    simp only [if_true]
    have e4 : M.length + 1 - 1 = M.length := by omega
    rw [e4, hlast, if_pos (by omega)]
    rfl
  rw [e2]
  have all : ∀ x ∈ setR (G.map fun _ => false) 0 (M.length + 2), x = true := by
    intro x hx
    obtain ⟨i, hi, ex⟩ := List.getElem_of_mem hx
    rw [setR_len, List.length_map, hGl] at hi
    have q := setR_get (M.length + 2) 0 (G.map fun _ => false) i (by rw [List.length_map, hGl]; exact hi)
    rw [if_pos (by omega)] at q
    have q2 := (List.getElem?_eq_some_iff.mp q).2
    rw [← ex, q2]
  rw [List.filter_eq_nil_iff.mpr]
  · rfl
  · intro x hx
    rw [all x hx]
    simp

/-! ### tunings -/
abbrev Tn := Int × Int × List (List Bool)
def lims : List Int := [2, 3, 4, 5, 6, 7]
/-- what one limit adds -/
def tunL (b : Int) (gs : List Int) (L : Int) : List Tn := if strangers L gs = 0 then [(b, L, reads L gs)] else []
/-- what one bit time adds -/
def tunB (steps : List Int) (b : Int) : List Tn := if steps.all (fun s => s % b == 0) then lims.flatMap (tunL b (steps.map fun s => s / b)) else []
/-- the least, 0 if there is none -/
def least0 : List Int → Int
  | [] => 0
  | x :: r => r.foldl min x
def tun (steps : List Int) : List Tn := (List.range (least0 steps).toNat).flatMap fun (k : Nat) => tunB steps (1 + (k : Int))

/-- the first k bit times' -/
def tunP (steps : List Int) (k : Nat) : List Tn := (List.range k).flatMap fun (k : Nat) => tunB steps (1 + (k : Int))
theorem tunP_succ (steps : List Int) (k : Nat) : tunP steps (k + 1) = tunP steps k ++ tunB steps (1 + (k : Int)) := by
  unfold tunP
  rw [List.range_succ, List.flatMap_append]
  simp
theorem tunL_len (b : Int) (gs : List Int) (L : Int) : (tunL b gs L).length ≤ 1 := by
  unfold tunL
  split <;> simp
theorem flatMap_len {α β : Type} (f : α → List β) (n : Nat) (h : ∀ a, (f a).length ≤ n) : ∀ l : List α, (l.flatMap f).length ≤ n * l.length
  | [] => by simp
  | a :: l => by
    rw [List.flatMap_cons, List.length_append, List.length_cons, Nat.mul_succ]
    have h1 := h a
    have h2 := flatMap_len f n h l
    omega
theorem tunB_len (steps : List Int) (b : Int) : (tunB steps b).length ≤ 6 := by
  unfold tunB
  split
  · have := flatMap_len (tunL b (steps.map fun s => s / b)) 1 (tunL_len b _) lims
    have e : lims.length = 6 := rfl
    omega
  · simp
theorem tunP_len (steps : List Int) (k : Nat) : (tunP steps k).length ≤ 6 * k := by
  have := flatMap_len (fun (k : Nat) => tunB steps (1 + (k : Int))) 6 (fun k => tunB_len steps _) (List.range k)
  rw [List.length_range] at this
  exact this
theorem foldl_min_le : ∀ (r : List Int) (x : Int), r.foldl min x ≤ x ∧ ∀ y ∈ r, r.foldl min x ≤ y
  | [], x => ⟨Int.le_refl _, fun y h => by simp at h⟩
  | a :: r, x => by
    rw [List.foldl_cons]
    obtain ⟨h1, h2⟩ := foldl_min_le r (min x a)
    refine ⟨by omega, fun y hy => ?_⟩
    rcases List.mem_cons.mp hy with e | hy
    · subst e
      omega
    · exact h2 y hy
theorem foldl_min_mem : ∀ (r : List Int) (x : Int), r.foldl min x = x ∨ r.foldl min x ∈ r
  | [], x => .inl rfl
  | a :: r, x => by
    rw [List.foldl_cons]
    rcases foldl_min_mem r (min x a) with h | h
    · by_cases c : x ≤ a
      · left
        rw [h]
        omega
      · right
        have e : min x a = a := by omega
        rw [h, e]
        exact List.mem_cons_self
    · exact .inr (List.mem_cons_of_mem _ h)
/-- least0 is the only least member -/
theorem least0_of {xs : List Int} {m : Int} (hm : m ∈ xs) (hl : ∀ y ∈ xs, m ≤ y) : least0 xs = m := by
  cases xs with
  | nil => simp at hm
  | cons x r =>
    show r.foldl min x = m
    obtain ⟨h1, h2⟩ := foldl_min_le r x
    have h3 : r.foldl min x ≤ m := by
      rcases List.mem_cons.mp hm with e | e
      · rw [e]; exact h1
      · exact h2 m e
    have h4 : m ≤ r.foldl min x := by
      rcases foldl_min_mem r x with e | e
      · rw [e]; exact hl x List.mem_cons_self
      · exact hl _ (List.mem_cons_of_mem _ e)
    omega
theorem least0_mem {xs : List Int} (h : xs ≠ []) : least0 xs ∈ xs := by
  cases xs with
  | nil => exact absurd rfl h
  | cons x r =>
    show r.foldl min x ∈ x :: r
    rcases foldl_min_mem r x with e | e
    · rw [e]; exact List.mem_cons_self
    · exact List.mem_cons_of_mem _ e
/-- the frame's own tuning is there -/
theorem tun_own {L b : Int} (hL : 2 ≤ L) (hL7 : L ≤ 7) (hb : 1 ≤ b) (bs : List Bool) : (b, L, [bs]) ∈ tun ((fgaps L bs).map fun g => g * b) := by
  obtain ⟨mid, last, e, hm, hl⟩ := fgaps_shape hL bs
  have pos : ∀ g ∈ fgaps L bs, 1 ≤ g := by
    intro g hg
    rw [e] at hg
    simp only [List.mem_cons, List.mem_append, List.not_mem_nil, or_false] at hg
    rcases hg with h | (h | h) | h
    · omega
    · exact (hm g (List.mem_append_left _ h)).1
    · exact (hm g (by rw [h]; simp)).1
    · omega
  have ne : (fgaps L bs).map (fun g => g * b) ≠ [] := by rw [e]; simp
  have hmem := least0_mem ne
  obtain ⟨g, hg, eg⟩ := List.mem_map.mp hmem
  have hle : b ≤ least0 ((fgaps L bs).map fun g => g * b) := by
    rw [← eg]
    have h1 := pos g hg
    have := Int.mul_le_mul_of_nonneg_right h1 (show 0 ≤ b by omega)
    omega
  unfold tun
  refine List.mem_flatMap.mpr ⟨(b - 1).toNat, List.mem_range.mpr (by omega), ?_⟩
  have eb : (1 : Int) + ((b - 1).toNat : Int) = b := by omega
  rw [eb]
  unfold tunB
  have h2 : ((fgaps L bs).map fun g => g * b).all (fun s => s % b == 0) = true := by
    rw [List.all_eq_true]
    intro s hs
    obtain ⟨g, _, eg⟩ := List.mem_map.mp hs
    rw [← eg, Int.mul_emod_left]
    rfl
  rw [if_pos h2]
  have h3 : (((fgaps L bs).map fun g => g * b).map fun s => s / b) = fgaps L bs := by
    rw [List.map_map]
    have : ((fun s => s / b) ∘ fun g : Int => g * b) = id := by
      funext g
      show g * b / b = g
      exact Int.mul_ediv_cancel g (by omega)
    rw [this, List.map_id]
  rw [h3]
  refine List.mem_flatMap.mpr ⟨L, ?_, ?_⟩
  · unfold lims
    simp only [List.mem_cons, List.not_mem_nil, or_false]
    omega
  · unfold tunL
    rw [if_pos (framed_frame hL bs), reads_frame hL bs]
    exact List.mem_cons_self
end Tun
end

section
set_option Elab.async false
set_option linter.all false
set_option maxRecDepth 100000
set_option maxHeartbeats 2000000
/-! Rules that the layer lacks: a sign times an int, enumerate of a text, min with default=, all over a generator of remainders. -/
namespace TunR
open PySem PySem.Spec PyProof.Rows L2
/-! ### a sign times an int -/
theorem foldl_sign (c : Nat) : ∀ (k : Nat) (acc : Array Nat), ((List.replicate k #[c]).foldl (· ++ ·) acc) = acc ++ (List.replicate k c).toArray
  | 0, acc => by simp
  | k + 1, acc => by
    rw [List.replicate_succ, List.foldl_cons, foldl_sign c k, List.replicate_succ]
    apply Array.toList_inj.mp
    simp
def rMulS : R2 := fun x y H Q => ∃ (c : Nat) (n : Int), x = .str ⟨#[c]⟩ ∧ y = .int n ∧ 0 ≤ n ∧ n ≤ 1000 ∧ Q (.str ⟨(List.replicate n.toNat c).toArray⟩) H
theorem op_mulS {X : Cx} : OpR X (binaryOp .Mult) rMulS := by
  intro pins s σ H x y v u Q I rx ry h
  obtain ⟨c, n, rfl, rfl, h0, h1, q⟩ := h
  obtain ⟨t, rfl⟩ := rx
  obtain ⟨t', rfl⟩ := ry
  have hsl : (1000 : Nat) ≤ sizeLine := by decide
  have fin : ∀ (u : Value) (k : Nat), RelV (.str ⟨(List.replicate n.toNat c).toArray⟩) u → EP X pins σ Q u { s with toks := k } := fun u k r => ⟨_, H, I.tok _, r, q⟩
  refine P.mul_str ?_ ?_ ?_ ?_
  · rw [decide_eq_false (by omega), decide_eq_false (by omega)] <;> rfl
  · intro h2 _ h3
    have e1 : ((⟨#[c]⟩ : Str).length : Int) = 1 := rfl
    rw [e1] at h3
    have e2 : (1 : Int) ≤ (2 ^ 63 - 1) / n := by
      rw [Int.le_ediv_iff_mul_le (by omega)]
      omega
    omega
  · intro h2 _
    have e1 : (⟨#[c]⟩ : Str).length = 1 := rfl
    rw [e1, Nat.one_mul]
    unfold Builtin.Str.tooLong
    exact decide_eq_false (by omega)
  · by_cases e : n < 1
    · rw [if_pos e]
      have e0 : n = 0 := by omega
      subst e0
      exact ⟨by decide, fin _ _ ⟨_, rfl⟩⟩
    · rw [if_neg e]
      by_cases e1 : n = 1
      · subst e1
        rw [if_pos (by rfl)]
        exact fin _ s.toks ⟨_, rfl⟩
      · rw [if_neg (by
          intro z
          rw [Bool.or_eq_true] at z
          rcases z with z | z
          · exact e1 (by simpa using z)
          · exact absurd z (by show ¬ ((1 : Nat) == 0) = true; decide))]
        rw [foldl_sign c n.toNat #[]]
        refine ⟨?_, ?_⟩
        · show ((#[] : Array Nat) ++ (List.replicate n.toNat c).toArray).size ≤ sizeLine
          simp
          omega
        · have e3 : (#[] : Array Nat) ++ (List.replicate n.toNat c).toArray = (List.replicate n.toNat c).toArray := by simp
          rw [e3]
          exact fin _ _ ⟨_, rfl⟩

/-! ### enumerate of a text -/
theorem draws_strU {prog : Program} {w : World} {A : Around} (hh : A.handled = none) (it : Addr) (x : Str) (t : Tok) :
    Draws prog w A it [it] x.cps.size (fun i v => ∃ c u, x.cps[i]? = some c ∧ v = .str ⟨#[c]⟩ u) (fun i h => h.IsStrIter it (strIterType x) x t i) := by
  unfold strIterType
  split
  · exact Draws.strAscii hh it x t
  · exact Draws.strWide hh it x t
/-- the signs of x, each in a new pair with its place -/
def IteS (x : Str) : It :=
  ⟨fun i _ => i < x.cps.size, fun i H v H' => ∃ T c, v = .ref T ∧ H T = none ∧ H' = upd H T (.tup [.int (i : Nat), .str ⟨#[c]⟩]) ∧ x.cps[i]? = some c, fun i _ => i = x.cps.size⟩
theorem turn_enumS {P : Program} {w : World} {K : PySem.W.Frag} {elts : List Expr} {kk : Nat} {tpos : Pos} (x : Str) (tk0 : Tok) (e it : Addr) :
    Turn P w K (.Tuple elts kk tpos) (IteS x) [e, it] e (fun i h => (∃ old, IsEnum h e it ((i : Nat) : Int) old) ∧ h.IsStrIter it (strIterType x) x tk0 i ∧ e ≠ it) where
  mem := by simp
  obj := fun i h st b hb => by
    obtain ⟨⟨old, he⟩, ⟨o, ho, hc, hd⟩, _⟩ := st
    have e' : b = e ∨ b = it := by simpa using hb
    rcases e' with z | z
    · rw [z]; exact ⟨_, he, fun v q => nomatch q⟩
    · rw [z]; exact ⟨o, ho, fun v q => by rw [hd] at q; cases q⟩
  keep := fun i h h' st k => let ⟨⟨old, he⟩, ⟨o, ho, r⟩, hne⟩ := st; ⟨⟨old, k e (by simp) _ he⟩, ⟨o, k it (by simp) o ho, r⟩, hne⟩
  item := by
    intro X hP hw hK hc i pins s σ H E I hf st hg
    subst hP hw hK
    obtain ⟨⟨old, he⟩, hit, hne⟩ := st
    have hlt : i < x.cps.size := hg
    have hel : e < s.heap.objs.size := Heap.lt_size he
    have hil : it < s.heap.objs.size := by obtain ⟨_, q, _⟩ := hit; exact Heap.lt_size q
    have hef : e ∉ [it] := fun z => hne (by simpa using z)
    refine wpAny_pyNext_enum_itemD (draws_strU (A := X.A.in1) (I.ok.hd hc) it x tk0) he hit hlt hne hef fun y h' tk hPy ho hit' hT hsz hk => ?_
    obtain ⟨c, u, hcx, rfl⟩ := hPy
    refine ⟨_, rfl, wpAny_letOwnedTupleGo_enum (s := { s with heap := h', toks := tk + 1 }) ho fun h'' he' sb => ?_⟩
    have hT2 : h''.get? s.heap.objs.size = some { cls := .type "tuple", data := .seq #[.int i tk, .str ⟨#[c]⟩ u] } := (sb.2 _ (Nat.ne_of_gt hel)).trans hT
    have new : ObjOk X.prog X.w (upd H s.heap.objs.size (.tup [.int (i : Nat), .str ⟨#[c]⟩])) h'' s.heap.objs.size (.tup [.int (i : Nat), .str ⟨#[c]⟩]) :=
      ⟨by show 2 ≤ sizeLine; decide, [.int i tk, .str ⟨#[c]⟩ u], .cons ⟨_, rfl⟩ (.cons ⟨_, rfl⟩ .nil), ⟨_, hT2, rfl, _, rfl⟩⟩
    have I1 : Inv X pins σ (upd H s.heap.objs.size (.tup [.int (i : Nat), .str ⟨#[c]⟩])) { s with heap := h'', toks := tk + 1 } :=
      I.turnedNew (ch := [e, it]) (fun b ob hb q => (sb.2 b (fun z => hb (by simp [z]))).trans (hk b ob (fun z => hb (by simp [z])) (fun z => hb (by simp [z])) q)) hf (Nat.le_refl _) new
    refine ⟨.ref s.heap.objs.size, _, I1, rfl, ⟨_, c, rfl, I.hok.fresh (Nat.le_refl _), rfl, hcx⟩, ⟨⟨.str ⟨#[c]⟩ u, ?_⟩, ?_, hne⟩, fun b hb => ?_⟩
    · have e1 : ((i + 1 : Nat) : Int) = (i : Int) + 1 := by omega
      rw [e1]; exact he'
    · obtain ⟨o, ho2, r⟩ := hit'
      exact ⟨o, (sb.2 it (Ne.symm hne)).trans ho2, r⟩
    · have hb' : b < s.heap.objs.size := by
        have e' : b = e ∨ b = it := by simpa using hb
        rcases e' with z | z
        · rw [z]; exact hel
        · rw [z]; exact hil
      rw [upd_ne (Nat.ne_of_lt hb')]
      exact (hf b hb).1
  done := by
    intro X hP hw hK hc i pins s σ H E I hf st hg
    subst hP hw hK
    obtain ⟨⟨old, he⟩, hit, hne⟩ := st
    have hi : i = x.cps.size := hg
    subst hi
    obtain ⟨f0, f1, f2, f3, f4, f5⟩ := hf it (by simp)
    exact wpAny_pyNext_enum_endD (draws_strU (A := X.A.in1) (I.ok.hd hc) it x tk0) he hit fun h' eb => ⟨rfl, I.turned (t' := s.toks) (fun b o hb q => eb b o hb q) f0 f1 f3 f4 f5⟩
  self := fun A i s Q E st h => let ⟨⟨_, he⟩, _⟩ := st; wpAny_pyIter_enum he h
def iEnumS (ta : TA) : TI := fun σ H R => ta σ H fun vs H1 => ∃ x, vs = [.str x] ∧ R (IteS x) H1
theorem pi_enumS {X : Cx} {e : Expr} {ta : TA} {p pos tpos : Pos} {elts : List Expr} {kk : Nat} (hg : Gl X "enumerate") (hm : X.mg "enumerate" = none) (ha : PA X [e] ta) (hs : starEach [e] X.env = [(false, eval e X.env)] := by rfl) :
    PI X (.Tuple elts kk tpos) (.Call (.Name "enumerate" p) [e] [] pos) (iEnumS ta) := by
  refine ⟨fun pins s σ H R I h => ?_⟩
  refine Call_ (ld_blt I hg hm boot_enumerate (PyProof.Rows.callWith_type1 (thn (ha.run pos pins s σ H _ I h) fun us s1 ⟨vs, H1, I1, r1, q1⟩ => ?_) hs rfl))
  obtain ⟨x, ex, q⟩ := q1
  subst ex
  cases r1 with
  | cons r rr =>
    cases rr
    obtain ⟨t, rfl⟩ := r
    refine call_enumerate_str fun h' he hit hsz hk => wpAny_pyIter_enum he ?_
    have I2 : Inv X pins σ H1 { s1 with heap := h' } := I1.kept (t' := s1.toks) hk
    refine ⟨s1.heap.objs.size + 1, [s1.heap.objs.size + 1, s1.heap.objs.size], _, _, H1, rfl, I2, turn_enumS x t (s1.heap.objs.size + 1) s1.heap.objs.size, ⟨⟨.none, he⟩, hit, Nat.succ_ne_self _⟩, fun b hb => ?_, q⟩
    have e' : b = s1.heap.objs.size + 1 ∨ b = s1.heap.objs.size := by simpa using hb
    have hle : s1.heap.objs.size ≤ b := by
      rcases e' with z | z
      · rw [z]; exact Nat.le_add_right _ _
      · rw [z]; exact Nat.le_refl _
    exact I1.fpOk hle (I1.hok.fresh hle)
theorem walk_enumS {x : Str} : Walk (IteS x) x.cps.size (fun _ => True) (fun i H v H' => ∃ T c, v = .ref T ∧ H T = none ∧ H' = upd H T (.tup [.int (i : Nat), .str ⟨#[c]⟩]) ∧ x.cps[i]? = some c) :=
  ⟨fun _ _ hi _ => hi, fun _ _ => rfl, fun _ _ _ _ _ _ y => y⟩

/-! ### min(xs, default=d) of ints -/
def rMinD (K : PySem.W.Frag) : List V → List V → Hp → VK → Prop := fun vs zs H Q => ∃ (a : Addr) (ns : List Int) (d : Int), vs = [.ref a] ∧ zs = [.int d] ∧ SqL K H a (ns.map V.int) ∧ (ns = [] → Q (.int d) H) ∧ ∀ m ∈ ns, (∀ y ∈ ns, m ≤ y) → Q (.int m) H
theorem cr_minD {X : Cx} (hc : X.calm = true) : CallRK X (.builtin "min") ["default"] (rMinD X.K) := by
  intro pins s σ H xs zs us ws Q I r rz h
  obtain ⟨a, ns, d, rfl, rfl, hs, q0, q1⟩ := h
  obtain ⟨its, rv, hl, _⟩ := I.list hs
  rw [Vals.ref1 r]
  obtain ⟨u, rfl, ru⟩ := vals1 rz
  obtain ⟨t, rfl⟩ := ru
  have hlen : its.length = ns.length := by rw [← rv.length, List.length_map]
  have hval : ∀ (i : Nat) (v : Value), its.toArray[i]? = some v → ∃ t, v = .int (ns.getD i 0) t := fun i v hv => by
    have hv2 : its[i]? = some v := by simpa using hv
    have hi2 : i < its.length := (List.getElem?_eq_some_iff.mp hv2).1
    have hb : (ns.map V.int)[i]? = some (V.int (ns.getD i 0)) := by
      rw [List.getElem?_map, List.getElem?_eq_getElem (by omega), List.getD_eq_getElem?_getD, List.getElem?_eq_getElem (by omega)] <;> rfl
    obtain ⟨u, hu, ru⟩ := rv.get hb
    rw [hv2] at hu
    cases hu
    exact ru
  refine PySem.call_min_walkD (PySem.W.iter_listW (A := X.A.in1) (I.ok.hd hc) hl.isList fun s2 e W st hfp hw hk => ?_)
  refine ⟨_, _, _, _, _, _, _, s.heap, fun i j => decide (ns.getD i 0 < ns.getD j 0), rfl, W, st, hfp, hw, hk, fun hn s' m => ?_, fun hn => ⟨?_, fun v s' hP m => ?_⟩⟩
  · obtain ⟨h', tk, rfl, hk'⟩ := PySem.W.moved_old e rfl m
    have e0 : ns = [] := by
      have : ns.length = 0 := by
        rw [← hlen]
        simpa using hn
      exact List.length_eq_zero_iff.mp this
    exact ⟨.int d, H, I.kept hk', ⟨_, rfl⟩, q0 e0⟩
  · exact fun i j vi vj s0 Q0 E0 _ hi hj q => CmpOf.ints_lt (fun i => ns.getD i 0) hval i j vi vj s0 Q0 E0 hi hj q
  · obtain ⟨h', tk, rfl, hk'⟩ := PySem.W.moved_old e rfl m
    obtain ⟨t2, rfl⟩ := hval _ v hP
    obtain ⟨h1, h2⟩ := argBest_lt (fun i => ns.getD i 0) (its.toArray.size - 1)
    have hsz : its.toArray.size = ns.length := by rw [List.size_toArray, hlen]
    rw [hsz] at h1 h2 hn ⊢
    refine ⟨.int _, H, I.kept hk', ⟨_, rfl⟩, q1 _ ?_ fun y hy => ?_⟩
    · exact PySem.getD_mem (by omega)
    · obtain ⟨j, hj, rfl⟩ := mem_getD hy
      exact h2 j (by omega)

end TunR
end

section
set_option Elab.async false
set_option linter.all false
set_option maxRecDepth 100000
set_option maxHeartbeats 2000000
/-! all(x % n == 0 for x in xs), xs a list of ints, n a captured int. -/
namespace TunR
open PySem PySem.Spec PyProof.Rows L2
section
variable {prog : Program} {w : World}
/-- the element: the rest of the walked int by the captured one -/
theorem elt_rem {scope : Scope} {x y : Str} {p1 p2 p3 p4 p5 : Pos} {j : Nat} (hk : scope.kind = .function) (hlx : scope.names.lookup x = some .local) (hly : scope.names.lookup y = some .free)
    {cenv : Env} {A' : Around} {E' : Value → Shared → Prop} {a n : Int} {t tn : Tok} {c : Addr} {s2 : Shared} {m2 : Str → Option Value} (hs : cenv.scope = scope) (h0 : 0 < n)
    (hc : cenv.cells.lookup y = some c) (hcell : s2.heap.IsCell c (some (.int n tn))) (hn : s2.heap.Ns cenv.locals m2) (hm : m2 x = some (.int a t))
    (hdx : (x == ("__debug__" : Str)) = false) (hdy : (y == ("__debug__" : Str)) = false) (hcy : (y == ("__classdict__" : Str)) = false) :
    wpAny (model prog w) A' (eval (.Compare (.BinOp (.Name x p1) .Mod (.Name y p2) p3) [.Eq] [.Constant (.int 0) j p4] p5) cenv) (fun v s3 => v = .bool (a % n == 0) ∧ Keeps s2 s3) E' s2 := by
  subst hs
  refine wpAny_Compare1 (wpAny_BinOp (wpAny_Name (wpAny_loadName_local hk hlx hn hm ?_) hdx))
  refine wpAny_Name (wpAny_loadName_free hk hly hc hcell (mod_int' (by omega) (wpAny_Constant_int (PyProof.Rows.eq_int ⟨?_, GxR.keeps_tok s2 _⟩))) hcy) hdy
  rw [Int.fmod_eq_emod_of_nonneg _ (by omega)]
end
section
variable {X : Cx} {pins : List (Addr × Obj)} {σ : L2.St} {H : Hp} {s : Shared}
/-- behind the walked thing's iterator o: the generator's code object is found or made, the builtins are looked up; K goes on over a heap in which only the table at P differs -/
theorem code_found {c P : Addr} {gpos : Pos} {q : Str} {scope : Scope} {ps : Array Value} {o : Obj} {E : Value → Shared → Prop} {K : Value → Addr → Shared → Prop}
    (TB : GxR.TabB X.base X.mg c P) (hcode : X.env.code = .ref c) (I : Inv X pins σ H s) (hP : H P = some (.tbl ps)) (ht : TriplesOk ps.toList)
    (h : ∀ (code : Value) (h3 : Heap) (tk : Nat) (more : Array Value), (∀ b u, b ≠ P → (s.heap.push o).get? b = some u → h3.get? b = some u) → s.heap.objs.size < h3.objs.size →
      h3.get? P = some { cls := .none, data := .fields (ps ++ more) } → TriplesOk (ps ++ more).toList → h3.NoLimit → cStatics < s.heap.objs.size → K code builtinsNs { s with heap := h3, toks := tk }) :
    wpAny (model X.prog X.w) X.A (genexprCode X.env gpos q scope) (fun code s3 => wpAny (model X.prog X.w) X.A (builtinsFor X.env.globals X.env.builtins) (K code) E s3) E { s with heap := s.heap.push o } := by
  have atP : s.heap.get? P = some { cls := .none, data := .fields ps } := I.hok P _ hP
  have head : PySem.W.CodeHd (s.heap.push o) c P := TB.code.keeps fun b u e => Heap.get?_push_of_some _ (I.bk b u e)
  have atP2 : (s.heap.push o).get? P = some { cls := .none, data := .fields ps } := Heap.get?_push_of_some _ atP
  obtain ⟨ms, stat, noneIn⟩ := I.nolimit
  have statP : cStatics ≠ P := fun z => by
    obtain ⟨ob, _, _, e, d, _⟩ := stat
    rw [z, atP] at e
    cases e
    cases d
  have on : ∀ (code : Value) (h3 : Heap) (tk : Nat) (more : Array Value), Heap.ExtBut P (s.heap.push o) h3 → s.heap.objs.size < h3.objs.size → h3.get? P = some { cls := .none, data := .fields (ps ++ more) } → TriplesOk (ps ++ more).toList →
      wpAny (model X.prog X.w) X.A (builtinsFor X.env.globals X.env.builtins) (K code) E { s with heap := h3, toks := tk } := by
    intro code h3 tk more hx hlt hP3 ht3
    obtain ⟨bm, ob, b1, b2, b3, b4, b5, b6, b7, b8⟩ := TB.bm
    have glob : h3.Ns X.env.globals X.mg := by
      rw [I.ok.glob]
      exact ((I.mod.glob.keeps I.bk).push o).extBut hx TB.gP
    exact wpAny_builtinsFor glob b1 b2 (hx _ _ b4 (Heap.get?_push_of_some _ (I.bk _ _ b5))) b6 b7 b8 (h code h3 tk more (fun b u hb e => hx b u hb e) hlt hP3 ht3 ((I.nolimit.push o).extBut hx statP) stat.lt)
  have grow : (s.heap.push o).objs.size = s.heap.objs.size + 1 := Heap.size_push ..
  by_cases hf : ∃ cv, codeAmong gpos ps.toList = some cv
  · obtain ⟨cv, hf⟩ := hf
    refine wpAny_genexprCode_hit hcode (head.code atP2 ht) hf (on cv _ s.toks #[] (Heap.ExtBut.refl _ _) (by omega) ?_ ?_)
    · rw [Array.append_empty]
      exact atP2
    · rw [Array.append_empty]
      exact ht
  · refine wpAny_genexprCodeX hcode (head.code atP2 ht) (head.tab atP2) ?_ fun c' h' tk hx h1 h2 rec _ tab _ => ?_
    · cases e : codeAmong gpos ps.toList with
      | none => rfl
      | some cv => exact absurd ⟨cv, e⟩ hf
    · obtain ⟨_, _, _, _, _, _, _, _, _, _, _, _, _, _, _, _, _, _, _, tri, _⟩ := rec
      have h3 : s.heap.objs.size < h'.objs.size := by
        have h4 : (s.heap.push o).objs.size ≤ c' := h1
        omega
      exact on _ h' tk _ hx h3 tab.2 tri

/-- what the generator g promises to whoever draws from it -/
def GenRem (X : Cx) (pins : List (Addr × Obj)) (σ : L2.St) (H1 : Hp) (P : Addr) (ns : List Int) (n : Int) (g : Addr) (s5 : Shared) : Prop :=
  ∃ (fp wr : List Addr) (G : Array GenState → Array GenState → Prop) (F : Nat → Value → Prop) (St : Nat → Shared → Prop),
    (WalksS X.prog X.w X.A.in1 g fp wr G ns.length F St ∧ St 0 s5) ∧ TruthOf X.prog X.w X.A.in1 F (fun i => ns.getD i 0 % n == 0) ∧ ∀ s', Moved wr G s5 s' → ∃ H2, GxR.Tabbed P H1 H2 ∧ Inv X pins σ H2 s'

theorem gen_rem {c P : Addr} {iter : Expr} {x y : Str} {px gpos p1 p2 p3 p4 p5 : Pos} {jc : Nat} {scope : Scope} {te : TE} {k j : Nat} {Q' : Value → Shared → Prop} {R : List Int → Int → Hp → Prop}
    (hr : Room k X.A) (TB : GxR.TabB X.base X.mg c P) (hcode : X.env.code = .ref c) (S : GxR.GenS X.env scope x) (hly : scope.names.lookup y = some .free) (hfr : ∀ cells : List (Str × Addr), (cloFrom cells scope.names []).lookup y = some ((cells.lookup y).getD 0))
    (hNy : X.N[j]? = some y) (hcy : X.env.kindOf y = some .cell) (hdx : (x == ("__debug__" : Str)) = false) (hdy : (y == ("__debug__" : Str)) = false) (hcd : (y == ("__classdict__" : Str)) = false) (hi : PE X iter te)
    (hs : ∀ v, genFold iter X.env v = pure v) (I : Inv X pins σ H s) (h : te σ H fun v H1 => ∃ (a : Addr) (ns : List Int) (n : Int), v = .ref a ∧ SqL X.K H1 a (ns.map V.int) ∧ σ[j]? = some (some (.int n)) ∧ 0 < n ∧ GxR.TabG H1 P ∧ R ns n H1)
    (hQ : ∀ ns n H1 g s5, R ns n H1 → GenRem X pins σ H1 P ns n g s5 → Q' (.ref g) s5) :
    wpAny (model X.prog X.w) X.A (eval (.GeneratorExp (.Compare (.BinOp (.Name x p1) .Mod (.Name y p2) p3) [.Eq] [.Constant (.int 0) jc p4] p5) [⟨.Name x px, iter, [], 0⟩] scope gpos) X.env) Q' X.xe s := by
  refine wpAny_GeneratorExp_walksQ hr.hd S.co (closure_ok S.free) S.cell S.dot S.loc S.kind hr.depth (thn (hi.run pins s σ H _ I h) fun xv s1 ⟨v, H1, I1, r1, q1⟩ => ?_) hs
  obtain ⟨yl, ns, n, rfl, hyl, hσ, hn0, ⟨ps, hP, ht⟩, q1⟩ := q1
  cases r1
  -- the captured number's cell
  obtain ⟨m1, _, slots⟩ := _root_.id I1.loc
  obtain ⟨u1, ⟨tn, rfl⟩, look⟩ := slots j y (.int n) hNy hσ (.inr (.inl hcy))
  obtain ⟨cy, cyl, ocy, cyo, cyd⟩ : ∃ cy, X.env.cells.lookup y = some cy ∧ s1.heap.IsCell cy (some (.int n tn)) := by
    rcases look with ⟨z, _⟩ | ⟨_, cy, e1, e2⟩
    · rw [hcy] at z
      cases z
    · exact ⟨cy, e1, e2⟩
  have cyP : cy ≠ P := fun z => by
    have e := I1.freeC y cy cyl
    rw [z, hP] at e
    cases e
  have cylt : cy < s1.heap.objs.size := Heap.lt_size cyo
  -- the walked list
  obtain ⟨its, rv, hl, _⟩ := I1.list hyl
  obtain ⟨ol, hol, olc, hld⟩ := _root_.id hl.isList
  have yllt : yl < s1.heap.objs.size := Heap.lt_size hol
  have len : its.toArray.size = ns.length := by rw [List.size_toArray, ← rv.length, List.length_map]
  have item : ∀ (i : Nat) (v : Value), its.toArray[i]? = some v → ∃ t, v = .int (ns.getD i 0) t := fun i v hv => by
    have lt : i < ns.length := by
      rw [← len]
      exact (Array.getElem?_eq_some_iff.mp hv).1
    obtain ⟨u, hu, t, ru⟩ := rv.get (i := i) (x := .int (ns.getD i 0)) (by rw [List.getElem?_map, List.getD_eq_getElem?_getD, List.getElem?_eq_getElem lt] <;> rfl)
    have e : its[i]? = some v := by simpa using hv
    rw [e] at hu
    exact ⟨t, (Option.some.inj hu).trans ru⟩
  have atP : s1.heap.get? P = some { cls := .none, data := .fields ps } := I1.hok P _ hP
  have ylP : yl ≠ P := fun z => by
    rw [z, atP] at hol
    cases hol
    obtain ⟨_, z⟩ := hld
    cases z
  refine wpAny_pyIter_list hl.isList ⟨I1.nolimit.push _, code_found TB hcode I1 hP ht fun code h3 tk more kp lt3 P3 ht3 lim3 stlt => ?_⟩
  have kept : ∀ b u, b ≠ P → s1.heap.get? b = some u → h3.get? b = some u := fun b u hb e => kp b u hb (Heap.get?_push_of_some _ e)
  have itN : s1.heap.objs.size ≠ P := Nat.ne_of_gt (Heap.lt_size atP)
  refine ⟨s1.heap.objs.size, [s1.heap.objs.size, yl], [s1.heap.objs.size], its.toArray.size, fun i v => its.toArray[i]? = some v, fun i hp => hp.IsListIter s1.heap.objs.size yl i ∧ hp.IsList yl its.toArray, fun _ => true,
    fun i v => v = .bool (ns.getD i 0 % n == 0), rfl, fun A' hA => Walks.list hA _ _ (Nat.ne_of_lt yllt) _, ⟨⟨_, kp _ _ itN (Heap.get?_push_size _ rfl), rfl, rfl⟩, ⟨ol, kept _ _ ylP hol, olc, hld⟩⟩, fun b hb => ?_, lim3, fun z => ?_, fun href hh => ⟨?_, ?_⟩, ?_⟩
  · have e : b = s1.heap.objs.size ∨ b = yl := by simpa using hb
    rcases e with e | e
    · rw [e]
      exact lt3
    · rw [e]
      exact Nat.lt_trans yllt lt3
  · exact Nat.ne_of_lt stlt (by simpa using z)
  · intro A' E' i v s2 m2 _ _ _ _ _
    rw [List.forIn_nil]
    exact wpAny_pure ⟨rfl, GxR.keeps_refl _⟩
  · intro A' E' i v s2 m2 _ hv _ hn hm hk
    obtain ⟨t, rfl⟩ := item i v hv
    have stays : s2.heap.get? cy = some ocy := hk cy (List.mem_range.mpr (Nat.lt_trans cylt lt3)) (fun z => Nat.ne_of_lt cylt (by simpa using z)) ocy (hh cy ocy (kept cy ocy cyP cyo))
    exact elt_rem S.kind S.loc hly rfl hn0 ((hfr X.env.cells).trans (by rw [cyl] <;> rfl)) ⟨ocy, stays, cyd⟩ hn hm hdx hdy hcd
  · intro g h5 tk5 gs bare lt5 sz5 kp5 W5 at5
    simp only [GxR.passing_true, List.length_range] at W5
    rw [len] at W5 at5
    refine hQ ns n H1 g _ q1 ⟨_, _, _, _, _, ⟨W5.in4_1, at5⟩, fun i v s9 Q9 E9 hv h9 => ?_, fun s' mv => ?_⟩
    · obtain ⟨i', e, rfl⟩ := hv
      obtain ⟨_, e2⟩ := List.getElem?_eq_some_iff.mp e
      rw [List.getElem_range] at e2
      subst e2
      exact wpAny_truthy_bool h9
    · have out : ∀ b u, s1.heap.get? b = some u → b ∉ h3.objs.size :: [s1.heap.objs.size] := fun b u e z => by
        have l := Heap.lt_size e
        have z2 : b = h3.objs.size ∨ b = s1.heap.objs.size := by simpa using z
        rcases z2 with z2 | z2
        · exact Nat.lt_irrefl _ (Nat.lt_trans (z2 ▸ l) lt3)
        · exact Nat.lt_irrefl _ (z2 ▸ l)
      have J := GxR.inv_tab (more := more) (h' := s'.heap) (g' := s'.gens) (d' := s'.drawn) (t' := s'.toks) I1 hP (fun b u hb e => mv.heap b u (out b u e) (kp5 b u (kept b u hb e)))
        (mv.heap P _ (out P _ atP) (kp5 P _ P3)) (AllBare.movedS (I1.bare.push bare) mv)
      rw [GxR.sh_eta s1 s' mv.os] at J
      exact ⟨_, ⟨⟨_, upd_same, ht3⟩, fun b hb => upd_ne hb⟩, J⟩
theorem all_getD (f : Int → Bool) (ns : List Int) : ((List.range ns.length).all fun i => f (ns.getD i 0)) = ns.all f := by
  have e : (List.range ns.length).map (fun i => ns.getD i 0) = ns := by
    refine List.ext_getElem? fun i => ?_
    rw [List.getElem?_map]
    by_cases hi : i < ns.length
    · rw [List.getElem?_range hi, List.getElem?_eq_getElem hi]
      simp [List.getD_eq_getElem?_getD, hi]
    · rw [List.getElem?_eq_none (by simp; omega), List.getElem?_eq_none (by omega)]
      rfl
  have h : ns.all f = ((List.range ns.length).map fun i => ns.getD i 0).all f := congrArg (fun l => l.all f) e.symm
  rw [h, List.all_map]
  rfl
def tAllRem (K : PySem.W.Frag) (P : Addr) (j : Nat) (te : TE) : TE := fun σ H Q => te σ H fun v H1 => ∃ (a : Addr) (ns : List Int) (n : Int), v = .ref a ∧ SqL K H1 a (ns.map V.int) ∧ σ[j]? = some (some (.int n)) ∧ 0 < n ∧ GxR.TabG H1 P ∧
  ∀ H2, GxR.Tabbed P H1 H2 → Q (.bl (ns.all fun s => s % n == 0)) H2
theorem pe_allRem {c P : Addr} {iter : Expr} {x y : Str} {px p pos gpos p1 p2 p3 p4 p5 : Pos} {jc : Nat} {scope : Scope} {te : TE} {k : Nat} (j : Nat)
    (hr : Room k X.A) (hg : Gl X "all") (hm : X.mg "all" = none) (TB : GxR.TabB X.base X.mg c P) (hcode : X.env.code = .ref c) (S : GxR.GenS X.env scope x)
    (hly : scope.names.lookup y = some .free) (hfr : ∀ cells : List (Str × Addr), (cloFrom cells scope.names []).lookup y = some ((cells.lookup y).getD 0)) (hNy : X.N[j]? = some y) (hcy : X.env.kindOf y = some .cell) (hi : PE X iter te)
    (hb : bootBuiltins "all" = some (.builtin "all") := by decide +kernel) (hdx : (x == ("__debug__" : Str)) = false := by decide) (hdy : (y == ("__debug__" : Str)) = false := by decide) (hcd : (y == ("__classdict__" : Str)) = false := by decide)
    (hs : ∀ v, genFold iter X.env v = pure v := by intro _; rfl)
    (he : starEach [.GeneratorExp (.Compare (.BinOp (.Name x p1) .Mod (.Name y p2) p3) [.Eq] [.Constant (.int 0) jc p4] p5) [⟨.Name x px, iter, [], 0⟩] scope gpos] X.env = [(false, eval (.GeneratorExp (.Compare (.BinOp (.Name x p1) .Mod (.Name y p2) p3) [.Eq] [.Constant (.int 0) jc p4] p5) [⟨.Name x px, iter, [], 0⟩] scope gpos) X.env)] := by rfl) :
    PE X (.Call (.Name "all" p) [.GeneratorExp (.Compare (.BinOp (.Name x p1) .Mod (.Name y p2) p3) [.Eq] [.Constant (.int 0) jc p4] p5) [⟨.Name x px, iter, [], 0⟩] scope gpos] [] pos) (tAllRem X.K P j te) := by
  refine ⟨fun pins s σ H Q I h => wpAny_Call_Name_kw (ld_blt I hg hm hb (PyProof.Rows.callWith_builtin1 ?_ (by rw [he] <;> rfl) (by rfl)))⟩
  rw [he]
  refine Calls.spliced_cons (gen_rem (R := fun ns n H1 => ∀ H2, GxR.Tabbed P H1 H2 → Q (.bl (ns.all fun s => s % n == 0)) H2) hr TB hcode S hly hfr hNy hcy hdx hdy hcd hi hs I h fun ns n H1 g s5 hR ready => Calls.spliced_nil ?_)
  obtain ⟨fp, wr, G, F, at_, ⟨W, st⟩, tr, back⟩ := ready
  refine call_all_walkS (W.self 0 _ _ _ st ⟨g, fp, wr, G, _, F, at_, _, rfl, W, st, tr, fun s' mv => ?_⟩)
  obtain ⟨H2, hT, J⟩ := back s' mv
  exact ⟨.bl _, H2, J, rfl, (all_getD (fun s => s % n == 0) ns).symm ▸ hR H2 hT⟩
end
end TunR
end

section
set_option Elab.async false
set_option linter.all false
set_option maxRecDepth 100000
/-! The text by places, its texts of bits, heaps, callees. -/
namespace Tw
open PySem PySem.Spec PyProof.Rows L2
def top (i : Nat) : Stmt := PySem.Challenge.pw_edgelink_k16_tunings.main.body.getD i (.Pass ⟨0, 0, 0, 0⟩)
abbrev FnP (K : PySem.W.Frag) (x : Str) (st : Stmt) (f : Addr) (fd : FuncData) : Prop := FunD K x x (defArgs st) (defBody st) (defScope st) [] [] f fd
/-! ### texts of bits -/
def sg (b : Bool) : Nat := if b then 49 else 48
def bS (l : List Bool) : Str := ⟨(l.map sg).toArray⟩
theorem bS_len (l : List Bool) : (bS l).length = l.length := by
  show ((l.map sg).toArray).size = _
  simp
theorem bS_size (l : List Bool) : (bS l).cps.size = l.length := bS_len l
theorem bS_app (a b : List Bool) : bS a ++ bS b = bS (a ++ b) := by
  show (⟨(a.map sg).toArray ++ (b.map sg).toArray⟩ : Str) = ⟨((a ++ b).map sg).toArray⟩
  simp
theorem bS_nil : ("" : Str) = bS [] := by decide +kernel
theorem bS_one : ("1" : Str) = bS [true] := by decide +kernel
theorem bS_zero : ("0" : Str) = bS [false] := by decide +kernel
theorem bS_sign (b : Bool) : (⟨#[sg b]⟩ : Str) = bS [b] := rfl
theorem bS_at (l : List Bool) (i : Nat) : (bS l).cps[i]? = (l[i]?).map sg := by
  show ((l.map sg).toArray)[i]? = _
  simp
theorem bS_rep (n : Nat) : (⟨(List.replicate n 49).toArray⟩ : Str) = bS (List.replicate n true) := by
  unfold bS
  rw [List.map_replicate]
  rfl
theorem bS_inj {a b : List Bool} (h : bS a = bS b) : a = b := by
  have h1 : (a.map sg).toArray = (b.map sg).toArray := congrArg Str.cps h
  have h2 : a.map sg = b.map sg := by simpa using h1
  have h3 : ∀ (a b : List Bool), a.map sg = b.map sg → a = b := by
    intro a
    induction a with
    | nil =>
      intro b h
      cases b with
      | nil => rfl
      | cons y r => simp at h
    | cons x l ih =>
      intro b h
      cases b with
      | nil => simp at h
      | cons y r =>
        simp only [List.map_cons, List.cons.injEq] at h
        have e : x = y := by
          have := h.1
          unfold sg at this
          cases x <;> cases y <;> simp at this <;> rfl
        rw [e, ih r h.2]
  exact h3 a b h2
theorem dec_one (b : Bool) : decide (V.str (bS [b]) = V.str ("1" : Str)) = b := by
  rw [bS_one]
  cases b with
  | true => exact decide_eq_true rfl
  | false =>
    refine decide_eq_false fun h => ?_
    injection h with h
    have := bS_inj h
    cases this
theorem dec_zero (b : Bool) : decide (V.str (bS [b]) = V.str ("0" : Str)) = !b := by
  rw [bS_zero]
  cases b with
  | false => exact decide_eq_true rfl
  | true =>
    refine decide_eq_false fun h => ?_
    injection h with h
    have := bS_inj h
    cases this
theorem dec_intV (i j : Int) : decide (V.int i = V.int j) = decide (i = j) := by
  by_cases h : i = j
  · rw [h, decide_eq_true rfl, decide_eq_true rfl]
  · rw [decide_eq_false h, decide_eq_false]
    intro z
    injection z with z
    exact h z
/-! ### heaps -/
theorem same_upd {H : Hp} {p : Addr} {o : HO} (h : H p = none) : Same H (upd H p o) := fun b x e => by
  rw [upd_ne (ne_of_none e h)]
  exact e
theorem Same.seqT {K : PySem.W.Frag} {H H' : Hp} {a : Addr} {xs : List V} (e : Same H H') (h : SqT K H a xs) : SqT K H' a xs := by
  rcases h with (h | ⟨o, h⟩) | h
  · exact .inl (.inl (e _ _ h))
  · exact .inl (.inr ⟨o, e _ _ h⟩)
  · exact .inr h
theorem line1000 : (100000 : Nat) ≤ sizeLine := by decide
/-- a comprehension without a test -/
theorem yes_if {σ : L2.St} {H : Hp} {A B : Hp → Prop} (h : A H) : tYes σ H (fun b H3 => if b = true then A H3 else B H3) := iteT (A := A H) (B := B H) h
/-! ### a def that is called -/
structure Cal (P : Program) (w : World) (K : PySem.W.Frag) (mg : Str → Option Value) (base : Heap) (k : Nat) (x : Str) (ps : List Str) (sp : Sp) (f : Addr) (fd : FuncData) : Prop where
  ok : FnOk P w K mg base CX0 k f fd ps sp
  at_ : mg x = some (.ref f)
  kp : PySem.W.keepIn K (.ref f) = true
  bd : Binds K fd ps []
theorem pe_cal {X : Cx} {k j : Nat} {x : Str} {ps : List Str} {sp : Sp} {f : Addr} {fd : FuncData} {p pos : Pos} {e : Expr} {es : List Expr} {t : TA} (C : Cal X.prog X.w X.K X.mg X.base k x ps sp f fd) (hr : Room j X.A) (ha : PA X (e :: es) t)
    (hkj : k ≤ j := by decide) (hg : Gl X x := by rfl) (hdb : (x == ("__debug__" : Str)) = false := by decide) (he : starEach (e :: es) X.env = (false, eval e X.env) :: starEach es X.env := by rfl) (hpl : (backTo pos (starEach es X.env)).any (·.1) = false := by rfl) :
    PE X (.Call (.Name x p) (e :: es) [] pos) (tCall sp [] E0 t) := pe_call C.ok (hr.mono hkj) hg C.at_ C.kp C.bd .nil pass0 ha hdb he hpl
end Tw
end

section
set_option Elab.async false
set_option linter.all false
set_option maxRecDepth 100000
set_option maxHeartbeats 2000000
/-! stuff. -/
namespace Tw
open PySem PySem.Spec PyProof.Rows L2
abbrev sStuff : Stmt := top 1
def spStuff : Sp := fun vs H Q _ => ∃ (L : Int) (bs : List Bool), vs = [.int L, .str (bS bs)] ∧ bs.length ≤ 1000 ∧ Q (.str (bS (Tun.stuff L bs))) H
theorem scStuff : FnScope ["limit", "bits", "found", "ones", "bit"] ["limit", "bits"] (defScope sStuff) := ⟨rfl, rfl, rfl, by decide +kernel, rfl, by decide +kernel, by decide +kernel⟩
section
variable {P : Program} {w : World} {K : PySem.W.Frag} {mg : Str → Option Value} {base : Heap}
theorem ok_stuff {f : Addr} {fd : FuncData} (F : FnP K "stuff" sStuff f fd) : FnOk P w K mg base CX0 1 f fd ["limit", "bits"] spStuff := by
  refine F.ok scStuff (fun vs H Q E h => ?_) (fun cdv A outer s H vs Q E hr h => ?_)
  · obtain ⟨L, bs, rfl, _⟩ := h
    rfl
  · obtain ⟨L, bs, rfl, hl, q⟩ := h
    refine ⟨_, PSs.nox (pss_cons (ps_set (i := 2) scStuff.nd rfl (.inl rfl) pe_str) (pss_cons (ps_set (i := 3) scStuff.nd rfl (.inl rfl) pe_int)
      (pss_cons (ps_for PassesOwn.never rfl (pi_str (pv 1)) (pg_name (i := 4) scStuff.nd rfl (.inl rfl))
        (pss_cons (ps_set (i := 2) scStuff.nd rfl (.inl rfl) (pe_op op_add_str (pv 2) (pv 4)))
        (pss_cons (ps_set (i := 3) scStuff.nd rfl (.inl rfl) (pe_ifExp (pt_cmpR op_eq (pv 4) pe_str (nomark _)) (pe_op op_add (pv 3) pe_int) pe_int))
        (pss_one (ps_if (pt_cmpR op_eq (pv 3) (pv 0) (nomark _))
          (pss_cons (ps_set (i := 2) scStuff.nd rfl (.inl rfl) (pe_op op_add_str (pv 2) pe_str)) (pss_one (ps_set (i := 3) scStuff.nd rfl (.inl rfl) pe_int))) pss_nil)))))
      (pss_one (ps_ret (pv 2)))))), ?_⟩
    refine ⟨_, rfl, bS bs, rfl, for_it walk_str (fun i σ H' => H' = H ∧ ∃ kv : Option V, σ = [some (.int L), some (.str (bS bs)), some (.str (bS ((bs.take i).foldl (Tun.stuffStep L) ([], 0)).1)), some (.int ((bs.take i).foldl (Tun.stuffStep L) ([], 0)).2), kv]) ?_ (fun _ _ _ _ _ => trivial) ?_ ?_⟩
    · exact ⟨rfl, none, by rw [bS_nil]; rfl⟩
    · rintro i x σ H1 H2 hi ⟨rfl, kv, rfl⟩ ⟨rfl, c, hc, rfl⟩
      rw [bS_size] at hi
      rw [bS_at, List.getElem?_eq_getElem hi] at hc
      obtain rfl : sg bs[i] = c := Option.some.inj hc
      have e1 : (bs.take (i + 1)).foldl (Tun.stuffStep L) ([], 0) = Tun.stuffStep L ((bs.take i).foldl (Tun.stuffStep L) ([], 0)) bs[i] := by
        rw [List.take_add_one, List.getElem?_eq_getElem hi, List.foldl_append] <;> rfl
      rw [e1]
      generalize hst : (bs.take i).foldl (Tun.stuffStep L) ([], 0) = st
      have hlen : st.1.length ≤ 2 * i := by
        have := Tun.stuffFold_len L (bs.take i) [] 0
        rw [hst] at this
        simp only [List.length_take, List.length_nil] at this
        omega
      obtain ⟨acc, o⟩ := st
      generalize bs[i] = b
      rw [bS_sign]
      have hL := line1000
      simp only at hlen
      -- found = found + bit
      refine ⟨_, rfl, _, rfl, _, _, rfl, rfl, by rw [bS_len, bS_len]; simp; omega, ?_⟩
      rw [bS_app]
      -- ones
      refine ⟨_, rfl, rfl, _, rfl, ?_⟩
      rw [dec_one]
      have fin : ∀ (o' : Int), (if b then o + 1 else 0) = o' → (tIfS (tTest (tOp rEq (tVar 3) (tVar 0))) (tSeq (tAsg (tOp (fun x y H Q => ∃ i j, x = .str i ∧ y = .str j ∧ i.length + j.length ≤ sizeLine ∧ Q (.str (i ++ j)) H) (tVar 2) (tC (.str ("0" : Str)))) (gName 2)) (tAsg (tC (.int 0)) (gName 3))) tNext)
          { nx := fun σ H' => H' = H2 ∧ ∃ kv : Option V, σ = [some (.int L), some (.str (bS bs)), some (.str (bS (Tun.stuffStep L (acc, o) b).1)), some (.int (Tun.stuffStep L (acc, o) b).2), kv], rt := Q }
          [some (.int L), some (.str (bS bs)), some (.str (bS (acc ++ [b]))), some (.int o'), some (.str (bS [b]))] H2 := by
        intro o' ho
        refine ⟨_, rfl, _, rfl, rfl, _, rfl, ?_⟩
        rw [dec_intV]
        refine ite2 (fun h => ?_) (fun h => ?_)
        · have h := of_decide_eq_true h
          refine ⟨_, rfl, _, _, rfl, rfl, by rw [bS_zero, bS_len, bS_len]; simp; omega, ?_⟩
          rw [bS_zero, bS_app]
          have e : Tun.stuffStep L (acc, o) b = ((acc ++ [b]) ++ [false], 0) := if_pos (ho.trans h)
          exact ⟨rfl, _, by rw [e]; rfl⟩
        · have h : ¬ o' = L := fun z => h (decide_eq_true z)
          have e : Tun.stuffStep L (acc, o) b = (acc ++ [b], o') := by
            rw [← ho] at h ⊢
            exact if_neg h
          exact ⟨rfl, _, by rw [e]⟩
      refine ite2 (fun h => ?_) (fun h => ?_)
      · subst h
        exact ⟨_, rfl, _, _, rfl, rfl, fin (o + 1) rfl⟩
      · have h : b = false := by simpa using h
        subst h
        exact fin 0 rfl
    · rintro σ H1 ⟨rfl, kv, rfl⟩
      refine ⟨_, rfl, ?_⟩
      rw [bS_size, List.take_length]
      exact q
end
end Tw
end

section
set_option Elab.async false
set_option linter.all false
set_option maxRecDepth 100000
set_option maxHeartbeats 2000000
/-! flag_of, frame_bits, zeros_of. -/
namespace Tw
open PySem PySem.Spec PyProof.Rows L2
abbrev sFlag : Stmt := top 3
abbrev sFrame : Stmt := top 4
abbrev sZeros : Stmt := top 5
def spFlag : Sp := fun vs H Q _ => ∃ (L : Int), vs = [.int L] ∧ 0 ≤ L ∧ L ≤ 7 ∧ Q (.str (bS (Tun.flag L))) H
def spFrame : Sp := fun vs H Q _ => ∃ (L : Int) (bs : List Bool), vs = [.int L, .str (bS bs)] ∧ 0 ≤ L ∧ L ≤ 7 ∧ bs.length ≤ 100 ∧ Q (.str (bS (Tun.frame L bs))) H
def spZeros : Sp := fun vs H Q _ => ∃ (bs : List Bool), vs = [.str (bS bs)] ∧ bs.length ≤ 1000 ∧ ∀ H' p, Same H H' → H p = none → H' p = some (.lst ((Tun.zeros bs).map V.int)) → Q (.ref p) H'
theorem scFlag : FnScope ["limit"] ["limit"] (defScope sFlag) := ⟨rfl, rfl, rfl, by decide +kernel, rfl, by decide +kernel, by decide +kernel⟩
theorem scFrame : FnScope ["limit", "payload"] ["limit", "payload"] (defScope sFrame) := ⟨rfl, rfl, rfl, by decide +kernel, rfl, by decide +kernel, by decide +kernel⟩
theorem scZeros : FnScope ["bits", "at", "bit"] ["bits"] (defScope sZeros) := ⟨rfl, rfl, rfl, by decide +kernel, rfl, by decide +kernel, by decide +kernel⟩
section
variable {P : Program} {w : World} {K : PySem.W.Frag} {mg : Str → Option Value} {base : Heap}
theorem ok_flag {f : Addr} {fd : FuncData} (F : FnP K "flag_of" sFlag f fd) : FnOk P w K mg base CX0 1 f fd ["limit"] spFlag := by
  refine F.ok scFlag (fun vs H Q E h => ?_) (fun cdv A outer s H vs Q E hr h => ?_)
  · obtain ⟨L, rfl, _⟩ := h
    rfl
  · obtain ⟨L, rfl, h0, h1, q⟩ := h
    refine ⟨_, PSs.nox (pss_one (ps_ret (pe_op op_add_str (pe_op op_add_str pe_str (pe_op TunR.op_mulS pe_str (pe_op op_add (pv 0) pe_int))) pe_str))), ?_⟩
    have hl := line1000
    have e1 : ("1" : Str) = (⟨#[49]⟩ : Str) := by decide +kernel
    refine ⟨_, rfl, _, _, rfl, rfl, 49, _, congrArg V.str e1, rfl, by omega, by omega, ?_⟩
    rw [bS_rep, bS_zero]
    refine ⟨_, _, rfl, rfl, by rw [bS_len, bS_len]; simp; omega, ?_⟩
    rw [bS_app]
    refine ⟨_, _, rfl, rfl, by rw [bS_len, bS_len]; simp; omega, ?_⟩
    rw [bS_app]
    have e2 : [false] ++ List.replicate (L + 1).toNat true ++ [false] = Tun.flag L := by simp [Tun.flag]
    rw [e2]
    exact q
theorem ok_frame {f f1 f2 : Addr} {fd fd1 fd2 : FuncData} (F : FnP K "frame_bits" sFrame f fd) (C1 : Cal P w K mg base 1 "flag_of" ["limit"] spFlag f1 fd1) (C2 : Cal P w K mg base 1 "stuff" ["limit", "bits"] spStuff f2 fd2) :
    FnOk P w K mg base CX0 2 f fd ["limit", "payload"] spFrame := by
  refine F.ok scFrame (fun vs H Q E h => ?_) (fun cdv A outer s H vs Q E hr h => ?_)
  · obtain ⟨L, bs, rfl, _⟩ := h
    rfl
  · obtain ⟨L, bs, rfl, h0, h1, hb, q⟩ := h
    refine ⟨_, PSs.nox (pss_one (ps_ret (pe_op op_add_str (pe_op op_add_str (pe_cal C1 hr (pa_cons (pv 0) pa_nil)) (pe_cal C2 hr (pa_cons (pv 0) (pa_cons (pv 1) pa_nil)))) (pe_cal C1 hr (pa_cons (pv 0) pa_nil))))), ?_⟩
    have hl := line1000
    have hf := Tun.flag_len L
    have hs := Tun.stuff_len L bs
    refine ⟨_, rfl, L, rfl, h0, h1, _, rfl, _, rfl, L, bs, rfl, by omega, ?_⟩
    refine ⟨_, _, rfl, rfl, by rw [bS_len, bS_len]; omega, ?_⟩
    rw [bS_app]
    refine ⟨_, rfl, L, rfl, h0, h1, _, _, rfl, rfl, by rw [bS_len, bS_len, List.length_append]; omega, ?_⟩
    rw [bS_app]
    exact q
theorem ok_zeros {f : Addr} {fd : FuncData} (F : FnP K "zeros_of" sZeros f fd) (me : mg "enumerate" = none) : FnOk P w K mg base CX0 1 f fd ["bits"] spZeros := by
  refine F.ok scZeros (fun vs H Q E h => ?_) (fun cdv A outer s H vs Q E hr h => ?_)
  · obtain ⟨bs, rfl, _⟩ := h
    rfl
  · obtain ⟨bs, rfl, hb, q⟩ := h
    refine ⟨_, PSs.nox (pss_one (ps_ret (pe_lc (own := [("at", 1), ("bit", 2)]) (g := gTup K 2 (gCons (gName 1) (gCons (gName 2) gNil))) (tt := tTest (tOp rEq (tVar 2) (tC (.str ("0" : Str))))) (te := tVar 1) (by rfl) scZeros.nd (TunR.pi_enumS (by rfl) me (pa_cons (pv 0) pa_nil)) (blkOk_by (own := [("at", 1), ("bit", 2)]) (N := ["bits", "at", "bit"]) (sc := defScope sZeros) (by decide +kernel))
      (fun _ _ _ _ _ => pg_tup rfl (pgs_cons (pg_name (i := 1) scZeros.nd rfl (.inl rfl) (.inr rfl)) (pgs_cons (pg_name (i := 2) scZeros.nd rfl (.inl rfl) (.inr rfl)) pgs_nil)))
      (fun _ _ _ _ _ => pts_one (pt_cmpR op_eq (pv 2) pe_str (nomark _))) (fun _ _ _ _ _ => pv 1)))), ?_⟩
    refine ⟨_, rfl, _, rfl, fun D hD => lc_it TunR.walk_enumS (fun i H' => Same H (upd H D (.lst [])) ∧ Same H H' ∧ H' D = some (.lst ((Tun.zeros (bs.take i)).map V.int))) ?_ (fun _ _ _ _ => trivial) ?_ ?_⟩
    · exact ⟨same_upd hD, same_upd hD, upd_same⟩
    · rintro i x H1 H2 hi ⟨s0, s1, hl⟩ ⟨T, c, rfl, hT, rfl, hc⟩
      rw [bS_size] at hi
      rw [bS_at, List.getElem?_eq_getElem hi] at hc
      obtain rfl : sg bs[i] = c := Option.some.inj hc
      have e1 : Tun.zeros (bs.take (i + 1)) = Tun.zeros (bs.take i) ++ (if bs[i] then [] else [(i : Int)]) := by
        rw [List.take_add_one, List.getElem?_eq_getElem hi]
        unfold Tun.zeros
        show Tun.zerosFrom 0 (bs.take i ++ [bs[i]]) = _
        rw [Tun.zerosFrom_snoc, List.length_take, Nat.min_eq_left (by omega)]
        simp
      generalize bs[i] = b at e1 ⊢
      rw [bS_sign]
      have s2 : Same H1 (upd H1 T (.tup [.int (i : Nat), .str (bS [b])])) := same_upd hT
      have hDT : D ≠ T := ne_of_none hl hT
      refine ⟨T, _, rfl, .inl (.inl upd_same), rfl, _, _, rfl, _, _, rfl, rfl, rfl, _, rfl, rfl, _, rfl, ?_⟩
      rw [dec_zero]
      have hl2 : upd H1 T (.tup [.int (i : Nat), .str (bS [b])]) D = some (.lst ((Tun.zeros (bs.take i)).map V.int)) := by
        rw [upd_ne hDT]
        exact hl
      cases b with
      | true =>
        refine iteF ⟨s0, s1.trans s2, ?_⟩
        rw [hl2, e1]
        simp
      | false =>
        refine iteT ⟨_, rfl, _, hl2, ?_, s0, ?_, ?_⟩
        · rw [List.length_map]
          have h1 := Tun.zerosFrom_len (bs.take i) 0
          have h2 := line1000
          rw [List.length_take] at h1
          unfold Tun.zeros
          omega
        · intro b o e
          have hbD : b ≠ D := ne_of_none e hD
          rw [upd_ne hbD]
          exact s2 _ _ (s1 _ _ e)
        · rw [upd_same, e1, List.map_append]
          rfl
    · rintro H1 ⟨s0, s1, hl⟩
      rw [bS_size, List.take_length] at hl
      exact q H1 D s1 hD hl
end
end Tw
end

section
set_option Elab.async false
set_option linter.all false
set_option maxRecDepth 100000
set_option maxHeartbeats 2000000
/-! The class Reader, read_gaps. -/
namespace Tw
open PySem PySem.Spec PyProof.Rows L2
abbrev sInit : Stmt := inClass (top 6) 0
abbrev sRead : Stmt := inClass (top 6) 1
abbrev sReads : Stmt := top 7
abbrev FnM (K : PySem.W.Frag) (x q : Str) (st : Stmt) (f : Addr) (fd : FuncData) : Prop := FunD K x q (defArgs st) (defBody st) (defScope st) [] [] f fd
/-! ### an instance -/
theorem nlb : ¬ (("limit" : Str) = "bits") := by decide +kernel
theorem nlc : ¬ (("limit" : Str) = "is_closed") := by decide +kernel
theorem nlp : ¬ (("limit" : Str) = "payloads") := by decide +kernel
theorem nbc : ¬ (("bits" : Str) = "is_closed") := by decide +kernel
theorem nbp : ¬ (("bits" : Str) = "payloads") := by decide +kernel
theorem ncp : ¬ (("is_closed" : Str) = "payloads") := by decide +kernel
def fl (L : Int) (b : V) (c : Bool) (l : Addr) : List (Str × V) := putF "payloads" (.ref l) (putF "is_closed" (.bl c) (putF "bits" b (putF "limit" (.int L) [])))
theorem fl_eq (L : Int) (b : V) (c : Bool) (l : Addr) : fl L b c l = ([("limit", V.int L), ("bits", b), ("is_closed", V.bl c), ("payloads", V.ref l)] : List (Str × V)) := by
  unfold fl
  simp only [putF, if_neg nlb, if_neg nlc, if_neg nlp, if_neg nbc, if_neg nbp, if_neg ncp]
theorem fl_limit (L : Int) (b : V) (c : Bool) (l : Addr) : (fl L b c l).lookup ("limit" : Str) = some (.int L) := by
  unfold fl
  rw [lookup_putF, if_neg nlp, lookup_putF, if_neg nlc, lookup_putF, if_neg nlb, lookup_putF, if_pos rfl]
theorem fl_bits (L : Int) (b : V) (c : Bool) (l : Addr) : (fl L b c l).lookup ("bits" : Str) = some b := by
  unfold fl
  rw [lookup_putF, if_neg nbp, lookup_putF, if_neg nbc, lookup_putF, if_pos rfl]
theorem fl_closed (L : Int) (b : V) (c : Bool) (l : Addr) : (fl L b c l).lookup ("is_closed" : Str) = some (.bl c) := by
  unfold fl
  rw [lookup_putF, if_neg ncp, lookup_putF, if_pos rfl]
theorem fl_pays (L : Int) (b : V) (c : Bool) (l : Addr) : (fl L b c l).lookup ("payloads" : Str) = some (.ref l) := by
  unfold fl
  rw [lookup_putF, if_pos rfl]
theorem fl_no (L : Int) (b : V) (c : Bool) (l : Addr) {m : Str} (h1 : ¬ m = "limit") (h2 : ¬ m = "bits") (h3 : ¬ m = "is_closed") (h4 : ¬ m = "payloads") : (fl L b c l).lookup m = none := by
  unfold fl
  rw [lookup_putF, if_neg h4, lookup_putF, if_neg h3, lookup_putF, if_neg h2, lookup_putF, if_neg h1]
  rfl
theorem fl_put_bits (L : Int) (b b' : V) (c : Bool) (l : Addr) : putF "bits" b' (fl L b c l) = fl L b' c l := by
  rw [fl_eq, fl_eq]
  simp only [putF, if_neg nlb, if_true]
theorem fl_put_closed (L : Int) (b : V) (c c' : Bool) (l : Addr) : putF "is_closed" (.bl c') (fl L b c l) = fl L b c' l := by
  rw [fl_eq, fl_eq]
  simp only [putF, if_neg nlc, if_neg nbc, if_true]
theorem fl_len (L : Int) (b : V) (c : Bool) (l : Addr) : (fl L b c l).length < 1000 := by
  rw [fl_eq]
  show 4 < 1000
  decide
def bV : Option (List Bool) → V
  | none => .non
  | some b => .str (bS b)
def pV (ps : List (List Bool)) : List V := ps.map fun p => V.str (bS p)
/-- a Reader at p, as r; what stood in H0 stands -/
def RAt (C : Addr) (H0 H : Hp) (p : Addr) (L : Int) (r : Tun.Rd) : Prop :=
  Same H0 H ∧ H0 p = none ∧ ∃ dx l, H0 l = none ∧ H p = some (.ins C dx (fl L (bV r.bits) r.closed l)) ∧ H l = some (.lst (pV r.pays))
/-- what the walk asks of the class -/
structure TxtR (K : PySem.W.Frag) (mg : Str → Option Value) (C : Addr) : Prop where
  cl : Cls K C
  nL : NoAttr K C "limit"
  nB : NoAttr K C "bits"
  nC : NoAttr K C "is_closed"
  nP : NoAttr K C "payloads"
  at_ : mg "Reader" = some (.ref C)
def spInit (C : Addr) : Sp := fun vs H Q _ => ∃ (H0 : Hp) (p dx : Addr) (L : Int), vs = [.ref p, .int L] ∧ Same H0 H ∧ H0 p = none ∧ H p = some (.ins C dx []) ∧ ∀ H', RAt C H0 H' p L Tun.rd0 → Q .non H'
def spRead (C : Addr) : Sp := fun vs H Q _ => ∃ (H0 : Hp) (p : Addr) (L g : Int) (r : Tun.Rd), vs = [.ref p, .int g] ∧ RAt C H0 H p L r ∧ 2 ≤ L ∧ L ≤ 7 ∧ (∀ b, r.bits = some b → b.length ≤ 50000) ∧ r.pays.length ≤ 50000 ∧
  ∀ H', RAt C H0 H' p L (Tun.rdStep L r g) → Q .non H'
theorem scInit : FnScope ["self", "limit"] ["self", "limit"] (defScope sInit) := ⟨rfl, rfl, rfl, by decide +kernel, rfl, by decide +kernel, by decide +kernel⟩
theorem scRead : FnScope ["self", "gap", "is_end"] ["self", "gap"] (defScope sRead) := ⟨rfl, rfl, rfl, by decide +kernel, rfl, by decide +kernel, by decide +kernel⟩
theorem cut_last (b : List Bool) : cutS (bS b) none (some (-1)) = bS b.dropLast := by
  unfold cutS
  rw [HT.sIx_none]
  have e : HT.sIx (bS b).length (bS b).length (some (-1)) = b.length - 1 := by
    rw [bS_len]
    show (if (-1 : Int) < 0 then ((-1 : Int) + (b.length : Int)).toNat else min (-1 : Int).toNat b.length) = _
    rw [if_pos (by omega)]
    omega
  rw [e]
  have e2 : (bS b).cps.toList = b.map sg := by simp [bS]
  rw [e2, List.drop_zero, Nat.sub_zero, ← List.map_take, ← List.dropLast_eq_take]
  rfl
abbrev rLe : R2 := rI0 fun i j => .bl (decide (i ≤ j))
/-- i <= j <= k, read at once -/
theorem rd_chain {ta tb tc : TE} {σ : L2.St} {H : Hp} {Q : VK} {i j k : Int} (h1 : ∀ R : VK, R (.int i) H → ta σ H R) (h2 : ∀ R : VK, R (.int j) H → tb σ H R) (h3 : ∀ R : VK, R (.int k) H → tc σ H R) (q : Q (.bl (decide (i ≤ j ∧ j ≤ k))) H) :
    tChain rLe rLe ta tb tc σ H Q := by
  refine h1 _ (h2 _ ⟨i, j, rfl, rfl, _, rfl, ?_⟩)
  by_cases e : i ≤ j
  · rw [decide_eq_true e]
    refine iteT (h3 _ ⟨j, k, rfl, rfl, ?_⟩)
    have e2 : decide (i ≤ j ∧ j ≤ k) = decide (j ≤ k) := by simp [e]
    show Q (.bl (decide (j ≤ k))) H
    rw [← e2]
    exact q
  · rw [decide_eq_false e]
    refine iteF ?_
    have e2 : decide (i ≤ j ∧ j ≤ k) = false := by simp [e]
    rw [← e2]
    exact q
section
variable {P : Program} {w : World} {K : PySem.W.Frag} {mg : Str → Option Value} {base : Heap}
theorem ok_init {f C : Addr} {fd : FuncData} (F : FnM K "__init__" "Reader.__init__" sInit f fd) (T : TxtR K mg C) : FnOk P w K mg base CX0 1 f fd ["self", "limit"] (spInit C) := by
  refine F.ok scInit (fun vs H Q E h => ?_) (fun cdv A outer s H vs Q E hr h => ?_)
  · obtain ⟨H0, p, dx, L, rfl, _⟩ := h
    rfl
  · obtain ⟨H0, p, dx, L, rfl, s0, p0, hp, q⟩ := h
    refine ⟨_, PSs.nox (pss_cons (ps_fld (pv 0) (pv 1) rfl) (pss_cons (ps_fld (pv 0) pe_non rfl) (pss_cons (ps_fld (pv 0) pe_bl rfl) (pss_one (ps_fld (pv 0) (pe_lst pa_nil) rfl))))), ?_⟩
    refine ⟨_, rfl, _, rfl, p, C, dx, [], rfl, hp, T.cl, T.nL, (by show 0 < 1000; decide), ?_⟩
    refine ⟨_, rfl, p, C, dx, _, rfl, upd_same, T.cl, T.nB, (by show 1 < 1000; decide), ?_⟩
    rw [upd_upd]
    refine ⟨_, rfl, p, C, dx, _, rfl, upd_same, T.cl, T.nC, (by have := length_putF "bits" V.non (putF "limit" (V.int L) []); have h2 : (putF "limit" (V.int L) []).length = 1 := rfl; omega), ?_⟩
    rw [upd_upd]
    refine ⟨Nat.zero_le _, fun l hl => ?_⟩
    have npl : p ≠ l := fun z => by
      rw [← z, upd_same] at hl
      cases hl
    have hl0 : H l = none := by
      rw [upd_ne npl.symm] at hl
      exact hl
    refine ⟨_, rfl, p, C, dx, _, rfl, by rw [upd_ne npl, upd_same], T.cl, T.nP, ?_, ?_⟩
    · have h1 := length_putF "is_closed" (V.bl false) (putF "bits" V.non (putF "limit" (V.int L) []))
      have h2 := length_putF "bits" V.non (putF "limit" (V.int L) [])
      have h3 : (putF "limit" (V.int L) []).length = 1 := rfl
      omega
    refine q _ ⟨fun b o e => ?_, p0, dx, l, s0.free hl0, upd_same, by rw [upd_ne npl.symm, upd_same]; rfl⟩
    have nbp : b ≠ p := fun z => by
      rw [z, p0] at e
      cases e
    rw [upd_ne nbp, upd_ne (ne_of_none (s0 _ _ e) hl0), upd_ne nbp]
    exact s0 _ _ e
theorem ok_read {f C : Addr} {fd : FuncData} (F : FnM K "read" "Reader.read" sRead f fd) (T : TxtR K mg C) : FnOk P w K mg base CX0 1 f fd ["self", "gap"] (spRead C) := by
  refine F.ok scRead (fun vs H Q E h => ?_) (fun cdv A outer s H vs Q E hr h => ?_)
  · obtain ⟨H0, p, L, g, r, rfl, _⟩ := h
    rfl
  · obtain ⟨H0, p, L, g, r, rfl, ⟨s0, p0, dx, l, l0, hp, hl⟩, hL2, hL7, hbl, hpl, q⟩ := h
    refine ⟨_, PSs.nox (pss_cons (ps_set (i := 2) scRead.nd rfl (.inl rfl) (pe_fld (pv 0) rfl))
      (pss_cons (ps_fld (pv 0) (pe_chain op_le op_le pe_int (pv 1) (pe_fld (pv 0) rfl)) rfl)
      (pss_one (ps_if (pt_cmpR op_eq (pv 1) (pe_op op_add (pe_fld (pv 0) rfl) pe_int) (nomark _))
        (pss_cons (ps_if (PW.pt (pw_and (pt_cmpR op_notN (pe_fld (pv 0) rfl) pe_non (nomark _)) (pw_and1 (pt_val (pv 2)))))
            (pss_one (ps_expr (pe_bm PySem.F.plainAttrs_list PySem.F.slot_list_append PySem.F.type_list_append mt_append (pe_fld (pv 0) rfl) (pa_cons (pe_slice sl_str (pe_fld (pv 0) rfl) po_none (po_some (pe_un un_neg pe_int))) pa_nil)))) pss_nil)
          (pss_one (ps_fld (pv 0) pe_str rfl)))
        (pss_one (ps_if (pt_not (pt_chain op_le op_le pe_int (pv 1) (pe_op op_add (pe_fld (pv 0) rfl) pe_int)))
          (pss_one (ps_fld (pv 0) pe_non rfl))
          (pss_one (ps_if (pt_cmpR op_notN (pe_fld (pv 0) rfl) pe_non (nomark _))
            (pss_one (ps_fld (pv 0) (pe_op op_add_str (pe_op op_add_str (pe_fld (pv 0) rfl) (pe_op TunR.op_mulS pe_str (pe_op op_sub (pv 1) pe_int))) (pe_ifExp (pt_cmpR op_le (pv 1) (pe_fld (pv 0) rfl) (nomark _)) pe_str pe_str)) rfl)) pss_nil)))))))), ?_⟩
    have hline := line1000
    have nlp : l ≠ p := ne_of hl hp (by intro z; cases z)
    generalize hc' : decide (1 ≤ g ∧ g ≤ L) = c'
    -- the end of every way
    have finish : ∀ (b' : Option (List Bool)) (pays' : List (List Bool)) (H' : Hp), (∀ a, a ≠ p → a ≠ l → H' a = H a) → H' p = some (.ins C dx (fl L (bV b') c' l)) → H' l = some (.lst (pV pays')) → Tun.rdStep L r g = ⟨b', c', pays'⟩ → Q .non H' := by
      intro b' pays' H' ho e1 e2 e3
      refine q H' ⟨fun a o e => ?_, p0, dx, l, l0, by rw [e3]; exact e1, by rw [e3]; exact e2⟩
      have n1 : a ≠ p := fun z => by
        rw [z, p0] at e
        cases e
      have n2 : a ≠ l := fun z => by
        rw [z, l0] at e
        cases e
      rw [ho a n1 n2]
      exact s0 _ _ e
    -- is_end = self.is_closed; self.is_closed = 1 <= gap <= self.limit
    refine ⟨_, rfl, p, C, dx, _, _, rfl, hp, T.cl, T.nC, fl_closed _ _ _ _, ?_⟩
    show sFld K (tVar 0) (tChain rLe rLe (tC (.int 1)) (tVar 1) (tFld K (tVar 0) "limit")) "is_closed" _ _ _
    refine rd_chain (fun R h => h) (fun R h => ⟨_, rfl, h⟩) (fun R h => ⟨_, rfl, p, C, dx, _, _, rfl, hp, T.cl, T.nL, fl_limit _ _ _ _, h⟩) ?_
    refine ⟨_, rfl, p, C, dx, _, rfl, hp, T.cl, T.nC, fl_len _ _ _ _, ?_⟩
    rw [fl_put_closed, hc']
    have hp1 : (upd H p (.ins C dx (fl L (bV r.bits) c' l))) p = some (.ins C dx (fl L (bV r.bits) c' l)) := upd_same
    have hl1 : (upd H p (.ins C dx (fl L (bV r.bits) c' l))) l = some (.lst (pV r.pays)) := by
      rw [upd_ne nlp]
      exact hl
    have ho1 : ∀ a, a ≠ p → (upd H p (.ins C dx (fl L (bV r.bits) c' l))) a = H a := fun a h => upd_ne h
    revert hp1 hl1 ho1
    generalize (upd H p (.ins C dx (fl L (bV r.bits) c' l))) = H1
    intro hp1 hl1 ho1
    -- if gap == self.limit + 2
    refine ⟨_, rfl, _, rfl, p, C, dx, _, _, rfl, hp1, T.cl, T.nL, fl_limit _ _ _ _, _, _, rfl, rfl, rfl, _, rfl, ?_⟩
    rw [dec_intV]
    refine ite2 (fun h => ?_) (fun h => ?_)
    · have hg : g = L + 2 := of_decide_eq_true h
      have back : ∀ (pays' : List (List Bool)) (H2 : Hp), (∀ a, a ≠ p → a ≠ l → H2 a = H a) → H2 p = some (.ins C dx (fl L (bV r.bits) c' l)) → H2 l = some (.lst (pV pays')) → Tun.rdStep L r g = ⟨some [], c', pays'⟩ →
          Q .non (upd H2 p (.ins C dx (putF "bits" (.str ("" : Str)) (fl L (bV r.bits) c' l)))) := by
        intro pays' H2 ho e1 e2 e3
        rw [fl_put_bits]
        refine finish (some []) pays' _ (fun a n1 n2 => by rw [upd_ne n1]; exact ho a n1 n2) (by rw [upd_same, bS_nil]; rfl) (by rw [upd_ne nlp]; exact e2) e3
      refine ⟨_, rfl, p, C, dx, _, _, rfl, hp1, T.cl, T.nB, fl_bits _ _ _ _, rfl, _, rfl, ?_⟩
      have hcl : decide (1 ≤ g ∧ g ≤ L) = c' := hc'
      cases hb : r.bits with
      | none =>
        rw [hb] at hp1 back
        refine iteF (iteF ⟨_, rfl, p, C, dx, _, rfl, hp1, T.cl, T.nB, fl_len _ _ _ _, ?_⟩)
        refine back r.pays H1 (fun a n1 _ => ho1 a n1) hp1 hl1 ?_
        unfold Tun.rdStep
        rw [if_pos hg, hcl, hb]
        simp
      | some b =>
        rw [hb] at hp1 back
        refine iteT ⟨_, rfl, _, rfl, ?_⟩
        cases hcd : r.closed with
        | false =>
          refine iteF ⟨_, rfl, p, C, dx, _, rfl, hp1, T.cl, T.nB, fl_len _ _ _ _, ?_⟩
          refine back r.pays H1 (fun a n1 _ => ho1 a n1) hp1 hl1 ?_
          unfold Tun.rdStep
          rw [if_pos hg, hcl, hcd]
          simp
        | true =>
          have hbl' := hbl b hb
          refine iteT ⟨_, rfl, p, C, dx, _, _, rfl, hp1, T.cl, T.nP, fl_pays _ _ _ _, .inl ⟨rfl, _, SqL.of hl1⟩, _, rfl, p, C, dx, _, _, rfl, hp1, T.cl, T.nB, fl_bits _ _ _ _, 1, rfl, _, rfl, bS b, rfl, by rw [bS_len]; omega, l, _, _, rfl, rfl, hl1, by unfold pV; rw [List.length_map]; omega, ?_⟩
          rw [cut_last]
          refine ⟨_, rfl, p, C, dx, _, rfl, by rw [upd_ne nlp.symm]; exact hp1, T.cl, T.nB, fl_len _ _ _ _, ?_⟩
          refine back (r.pays ++ [b.dropLast]) _ (fun a n1 n2 => by rw [upd_ne n2]; exact ho1 a n1) (by rw [upd_ne nlp.symm]; exact hp1) ?_ ?_
          · rw [upd_same]
            unfold pV
            rw [List.map_append]
            rfl
          · unfold Tun.rdStep
            rw [if_pos hg, hcl, hcd, hb]
            simp [hg]
    · have hg : ¬ g = L + 2 := fun z => h (decide_eq_true z)
      have hcl : decide (1 ≤ g ∧ g ≤ L) = c' := hc'
      refine rd_chain (fun R h => h) (fun R h => ⟨_, rfl, h⟩) (fun R h => ⟨_, rfl, p, C, dx, _, _, rfl, hp1, T.cl, T.nL, fl_limit _ _ _ _, _, _, rfl, rfl, h⟩) ⟨_, rfl, ?_⟩
      have put : ∀ (b' : Option (List Bool)), Tun.rdStep L r g = ⟨b', c', r.pays⟩ → Q .non (upd H1 p (.ins C dx (putF "bits" (bV b') (fl L (bV r.bits) c' l)))) := by
        intro b' e3
        rw [fl_put_bits]
        exact finish b' r.pays _ (fun a n1 n2 => by rw [upd_ne n1]; exact ho1 a n1) (by rw [upd_same]) (by rw [upd_ne nlp]; exact hl1) e3
      by_cases hin : 1 ≤ g ∧ g ≤ L + 1
      · rw [decide_eq_true hin]
        refine iteF ⟨_, rfl, p, C, dx, _, _, rfl, hp1, T.cl, T.nB, fl_bits _ _ _ _, rfl, _, rfl, ?_⟩
        cases hb : r.bits with
        | none =>
          rw [hb] at hp1
          refine iteF (finish none r.pays H1 (fun a n1 _ => ho1 a n1) hp1 hl1 ?_)
          rw [Tun.rdStep_in hg hin, hcl, hb]
          rfl
        | some b =>
          have hbl' := hbl b hb
          have e1 : ("1" : Str) = (⟨#[49]⟩ : Str) := by decide +kernel
          rw [hb] at hp1 put
          refine iteT ⟨_, rfl, p, C, dx, _, _, rfl, hp1, T.cl, T.nB, fl_bits _ _ _ _, _, rfl, _, _, rfl, rfl, 49, _, congrArg V.str e1, rfl, by omega, by omega, ?_⟩
          rw [bS_rep]
          refine ⟨_, _, rfl, rfl, by rw [bS_len, bS_len, List.length_replicate]; omega, ?_⟩
          rw [bS_app]
          refine ⟨_, rfl, _, rfl, p, C, dx, _, _, rfl, hp1, T.cl, T.nL, fl_limit _ _ _ _, _, _, rfl, rfl, _, rfl, ?_⟩
          refine ite2 (fun h2 => ?_) (fun h2 => ?_)
          · have h2 : g ≤ L := of_decide_eq_true h2
            refine ⟨_, _, rfl, rfl, by rw [bS_zero, bS_len, bS_len, List.length_append, List.length_replicate]; show b.length + (g - 1).toNat + 1 ≤ _; omega, _, rfl, p, C, dx, _, rfl, hp1, T.cl, T.nB, fl_len _ _ _ _, ?_⟩
            rw [bS_zero, bS_app]
            refine put (some _) ?_
            rw [Tun.rdStep_in hg hin, hcl, hb, if_pos h2]
            rfl
          · have h2 : ¬ g ≤ L := fun z => h2 (decide_eq_true z)
            refine ⟨_, _, rfl, rfl, by rw [bS_nil, bS_len, bS_len, List.length_append, List.length_replicate]; show b.length + (g - 1).toNat + 0 ≤ _; omega, _, rfl, p, C, dx, _, rfl, hp1, T.cl, T.nB, fl_len _ _ _ _, ?_⟩
            rw [bS_nil, bS_app]
            refine put (some _) ?_
            rw [Tun.rdStep_in hg hin, hcl, hb, if_neg h2]
            rfl
      · rw [decide_eq_false hin]
        refine iteT ⟨_, rfl, p, C, dx, _, rfl, hp1, T.cl, T.nB, fl_len _ _ _ _, ?_⟩
        refine put none ?_
        rw [Tun.rdStep_out hg hin, hcl]
end
end Tw
end

section
set_option Elab.async false
set_option linter.all false
set_option maxRecDepth 100000
set_option maxHeartbeats 2000000
/-! read_gaps. -/
namespace Tw
open PySem PySem.Spec PyProof.Rows L2
def spReads (K : PySem.W.Frag) : Sp := fun vs H Q _ => ∃ (L : Int) (a : Addr) (gs : List Int), vs = [.int L, .ref a] ∧ SqL K H a (gs.map V.int) ∧ 2 ≤ L ∧ L ≤ 7 ∧ gs.length ≤ 1000 ∧
  ∀ H' p, Same H H' → H p = none → H' p = some (.lst (pV (Tun.reads L gs))) → Q (.ref p) H'
theorem scReads : FnScope ["limit", "gaps", "reader", "gap"] ["limit", "gaps"] (defScope sReads) := ⟨rfl, rfl, rfl, by decide +kernel, rfl, by decide +kernel, by decide +kernel⟩
theorem map_at {ns : List Int} {i : Nat} {x : V} (h : (ns.map V.int)[i]? = some x) : ∃ hi : i < ns.length, x = .int ns[i] := by
  rw [List.getElem?_map] at h
  by_cases hi : i < ns.length
  · rw [List.getElem?_eq_getElem hi] at h
    exact ⟨hi, (Option.some.inj h).symm⟩
  · rw [List.getElem?_eq_none (by omega)] at h
    cases h
section
variable {P : Program} {w : World} {K : PySem.W.Frag} {mg : Str → Option Value} {base : Heap}
theorem ok_reads {f C fI fR : Addr} {fd fdI fdR : FuncData} (F : FnP K "read_gaps" sReads f fd) (T : TxtR K mg C) (M : Mk K C fI) (FI : FnM K "__init__" "Reader.__init__" sInit fI fdI) (bI : Binds K fdI ["self", "limit"] [])
    (FR : FnM K "read" "Reader.read" sRead fR fdR) (bR : Binds K fdR ["self", "gap"] []) (mR : Meth K C "read" fR) : FnOk P w K mg base CX0 3 f fd ["limit", "gaps"] (spReads K) := by
  have GI : FnOk P w K mg base CX0 1 fI fdI ["self", "limit"] (spInit C) := ok_init FI T
  have GR : FnOk P w K mg base CX0 1 fR fdR ["self", "gap"] (spRead C) := ok_read FR T
  refine F.ok scReads (fun vs H Q E h => ?_) (fun cdv A outer s H vs Q E hr h => ?_)
  · obtain ⟨L, a, gs, rfl, _⟩ := h
    rfl
  · obtain ⟨L, a, gs, rfl, hS, h2, h7, hlen, q⟩ := h
    have hr1 : Room 1 _ := hr.mono (by decide)
    refine ⟨_, PSs.nox (pss_cons (ps_set (i := 2) scReads.nd rfl (.inl rfl) (pe_make M GI hr rfl T.at_ bI .nil pass0 (pa_cons (pv 0) pa_nil)))
      (pss_cons (ps_for PassesOwn.never rfl (pi_list (pv 1)) (pg_name (i := 3) scReads.nd rfl (.inl rfl))
        (pss_one (ps_expr (pe_meth (pv 2) T.cl mR GR hr1 bR .nil pass0 (pa_cons (pv 3) pa_nil)))))
      (pss_one (ps_ret (pe_fld (pv 2) rfl))))), ?_⟩
    refine ⟨_, rfl, fun x dx nx ndx nex => ?_⟩
    have s0 : Same H (upd (upd H dx (.own x)) x (.ins C dx [])) := fun b o e => by
      rw [upd_ne (ne_of_none e nx), upd_ne (ne_of_none e ndx)]
      exact e
    refine ⟨H, x, dx, L, rfl, s0, nx, upd_same, fun H1 R1 => ⟨rfl, ?_⟩⟩
    refine ⟨_, rfl, a, rfl, ⟨_, R1.1.seq hS⟩, for_list (K := K) (a := a) (xs := gs.map V.int) (fun i σ H' => ∃ (v : Option V), σ = [some (.int L), some (.ref a), some (.ref x), v] ∧ RAt C H H' x L ((gs.take i).foldl (Tun.rdStep L) Tun.rd0))
      ⟨none, rfl, R1⟩ (fun i σ H' _ ⟨_, _, R⟩ => R.1.seq hS) ?_ ?_⟩
    · rintro i y σ H' hi ⟨v, rfl, R⟩
      obtain ⟨hil, rfl⟩ := map_at hi
      obtain ⟨_, _, dp, l, _, h1, hL⟩ := id R
      obtain ⟨b1, b2⟩ := Tun.rd_bound h7 (gs.take i)
      have hti : (gs.take i).length ≤ 1000 := by
        rw [List.length_take]
        omega
      refine ⟨_, rfl, x, dp, _, rfl, h1, fl_no _ _ _ _ (by decide +kernel) (by decide +kernel) (by decide +kernel) (by decide +kernel), _, rfl, H, x, L, gs[i], _, rfl, R, h2, h7, fun b hb => ?_, by omega, fun H2 R2 => ?_⟩
      · have := b1 b hb
        omega
      · refine ⟨_, rfl, ?_⟩
        rw [List.take_add_one, List.getElem?_eq_getElem hil, List.foldl_append]
        exact R2
    · rintro σ H' ⟨v, rfl, R⟩
      rw [List.length_map, List.take_length] at R
      obtain ⟨s1, x0, dp, l, l0, h1, hL⟩ := R
      refine ⟨_, rfl, x, C, dp, _, _, rfl, h1, T.cl, T.nP, fl_pays _ _ _ _, ?_⟩
      exact q H' l s1 l0 hL
end
end Tw
end

section
set_option Elab.async false
set_option linter.all false
set_option maxRecDepth 100000
set_option maxHeartbeats 2000000
/-! framed, strangers. -/
namespace Tw
open PySem PySem.Spec PyProof.Rows L2
abbrev sFramed : Stmt := top 10
abbrev sStr : Stmt := top 11
def blV (l : List Bool) : List V := l.map V.bl
def spFramed (K : PySem.W.Frag) : Sp := fun vs H Q _ => ∃ (L : Int) (a : Addr) (gs : List Int), vs = [.int L, .ref a] ∧ SqL K H a (gs.map V.int) ∧ gs.length ≤ 1000 ∧
  ∀ H' p, Same H H' → H p = none → H' p = some (.lst (blV (Tun.framed L gs))) → Q (.ref p) H'
theorem scFramed : FnScope ["limit", "gaps", "gap", "found", "begin", "at", "place"] ["limit", "gaps"] (defScope sFramed) := ⟨rfl, rfl, rfl, by decide +kernel, rfl, by decide +kernel, by decide +kernel⟩
/-- the list at D holds bs; what stood in H0 stands -/
def BAt (H0 H : Hp) (D : Addr) (bs : List Bool) : Prop := Same H0 H ∧ H0 D = none ∧ H D = some (.lst (blV bs))
def bgV : Option Nat → V
  | none => .non
  | some b => .int (b : Int)
theorem ixN_nat {n j : Nat} {k : Int} (e : k = (j : Int)) (h : j < n) : ixN n k = some j := by
  unfold ixN
  rw [if_pos (by omega), if_pos (by omega)]
  congr 1
  omega
theorem blV_set (l : List Bool) (i : Nat) : blV (l.set i true) = (blV l).set i (.bl true) := by
  unfold blV
  rw [List.map_set]
theorem BAt.put {H0 H : Hp} {D : Addr} {bs bs' : List Bool} (h : BAt H0 H D bs) : BAt H0 (upd H D (.lst (blV bs'))) D bs' := by
  obtain ⟨s0, n, e⟩ := h
  exact ⟨fun b o q => by rw [upd_ne (ne_of_none q n)]; exact s0 _ _ q, n, upd_same⟩
theorem BAt.new {H0 H : Hp} {D T : Addr} {bs : List Bool} {o : HO} (h : BAt H0 H D bs) (hT : H T = none) : BAt H0 (upd H T o) D bs := by
  obtain ⟨s0, n, e⟩ := h
  exact ⟨s0.trans (same_upd hT), n, by rw [upd_ne (ne_of_none e hT)]; exact e⟩
section
variable {P : Program} {w : World} {K : PySem.W.Frag} {mg : Str → Option Value} {base : Heap}
theorem ok_framed {f : Addr} {fd : FuncData} (F : FnP K "framed" sFramed f fd) (me : mg "enumerate" = none) (mr : mg "range" = none) : FnOk P w K mg base CX0 1 f fd ["limit", "gaps"] (spFramed K) := by
  refine F.ok scFramed (fun vs H Q E h => ?_) (fun cdv A outer s H vs Q E hr h => ?_)
  · obtain ⟨L, a, gs, rfl, _⟩ := h
    rfl
  · obtain ⟨L, a, gs, rfl, hS, hlen, q⟩ := h
    refine ⟨_, PSs.nox (pss_cons (ps_setLc (i := 3) (own := [("gap", 2)]) (g := gName 2) (tt := tYes) (te := tC (.bl false)) (by rfl) scFramed.nd rfl rfl (sw_true rfl rfl rfl (by decide +kernel)) (pi_list (pv 1))
          (blkOk_by (own := [("gap", 2)]) (N := ["limit", "gaps", "gap", "found", "begin", "at", "place"]) (sc := defScope sFramed) (by decide +kernel))
          (fun _ _ _ _ _ => pg_name (i := 2) scFramed.nd rfl (.inl rfl)) (fun _ _ _ _ _ => pts_nil) (fun _ _ _ _ _ => pe_bl))
      (pss_cons (ps_set (i := 4) scFramed.nd rfl (.inl rfl) pe_non)
      (pss_cons (ps_for PassesOwn.never rfl (pi_enum (by rfl) me (pa_cons (pv 1) pa_nil)) (pg_tup rfl (pgs_cons (pg_name (i := 5) scFramed.nd rfl (.inl rfl)) (pgs_cons (pg_name (i := 2) scFramed.nd rfl (.inl rfl)) pgs_nil)))
        (pss_one (ps_if (pt_cmpR op_eq (pv 2) (pe_op op_add (pv 0) pe_int) (nomark _))
          (pss_cons (ps_if (PW.pt (pw_and (pt_cmpR op_notN (pv 4) pe_non (nomark _)) (pw_and (pt_cmpR op_gt (pv 5) (pe_op op_add (pv 4) pe_int) (nomark _))
                (pw_and1 (pt_cmpR op_le (pe_ix ix_list (pv 1) (pe_op op_sub (pv 5) pe_int) (fun _ _ => rfl)) (pv 0) (nomark _))))))
              (pss_one (ps_for PassesOwn.never rfl (pi_range2 (by rfl) mr (pa_cons (pv 4) (pa_cons (pe_op op_add (pv 5) pe_int) pa_nil))) (pg_name (i := 6) scFramed.nd rfl (.inl rfl))
                (pss_one (ps_asg pe_bl (pg_sub (pv 3) (pv 6) set_list))))) pss_nil)
            (pss_one (ps_set (i := 4) scFramed.nd rfl (.inl rfl) (pv 5))))
          (pss_one (ps_if (pt_not (pt_chain op_le op_le pe_int (pv 2) (pe_op op_add (pv 0) pe_int)))
            (pss_one (ps_set (i := 4) scFramed.nd rfl (.inl rfl) pe_non)) pss_nil)))))
      (pss_one (ps_ret (pv 3)))))), ?_⟩
    have hline := line1000
    -- found = [False for gap in gaps]
    refine ⟨_, rfl, a, rfl, ⟨_, hS⟩, fun D hD => lc_list (K := K) (a := a) (xs := gs.map V.int) (fun i H' => BAt H H' D ((gs.take i).map fun _ => false)) ⟨same_upd hD, hD, upd_same⟩ (fun i H' _ hb => hb.1.seq hS) ?_ ?_⟩
    · intro i x H' hi hb
      obtain ⟨hil, rfl⟩ := map_at hi
      refine ⟨rfl, ?_⟩
      refine yes_if ?_
      refine ⟨_, hb.2.2, ?_, ?_⟩
      · unfold blV
        rw [List.length_map, List.length_map, List.length_take]
        omega
      · have e : blV ((gs.take i).map fun _ => false) ++ [V.bl false] = blV ((gs.take (i + 1)).map fun _ => false) := by
          unfold blV
          rw [List.take_add_one, List.getElem?_eq_getElem hil, List.map_append, List.map_append]
          rfl
        rw [e]
        exact hb.put
    · intro H1 hb1
      rw [List.length_map, List.take_length] at hb1
      -- the walk
      refine ⟨_, rfl, a, _, rfl, hb1.1.seq hS, for_it walk_enum (fun i σ H' => ∃ (x y z : Option V), BAt H H' D ((gs.zipIdx.take i).foldl (Tun.frStep L gs) ⟨gs.map fun _ => false, none⟩).found ∧
        (∀ b, ((gs.zipIdx.take i).foldl (Tun.frStep L gs) ⟨gs.map fun _ => false, none⟩).begin = some b → b < i) ∧
        σ = [some (.int L), some (.ref a), x, some (.ref D), some (bgV ((gs.zipIdx.take i).foldl (Tun.frStep L gs) ⟨gs.map fun _ => false, none⟩).begin), y, z]) ⟨none, none, none, hb1, (fun b hb => by cases hb), rfl⟩ (fun i σ H' _ ⟨_, _, _, hb, _⟩ => hb.1.seq hS) ?_ ?_⟩
      · rintro i x σ H1 H2 hi ⟨x0, y0, z0, hb, hbi, rfl⟩ ⟨T, x, y, rfl, hT, rfl, hx, hy⟩
        obtain rfl := Option.some.inj hx
        obtain ⟨hil, rfl⟩ := map_at hy
        have hstep := Tun.zip_take L gs ⟨gs.map fun _ => false, none⟩ hil
        have hfl := Tun.frFold_len L gs (gs.zipIdx.take i) ⟨gs.map fun _ => false, none⟩
        simp only [hstep]
        revert hfl hb hbi
        generalize (gs.zipIdx.take i).foldl (Tun.frStep L gs) ⟨gs.map fun _ => false, none⟩ = st
        intro hb hbi hfl
        rw [List.length_map] at hfl
        have hS1 : SqL K H1 a (gs.map V.int) := hb.1.seq hS
        have hb2 := hb.new (o := .tup [.int (i : Nat), .int gs[i]]) hT
        have hS2 : SqL K (upd H1 T (.tup [.int (i : Nat), .int gs[i]])) a (gs.map V.int) := hb2.1.seq hS
        refine ⟨T, _, rfl, .inl (.inl upd_same), rfl, _, _, rfl, _, _, rfl, rfl, ?_⟩
        clear hb hS1
        revert hb2 hS2
        generalize (upd H1 T (.tup [.int (i : Nat), .int gs[i]])) = H3
        intro hb2 hS2
        generalize hg : gs[i] = g
        -- if gap == limit + 2
        refine ⟨_, rfl, _, rfl, _, _, rfl, rfl, rfl, _, rfl, ?_⟩
        rw [dec_intV]
        refine ite2 (fun h => ?_) (fun h => ?_)
        · have hgL : g = L + 2 := of_decide_eq_true h
          subst hgL
          rw [Tun.frStep_flag]
          cases hbg : st.begin with
          | none =>
            refine ⟨_, rfl, rfl, _, rfl, ?_⟩
            refine iteF (iteF ⟨_, rfl, _, _, _, hb2, (fun b e => by cases e; omega), rfl⟩)
          | some b =>
            have hlt := hbi b hbg
            refine ⟨_, rfl, rfl, _, rfl, ?_⟩
            refine iteT ⟨_, rfl, _, rfl, _, _, rfl, rfl, _, _, rfl, rfl, _, rfl, ?_⟩
            refine ite2 (fun h1 => ?_) (fun h1 => ?_)
            · have h1 : (b : Int) + 1 < (i : Int) := of_decide_eq_true h1
              have hlast : (gs.map V.int)[i - 1]? = some (.int (gs.getD (i - 1) 0)) := by
                rw [List.getElem?_map, List.getD_eq_getElem?_getD, List.getElem?_eq_getElem (by omega)]
                rfl
              refine ⟨_, rfl, _, rfl, _, _, rfl, rfl, a, _, _, _, rfl, rfl, hS2, at_of (j := i - 1) (by omega) hlast, _, rfl, _, _, rfl, rfl, _, rfl, ?_⟩
              refine ite2 (fun h2 => ?_) (fun h2 => ?_)
              · have h2 : gs.getD (i - 1) 0 ≤ L := of_decide_eq_true h2
                have en : ((i : Int) + 1 - (b : Int)).toNat = i + 1 - b := by omega
                simp only [if_pos (show b + 1 < i ∧ gs.getD (i - 1) 0 ≤ L from ⟨by omega, h2⟩)]
                refine ⟨_, rfl, _, rfl, _, _, rfl, rfl, _, _, rfl, ⟨by omega, by omega, by omega, by omega⟩, ?_⟩
                rw [en]
                refine for_range (lo := (b : Int)) (n := i + 1 - b) (fun j σ H' => ∃ z : Option V, BAt H H' D (Tun.setR st.found b j) ∧ σ = [some (.int L), some (.ref a), some (.int (L + 2)), some (.ref D), some (.int (b : Int)), some (.int (i : Nat)), z]) ⟨_, hb2, rfl⟩ ?_ ?_
                · rintro j σ H4 hj ⟨z, hb4, rfl⟩
                  refine ⟨_, rfl, _, rfl, D, _, _, b + j, rfl, rfl, hb4.2.2, ixN_nat (by omega) ?_, _, ?_, rfl⟩
                  · unfold blV
                    rw [List.length_map, Tun.setR_len, hfl]
                    omega
                  · rw [Tun.setR_succ, ← blV_set]
                    exact hb4.put
                · rintro σ H4 ⟨z, hb4, rfl⟩
                  exact ⟨_, rfl, _, _, _, hb4, (fun b e => by cases e; omega), rfl⟩
              · have h2 : ¬ gs.getD (i - 1) 0 ≤ L := fun z => h2 (decide_eq_true z)
                simp only [if_neg (show ¬ (b + 1 < i ∧ gs.getD (i - 1) 0 ≤ L) from fun z => h2 z.2)]
                exact ⟨_, rfl, _, _, _, hb2, (fun b e => by cases e; omega), rfl⟩
            · have h1 : ¬ (b : Int) + 1 < (i : Int) := fun z => h1 (decide_eq_true z)
              simp only [if_neg (show ¬ (b + 1 < i ∧ gs.getD (i - 1) 0 ≤ L) from fun z => h1 (by omega))]
              refine iteF ⟨_, rfl, _, _, _, hb2, (fun b e => by cases e; omega), rfl⟩
        · have hgL : ¬ g = L + 2 := fun z => h (decide_eq_true z)
          refine rd_chain (fun R h => h) (fun R h => ⟨_, rfl, h⟩) (fun R h => ⟨_, rfl, _, _, rfl, rfl, h⟩) ⟨_, rfl, ?_⟩
          by_cases hin : 1 ≤ g ∧ g ≤ L + 1
          · rw [decide_eq_true hin, Tun.frStep_in hgL hin]
            exact iteF ⟨_, _, _, hb2, (fun b e => Nat.lt_succ_of_lt (hbi b e)), rfl⟩
          · rw [decide_eq_false hin, Tun.frStep_out hgL hin]
            exact iteT ⟨_, _, _, hb2, (fun b e => by cases e), rfl⟩
      · rintro σ H' ⟨x, y, z, hb, _, rfl⟩
        rw [List.length_map] at hb
        have e : gs.zipIdx.take gs.length = gs.zipIdx := List.take_of_length_le (by simp)
        rw [e] at hb
        exact ⟨_, rfl, q H' D hb.1 hD hb.2.2⟩
end
end Tw
end

section
set_option Elab.async false
set_option linter.all false
set_option maxRecDepth 100000
set_option maxHeartbeats 2000000
/-! strangers, distances. -/
namespace Tw
open PySem PySem.Spec PyProof.Rows L2
abbrev sDist : Stmt := top 12
def spStr (K : PySem.W.Frag) : Sp := fun vs H Q _ => ∃ (L : Int) (a : Addr) (gs : List Int), vs = [.int L, .ref a] ∧ SqL K H a (gs.map V.int) ∧ gs.length ≤ 1000 ∧ ∀ H', Same H H' → Q (.int ((Tun.strangers L gs : Nat) : Int)) H'
def spDist (K : PySem.W.Frag) : Sp := fun vs H Q _ => ∃ (a : Addr) (ns : List Int), vs = [.ref a] ∧ SqL K H a (ns.map V.int) ∧ ns.length ≤ 1000 ∧
  ∀ H' p, Same H H' → H p = none → H' p = some (.lst ((Tun.dists ns).map V.int)) → Q (.ref p) H'
theorem scStr : FnScope ["limit", "gaps", "is_framed"] ["limit", "gaps"] (defScope sStr) := ⟨rfl, rfl, rfl, by decide +kernel, rfl, by decide +kernel, by decide +kernel⟩
theorem scDist : FnScope ["signal", "at", "edge"] ["signal"] (defScope sDist) := ⟨rfl, rfl, rfl, by decide +kernel, rfl, by decide +kernel, by decide +kernel⟩
theorem cut_dropLast (ns : List Int) : cutV (ns.map V.int) none (some (-1)) = ns.dropLast.map V.int := by
  unfold cutV
  rw [HT.sIx_none]
  have e : HT.sIx (ns.map V.int).length (ns.map V.int).length (some (-1)) = ns.length - 1 := by
    rw [List.length_map]
    show (if (-1 : Int) < 0 then ((-1 : Int) + (ns.length : Int)).toNat else min (-1 : Int).toNat ns.length) = _
    rw [if_pos (by omega)]
    omega
  rw [e, List.drop_zero, Nat.sub_zero, ← List.map_take, ← List.dropLast_eq_take]
theorem blV_at {bs : List Bool} {i : Nat} {x : V} (h : (blV bs)[i]? = some x) : ∃ hi : i < bs.length, x = .bl bs[i] := by
  unfold blV at h
  rw [List.getElem?_map] at h
  by_cases hi : i < bs.length
  · rw [List.getElem?_eq_getElem hi] at h
    exact ⟨hi, (Option.some.inj h).symm⟩
  · rw [List.getElem?_eq_none (by omega)] at h
    cases h
section
variable {P : Program} {w : World} {K : PySem.W.Frag} {mg : Str → Option Value} {base : Heap}
theorem ok_strangers {f f1 : Addr} {fd fd1 : FuncData} (F : FnP K "strangers" sStr f fd) (C1 : Cal P w K mg base 1 "framed" ["limit", "gaps"] (spFramed K) f1 fd1) (ml : mg "len" = none) : FnOk P w K mg base CX0 2 f fd ["limit", "gaps"] (spStr K) := by
  refine F.ok scStr (fun vs H Q E h => ?_) (fun cdv A outer s H vs Q E hr h => ?_)
  · obtain ⟨L, a, gs, rfl, _⟩ := h
    rfl
  · obtain ⟨L, a, gs, rfl, hS, hlen, q⟩ := h
    refine ⟨_, PSs.nox (pss_one (ps_ret (pe_callB call_len_seq (by rfl) ml PySem.boot_len (pa_cons (pe_lc (own := [("is_framed", 2)]) (g := gName 2) (tt := tNot (tB (tVar 2))) (te := tVar 2) (by rfl) scStr.nd
        (pi_list (pe_cal C1 hr (pa_cons (pv 0) (pa_cons (pv 1) pa_nil)))) (blkOk_by (own := [("is_framed", 2)]) (N := ["limit", "gaps", "is_framed"]) (sc := defScope sStr) (by decide +kernel))
        (fun _ _ _ _ _ => pg_name (i := 2) scStr.nd rfl (.inl rfl)) (fun _ _ _ _ _ => pts_one (pt_not (pt_val (pv 2)))) (fun _ _ _ _ _ => pv 2)) pa_nil)))), ?_⟩
    have hline := line1000
    refine ⟨_, rfl, _, rfl, L, a, gs, rfl, hS, hlen, fun H1 p s1 p0 hp => ?_⟩
    generalize hfr : Tun.framed L gs = fr at hp
    have hfl : fr.length = gs.length := by
      rw [← hfr]
      unfold Tun.framed
      rw [Tun.frFold_len, List.length_map]
    refine ⟨p, rfl, ⟨_, SqL.of hp⟩, fun D hD => lc_list (K := K) (a := p) (xs := blV fr) (fun i H' => Same H1 H' ∧ H' D = some (.lst (blV ((fr.take i).filter fun b => !b)))) ⟨same_upd hD, upd_same⟩ (fun i H' _ hb => hb.1.seq (SqL.of hp)) ?_ ?_⟩
    · rintro i x H' hi ⟨s2, h2⟩
      obtain ⟨hil, rfl⟩ := blV_at hi
      have e : ((fr.take (i + 1)).filter fun b => !b) = ((fr.take i).filter fun b => !b) ++ (if fr[i] then [] else [fr[i]]) := by
        rw [List.take_add_one, List.getElem?_eq_getElem hil, List.filter_append]
        congr 1
        show [fr[i]].filter _ = _
        cases fr[i] <;> rfl
      refine ⟨rfl, _, rfl, _, rfl, ?_⟩
      rw [e]
      generalize fr[i] = b
      cases b with
      | true =>
        refine iteF ⟨s2, ?_⟩
        rw [h2]
        simp
      | false =>
        refine iteT ⟨_, rfl, _, h2, ?_, ?_, ?_⟩
        · unfold blV
          rw [List.length_map]
          have := List.length_filter_le (fun b => !b) (fr.take i)
          rw [List.length_take] at this
          omega
        · intro b o e
          rw [upd_ne (ne_of_none e hD)]
          exact s2 _ _ e
        · rw [upd_same]
          unfold blV
          rw [List.map_append]
          rfl
    · rintro H' ⟨s2, h2⟩
      unfold blV at h2
      rw [List.length_map, List.take_length] at h2
      refine ⟨D, _, rfl, .inl (SqL.of h2), ?_⟩
      rw [List.length_map]
      have e : Tun.strangers L gs = (fr.filter fun b => !b).length := by
        unfold Tun.strangers
        rw [hfr]
      rw [← e]
      exact q H' (s1.trans s2)
theorem ok_dist {f : Addr} {fd : FuncData} (F : FnP K "distances" sDist f fd) (me : mg "enumerate" = none) : FnOk P w K mg base CX0 1 f fd ["signal"] (spDist K) := by
  refine F.ok scDist (fun vs H Q E h => ?_) (fun cdv A outer s H vs Q E hr h => ?_)
  · obtain ⟨a, ns, rfl, _⟩ := h
    rfl
  · obtain ⟨a, ns, rfl, hS, hlen, q⟩ := h
    refine ⟨_, PSs.nox (pss_one (ps_ret (pe_lc (own := [("at", 1), ("edge", 2)]) (g := gTup K 2 (gCons (gName 1) (gCons (gName 2) gNil))) (tt := tYes) (te := tOp (rI0 fun i j => .int (i - j)) (tOp (rIxL K) (tVar 0) (tOp (rI0 fun i j => .int (i + j)) (tVar 1) (tC (.int 1)))) (tVar 2)) (by rfl) scDist.nd
        (pi_enum (by rfl) me (pa_cons (pe_slice sl_list (pv 0) po_none (po_some (pe_un un_neg pe_int))) pa_nil)) (blkOk_by (own := [("at", 1), ("edge", 2)]) (N := ["signal", "at", "edge"]) (sc := defScope sDist) (by decide +kernel))
        (fun _ _ _ _ _ => pg_tup rfl (pgs_cons (pg_name (i := 1) scDist.nd rfl (.inl rfl) (.inr rfl)) (pgs_cons (pg_name (i := 2) scDist.nd rfl (.inl rfl) (.inr rfl)) pgs_nil)))
        (fun _ _ _ _ _ => pts_nil) (fun _ _ _ _ _ => pe_op op_sub (pe_ix ix_list (pv 0) (pe_op op_add (pv 1) pe_int) (fun _ _ => rfl)) (pv 2))))), ?_⟩
    have hline := line1000
    refine ⟨_, rfl, 1, rfl, _, rfl, a, _, rfl, hS, fun c hc => ?_⟩
    rw [cut_dropLast]
    have s1 : Same H (upd H c (.lst (ns.dropLast.map V.int))) := same_upd hc
    have hc1 : (upd H c (.lst (ns.dropLast.map V.int))) c = some (.lst (ns.dropLast.map V.int)) := upd_same
    revert s1 hc1
    generalize (upd H c (.lst (ns.dropLast.map V.int))) = H1
    intro s1 hc1
    refine ⟨c, _, rfl, SqL.of hc1, fun D hD => lc_it walk_enum (fun i H' => Same H1 H' ∧ H' D = some (.lst (((Tun.dists ns).take i).map V.int))) ⟨same_upd hD, upd_same⟩ (fun i H' _ hb => hb.1.seq (SqL.of hc1)) ?_ ?_⟩
    · rintro i x H2 H3 hi ⟨s2, h2⟩ ⟨T, x, y, rfl, hT, rfl, hx, hy⟩
      obtain rfl := Option.some.inj hx
      obtain ⟨hil, rfl⟩ := map_at hy
      rw [List.length_dropLast] at hil
      have g1 : ns[i]? = some (ns.dropLast[i]'(by rw [List.length_dropLast]; exact hil)) := by
        rw [List.getElem_dropLast, List.getElem?_eq_getElem (by omega)]
      generalize ns.dropLast[i]'(by rw [List.length_dropLast]; exact hil) = z at g1 ⊢
      have g2 : ns[i + 1]? = some ns[i + 1] := List.getElem?_eq_getElem (by omega)
      have gd := Tun.dists_get ns i _ _ g1 g2
      have s3 : Same H2 (upd H2 T (.tup [.int (i : Nat), .int z])) := same_upd hT
      have hDT : D ≠ T := ne_of_none h2 hT
      have hS3 : SqL K (upd H2 T (.tup [.int (i : Nat), .int z])) a (ns.map V.int) := (s1.trans (s2.trans s3)).seq hS
      have ga : (ns.map V.int)[i + 1]? = some (.int ns[i + 1]) := by
        rw [List.getElem?_map, g2]
        rfl
      refine ⟨T, _, rfl, .inl (.inl upd_same), rfl, _, _, rfl, _, _, rfl, rfl, rfl, ?_⟩
      refine yes_if ?_
      refine ⟨_, rfl, _, rfl, _, _, rfl, rfl, a, _, _, _, rfl, rfl, hS3, at_of (j := i + 1) (by omega) ga, _, rfl, _, _, rfl, rfl, ?_⟩
      refine ⟨_, by rw [upd_ne hDT]; exact h2, ?_, ?_, ?_⟩
      · rw [List.length_map, List.length_take, Tun.dists_len]
        omega
      · intro b o e
        rw [upd_ne (ne_of_none e hD)]
        exact s3 _ _ (s2 _ _ e)
      · rw [upd_same, List.take_add_one, gd, List.map_append]
        rfl
    · rintro H' ⟨s2, h2⟩
      rw [List.length_map, List.length_dropLast, ← Tun.dists_len, List.take_length] at h2
      exact q H' D (s1.trans s2) (s1.free hD) h2
end
end Tw
end

section
set_option Elab.async false
set_option linter.all false
set_option maxRecDepth 100000
set_option maxHeartbeats 2000000
/-! divides_all; heaps whose tables of code objects grow; the list of tunings on the heap. -/
namespace Tw
open PySem PySem.Spec PyProof.Rows L2
abbrev sDiv : Stmt := top 13
theorem scDiv : FnScope ["number", "rows"] ["number", "rows"] (defScope sDiv) := ⟨rfl, rfl, rfl, by decide +kernel, rfl, by decide +kernel, by decide +kernel⟩
def spDiv (K : PySem.W.Frag) (T : Addr) : Sp := fun vs H Q _ => ∃ (n : Int) (a : Addr) (ns : List Int), vs = [.int n, .ref a] ∧ SqL K H a (ns.map V.int) ∧ 0 < n ∧ GxR.TabG H T ∧ ∀ H', GxR.Tabbed T H H' → Q (.bl (ns.all fun s => s % n == 0)) H'
section
variable {P : Program} {w : World} {K : PySem.W.Frag} {mg : Str → Option Value} {base : Heap}
theorem ok_div {f c T : Addr} {fd : FuncData} (F : FnP K "divides_all" sDiv f fd) (hc : fd.code = .ref c) (TB : GxR.TabB base mg c T) (ma : mg "all" = none) : FnOk P w K mg base CX0 1 f fd ["number", "rows"] (spDiv K T) := by
  obtain ⟨oc, od, dV, kV, doc, pm, an, cdv, ct, osl, rfl, lk, hcd, _, _⟩ := F.ex
  have hc : cdv = .ref c := hc
  refine fn_of lk hcd scDiv (fun vs H Q E h => ?_) (fun A outer s H vs Q E hr h => ?_)
  · obtain ⟨n, a, ns, rfl, _⟩ := h
    rfl
  · obtain ⟨n, a, ns, rfl, hS, h0, ht, q⟩ := h
    refine ⟨_, PSs.nox (pss_one (ps_ret (TunR.pe_allRem 0 hr (by rfl) ma TB hc ⟨rfl, rfl, by decide +kernel, rfl, rfl, fun y hy e => ?_⟩ rfl (fun _ => rfl) rfl rfl (pv 1)))), ?_⟩
    · have hy : y ∈ ([(".0", .local), ("row", .local), ("number", .free)] : List (Str × NameKind)) := hy
      have e2 : y = (("number" : Str), NameKind.free) := by
        rcases List.mem_cons.mp hy with z | hy
        · rw [z] at e
          cases e
        · rcases List.mem_cons.mp hy with z | hy
          · rw [z] at e
            cases e
          · simpa using hy
      rw [e2]
      exact cell_has (sc := defScope sDiv) rfl
    · exact ⟨_, rfl, a, ns, n, rfl, hS, rfl, h0, ht, q⟩
end
/-! ### heaps -/
/-- H' is H grown: tables of code objects may have grown -/
structure Gr (H H' : Hp) : Prop where
  ext : ∀ b o, H b = some o → (∀ ps, o ≠ .tbl ps) → H' b = some o
  tab : ∀ T, GxR.TabG H T → GxR.TabG H' T
  free : ∀ b, H' b = none → H b = none
theorem Gr.of {H H' : Hp} (s : Same H H') : Gr H H' := ⟨fun b o e _ => s b o e, fun T ⟨ps, e, t⟩ => ⟨ps, s _ _ e, t⟩, fun b e => s.free e⟩
theorem Gr.refl (H : Hp) : Gr H H := .of (Same.refl H)
theorem Gr.trans {H H1 H2 : Hp} (a : Gr H H1) (b : Gr H1 H2) : Gr H H2 := ⟨fun c o e n => b.ext c o (a.ext c o e n) n, fun T t => b.tab T (a.tab T t), fun c e => a.free c (b.free c e)⟩
theorem Gr.tabbed {H H' : Hp} {T : Addr} (t : GxR.TabG H T) (g : GxR.Tabbed T H H') : Gr H H' := by
  obtain ⟨ps, e, tr⟩ := t
  obtain ⟨⟨ps', e', tr'⟩, k⟩ := g
  refine ⟨fun b o q n => ?_, fun T' ⟨qs, q, qt⟩ => ?_, fun b q => ?_⟩
  · have nb : b ≠ T := fun z => by
      rw [z, e] at q
      exact n ps (Option.some.inj q).symm
    rw [k b nb]
    exact q
  · by_cases z : T' = T
    · rw [z]
      exact ⟨ps', e', tr'⟩
    · exact ⟨qs, by rw [k T' z]; exact q, qt⟩
  · by_cases z : b = T
    · rw [z, e'] at q
      cases q
    · rw [k b z] at q
      exact q
theorem Gr.lst {H H' : Hp} (g : Gr H H') {a : Addr} {xs : List V} (h : H a = some (.lst xs)) : H' a = some (.lst xs) := g.ext _ _ h fun _ z => by cases z
theorem Gr.tup {H H' : Hp} (g : Gr H H') {a : Addr} {xs : List V} (h : H a = some (.tup xs)) : H' a = some (.tup xs) := g.ext _ _ h fun _ z => by cases z
theorem Gr.seq {K : PySem.W.Frag} {H H' : Hp} (g : Gr H H') {a : Addr} {xs : List V} (h : SqL K H a xs) : SqL K H' a xs := by
  rcases h with (h | ⟨o, h⟩) | h
  · exact .inl (.inl (g.lst h))
  · exact .inl (.inr ⟨o, g.ext _ _ h fun _ z => by cases z⟩)
  · exact .inr h
/-- a new object, or a list that is changed, where H0 had nothing -/
theorem Gr.put {H0 H : Hp} (g : Gr H0 H) {a : Addr} {o : HO} (h : H0 a = none) (ht : ∀ T, GxR.TabG H T → T ≠ a) : Gr H0 (upd H a o) := by
  refine ⟨fun b u e n => by rw [upd_ne (ne_of_none e h)]; exact g.ext _ _ e n, fun T t => ?_, fun b e => ?_⟩
  · have t2 := g.tab T t
    obtain ⟨ps, e, tr⟩ := t2
    exact ⟨ps, by rw [upd_ne (ht T ⟨ps, e, tr⟩)]; exact e, tr⟩
  · by_cases z : b = a
    · rw [z, upd_same] at e
      cases e
    · rw [upd_ne z] at e
      exact g.free _ e
theorem Gr.putL {H0 H : Hp} (g : Gr H0 H) {a : Addr} {xs : List V} {o : HO} (h : H0 a = none) (hl : H a = some (.lst xs)) : Gr H0 (upd H a o) :=
  g.put h fun T ⟨ps, e, _⟩ z => by
    rw [z, hl] at e
    cases e
theorem Gr.new {H0 H : Hp} (g : Gr H0 H) {a : Addr} {o : HO} (h : H a = none) : Gr H0 (upd H a o) := g.trans (.of (same_upd h))
/-! ### the list of tunings -/
/-- v is a tuning, apart from D -/
def TnAt (H : Hp) (D : Addr) (v : V) (t : Tun.Tn) : Prop := ∃ T q, v = .ref T ∧ T ≠ D ∧ q ≠ D ∧ H T = some (.tup [.int t.1, .int t.2.1, .ref q]) ∧ H q = some (.lst (pV t.2.2))
/-- the list at D holds the tunings ts; what stood in H0 stands -/
structure TI (H0 H : Hp) (D : Addr) (ts : List Tun.Tn) : Prop where
  gr : Gr H0 H
  fr : H0 D = none
  at_ : ∃ xs, H D = some (.lst xs) ∧ Paired (TnAt H D) xs ts
theorem TI.nil {H : Hp} {D : Addr} (h : H D = none) : TI H (upd H D (.lst [])) D [] := ⟨.of (same_upd h), h, [], upd_same, .nil⟩
theorem TI.grow {H0 H H' : Hp} {D : Addr} {ts : List Tun.Tn} (t : TI H0 H D ts) (g : Gr H H') : TI H0 H' D ts := by
  obtain ⟨gr, fr, xs, e, p⟩ := t
  refine ⟨gr.trans g, fr, xs, g.lst e, L2.Paired.mapP p fun v t h => ?_⟩
  obtain ⟨T, q, e1, n1, n2, e2, e3⟩ := h
  exact ⟨T, q, e1, n1, n2, g.tup e2, g.lst e3⟩
theorem TI.push {H0 H : Hp} {D T q : Addr} {ts : List Tun.Tn} {b L : Int} {ps : List (List Bool)} {xs : List V} (t : TI H0 H D ts) (hx : H D = some (.lst xs)) (nT : T ≠ D) (nq : q ≠ D) (hT : H T = some (.tup [.int b, .int L, .ref q])) (hq : H q = some (.lst (pV ps))) :
    TI H0 (upd H D (.lst (xs ++ [.ref T]))) D (ts ++ [(b, L, ps)]) := by
  obtain ⟨gr, fr, ys, e, p⟩ := t
  rw [hx] at e
  cases e
  refine ⟨gr.putL fr hx, fr, _, upd_same, Paired.snoc (L2.Paired.mapP p fun v t h => ?_) ⟨T, q, rfl, nT, nq, by rw [upd_ne nT]; exact hT, by rw [upd_ne nq]; exact hq⟩⟩
  obtain ⟨T', q', e1, n1, n2, e2, e3⟩ := h
  exact ⟨T', q', e1, n1, n2, by rw [upd_ne n1]; exact e2, by rw [upd_ne n2]; exact e3⟩
theorem TI.len {H0 H : Hp} {D : Addr} {ts : List Tun.Tn} (t : TI H0 H D ts) : ∃ xs, H D = some (.lst xs) ∧ xs.length = ts.length := by
  obtain ⟨_, _, xs, e, p⟩ := t
  exact ⟨xs, e, Paired.length p⟩
/-! ### as data -/
def psD (ps : List (List Bool)) : PyData := .list (ps.map fun p => .str (bS p))
def tD (t : Tun.Tn) : PyData := .tuple [.int t.1, .int t.2.1, psD t.2.2]
def tsD (ts : List Tun.Tn) : PyData := .list (ts.map tD)
theorem strs_dp {K : PySem.W.Frag} {H : Hp} : ∀ ps : List (List Bool), DpAll K H (pV ps) (ps.map fun p => .str (bS p))
  | [] => .nil
  | p :: r => .cons (.str _) (strs_dp r)
theorem TnAt.dp {K : PySem.W.Frag} {H : Hp} {D : Addr} {v : V} {t : Tun.Tn} (h : TnAt H D v t) : Dp K H v (tD t) := by
  obtain ⟨T, q, rfl, _, _, e1, e2⟩ := h
  exact .tup (SqT.of e1) (.cons (.int _) (.cons (.int _) (.cons (.lst (SqL.of e2) (strs_dp _)) .nil)))
theorem tns_dp {K : PySem.W.Frag} {H : Hp} {D : Addr} {xs : List V} {ts : List Tun.Tn} (p : Paired (TnAt H D) xs ts) : DpAll K H xs (ts.map tD) := by
  induction p with
  | nil => exact .nil
  | cons h _ ih => exact .cons h.dp ih
theorem TI.dp {K : PySem.W.Frag} {H0 H : Hp} {D : Addr} {ts : List Tun.Tn} (t : TI H0 H D ts) : Dp K H (.ref D) (tsD ts) := by
  obtain ⟨_, _, xs, e, p⟩ := t
  exact .lst (SqL.of e) (tns_dp p)
theorem bS_ok (l : List Bool) : PyData.strOk (bS l) = true := by
  unfold PyData.strOk bS
  rw [List.all_toArray, List.all_map, List.all_eq_true]
  intro b _
  cases b <;> rfl
theorem psD_lay (ps : List (List Bool)) : (psD ps).canLay0 = true := by
  unfold psD
  simp only [PyData.canLay0]
  induction ps with
  | nil => simp [PyData.canLayAll0]
  | cons p r ih => simp [PyData.canLayAll0, PyData.canLay0, ih, bS_ok]
theorem psD_depth (ps : List (List Bool)) : (psD ps).depth ≤ 1 := by
  have h : ∀ ps : List (List Bool), PyData.depthAll (ps.map fun p => PyData.str (bS p)) = 0 := by
    intro ps
    induction ps with
    | nil => simp [PyData.depthAll]
    | cons p r ih => simp [PyData.depthAll, PyData.depth, ih]
  unfold psD
  simp only [PyData.depth, h]
  omega
theorem tD_lay (t : Tun.Tn) : (tD t).canLay0 = true := by
  unfold tD
  simp [PyData.canLay0, PyData.canLayAll0, psD_lay]
theorem tD_depth (t : Tun.Tn) : (tD t).depth ≤ 2 := by
  have := psD_depth t.2.2
  unfold tD
  simp only [PyData.depth, PyData.depthAll]
  omega
theorem tD_shaped (t : Tun.Tn) : SeqAt.shaped (tD t) = true := by
  have h := tD_depth t
  show ((tD t).canLay0 && decide ((tD t).depth ≤ 64)) = true
  rw [Bool.and_eq_true]
  exact ⟨tD_lay t, decide_eq_true (by omega)⟩
theorem tsD_shaped (ts : List Tun.Tn) : SeqAt.shaped (tsD ts) = true := by
  have h1 : PyData.canLayAll0 (ts.map tD) = true := by
    induction ts with
    | nil => simp [PyData.canLayAll0]
    | cons t r ih => simp [PyData.canLayAll0, tD_lay, ih]
  have h2 : PyData.depthAll (ts.map tD) ≤ 2 := by
    clear h1
    induction ts with
    | nil => simp [PyData.depthAll]
    | cons t r ih =>
      have := tD_depth t
      simp only [List.map_cons, PyData.depthAll]
      omega
  show ((tsD ts).canLay0 && decide ((tsD ts).depth ≤ 64)) = true
  rw [Bool.and_eq_true]
  refine ⟨?_, decide_eq_true ?_⟩
  · unfold tsD
    simp only [PyData.canLay0]
    exact h1
  · unfold tsD
    simp only [PyData.depth]
    omega
end Tw
end

section
set_option Elab.async false
set_option linter.all false
set_option maxRecDepth 100000
set_option maxHeartbeats 4000000
/-! tunings. -/
namespace Tw
open PySem PySem.Spec PyProof.Rows L2
abbrev sTun : Stmt := top 14
theorem scTun : FnScope ["signal", "steps", "found", "bit_time", "gaps", "limit", "step"] ["signal"] (defScope sTun) := ⟨rfl, rfl, rfl, by decide +kernel, rfl, by decide +kernel, by decide +kernel⟩
def spTun (K : PySem.W.Frag) (T : Addr) : Sp := fun vs H Q _ => ∃ (a : Addr) (ns : List Int), vs = [.ref a] ∧ SqL K H a (ns.map V.int) ∧ ns.length ≤ 1000 ∧ (∀ x ∈ Tun.dists ns, -10000 ≤ x ∧ x ≤ 10000) ∧ GxR.TabG H T ∧
  ∀ H' p, TI H H' p (Tun.tun (Tun.dists ns)) → Q (.ref p) H'
theorem least0_bd {xs : List Int} (h : ∀ x ∈ xs, -10000 ≤ x ∧ x ≤ 10000) : -10000 ≤ Tun.least0 xs ∧ Tun.least0 xs ≤ 10000 := by
  by_cases e : xs = []
  · rw [e]
    exact ⟨by decide, by decide⟩
  · exact h _ (Tun.least0_mem e)
theorem lims_bd : ∀ x ∈ Tun.lims, 2 ≤ x ∧ x ≤ 7 := by
  intro x hx
  simp only [Tun.lims, List.mem_cons, List.not_mem_nil, or_false] at hx
  omega
theorem take_flat {β : Type} (f : Int → List β) {l : List Int} {j : Nat} (h : j < l.length) : (l.take (j + 1)).flatMap f = (l.take j).flatMap f ++ f l[j] := by
  rw [List.take_add_one, List.getElem?_eq_getElem h, List.flatMap_append]
  simp
section
variable {P : Program} {w : World} {K : PySem.W.Frag} {mg : Str → Option Value} {base : Heap}
theorem ok_tun {f f1 f2 f3 f4 T la : Addr} {fd fd1 fd2 fd3 fd4 : FuncData} (F : FnP K "tunings" sTun f fd) (C1 : Cal P w K mg base 1 "distances" ["signal"] (spDist K) f1 fd1) (C2 : Cal P w K mg base 1 "divides_all" ["number", "rows"] (spDiv K T) f2 fd2)
    (C3 : Cal P w K mg base 2 "strangers" ["limit", "gaps"] (spStr K) f3 fd3) (C4 : Cal P w K mg base 3 "read_gaps" ["limit", "gaps"] (spReads K) f4 fd4) (mr : mg "range" = none) (mm : mg "min" = none)
    (mL : mg "LIMITS" = some (.ref la)) (hL : ∀ H, SqT K H la (Tun.lims.map V.int)) : FnOk P w K mg base CX0 4 f fd ["signal"] (spTun K T) := by
  refine F.ok scTun (fun vs H Q E h => ?_) (fun cdv A outer s H vs Q E hr h => ?_)
  · obtain ⟨a, ns, rfl, _⟩ := h
    rfl
  · obtain ⟨a, ns, rfl, hS, hlen, hmax, hT, q⟩ := h
    refine ⟨_, PSs.nox (pss_cons (ps_set (i := 1) scTun.nd rfl (.inl rfl) (pe_cal C1 hr (pa_cons (pv 0) pa_nil)))
      (pss_cons (ps_set (i := 2) scTun.nd rfl (.inl rfl) (pe_lst pa_nil))
      (pss_cons (ps_for PassesOwn.never rfl (pi_range2 (by rfl) mr (pa_cons pe_int (pa_cons (pe_op op_add (pe_callBK (TunR.cr_minD rfl) (by rfl) mm PyProof.Rows.boot_min (pa_cons (pv 1) pa_nil) (pk_cons pe_int pk_nil)) pe_int) pa_nil))) (pg_name (i := 3) scTun.nd rfl (.inr rfl))
        (pss_one (ps_if (pt_val (pe_cal C2 hr (pa_cons (pv 3) (pa_cons (pv 1) pa_nil))))
          (pss_cons (ps_setLc (i := 4) (own := [("step", 6)]) (g := gName 6) (tt := tYes) (te := tOp (rI CDiv fun i j => .int (i / j)) (tVar 6) (tVar 3)) (by rfl) scTun.nd rfl rfl (sw_true rfl rfl rfl (by decide +kernel)) (pi_list (pv 1))
              (blkOk_by (own := [("step", 6)]) (N := ["signal", "steps", "found", "bit_time", "gaps", "limit", "step"]) (sc := defScope sTun) (by decide +kernel))
              (fun _ _ _ _ _ => pg_name (i := 6) scTun.nd rfl (.inl rfl) (.inr rfl)) (fun _ _ _ _ _ => pts_nil) (fun _ _ _ _ _ => pe_op op_fdiv (pv 6) (pv 3)))
          (pss_one (ps_for PassesOwn.never rfl (pi_tup (pe_glob (v := .ref la) (by rfl) mL rfl)) (pg_name (i := 5) scTun.nd rfl (.inl rfl))
            (pss_one (ps_if (pt_cmpR op_eq (pe_cal C3 hr (pa_cons (pv 5) (pa_cons (pv 4) pa_nil))) pe_int (nomark _))
              (pss_one (ps_expr (pe_bm PySem.F.plainAttrs_list PySem.F.slot_list_append PySem.F.type_list_append mt_append (pv 2)
                (pa_cons (pe_tup (pa_cons (pv 3) (pa_cons (pv 5) (pa_cons (pe_cal C4 hr (pa_cons (pv 5) (pa_cons (pv 4) pa_nil))) pa_nil)))) pa_nil)))) pss_nil))))) pss_nil)))
      (pss_one (ps_ret (pv 2)))))), ?_⟩
    have hline := line1000
    -- steps = distances(signal); found = []
    refine ⟨_, rfl, a, ns, rfl, hS, hlen, fun H1 S s1 S0 hS1 => ?_⟩
    have hT1 : GxR.TabG H1 T := (Gr.of s1).tab T hT
    generalize hst : Tun.dists ns = steps at hS1 hmax q
    have hsl : steps.length ≤ 1000 := by
      rw [← hst, Tun.dists_len]
      omega
    refine ⟨Nat.zero_le _, fun D hD => ?_⟩
    have hSD : S ≠ D := ne_of_none hS1 hD
    have hm := least0_bd hmax
    generalize hmm : Tun.least0 steps = m at hm
    have hmge : (steps = [] → m = 0) ∧ ∀ y ∈ steps, (∀ z ∈ steps, y ≤ z) → y = m := by
      refine ⟨fun e => ?_, fun y hy hl => ?_⟩
      · rw [← hmm, e]
        rfl
      · rw [← hmm]
        exact (Tun.least0_of hy hl).symm
    have t0 : TI H1 (upd H1 D (.lst [])) D [] := TI.nil hD
    -- the range
    have rng : ∀ (R : V → Hp → Prop), R (.int (m + 1)) (upd H1 D (.lst [])) →
        (tOp (rI0 fun i j => .int (i + j)) (tCKw (TunR.rMinD K) (tCons (tVar 1) tNil) (tCons (tC (.int 0)) tNil)) (tC (.int 1))) [some (.ref a), some (.ref S), some (.ref D), none, none, none, none] (upd H1 D (.lst [])) R := by
      intro R hR
      refine ⟨_, rfl, S, steps, 0, rfl, rfl, SqL.of (by rw [upd_ne hSD]; exact hS1), fun e => ?_, fun y hy hl => ?_⟩
      · refine ⟨_, _, rfl, rfl, ?_⟩
        rw [← hmge.1 e]
        exact hR
      · refine ⟨_, _, rfl, rfl, ?_⟩
        rw [hmge.2 y hy hl]
        exact hR
    refine rng _ ?_
    refine ⟨1, m + 1, rfl, ⟨by omega, by omega, by omega, by omega⟩, ?_⟩
    have en : (m + 1 - 1).toNat = m.toNat := by omega
    rw [en]
    refine for_range (lo := 1) (n := m.toNat) (fun k σ H' => ∃ x3 x4 x5 : Option V, TI H1 H' D (Tun.tunP steps k) ∧ σ = [some (.ref a), some (.ref S), some (.ref D), x3, x4, x5, none]) ⟨none, none, none, t0, rfl⟩ ?_ ?_
    · rintro k σ H2 hk ⟨x3, x4, x5, t, rfl⟩
      have hT2 : GxR.TabG H2 T := t.gr.tab T hT1
      have hS2 : H2 S = some (.lst (steps.map V.int)) := t.gr.lst hS1
      have hb : (0 : Int) < 1 + (k : Int) ∧ (1 + (k : Int)) < 1073741824 := by omega
      have hk6 : k ≤ 10000 := by omega
      have hsucc := Tun.tunP_succ steps k
      have hplen := Tun.tunP_len steps k
      revert hsucc hplen
      generalize hpre : Tun.tunP steps k = pre at t
      generalize Tun.tunP steps (k + 1) = nxt
      generalize hbv : (1 + (k : Int)) = b at hb
      intro hsucc hplen
      -- if divides_all(bit_time, steps)
      refine ⟨_, rfl, _, rfl, b, S, steps, rfl, SqL.of hS2, hb.1, hT2, fun H3 g3 => ⟨_, rfl, ?_⟩⟩
      have gr3 := Gr.tabbed hT2 g3
      have t3 := t.grow gr3
      have hS3 := gr3.lst hS2
      cases hd : steps.all fun s => s % b == 0 with
      | false =>
        refine iteF ⟨_, _, _, ?_, rfl⟩
        have e : Tun.tunB steps b = [] := by
          unfold Tun.tunB
          rw [hd]
          rfl
        rw [hsucc, e, List.append_nil]
        exact t3
      | true =>
        have eB : Tun.tunB steps b = Tun.lims.flatMap (Tun.tunL b (steps.map fun s => s / b)) := by
          unfold Tun.tunB
          rw [hd]
          rfl
        rw [eB] at hsucc
        refine iteT ?_
        -- gaps
        refine ⟨_, rfl, S, rfl, ⟨_, SqL.of hS3⟩, fun G hG => lc_list (K := K) (a := S) (xs := steps.map V.int) (fun i H' => Same H3 H' ∧ H' G = some (.lst (((steps.take i).map fun s => s / b).map V.int))) ⟨same_upd hG, upd_same⟩ (fun i H' _ hb => hb.1.seq (SqL.of hS3)) ?_ ?_⟩
        · rintro i x H' hi ⟨s4, h4⟩
          obtain ⟨hil, rfl⟩ := map_at hi
          refine ⟨rfl, ?_⟩
          refine yes_if ?_
          refine ⟨_, rfl, _, rfl, _, _, rfl, rfl, hb, _, h4, ?_, ?_, ?_⟩
          · rw [List.length_map, List.length_map, List.length_take]
            omega
          · intro c o e
            rw [upd_ne (ne_of_none e hG)]
            exact s4 _ _ e
          · rw [upd_same, List.take_add_one, List.getElem?_eq_getElem hil, List.map_append, List.map_append]
            rfl
        · rintro H4 ⟨s4, h4⟩
          rw [List.length_map, List.take_length] at h4
          have t4 := t3.grow (.of s4)
          have hGl : (steps.map fun s => s / b).length ≤ 1000 := by
            rw [List.length_map]
            exact hsl
          generalize (steps.map fun s => s / b) = gaps at h4 hsucc hGl
          have hGD : G ≠ D := by
            obtain ⟨xs, e, _⟩ := t3.len
            exact fun z => by
              rw [z, e] at hG
              cases hG
          refine ⟨la, rfl, ⟨_, hL _⟩, for_tup (K := K) (a := la) (xs := Tun.lims.map V.int) (fun j σ H' => ∃ x5 : Option V, TI H1 H' D (pre ++ (Tun.lims.take j).flatMap (Tun.tunL b gaps)) ∧ H' G = some (.lst (gaps.map V.int)) ∧
            σ = [some (.ref a), some (.ref S), some (.ref D), some (.int b), some (.ref G), x5, none]) ⟨_, by rw [List.take_zero, List.flatMap_nil, List.append_nil]; exact t4, h4, rfl⟩ (fun _ _ H' _ _ => hL H') ?_ ?_⟩
          · rintro j x σ H5 hj ⟨x5', t5, h5, rfl⟩
            obtain ⟨hjl, rfl⟩ := map_at hj
            have hLb := lims_bd _ (List.getElem_mem hjl)
            have hfl := take_flat (Tun.tunL b gaps) hjl
            have hlen5 : ((Tun.lims.take j).flatMap (Tun.tunL b gaps)).length ≤ 6 := by
              have h1 := Tun.flatMap_len (Tun.tunL b gaps) 1 (Tun.tunL_len b gaps) (Tun.lims.take j)
              have h2 : (Tun.lims.take j).length ≤ 6 := by
                rw [List.length_take]
                show min j 6 ≤ 6
                omega
              omega
            revert hfl hlen5
            generalize (Tun.lims.take (j + 1)).flatMap (Tun.tunL b gaps) = fl1
            generalize (Tun.lims.take j).flatMap (Tun.tunL b gaps) = fl0 at t5
            generalize Tun.lims[j] = L at hLb
            intro hfl hlen5
            -- if strangers(limit, gaps) == 0
            refine ⟨_, rfl, _, rfl, L, G, gaps, rfl, SqL.of h5, hGl, fun H6 s6 => ⟨rfl, _, rfl, ?_⟩⟩
            have t6 := t5.grow (.of s6)
            have h6 := s6 _ _ h5
            rw [dec_intV]
            refine ite2 (fun h => ?_) (fun h => ?_)
            · have hz : Tun.strangers L gaps = 0 := by
                have := of_decide_eq_true h
                omega
              have eL : Tun.tunL b gaps L = [(b, L, Tun.reads L gaps)] := by
                unfold Tun.tunL
                rw [if_pos hz]
              obtain ⟨xs, hx, hxl⟩ := t6.len
              refine ⟨_, rfl, .inl ⟨rfl, _, SqL.of hx⟩, _, rfl, _, rfl, _, rfl, _, rfl, L, G, gaps, rfl, SqL.of h6, hLb.1, hLb.2, hGl, fun H7 r s7 nr hr7 => ⟨by show 3 ≤ sizeLine; omega, fun T' nT' => ?_⟩⟩
              have t7 := t6.grow (.of s7)
              have g8 : Gr H7 (upd H7 T' (.tup [.int b, .int L, .ref r])) := .of (same_upd nT')
              have t8 := t7.grow g8
              have hx8 := g8.lst (s7 _ _ hx)
              have nTD : T' ≠ D := fun z => by
                rw [z, s7 _ _ hx] at nT'
                cases nT'
              have nrD : r ≠ D := fun z => by
                rw [z, hx] at nr
                cases nr
              refine ⟨D, xs, _, rfl, rfl, hx8, ?_, _, ?_, ?_, rfl⟩
              · rw [hxl, List.length_append]
                omega
              · have t9 := t8.push hx8 nTD nrD upd_same (g8.lst hr7)
                rw [List.append_assoc] at t9
                rw [hfl, eL]
                exact t9
              · rw [upd_ne hGD]
                exact g8.lst (s7 _ _ h6)
            · have hz : ¬ Tun.strangers L gaps = 0 := fun z => h (decide_eq_true (by omega))
              have eL : Tun.tunL b gaps L = [] := by
                unfold Tun.tunL
                rw [if_neg hz]
              refine ⟨_, ?_, h6, rfl⟩
              rw [hfl, eL, List.append_nil]
              exact t6
          · rintro σ H5 ⟨x5', t5, h5, rfl⟩
            refine ⟨_, _, _, ?_, rfl⟩
            rw [hsucc]
            have e : (Tun.lims.take (Tun.lims.map V.int).length) = Tun.lims := rfl
            rw [e] at t5
            exact t5
    · rintro σ H2 ⟨x3, x4, x5, t, rfl⟩
      refine ⟨_, rfl, q H2 D ⟨(Gr.of s1).trans t.gr, s1.free t.fr, ?_⟩⟩
      have e : Tun.tun steps = Tun.tunP steps m.toNat := by
        unfold Tun.tun Tun.tunP
        rw [hmm]
      rw [e]
      exact t.at_
end
end Tw
end

section
set_option Elab.async false
set_option linter.all false
set_option maxRecDepth 100000
set_option maxHeartbeats 4000000
/-! shift_at, check_edges, signal_of. -/
namespace Tw
open PySem PySem.Spec PyProof.Rows L2
abbrev sShift : Stmt := top 19
abbrev sCheck : Stmt := top 20
abbrev sSig : Stmt := top 21
theorem scShift : FnScope ["shifts", "at"] ["shifts", "at"] (defScope sShift) := ⟨rfl, rfl, rfl, by decide +kernel, rfl, by decide +kernel, by decide +kernel⟩
theorem scCheck : FnScope ["edges", "before", "edge"] ["edges"] (defScope sCheck) := ⟨rfl, rfl, rfl, by decide +kernel, rfl, by decide +kernel, by decide +kernel⟩
theorem scSig : FnScope ["bits", "start", "bit_time", "shifts", "edges", "at", "place"] ["bits", "start", "bit_time", "shifts"] (defScope sSig) := ⟨rfl, rfl, rfl, by decide +kernel, rfl, by decide +kernel, by decide +kernel⟩
def spShift (K : PySem.W.Frag) : Sp := fun vs H Q _ => ∃ (a : Addr) (i : Int), vs = [.ref a, .int i] ∧ SqT K H a [] ∧ 0 ≤ i ∧ Q (.int 0) H
def spCheck (K : PySem.W.Frag) : Sp := fun vs H Q _ => ∃ (a : Addr) (ns : List Int), vs = [.ref a] ∧ SqL K H a (ns.map V.int) ∧ ns.Pairwise (· < ·) ∧ (∀ x ∈ ns, 0 ≤ x) ∧ Q .non H
def spSig (K : PySem.W.Frag) : Sp := fun vs H Q _ => ∃ (bs : List Bool) (st bt : Int) (a : Addr), vs = [.str (bS bs), .int st, .int bt, .ref a] ∧ SqT K H a [] ∧ 0 ≤ st ∧ 1 ≤ bt ∧ bt ≤ 2000 ∧ bs.length ≤ 1000 ∧
  ∀ H' p, Same H H' → H p = none → H' p = some (.lst ((Tun.edges st bt bs).map V.int)) → Q (.ref p) H'
section
variable {P : Program} {w : World} {K : PySem.W.Frag} {mg : Str → Option Value} {base : Heap}
theorem ok_shift {f : Addr} {fd : FuncData} (F : FnP K "shift_at" sShift f fd) (ml : mg "len" = none) : FnOk P w K mg base CX0 1 f fd ["shifts", "at"] (spShift K) := by
  refine F.ok scShift (fun vs H Q E h => ?_) (fun cdv A outer s H vs Q E hr h => ?_)
  · obtain ⟨a, i, rfl, _⟩ := h
    rfl
  · obtain ⟨a, i, rfl, hS, h0, q⟩ := h
    refine ⟨_, PSs.nox (pss_one (ps_ret (pe_ifExp (pt_cmpR op_lt (pv 1) (pe_callB call_len_seq (by rfl) ml PySem.boot_len (pa_cons (pv 0) pa_nil)) (nomark _)) (pe_ix ix_tup (pv 0) (pv 1) (fun _ _ => rfl)) pe_int))), ?_⟩
    refine ⟨_, rfl, _, rfl, a, _, rfl, .inr hS, _, _, rfl, rfl, _, rfl, ?_⟩
    refine ite2 (fun h => ?_) (fun h => q)
    have h := of_decide_eq_true h
    simp only [List.length_nil] at h
    omega
theorem ok_check {f : Addr} {fd : FuncData} (F : FnP K "check_edges" sCheck f fd) : FnOk P w K mg base CX0 1 f fd ["edges"] (spCheck K) := by
  refine F.ok scCheck (fun vs H Q E h => ?_) (fun cdv A outer s H vs Q E hr h => ?_)
  · obtain ⟨a, ns, rfl, _⟩ := h
    rfl
  · obtain ⟨a, ns, rfl, hS, hp, h0, q⟩ := h
    refine ⟨_, PSs.nox (pss_cons (ps_set (i := 1) scCheck.nd rfl (.inl rfl) (pe_un un_neg pe_int))
      (pss_one (ps_for PassesOwn.never rfl (pi_list (pv 0)) (pg_name (i := 2) scCheck.nd rfl (.inl rfl))
        (pss_cons (ps_if (pt_cmpR op_le (pv 2) (pv 1) (nomark _)) pss_never pss_nil) (pss_one (ps_set (i := 1) scCheck.nd rfl (.inl rfl) (pv 2))))))), ?_⟩
    refine ⟨1, rfl, _, rfl, a, rfl, ⟨_, hS⟩, for_list (K := K) (a := a) (xs := ns.map V.int) (fun i σ H' => H' = H ∧ ∃ (bf : Int) (x : Option V), (∀ j (hj : j < ns.length), i ≤ j → bf < ns[j]) ∧ σ = [some (.ref a), some (.int bf), x])
      ⟨rfl, -1, none, fun j hj _ => ?_, rfl⟩ (fun i σ H' _ h => by rw [h.1]; exact hS) ?_ ?_⟩
    · have := h0 _ (List.getElem_mem hj)
      omega
    · rintro i x σ H' hi ⟨rfl, bf, x', hb, rfl⟩
      obtain ⟨hil, rfl⟩ := map_at hi
      have hlt := hb i hil (Nat.le_refl _)
      refine ⟨_, rfl, _, rfl, _, _, rfl, rfl, _, rfl, ?_⟩
      refine ite2 (fun h => ?_) (fun h => ?_)
      · have h := of_decide_eq_true h
        omega
      · refine ⟨_, rfl, rfl, _, _, fun j hj hij => ?_, rfl⟩
        exact List.pairwise_iff_getElem.mp hp i j hil hj (by omega)
    · rintro σ H' ⟨rfl, bf, x', hb, rfl⟩
      exact q
theorem ok_sig {f f1 f2 f3 : Addr} {fd fd1 fd2 fd3 : FuncData} (F : FnP K "signal_of" sSig f fd) (C1 : Cal P w K mg base 1 "zeros_of" ["bits"] spZeros f1 fd1) (C2 : Cal P w K mg base 1 "shift_at" ["shifts", "at"] (spShift K) f2 fd2)
    (C3 : Cal P w K mg base 1 "check_edges" ["edges"] (spCheck K) f3 fd3) (me : mg "enumerate" = none) : FnOk P w K mg base CX0 2 f fd ["bits", "start", "bit_time", "shifts"] (spSig K) := by
  refine F.ok scSig (fun vs H Q E h => ?_) (fun cdv A outer s H vs Q E hr h => ?_)
  · obtain ⟨bs, st, bt, a, rfl, _⟩ := h
    rfl
  · obtain ⟨bs, st, bt, a, rfl, hS, h0, hb1, hb2, hl, q⟩ := h
    refine ⟨_, PSs.nox (pss_cons (ps_set (i := 4) scSig.nd rfl (.inl rfl) (pe_lst pa_nil))
      (pss_cons (ps_for PassesOwn.never rfl (pi_enum (by rfl) me (pa_cons (pe_cal C1 hr (pa_cons (pv 0) pa_nil)) pa_nil)) (pg_tup rfl (pgs_cons (pg_name (i := 5) scSig.nd rfl (.inl rfl)) (pgs_cons (pg_name (i := 6) scSig.nd rfl (.inl rfl)) pgs_nil)))
        (pss_one (ps_expr (pe_bm PySem.F.plainAttrs_list PySem.F.slot_list_append PySem.F.type_list_append mt_append (pv 4)
          (pa_cons (pe_op op_add (pe_op op_add (pv 1) (pe_op op_mul (pv 6) (pv 2))) (pe_cal C2 hr (pa_cons (pv 3) (pa_cons (pv 5) pa_nil)))) pa_nil)))))
      (pss_cons (ps_expr (pe_cal C3 hr (pa_cons (pv 4) pa_nil)))
      (pss_one (ps_ret (pv 4)))))), ?_⟩
    have hline := line1000
    refine ⟨Nat.zero_le _, fun D hD => ?_⟩
    have s0 : Same H (upd H D (.lst [])) := same_upd hD
    have hD0 : (upd H D (.lst [])) D = some (.lst []) := upd_same
    revert s0 hD0
    generalize upd H D (.lst []) = H1
    intro s0 hD0
    refine ⟨_, rfl, bs, rfl, hl, fun H2 Z s1 Z0 hZ => ?_⟩
    have hZD : Z ≠ D := fun z => by
      rw [z, hD0] at Z0
      cases Z0
    have hzl := Tun.zerosFrom_len bs 0
    have sig0 : Same H H2 := s0.trans s1
    refine ⟨Z, _, rfl, SqL.of hZ, for_it walk_enum (fun i σ H' => Same H H' ∧ H' Z = some (.lst ((Tun.zeros bs).map V.int)) ∧ H' D = some (.lst (((Tun.edges st bt bs).take i).map V.int)) ∧ ∃ (x y : Option V),
      σ = [some (.str (bS bs)), some (.int st), some (.int bt), some (.ref a), some (.ref D), x, y]) ⟨sig0, hZ, s1 _ _ hD0, none, none, rfl⟩ (fun i σ H' _ h => SqL.of h.2.1) ?_ ?_⟩
    · rintro i x σ H3 H4 hi ⟨s3, hZ3, hD3, x5, x6, rfl⟩ ⟨T, x, y, rfl, hT, rfl, hx, hy⟩
      obtain rfl := Option.some.inj hx
      obtain ⟨hil, rfl⟩ := map_at hy
      have hTD : D ≠ T := ne_of_none hD3 hT
      have hTZ : Z ≠ T := ne_of_none hZ3 hT
      have s4 : Same H3 (upd H3 T (.tup [.int (i : Nat), .int (Tun.zeros bs)[i]])) := same_upd hT
      have eg : (Tun.edges st bt bs)[i]? = some (st + (Tun.zeros bs)[i] * bt) := by
        unfold Tun.edges
        rw [List.getElem?_map, List.getElem?_eq_getElem hil]
        rfl
      have hzb := Tun.zerosFrom_mem bs 0 _ (List.getElem_mem hil)
      have hzb2 : 0 ≤ (Tun.zeros bs)[i] ∧ (Tun.zeros bs)[i] < 0 + (bs.length : Int) := hzb
      generalize (Tun.zeros bs)[i] = z at eg hzb2 s4 ⊢
      have hS4 : SqT K (upd H3 T (.tup [.int (i : Nat), .int z])) a [] := Same.seqT (s3.trans s4) hS
      refine ⟨T, _, rfl, .inl (.inl upd_same), rfl, _, _, rfl, _, _, rfl, rfl, ?_⟩
      refine ⟨_, rfl, .inl ⟨rfl, _, SqL.of (by rw [upd_ne hTD]; exact hD3)⟩, _, rfl, _, rfl, _, rfl, _, _, rfl, rfl, .inl ⟨by omega, by omega⟩, _, _, rfl, rfl, _, rfl, _, rfl, a, i, rfl, hS4, by omega, _, _, rfl, rfl, D, _, _, rfl, rfl, by rw [upd_ne hTD]; exact hD3, ?_, ?_⟩
      · rw [List.length_map, List.length_take]
        have := Tun.edges_len st bt bs
        omega
      · refine ⟨fun b o e => ?_, ?_, ?_, _, _, rfl⟩
        · rw [upd_ne (ne_of_none e hD)]
          exact s4 _ _ (s3 _ _ e)
        · rw [upd_ne hZD]
          exact s4 _ _ hZ3
        · rw [upd_same, List.take_add_one, eg, List.map_append]
          show some (HO.lst (_ ++ [V.int (st + z * bt + 0)])) = _
          rw [Int.add_zero]
          rfl
    · rintro σ H3 ⟨s3, hZ3, hD3, x5, x6, rfl⟩
      have e : (Tun.edges st bt bs).take ((Tun.zeros bs).map V.int).length = Tun.edges st bt bs := by
        apply List.take_of_length_le
        unfold Tun.edges
        rw [List.length_map, List.length_map]
        exact Nat.le_refl _
      rw [e] at hD3
      refine ⟨_, rfl, D, _, rfl, SqL.of hD3, Tun.edges_asc hb1 bs, Tun.edges_nonneg h0 hb1 bs, ?_⟩
      exact ⟨_, rfl, q H3 D s3 hD hD3⟩
end
end Tw
end

section
set_option Elab.async false
set_option linter.all false
set_option maxRecDepth 100000
set_option maxHeartbeats 4000000
/-! The law's own helpers: _law_cell, _law_draws, _law_bits, _law_signal. -/
namespace Tw
open PySem PySem.Spec PyProof.Rows L2
abbrev sCell : Stmt := top 23
abbrev sDraws : Stmt := top 24
abbrev sBits : Stmt := top 25
abbrev sSigl : Stmt := top 27
theorem scCell : FnScope ["_law_script", "_law_k"] ["_law_script", "_law_k"] (defScope sCell) := ⟨rfl, rfl, rfl, by decide +kernel, rfl, by decide +kernel, by decide +kernel⟩
theorem scDraws : FnScope ["_law_cell_here", "_law_count", "_law_found", "_law_is_wide", "_law_k", "_law_mixed"] ["_law_cell_here", "_law_count"] (defScope sDraws) := ⟨rfl, rfl, rfl, by decide +kernel, rfl, by decide +kernel, by decide +kernel⟩
theorem scBits : FnScope ["_law_cell_here", "_law_most", "_law_draws_here", "_law_heavy", "_law_k"] ["_law_cell_here", "_law_most"] (defScope sBits) := ⟨rfl, rfl, rfl, by decide +kernel, rfl, by decide +kernel, by decide +kernel⟩
theorem scSigl : FnScope ["_law_cell_here", "_law_many", "_law_size", "_law_draws_here", "_law_edges", "_law_k"] ["_law_cell_here", "_law_many", "_law_size"] (defScope sSigl) := ⟨rfl, rfl, rfl, by decide +kernel, rfl, by decide +kernel, by decide +kernel⟩
def spCell (K : PySem.W.Frag) : Sp := fun vs H Q _ => ∃ (a : Addr) (ns : List Int) (j : Nat), vs = [.ref a, .int (j : Int)] ∧ SqL K H a (ns.map V.int) ∧ ∀ c : Int, Q (.int c) H
def spDraws : Sp := fun vs H Q _ => ∃ (c : Int) (n : Nat), vs = [.int c, .int (n : Int)] ∧ n ≤ 1000 ∧ ∀ (ds : List Int) H' p, ds.length = n → Same H H' → H p = none → H' p = some (.lst (ds.map V.int)) → Q (.ref p) H'
def spBits : Sp := fun vs H Q _ => ∃ (c : Int) (n : Nat), vs = [.int c, .int (n : Int)] ∧ n ≤ 100 ∧ ∀ (bs : List Bool) H', bs.length ≤ n → Same H H' → Q (.str (bS bs)) H'
def spSigl : Sp := fun vs H Q _ => ∃ (c : Int) (n : Nat) (z : Int), vs = [.int c, .int (n : Int), .int z] ∧ n ≤ 100 ∧ 1 ≤ z ∧ z ≤ 100 ∧
  ∀ (ns : List Int) H' p, ns.length ≤ n → (∀ x ∈ Tun.dists ns, 1 ≤ x ∧ x ≤ 200) → Same H H' → H p = none → H' p = some (.lst (ns.map V.int)) → Q (.ref p) H'
theorem join_bits : ∀ bs : List Bool, Txt.join ("" : Str) (bs.map fun b => bS [b]) = bS bs := by
  intro bs
  rw [TL.join_eq]
  induction bs with
  | nil =>
    show Str.join _ [] = _
    decide +kernel
  | cons b r ih =>
    cases r with
    | nil => rfl
    | cons c r =>
      show bS [b] ++ ("" : Str) ++ Str.join ("" : Str) ((c :: r).map fun b => bS [b]) = _
      rw [ih, bS_nil, bS_app, bS_app]
      rfl
theorem sign_sum : ∀ bs : List Bool, ((bs.map fun b => bS [b]).map (·.length)).sum = bs.length
  | [] => rfl
  | b :: r => by
    rw [List.map_cons, List.map_cons, List.sum_cons, sign_sum r, List.length_cons]
    show 1 + r.length = r.length + 1
    omega
abbrev rInt1 : List V → Hp → VK → Prop := fun xs H Q => (∃ i, xs = [.int i] ∧ Q (.int i) H) ∨ ∃ k, xs = [.bl k] ∧ Q (.int (if k then 1 else 0)) H
abbrev rStrI : List V → Hp → VK → Prop := fun xs H Q => ∃ i, xs = [.int i] ∧ i.natAbs.log2 < 1920 ∧ Q (.str (toString i)) H
theorem str_bit (b : Bool) : ((toString (if b = true then (1 : Int) else 0) : String) : Str) = bS [b] := by
  cases b with
  | true =>
    show ((toString (1 : Int) : String) : Str) = bS [true]
    decide +kernel
  | false =>
    show ((toString (0 : Int) : String) : Str) = bS [false]
    decide +kernel
section
variable {P : Program} {w : World} {K : PySem.W.Frag} {mg : Str → Option Value} {base : Heap}
theorem ok_cell {f : Addr} {fd : FuncData} (F : FnP K "_law_cell" sCell f fd) (ml : mg "len" = none) : FnOk P w K mg base CX0 1 f fd ["_law_script", "_law_k"] (spCell K) := by
  refine F.ok scCell (fun vs H Q E h => ?_) (fun cdv A outer s H vs Q E hr h => ?_)
  · obtain ⟨a, ns, j, rfl, _⟩ := h
    rfl
  · obtain ⟨a, ns, j, rfl, hS, q⟩ := h
    refine ⟨_, PSs.nox (pss_cons (ps_if (pt_cmpR op_lt (pv 1) (pe_callB call_len_seq (by rfl) ml PySem.boot_len (pa_cons (pv 0) pa_nil)) (nomark _)) (pss_one (ps_ret (pe_ix ix_list (pv 0) (pv 1) (fun _ _ => rfl)))) pss_nil) (pss_one (ps_ret pe_int))), ?_⟩
    refine ⟨_, rfl, _, rfl, a, _, rfl, .inl hS, _, _, rfl, rfl, _, rfl, ?_⟩
    refine ite2 (fun h => ?_) (fun h => q 0)
    have h := of_decide_eq_true h
    rw [List.length_map] at h
    have hj : j < ns.length := by omega
    refine ⟨_, rfl, _, rfl, a, _, _, .int ns[j], rfl, rfl, hS, at_of (j := j) rfl ?_, q _⟩
    rw [List.getElem?_map, List.getElem?_eq_getElem hj]
    rfl
theorem ok_draws {f : Addr} {fd : FuncData} (F : FnP K "_law_draws" sDraws f fd) (mr : mg "range" = none) (mi : mg "int" = none) : FnOk P w K mg base CX0 1 f fd ["_law_cell_here", "_law_count"] spDraws := by
  refine F.ok scDraws (fun vs H Q E h => ?_) (fun cdv A outer s H vs Q E hr h => ?_)
  · obtain ⟨c, n, rfl, _⟩ := h
    rfl
  · obtain ⟨c, n, rfl, hn, q⟩ := h
    refine ⟨_, PSs.nox (pss_cons (ps_set (i := 2) scDraws.nd rfl (.inl rfl) (pe_lst pa_nil))
      (pss_cons (ps_set (i := 3) scDraws.nd rfl (.inl rfl) (pe_cmpR op_ge (pv 0) (pe_op op_pow pe_int pe_int) (nomark _)))
      (pss_cons (ps_for PassesOwn.never rfl (pi_range1 (by rfl) mr (pa_cons (pv 1) pa_nil)) (pg_name (i := 4) scDraws.nd rfl (.inl rfl))
        (pss_one (ps_if (pt_val (pv 3))
          (pss_cons (ps_expr (pe_bm PySem.F.plainAttrs_list PySem.F.slot_list_append PySem.F.type_list_append mt_append (pv 2) (pa_cons (pe_op op_mod (pe_callTy call_int1 (by rfl) mi PyProof.Rows.boot_int (pa_cons (pv 0) pa_nil)) pe_int) pa_nil)))
          (pss_one (ps_set (i := 0) scDraws.nd rfl (.inl rfl) (pe_op op_fdiv (pv 0) pe_int))))
          (pss_cons (ps_set (i := 5) scDraws.nd rfl (.inl rfl) (pe_op op_mod (pe_callTy call_int1 (by rfl) mi PyProof.Rows.boot_int (pa_cons (pe_op op_add (pe_op op_mul (pv 0) pe_int) (pe_op op_mul (pv 4) pe_int)) pa_nil)) pe_int))
          (pss_one (ps_expr (pe_bm PySem.F.plainAttrs_list PySem.F.slot_list_append PySem.F.type_list_append mt_append (pv 2)
            (pa_cons (pe_op op_mod (pe_callTy call_int1 (by rfl) mi PyProof.Rows.boot_int (pa_cons (pe_op op_add (pe_op op_add (pe_op op_mul (pv 5) (pv 5)) (pe_op op_mul (pv 0) pe_int)) (pv 4)) pa_nil)) pe_int) pa_nil))))))))
      (pss_one (ps_ret (pv 2)))))), ?_⟩
    have hline := line1000
    refine ⟨Nat.zero_le _, fun D hD => ?_⟩
    refine ⟨_, rfl, _, _, rfl, rfl, ⟨by decide, by decide, by decide⟩, _, _, rfl, rfl, ?_⟩
    obtain ⟨wide, hw⟩ : ∃ wide, wide = decide ((10 : Int) ^ (18 : Int).toNat ≤ c) := ⟨_, rfl⟩
    refine ⟨_, rfl, (n : Int), rfl, by omega, by omega, ?_⟩
    have en : (n : Int).toNat = n := by omega
    rw [en]
    refine for_range (lo := 0) (n := n) (fun i σ H' => ∃ (c' : Int) (ds : List Int) (x4 x5 : Option V), ds.length = i ∧ Same H H' ∧ H' D = some (.lst (ds.map V.int)) ∧
      σ = [some (.int c'), some (.int (n : Int)), some (.ref D), some (.bl wide), x4, x5]) ⟨c, [], none, none, rfl, same_upd hD, upd_same, by rw [hw]; rfl⟩ ?_ ?_
    · rintro i σ H' hi ⟨c', ds, x4, x5, hl, s1, h1, rfl⟩
      have push : ∀ (y : Int), Same H (upd H' D (.lst (ds.map V.int ++ [.int y]))) ∧ (upd H' D (.lst (ds.map V.int ++ [.int y]))) D = some (.lst ((ds ++ [y]).map V.int)) := by
        intro y
        refine ⟨fun b o e => ?_, ?_⟩
        · rw [upd_ne (ne_of_none e hD)]
          exact s1 _ _ e
        · rw [upd_same, List.map_append]
          rfl
      have hsz : (ds.map V.int).length < sizeLine := by
        rw [List.length_map]
        omega
      refine ⟨_, rfl, _, rfl, ?_⟩
      cases wide with
      | true =>
        refine iteT ⟨_, rfl, .inl ⟨rfl, _, SqL.of h1⟩, _, rfl, .inl ⟨_, rfl, _, _, rfl, rfl, (by show (0 : Int) < 1009; decide), D, _, _, rfl, rfl, h1, hsz, ?_⟩⟩
        refine ⟨_, rfl, _, _, rfl, rfl, ⟨by decide, by decide⟩, _, ds ++ [c' % 1009], _, _, by rw [List.length_append, hl]; rfl, (push _).1, (push _).2, rfl⟩
      | false =>
        refine iteF ⟨_, rfl, _, _, rfl, rfl, .inr ⟨by decide, by decide⟩, _, rfl, _, _, rfl, rfl, .inr ⟨by decide, by decide⟩, _, _, rfl, rfl, .inl ⟨_, rfl, _, _, rfl, rfl, (by show (0 : Int) < 2147483647; decide), ?_⟩⟩
        have b0 := Int.emod_nonneg (c' * 48271 + (0 + (i : Int)) * 69621) (show (2147483647 : Int) ≠ 0 by decide)
        have b1 := Int.emod_lt_of_pos (c' * 48271 + (0 + (i : Int)) * 69621) (show (0 : Int) < 2147483647 by decide)
        generalize hmx : (c' * 48271 + (0 + (i : Int)) * 69621) % 2147483647 = mx at b0 b1
        refine ⟨_, rfl, .inl ⟨rfl, _, SqL.of h1⟩, _, rfl, _, rfl, _, _, rfl, rfl, ?_, _, rfl, _, _, rfl, rfl, .inr ⟨by decide, by decide⟩, _, _, rfl, rfl, _, rfl, _, _, rfl, rfl, .inl ⟨_, rfl, _, _, rfl, rfl, (by show (0 : Int) < 1000003; decide), D, _, _, rfl, rfl, h1, hsz, ?_⟩⟩
        · refine .inl ?_
          show -(2 ^ 64) < (c' * 48271 + (0 + (i : Int)) * 69621) % 2147483647 ∧ (c' * 48271 + (0 + (i : Int)) * 69621) % 2147483647 < 2 ^ 64
          rw [hmx]
          omega
        · exact ⟨_, _, _, _, by rw [List.length_append, hl]; rfl, (push _).1, (push _).2, rfl⟩
    · rintro σ H' ⟨c', ds, x4, x5, hl, s1, h1, rfl⟩
      exact ⟨_, rfl, q ds H' D hl s1 hD h1⟩
theorem ok_bits {f f1 : Addr} {fd fd1 : FuncData} (F : FnP K "_law_bits" sBits f fd) (C1 : Cal P w K mg base 1 "_law_draws" ["_law_cell_here", "_law_count"] spDraws f1 fd1) (mr : mg "range" = none) (mi : mg "int" = none) (ms : mg "str" = none) :
    FnOk P w K mg base CX0 2 f fd ["_law_cell_here", "_law_most"] spBits := by
  refine F.ok scBits (fun vs H Q E h => ?_) (fun cdv A outer s H vs Q E hr h => ?_)
  · obtain ⟨c, n, rfl, _⟩ := h
    rfl
  · obtain ⟨c, n, rfl, hn, q⟩ := h
    refine ⟨_, PSs.nox (pss_cons (ps_set (i := 2) scBits.nd rfl (.inr rfl) (pe_cal C1 hr (pa_cons (pv 0) (pa_cons (pe_op op_add (pv 1) pe_int) pa_nil))))
      (pss_cons (ps_set (i := 3) scBits.nd rfl (.inr rfl) (pe_op op_add pe_int (pe_op op_mod (pe_callTy call_int1 (by rfl) mi PyProof.Rows.boot_int (pa_cons (pe_ix ix_list (pv 2) (pe_op op_add (pv 1) pe_int) (fun _ _ => rfl)) pa_nil)) pe_int)))
      (pss_one (ps_ret (pe_join pe_str (pe_lc (own := [("_law_k", 4)]) (g := gName 4) (tt := tYes)
          (te := tCB rStrI (tCons (tCB rInt1 (tCons (tOp (rI0 fun i j => .bl (decide (i < j))) (tOp (rI (fun _ j => 0 < j) fun i j => .int (i % j)) (tCB rInt1 (tCons (tOp (rIxL K) (tVar 2) (tVar 4)) tNil)) (tC (.int 5))) (tVar 3)) tNil)) tNil)) (by rfl) scBits.nd
          (pi_range1 (by rfl) mr (pa_cons (pe_op op_mod (pe_callTy call_int1 (by rfl) mi PyProof.Rows.boot_int (pa_cons (pe_ix ix_list (pv 2) (pv 1) (fun _ _ => rfl)) pa_nil)) (pe_op op_add (pv 1) pe_int)) pa_nil))
          (blkOk_by (own := [("_law_k", 4)]) (N := ["_law_cell_here", "_law_most", "_law_draws_here", "_law_heavy", "_law_k"]) (sc := defScope sBits) (by decide +kernel))
          (fun _ _ _ _ _ => pg_name (i := 4) scBits.nd rfl (.inl rfl) (.inr rfl)) (fun _ _ _ _ _ => pts_nil)
          (fun _ _ _ _ _ => pe_callTy call_str_int (by rfl) ms PyProof.Rows.boot_str (pa_cons (pe_callTy call_int1 (by rfl) mi PyProof.Rows.boot_int (pa_cons (pe_cmpR op_lt (pe_op op_mod (pe_callTy call_int1 (by rfl) mi PyProof.Rows.boot_int (pa_cons (pe_ix ix_list (pv 2) (pv 4) (fun _ _ => rfl)) pa_nil)) pe_int) (pv 3) (nomark _)) pa_nil)) pa_nil)))))))), ?_⟩
    have hline := line1000
    refine ⟨_, rfl, _, rfl, _, _, rfl, rfl, c, n + 2, rfl, by omega, fun ds H1 p hdl s1 p0 hp => ?_⟩
    have at_ : ∀ j, j < n + 2 → (ds.map V.int)[j]? = some (.int (ds.getD j 0)) := fun j hj => by
      rw [List.getElem?_map, List.getD_eq_getElem?_getD, List.getElem?_eq_getElem (by omega)]
      rfl
    refine ⟨_, rfl, _, rfl, _, _, rfl, rfl, p, _, _, _, rfl, rfl, SqL.of hp, at_of (j := n + 1) (by omega) (at_ (n + 1) (by omega)), .inl ⟨_, rfl, _, _, rfl, rfl, (by show (0 : Int) < 4; decide), _, _, rfl, rfl, ?_⟩⟩
    generalize ds.getD (n + 1) 0 = d1
    refine ⟨⟨_, rfl⟩, _, rfl, _, rfl, p, _, _, _, rfl, rfl, SqL.of hp, at_of (j := n) rfl (at_ n (by omega)), .inl ⟨_, rfl, _, rfl, _, _, rfl, rfl, _, _, rfl, rfl, (by show (0 : Int) < (n : Int) + 1; omega), ?_⟩⟩
    generalize ds.getD n 0 = d0
    have b0 := Int.emod_nonneg d0 (show ((n : Int) + 1) ≠ 0 by omega)
    have b1 := Int.emod_lt_of_pos d0 (show (0 : Int) < (n : Int) + 1 by omega)
    refine ⟨_, rfl, ?_, ?_, ?_⟩
    · show -(2 ^ 62) ≤ d0 % ((n : Int) + 1)
      omega
    · show d0 % ((n : Int) + 1) < 2 ^ 62
      omega
    generalize hcnt : (d0 % ((n : Int) + 1)).toNat = cnt
    have hcn : cnt ≤ n := by omega
    refine fun D hD => lc_range (lo := 0) (n := cnt) (fun i H' => ∃ bs : List Bool, bs.length = i ∧ Same H1 H' ∧ H' D = some (.lst ((bs.map fun b => bS [b]).map V.str))) ⟨[], rfl, same_upd hD, upd_same⟩ ?_ ?_
    · rintro i H' hi ⟨bs, hbl, s2, h2⟩
      have ei : (0 : Int) + (i : Int) = (i : Int) := by omega
      rw [ei]
      refine ⟨rfl, ?_⟩
      refine yes_if ?_
      refine ⟨_, rfl, _, rfl, p, _, _, _, rfl, rfl, SqL.of (s2 _ _ hp), at_of (j := i) rfl (at_ i (by omega)), .inl ⟨_, rfl, _, _, rfl, rfl, (by show (0 : Int) < 5; decide), _, rfl, _, _, rfl, rfl, .inr ⟨_, rfl, ?_⟩⟩⟩
      refine ⟨_, rfl, ?_, _, h2, ?_, ?_⟩
      · split <;> decide
      · rw [List.length_map, List.length_map]
        omega
      · rw [str_bit]
        refine ⟨bs ++ [decide (ds.getD i 0 % 5 < 1 + d1 % 4)], by rw [List.length_append, hbl]; rfl, fun b o e => ?_, ?_⟩
        · rw [upd_ne (ne_of_none e hD)]
          exact s2 _ _ e
        · rw [upd_same, List.map_append, List.map_append]
          rfl
    · rintro H' ⟨bs, hbl, s2, h2⟩
      refine ⟨_, D, _, rfl, rfl, .inl (SqL.of h2), ?_, ?_⟩
      · rw [sign_sum]
        have e0 : ("" : Str).length = 0 := by decide +kernel
        rw [e0]
        omega
      · rw [join_bits]
        exact q bs H' (by omega) (s1.trans s2)
theorem ok_sigl {f f1 : Addr} {fd fd1 : FuncData} (F : FnP K "_law_signal" sSigl f fd) (C1 : Cal P w K mg base 1 "_law_draws" ["_law_cell_here", "_law_count"] spDraws f1 fd1) (mr : mg "range" = none) (mi : mg "int" = none) (ml : mg "len" = none) :
    FnOk P w K mg base CX0 2 f fd ["_law_cell_here", "_law_many", "_law_size"] spSigl := by
  refine F.ok scSigl (fun vs H Q E h => ?_) (fun cdv A outer s H vs Q E hr h => ?_)
  · obtain ⟨c, n, z, rfl, _⟩ := h
    rfl
  · obtain ⟨c, n, z, rfl, hn, hz1, hz2, q⟩ := h
    refine ⟨_, PSs.nox (pss_cons (ps_set (i := 3) scSigl.nd rfl (.inl rfl) (pe_cal C1 hr (pa_cons (pv 0) (pa_cons (pe_op op_add (pv 1) pe_int) pa_nil))))
      (pss_cons (ps_set (i := 4) scSigl.nd rfl (.inl rfl) (pe_lst pa_nil))
      (pss_cons (ps_for PassesOwn.never rfl (pi_range1 (by rfl) mr (pa_cons (pe_op op_mod (pe_callTy call_int1 (by rfl) mi PyProof.Rows.boot_int (pa_cons (pe_ix ix_list (pv 3) (pv 1) (fun _ _ => rfl)) pa_nil)) (pe_op op_add (pv 1) pe_int)) pa_nil)) (pg_name (i := 5) scSigl.nd rfl (.inl rfl))
        (pss_one (ps_expr (pe_bm PySem.F.plainAttrs_list PySem.F.slot_list_append PySem.F.type_list_append mt_append (pv 4)
          (pa_cons (pe_op op_add (pe_ifExp (pt_cmpR op_gt (pe_callB call_len_seq (by rfl) ml PySem.boot_len (pa_cons (pv 4) pa_nil)) pe_int (nomark _)) (pe_op op_add (pe_ix ix_list (pv 4) (pe_un un_neg pe_int) (fun _ _ => rfl)) pe_int) pe_int)
            (pe_op op_mod (pe_callTy call_int1 (by rfl) mi PyProof.Rows.boot_int (pa_cons (pe_ix ix_list (pv 3) (pv 5) (fun _ _ => rfl)) pa_nil)) (pv 2))) pa_nil)))))
      (pss_one (ps_ret (pv 4)))))), ?_⟩
    have hline := line1000
    refine ⟨_, rfl, _, rfl, _, _, rfl, rfl, c, n + 1, rfl, by omega, fun ds H1 p hdl s1 p0 hp => ?_⟩
    have at_ : ∀ j, j < n + 1 → (ds.map V.int)[j]? = some (.int (ds.getD j 0)) := fun j hj => by
      rw [List.getElem?_map, List.getD_eq_getElem?_getD, List.getElem?_eq_getElem (by omega)]
      rfl
    refine ⟨Nat.zero_le _, fun D hD => ?_⟩
    have hpD : p ≠ D := ne_of_none hp hD
    refine ⟨_, rfl, _, rfl, p, _, _, _, rfl, rfl, SqL.of (by rw [upd_ne hpD]; exact hp), at_of (j := n) rfl (at_ n (by omega)), .inl ⟨_, rfl, _, rfl, _, _, rfl, rfl, _, _, rfl, rfl, (by show (0 : Int) < (n : Int) + 1; omega), ?_⟩⟩
    generalize ds.getD n 0 = d0
    have b0 := Int.emod_nonneg d0 (show ((n : Int) + 1) ≠ 0 by omega)
    have b1 := Int.emod_lt_of_pos d0 (show (0 : Int) < (n : Int) + 1 by omega)
    refine ⟨_, rfl, ?_, ?_, ?_⟩
    · show -(2 ^ 62) ≤ d0 % ((n : Int) + 1)
      omega
    · show d0 % ((n : Int) + 1) < 2 ^ 62
      omega
    generalize hcnt : (d0 % ((n : Int) + 1)).toNat = cnt
    have hcn : cnt ≤ n := by omega
    refine for_range (lo := 0) (n := cnt) (fun i σ H' => ∃ (ns : List Int) (x5 : Option V), ns.length = i ∧ (∀ x ∈ Tun.dists ns, 1 ≤ x ∧ x ≤ 200) ∧ Same H1 H' ∧ H' D = some (.lst (ns.map V.int)) ∧
      σ = [some (.int c), some (.int (n : Int)), some (.int z), some (.ref p), some (.ref D), x5]) ⟨[], none, rfl, (fun x hx => by cases hx), same_upd hD, upd_same, rfl⟩ ?_ ?_
    · rintro i σ H' hi ⟨ns, x5, hl, hd, s2, h2, rfl⟩
      have ei : (0 : Int) + (i : Int) = (i : Int) := by omega
      rw [ei]
      have m0 := Int.emod_nonneg (ds.getD i 0) (show z ≠ 0 by omega)
      have m1 := Int.emod_lt_of_pos (ds.getD i 0) (show 0 < z by omega)
      have hp2 := s2 _ _ hp
      have fin : ∀ y : Int, (∀ x ∈ Tun.dists (ns ++ [y]), 1 ≤ x ∧ x ≤ 200) → ∃ (ns' : List Int) (x5 : Option V), ns'.length = i + 1 ∧ (∀ x ∈ Tun.dists ns', 1 ≤ x ∧ x ≤ 200) ∧ Same H1 (upd H' D (.lst (ns.map V.int ++ [.int y]))) ∧
          (upd H' D (.lst (ns.map V.int ++ [.int y]))) D = some (.lst (ns'.map V.int)) ∧
          [some (.int c), some (.int (n : Int)), some (.int z), some (.ref p), some (.ref D), some (.int (i : Int))] = [some (.int c), some (.int (n : Int)), some (.int z), some (.ref p), some (.ref D), x5] := by
        intro y hy
        refine ⟨ns ++ [y], _, by rw [List.length_append, hl]; rfl, hy, fun b o e => ?_, ?_, rfl⟩
        · rw [upd_ne (ne_of_none e hD)]
          exact s2 _ _ e
        · rw [upd_same, List.map_append]
          rfl
      have hsz : (ns.map V.int).length < sizeLine := by
        rw [List.length_map]
        omega
      refine ⟨_, rfl, .inl ⟨rfl, _, SqL.of h2⟩, _, rfl, D, _, rfl, .inl (SqL.of h2), _, _, rfl, rfl, _, rfl, ?_⟩
      rw [List.length_map]
      refine ite2 (fun h => ?_) (fun h => ?_)
      · have h := of_decide_eq_true h
        have hne : ns ≠ [] := fun z => by
          rw [z] at h
          simp at h
        obtain ⟨l, x, rfl⟩ : ∃ l x, ns = l ++ [x] := ⟨ns.dropLast, ns.getLast hne, (List.dropLast_concat_getLast hne).symm⟩
        refine ⟨_, rfl, 1, rfl, D, _, _, .int x, rfl, rfl, SqL.of h2, by rw [List.map_append]; exact atI_last _ _, _, _, rfl, rfl, _, rfl, _, rfl, p, _, _, _, rfl, rfl, SqL.of hp2, at_of (j := i) rfl (at_ i (by omega)), .inl ⟨_, rfl, _, rfl, _, _, rfl, rfl, by omega, _, _, rfl, rfl, D, _, _, rfl, rfl, h2, hsz, fin _ ?_⟩⟩
        intro y hy
        rw [Tun.dists_snoc] at hy
        rcases List.mem_append.mp hy with hy | hy
        · exact hd y hy
        · have e : y = x + 1 + ds.getD i 0 % z - x := by simpa using hy
          omega
      · have h : ¬ (0 : Int) < (ns.length : Int) := fun z => h (decide_eq_true z)
        have e0 : ns = [] := List.length_eq_zero_iff.mp (by omega)
        refine ⟨_, rfl, _, rfl, p, _, _, _, rfl, rfl, SqL.of hp2, at_of (j := i) rfl (at_ i (by omega)), .inl ⟨_, rfl, _, rfl, _, _, rfl, rfl, by omega, _, _, rfl, rfl, D, _, _, rfl, rfl, h2, hsz, fin _ ?_⟩⟩
        rw [e0]
        intro y hy
        cases hy
    · rintro σ H' ⟨ns, x5, hl, hd, s2, h2, rfl⟩
      exact ⟨_, rfl, q ns H' D (by omega) hd (s1.trans s2) (s1.free hD) h2⟩
end
end Tw
end

section
set_option Elab.async false
set_option linter.all false
set_option maxRecDepth 100000
set_option maxHeartbeats 4000000
/-! The law's last rows: what tunings tells is what is due, the frame's own tuning among it. -/
namespace Tw
open PySem PySem.Spec PyProof.Rows L2
abbrev sLaw : Stmt := top 28
abbrev NL : List Str := ["_law_script", "_law_limit", "_law_bit_time", "_law_payload", "_law_own", "_law_signal_here", "_law_kind", "_law_at", "_law_steps", "_law_due", "_law_other", "_law_gaps", "_law_guess", "_law_told", "_law_time", "_law_k", "_law_step"]
theorem scLaw : FnScope NL ["_law_script"] (defScope sLaw) := ⟨rfl, rfl, rfl, by decide +kernel, rfl, by decide +kernel, by decide +kernel⟩
/-- what the law leans on -/
structure LawT (P : Program) (w : World) (K : PySem.W.Frag) (mg : Str → Option Value) (base : Heap) (T : Addr) : Prop where
  cell : ∃ f fd, Cal P w K mg base 1 "_law_cell" ["_law_script", "_law_k"] (spCell K) f fd
  bits : ∃ f fd, Cal P w K mg base 2 "_law_bits" ["_law_cell_here", "_law_most"] spBits f fd
  sigl : ∃ f fd, Cal P w K mg base 2 "_law_signal" ["_law_cell_here", "_law_many", "_law_size"] spSigl f fd
  frm : ∃ f fd, Cal P w K mg base 2 "frame_bits" ["limit", "payload"] spFrame f fd
  sig : ∃ f fd, Cal P w K mg base 2 "signal_of" ["bits", "start", "bit_time", "shifts"] (spSig K) f fd
  str : ∃ f fd, Cal P w K mg base 2 "strangers" ["limit", "gaps"] (spStr K) f fd
  rds : ∃ f fd, Cal P w K mg base 3 "read_gaps" ["limit", "gaps"] (spReads K) f fd
  tun : ∃ f fd, Cal P w K mg base 4 "tunings" ["signal"] (spTun K T) f fd
  mlen : mg "len" = none
  mlist : mg "list" = none
  mrange : mg "range" = none
  mmin : mg "min" = none
  mmax : mg "max" = none
  misi : mg "isinstance" = none
theorem own_dists (L bt : Int) (bs : List Bool) : Tun.dists (Tun.edges 5 bt (Tun.frame L bs)) = (Tun.fgaps L bs).map fun g => g * bt := by
  unfold Tun.edges Tun.fgaps
  exact Tun.dists_map bt 5 _
theorem own_bd {L bt : Int} (h2 : 2 ≤ L) (h7 : L ≤ 7) (hb : 1 ≤ bt) (hb2 : bt ≤ 30) (bs : List Bool) : ∀ x ∈ Tun.dists (Tun.edges 5 bt (Tun.frame L bs)), 1 ≤ x ∧ x ≤ 270 := by
  intro x hx
  rw [own_dists] at hx
  obtain ⟨g, hg, rfl⟩ := List.mem_map.mp hx
  obtain ⟨mid, last, e, hm, hl⟩ := Tun.fgaps_shape h2 bs
  have hgb : 1 ≤ g ∧ g ≤ 9 := by
    rw [e] at hg
    rcases List.mem_cons.mp hg with z | hg
    · omega
    · rcases List.mem_append.mp hg with z | z
      · have := hm g z
        omega
      · have : g = L + 2 := by simpa using z
        omega
  have l1 := Int.mul_le_mul hgb.1 hb (by omega) (by omega)
  have l2 := Int.mul_le_mul hgb.2 hb2 (by omega) (by omega)
  omega
section
variable {P : Program} {w : World} {K : PySem.W.Frag} {mg : Str → Option Value} {base : Heap} {T : Addr}
theorem seg_C (LT : LawT P w K mg base T) {f : Addr} {cdv : Value} {A : Around} {outer : List Env} {s : Shared} {H0 : Hp} {E : XK} (hr : Room 4 (A.deeper (envOfC "law" (defScope sLaw) s.heap.objs.size f cdv))) :
    ∃ t, PSs (cxOf CX0 P w K mg base NL "law" (defScope sLaw) f cdv A outer s H0 E).nox ((defBody sLaw).drop 10) t ∧
      ∀ (Q : VK) (H : Hp) (a O S D : Addr) (L bt : Int) (bs : List Bool) (sig : List Int) (Hd : Hp) (x6 x7 x8 x10 x11 x12 x13 : Option V), (∀ H', Q (.bl true) H') → 2 ≤ L → L ≤ 7 → 1 ≤ bt → bt ≤ 30 → bs.length ≤ 12 →
        H O = some (.lst ((Tun.edges 5 bt (Tun.frame L bs)).map V.int)) → H S = some (.lst (sig.map V.int)) → sig.length ≤ 1000 → (∀ x ∈ Tun.dists sig, -10000 ≤ x ∧ x ≤ 10000) → TI Hd H D (Tun.tun (Tun.dists sig)) → GxR.TabG H T →
        t { nx := fun _ H' => Q .non H', rt := Q } [some (.ref a), some (.int L), some (.int bt), some (.str (bS bs)), some (.ref O), some (.ref S), x6, x7, x8, some (.ref D), x10, x11, x12, x13, none, none, none] H := by
  obtain ⟨ft, fdt, CT⟩ := LT.tun
  have hu65 : (A.deeper (envOfC "law" (defScope sLaw) s.heap.objs.size f cdv)).units + 65 < cLine := by
    have := hr.un
    omega
  refine ⟨_, pss_cons (ps_set (i := 13) scLaw.nd rfl (.inl rfl) (pe_cal CT hr (pa_cons (pe_callTy call_list_of (by rfl) LT.mlist PyProof.Rows.boot_list (pa_cons (pv 5) pa_nil)) pa_nil)))
    (pss_cons (ps_if (PW.pt (pw_or (pt_not (pt_val (pe_callB call_isi (by rfl) LT.misi PyProof.Rows.boot_isinstance (pa_cons (pv 13) (pa_cons (pe_bltn (v := .ty "list") (by rfl) LT.mlist PyProof.Rows.boot_list rfl) pa_nil)))))
        (pw_or1 (pt_cmpR (op_neD hr.units) (pv 13) (pv 9) (nomark _))))) (pss_one (ps_ret pe_bl)) pss_nil)
    (pss_one (ps_ret (pe_cmpR (op_inD hu65) (pe_tup (pa_cons (pv 2) (pa_cons (pv 1) (pa_cons (pe_lst (pa_cons (pv 3) pa_nil)) pa_nil)))) (pe_cal CT hr (pa_cons (pv 4) pa_nil)) rfl)))), ?_⟩
  intro Q H a O S D L bt bs sig Hd x6 x7 x8 x10 x11 x12 x13 hQ h2 h7 hb1 hb30 hbs hO hS hsl hsd td hT
  have hline := line1000
  -- told = tunings(list(signal_here))
  refine ⟨_, rfl, S, _, rfl, .inl (SqL.of hS), fun l hl => ?_⟩
  have g1 : Gr H (upd H l (.lst (sig.map V.int))) := .of (same_upd hl)
  refine ⟨l, sig, rfl, SqL.of upd_same, hsl, hsd, g1.tab T hT, fun H2 p tp => ?_⟩
  have g2 := g1.trans tp.gr
  obtain ⟨xs, hx, _⟩ := tp.len
  have td2 := td.grow g2
  -- isinstance, told != due
  refine ⟨_, rfl, .ref p, .ty "list", .type "list", .type "list", true, rfl, .ty _, .base (.lst hx), kit_ty (by decide +kernel), true, rfl, ?_⟩
  refine iteF ⟨_, rfl, _, rfl, _, _, tp.dp, td2.dp, tsD_shaped _, tsD_shaped _, _, rfl, ?_⟩
  have eqv : PyData.eqv (tsD (Tun.tun (Tun.dists sig))) (tsD (Tun.tun (Tun.dists sig))) = true := by
    have h := tsD_shaped (Tun.tun (Tun.dists sig))
    have h2 : ((tsD (Tun.tun (Tun.dists sig))).canLay0 && decide ((tsD (Tun.tun (Tun.dists sig))).depth ≤ 64)) = true := h
    exact SeqAt.eqv_refl _ (Bool.and_eq_true_iff.mp h2).1
  rw [eqv]
  refine iteF ?_
  -- the own tuning
  refine ⟨_, rfl, _, rfl, _, rfl, (by show 1 ≤ sizeLine; omega), fun q hq => ⟨(by show 3 ≤ sizeLine; omega), fun T2 hT2 => ?_⟩⟩
  have g3 : Gr H2 (upd H2 q (.lst [.str (bS bs)])) := .of (same_upd hq)
  have hq3 : (upd H2 q (.lst [.str (bS bs)])) q = some (.lst [.str (bS bs)]) := upd_same
  revert g3 hq3 hT2
  generalize upd H2 q (.lst [.str (bS bs)]) = H3
  intro hT2 g3 hq3
  have g4 : Gr H3 (upd H3 T2 (.tup [.int bt, .int L, .ref q])) := .of (same_upd hT2)
  have hT4 : (upd H3 T2 (.tup [.int bt, .int L, .ref q])) T2 = some (.tup [.int bt, .int L, .ref q]) := upd_same
  revert g4 hT4
  generalize upd H3 T2 (.tup [.int bt, .int L, .ref q]) = H4
  intro g4 hT4
  have g24 := g2.trans (g3.trans g4)
  have fl := Tun.frame_len L bs h7
  have el := Tun.edges_len 5 bt (Tun.frame L bs)
  refine ⟨_, rfl, O, _, rfl, SqL.of (g24.lst hO), by omega, fun x hx => ?_, g24.tab T hT, fun H5 p5 t5 => ?_⟩
  · have := own_bd h2 h7 hb1 hb30 bs x hx
    omega
  have dp1 : Dp K H5 (.ref T2) (tD (bt, L, [bs])) := by
    refine .tup (SqT.of (t5.gr.tup hT4)) (.cons (.int _) (.cons (.int _) (.cons ?_ .nil)))
    exact .lst (SqL.of (t5.gr.lst (g4.lst hq3))) (.cons (.str _) .nil)
  refine ⟨_, _, dp1, t5.dp, tD_shaped _, tsD_shaped _, ?_⟩
  have mem : (bt, L, [bs]) ∈ Tun.tun (Tun.dists (Tun.edges 5 bt (Tun.frame L bs))) := by
    rw [own_dists]
    exact Tun.tun_own h2 h7 hb1 bs
  have hany : ((Tun.tun (Tun.dists (Tun.edges 5 bt (Tun.frame L bs)))).map tD).any (fun z => PyData.eqv z (tD (bt, L, [bs]))) = true := by
    rw [List.any_eq_true]
    exact ⟨_, List.mem_map.mpr ⟨_, mem, rfl⟩, SeqAt.eqv_refl _ (tD_lay _)⟩
  rw [hany]
  exact hQ _
end
end Tw
end

section
set_option Elab.async false
set_option linter.all false
set_option maxRecDepth 100000
set_option maxHeartbeats 4000000
/-! The law's middle rows: the steps, what is due. -/
namespace Tw
open PySem PySem.Spec PyProof.Rows L2
theorem max_zero {steps : List Int} {b y : Int} (hb : 0 < b) (hy : y ∈ steps.map fun s => s % b) (hm : ∀ z ∈ steps.map fun s => s % b, z ≤ y) : decide (y = 0) = steps.all fun s => s % b == 0 := by
  rw [Bool.eq_iff_iff, decide_eq_true_iff, List.all_eq_true]
  constructor
  · intro e s hs
    have h1 := hm _ (List.mem_map.mpr ⟨s, hs, rfl⟩)
    have h2 := Int.emod_nonneg s (show b ≠ 0 by omega)
    have h3 : s % b = 0 := by omega
    rw [h3]
    rfl
  · intro h
    obtain ⟨s, hs, e⟩ := List.mem_map.mp hy
    have h1 := h s hs
    rw [← e]
    simpa using h1
section
variable {P : Program} {w : World} {K : PySem.W.Frag} {mg : Str → Option Value} {base : Heap} {T : Addr}
theorem seg_B (LT : LawT P w K mg base T) {f : Addr} {cdv : Value} {A : Around} {outer : List Env} {s : Shared} {H0 : Hp} {E : XK} (hr : Room 4 (A.deeper (envOfC "law" (defScope sLaw) s.heap.objs.size f cdv))) :
    ∃ t, PSs (cxOf CX0 P w K mg base NL "law" (defScope sLaw) f cdv A outer s H0 E).nox ((defBody sLaw).drop 7) t ∧
      ∀ (Q : VK) (H : Hp) (a O S : Addr) (L bt : Int) (bs : List Bool) (sig : List Int) (x6 x7 x8 x9 x10 x11 x12 x13 : Option V), (∀ H', Q (.bl true) H') → 2 ≤ L → L ≤ 7 → 1 ≤ bt → bt ≤ 30 → bs.length ≤ 12 →
        H O = some (.lst ((Tun.edges 5 bt (Tun.frame L bs)).map V.int)) → H S = some (.lst (sig.map V.int)) → sig.length ≤ 1000 → (∀ x ∈ Tun.dists sig, -10000 ≤ x ∧ x ≤ 10000) → GxR.TabG H T →
        t { nx := fun _ H' => Q .non H', rt := Q } [some (.ref a), some (.int L), some (.int bt), some (.str (bS bs)), some (.ref O), some (.ref S), x6, x7, x8, x9, x10, x11, x12, x13, none, none, none] H := by
  obtain ⟨f3, fd3, C3⟩ := LT.str
  obtain ⟨f4, fd4, C4⟩ := LT.rds
  obtain ⟨tsC, hC, rC⟩ := seg_C (P := P) (w := w) LT (f := f) (cdv := cdv) (A := A) (outer := outer) (s := s) (H0 := H0) (E := E) hr
  refine ⟨_, pss_cons (ps_setLc (i := 8) (own := [("_law_k", 15)]) (g := gName 15) (tt := tYes) (te := tOp (rI0 fun i j => .int (i - j)) (tOp (rIxL K) (tVar 5) (tOp (rI0 fun i j => .int (i + j)) (tVar 15) (tC (.int 1)))) (tOp (rIxL K) (tVar 5) (tVar 15))) (by rfl) scLaw.nd rfl rfl (sw_true rfl rfl rfl (by decide +kernel))
        (pi_range1 (by rfl) LT.mrange (pa_cons (pe_op op_sub (pe_callB call_len_seq (by rfl) LT.mlen PySem.boot_len (pa_cons (pv 5) pa_nil)) pe_int) pa_nil))
        (blkOk_by (own := [("_law_k", 15)]) (N := NL) (sc := defScope sLaw) (by decide +kernel)) (fun _ _ _ _ _ => pg_name (i := 15) scLaw.nd rfl (.inl rfl) (.inr rfl)) (fun _ _ _ _ _ => pts_nil)
        (fun _ _ _ _ _ => pe_op op_sub (pe_ix ix_list (pv 5) (pe_op op_add (pv 15) pe_int) (fun _ _ => rfl)) (pe_ix ix_list (pv 5) (pv 15) (fun _ _ => rfl))))
    (pss_cons (ps_set (i := 9) scLaw.nd rfl (.inl rfl) (pe_lst pa_nil))
    (pss_cons (ps_for PassesOwn.never rfl (pi_range2 (by rfl) LT.mrange (pa_cons pe_int (pa_cons (pe_op op_add pe_int (pe_ifExp (pt_cmpR op_gt (pe_callB call_len_seq (by rfl) LT.mlen PySem.boot_len (pa_cons (pv 8) pa_nil)) pe_int (nomark _))
          (pe_callB (cr_min rfl) (by rfl) LT.mmin PyProof.Rows.boot_min (pa_cons (pv 8) pa_nil)) pe_int)) pa_nil))) (pg_name (i := 10) scLaw.nd rfl (.inr rfl))
        (pss_one (ps_if (pt_cmpR op_eq (pe_callB (cr_max rfl) (by rfl) LT.mmax PyProof.Rows.boot_max (pa_cons (pe_lc (own := [("_law_step", 16)]) (g := gName 16) (tt := tYes) (te := tOp (rI (fun _ j => 0 < j) fun i j => .int (i % j)) (tVar 16) (tVar 10)) (by rfl) scLaw.nd (pi_list (pv 8))
              (blkOk_by (own := [("_law_step", 16)]) (N := NL) (sc := defScope sLaw) (by decide +kernel)) (fun _ _ _ _ _ => pg_name (i := 16) scLaw.nd rfl (.inl rfl) (.inr rfl)) (fun _ _ _ _ _ => pts_nil) (fun _ _ _ _ _ => pe_op op_mod (pv 16) (pv 10))) pa_nil)) pe_int (nomark _))
          (pss_cons (ps_setLc (i := 11) (own := [("_law_step", 16)]) (g := gName 16) (tt := tYes) (te := tOp (rI CDiv fun i j => .int (i / j)) (tVar 16) (tVar 10)) (by rfl) scLaw.nd rfl rfl (sw_true rfl rfl rfl (by decide +kernel)) (pi_list (pv 8))
              (blkOk_by (own := [("_law_step", 16)]) (N := NL) (sc := defScope sLaw) (by decide +kernel)) (fun _ _ _ _ _ => pg_name (i := 16) scLaw.nd rfl (.inl rfl) (.inr rfl)) (fun _ _ _ _ _ => pts_nil) (fun _ _ _ _ _ => pe_op op_fdiv (pv 16) (pv 10)))
          (pss_one (ps_for PassesOwn.never rfl (pi_range2 (by rfl) LT.mrange (pa_cons pe_int (pa_cons pe_int pa_nil))) (pg_name (i := 12) scLaw.nd rfl (.inl rfl))
            (pss_one (ps_if (pt_cmpR op_eq (pe_cal C3 hr (pa_cons (pv 12) (pa_cons (pv 11) pa_nil))) pe_int (nomark _))
              (pss_one (ps_expr (pe_bm PySem.F.plainAttrs_list PySem.F.slot_list_append PySem.F.type_list_append mt_append (pv 9)
                (pa_cons (pe_tup (pa_cons (pv 10) (pa_cons (pv 12) (pa_cons (pe_cal C4 hr (pa_cons (pv 12) (pa_cons (pv 11) pa_nil))) pa_nil)))) pa_nil)))) pss_nil))))) pss_nil)))
    hC)), ?_⟩
  intro Q H a O S L bt bs sig x6 x7 x8 x9 x10 x11 x12 x13 hQ h2 h7 hb1 hb30 hbs hO hS hsl hsd hT
  have hline := line1000
  -- steps
  refine ⟨_, rfl, S, _, rfl, .inl (SqL.of hS), _, _, rfl, rfl, _, rfl, ?_, ?_, ?_⟩
  · rw [List.length_map]
    show -(2 ^ 62) ≤ (sig.length : Int) - 1
    omega
  · rw [List.length_map]
    show (sig.length : Int) - 1 < 2 ^ 62
    omega
  have en : (((sig.map V.int).length : Int) - 1).toNat = sig.length - 1 := by
    rw [List.length_map]
    omega
  obtain ⟨cnt, hcnt⟩ : ∃ cnt, cnt = sig.length - 1 := ⟨_, rfl⟩
  rw [en, ← hcnt]
  refine fun St hSt => lc_range (lo := 0) (n := cnt) (fun i H' => Same H H' ∧ H' St = some (.lst (((Tun.dists sig).take i).map V.int))) ⟨same_upd hSt, upd_same⟩ ?_ ?_
  · rintro i H' hi ⟨s1, h1⟩
    have ei : (0 : Int) + (i : Int) = (i : Int) := by omega
    rw [ei]
    have at_ : ∀ j (hj : j < sig.length), (sig.map V.int)[j]? = some (.int sig[j]) := fun j hj => by
      rw [List.getElem?_map, List.getElem?_eq_getElem hj]
      rfl
    have gd := Tun.dists_get sig i _ _ (List.getElem?_eq_getElem (show i < sig.length by omega)) (List.getElem?_eq_getElem (show i + 1 < sig.length by omega))
    refine ⟨rfl, ?_⟩
    refine yes_if ?_
    refine ⟨_, rfl, _, rfl, _, _, rfl, rfl, S, _, _, _, rfl, rfl, SqL.of (s1 _ _ hS), at_of (j := i + 1) (by omega) (at_ (i + 1) (by omega)), _, rfl, _, rfl, S, _, _, _, rfl, rfl, SqL.of (s1 _ _ hS), at_of (j := i) rfl (at_ i (by omega)), _, _, rfl, rfl, _, h1, ?_, ?_, ?_⟩
    · rw [List.length_map, List.length_take]
      omega
    · intro c o e
      rw [upd_ne (ne_of_none e hSt)]
      exact s1 _ _ e
    · rw [upd_same, List.take_add_one, gd, List.map_append]
      rfl
  · rintro H1 ⟨s1, hS1⟩
    have e1 : (Tun.dists sig).take cnt = Tun.dists sig := List.take_of_length_le (by rw [Tun.dists_len]; omega)
    rw [e1] at hS1
    have hT1 : GxR.TabG H1 T := (Gr.of s1).tab T hT
    have hO1 := s1 _ _ hO
    have hSg1 := s1 _ _ hS
    have hstl : (Tun.dists sig).length ≤ 1000 := by
      rw [Tun.dists_len]
      omega
    -- due = []
    refine ⟨Nat.zero_le _, fun D hD => ?_⟩
    have fin : ∀ (H' : Hp) (y10 y11 y12 : Option V), TI H1 H' D (Tun.tun (Tun.dists sig)) →
        tsC { nx := fun _ H' => Q .non H', rt := Q } [some (.ref a), some (.int L), some (.int bt), some (.str (bS bs)), some (.ref O), some (.ref S), x6, x7, some (.ref St), some (.ref D), y10, y11, y12, x13, none, none, none] H' := by
      intro H' y10 y11 y12 t
      exact rC Q H' a O S D L bt bs sig H1 _ _ _ _ _ _ _ hQ h2 h7 hb1 hb30 hbs (t.gr.lst hO1) (t.gr.lst hSg1) hsl hsd t (t.gr.tab T hT1)
    generalize Tun.dists sig = steps at hS1 hsd hstl fin
    have hStD : St ≠ D := ne_of_none hS1 hD
    have hm := least0_bd hsd
    generalize hmm : Tun.least0 steps = m at hm
    have hmge : (steps = [] → m = 0) ∧ ∀ y ∈ steps, (∀ z ∈ steps, y ≤ z) → y = m := by
      refine ⟨fun e => ?_, fun y hy hl => ?_⟩
      · rw [← hmm, e]
        rfl
      · rw [← hmm]
        exact (Tun.least0_of hy hl).symm
    have t0 : TI H1 (upd H1 D (.lst [])) D [] := TI.nil hD
    have hS2 : (upd H1 D (.lst [])) St = some (.lst (steps.map V.int)) := by
      rw [upd_ne hStD]
      exact hS1
    have hfin : TI H1 (upd H1 D (.lst [])) D (Tun.tunP steps 0) := t0
    revert hS2 hfin
    clear t0
    generalize upd H1 D (.lst []) = H2
    intro hS2 t0
    -- the range
    have rng : ∀ (R : V → Hp → Prop), R (.int (1 + m)) H2 →
        (tOp (rI0 fun i j => .int (i + j)) (tC (.int 1)) (tIf (tTest (tOp (rI0 fun i j => .bl (decide (j < i))) (tCB (fun xs H Q => ∃ p ys, xs = [.ref p] ∧ (SqL K H p ys ∨ SqT K H p ys) ∧ Q (.int ys.length) H) (tCons (tVar 8) tNil)) (tC (.int 0))))
          (tCB (rMin K) (tCons (tVar 8) tNil)) (tC (.int 0)))) [some (.ref a), some (.int L), some (.int bt), some (.str (bS bs)), some (.ref O), some (.ref S), x6, x7, some (.ref St), some (.ref D), x10, x11, x12, x13, none, none, none] H2 R := by
      intro R hR
      refine ⟨_, rfl, St, _, rfl, .inl (SqL.of hS2), _, _, rfl, rfl, _, rfl, ?_⟩
      rw [List.length_map]
      refine ite2 (fun h => ?_) (fun h => ?_)
      · have h : (0 : Int) < (steps.length : Int) := of_decide_eq_true h
        refine ⟨_, rfl, St, steps, rfl, SqL.of hS2, by omega, fun y hy hl => ⟨_, _, rfl, rfl, ?_⟩⟩
        rw [hmge.2 y hy hl]
        exact hR
      · have h : ¬ (0 : Int) < (steps.length : Int) := fun z => h (decide_eq_true z)
        refine ⟨_, _, rfl, rfl, ?_⟩
        rw [← hmge.1 (List.length_eq_zero_iff.mp (by omega))]
        exact hR
    refine rng _ ?_
    refine ⟨1, 1 + m, rfl, ⟨by omega, by omega, by omega, by omega⟩, ?_⟩
    have em : (1 + m - 1).toNat = m.toNat := by omega
    rw [em]
    refine for_range (lo := 1) (n := m.toNat) (fun k σ H' => ∃ y10 y11 y12 : Option V, TI H1 H' D (Tun.tunP steps k) ∧
      σ = [some (.ref a), some (.int L), some (.int bt), some (.str (bS bs)), some (.ref O), some (.ref S), x6, x7, some (.ref St), some (.ref D), y10, y11, y12, x13, none, none, none]) ⟨_, _, _, t0, rfl⟩ ?_ ?_
    · rintro k σ H3 hk ⟨y10, y11, y12, t, rfl⟩
      have hS3 : H3 St = some (.lst (steps.map V.int)) := t.gr.lst hS1
      have hb : (0 : Int) < 1 + (k : Int) ∧ (1 + (k : Int)) < 1073741824 := by omega
      have hk6 : k ≤ 10000 := by omega
      have hne : steps ≠ [] := fun z => by
        have := hmge.1 z
        omega
      have hlen0 : 0 < steps.length := List.length_pos_iff.mpr hne
      have hsucc := Tun.tunP_succ steps k
      have hplen := Tun.tunP_len steps k
      revert hsucc hplen
      generalize hpre : Tun.tunP steps k = pre at t
      generalize Tun.tunP steps (k + 1) = nxt
      generalize hbv : (1 + (k : Int)) = b at hb
      intro hsucc hplen
      -- if max([..]) == 0
      refine ⟨_, rfl, St, rfl, ⟨_, SqL.of hS3⟩, fun R hR => lc_list (K := K) (a := St) (xs := steps.map V.int) (fun i H' => Same H3 H' ∧ H' R = some (.lst (((steps.take i).map fun s => s % b).map V.int))) ⟨same_upd hR, upd_same⟩ (fun i H' _ hb => hb.1.seq (SqL.of hS3)) ?_ ?_⟩
      · rintro i x H' hi ⟨s4, h4⟩
        obtain ⟨hil, rfl⟩ := map_at hi
        refine ⟨rfl, ?_⟩
        refine yes_if ?_
        refine ⟨_, rfl, _, rfl, _, _, rfl, rfl, hb.1, _, h4, ?_, ?_, ?_⟩
        · rw [List.length_map, List.length_map, List.length_take]
          omega
        · intro c o e
          rw [upd_ne (ne_of_none e hR)]
          exact s4 _ _ e
        · rw [upd_same, List.take_add_one, List.getElem?_eq_getElem hil, List.map_append, List.map_append]
          rfl
      rintro H4 ⟨s4, h4⟩
      rw [List.length_map, List.take_length] at h4
      have t3 := t.grow (.of s4)
      have hS4 := s4 _ _ hS3
      clear hS3
      refine ⟨R, steps.map fun s => s % b, rfl, SqL.of h4, by rw [List.length_map]; exact hlen0, fun y hy hmx => ⟨rfl, _, rfl, ?_⟩⟩
      rw [dec_intV, max_zero hb.1 hy hmx]
      cases hd : steps.all fun s => s % b == 0 with
      | false =>
        refine iteF ⟨_, _, _, ?_, rfl⟩
        have e : Tun.tunB steps b = [] := by
          unfold Tun.tunB
          rw [hd]
          rfl
        rw [hsucc, e, List.append_nil]
        exact t3
      | true =>
        have eB : Tun.tunB steps b = Tun.lims.flatMap (Tun.tunL b (steps.map fun s => s / b)) := by
          unfold Tun.tunB
          rw [hd]
          rfl
        rw [eB] at hsucc
        refine iteT ?_
        -- gaps
        refine ⟨_, rfl, St, rfl, ⟨_, SqL.of hS4⟩, fun G hG => lc_list (K := K) (a := St) (xs := steps.map V.int) (fun i H' => Same H4 H' ∧ H' G = some (.lst (((steps.take i).map fun s => s / b).map V.int))) ⟨same_upd hG, upd_same⟩ (fun i H' _ hb => hb.1.seq (SqL.of hS4)) ?_ ?_⟩
        · rintro i x H' hi ⟨s5, h5⟩
          obtain ⟨hil, rfl⟩ := map_at hi
          refine ⟨rfl, ?_⟩
          refine yes_if ?_
          refine ⟨_, rfl, _, rfl, _, _, rfl, rfl, hb, _, h5, ?_, ?_, ?_⟩
          · rw [List.length_map, List.length_map, List.length_take]
            omega
          · intro c o e
            rw [upd_ne (ne_of_none e hG)]
            exact s5 _ _ e
          · rw [upd_same, List.take_add_one, List.getElem?_eq_getElem hil, List.map_append, List.map_append]
            rfl
        · rintro H5 ⟨s5, h5⟩
          rw [List.length_map, List.take_length] at h5
          have t5 := t3.grow (.of s5)
          have hGl : (steps.map fun s => s / b).length ≤ 1000 := by
            rw [List.length_map]
            exact hstl
          generalize (steps.map fun s => s / b) = gaps at h5 hsucc hGl
          have hGD : G ≠ D := by
            obtain ⟨xs, e, _⟩ := t3.len
            exact fun z => by
              rw [z, e] at hG
              cases hG
          refine ⟨2, 8, rfl, ⟨by decide, by decide, by decide, by decide⟩, for_range (lo := 2) (n := 6) (fun j σ H' => ∃ y12 : Option V, TI H1 H' D (pre ++ (Tun.lims.take j).flatMap (Tun.tunL b gaps)) ∧ H' G = some (.lst (gaps.map V.int)) ∧
            σ = [some (.ref a), some (.int L), some (.int bt), some (.str (bS bs)), some (.ref O), some (.ref S), x6, x7, some (.ref St), some (.ref D), some (.int b), some (.ref G), y12, x13, none, none, none]) ⟨_, by rw [List.take_zero, List.flatMap_nil, List.append_nil]; exact t5, h5, rfl⟩ ?_ ?_⟩
          · rintro j σ H6 hj ⟨y12', t6, h6, rfl⟩
            have hjl : j < Tun.lims.length := hj
            have hLb := lims_bd _ (List.getElem_mem hjl)
            have eL : Tun.lims[j] = 2 + (j : Int) := by
              have : ∀ (j : Nat) (hj : j < Tun.lims.length), Tun.lims[j] = 2 + (j : Int) := by decide
              exact this j hj
            have hfl := take_flat (Tun.tunL b gaps) hjl
            have hlen6 : ((Tun.lims.take j).flatMap (Tun.tunL b gaps)).length ≤ 6 := by
              have h1 := Tun.flatMap_len (Tun.tunL b gaps) 1 (Tun.tunL_len b gaps) (Tun.lims.take j)
              have h2 : (Tun.lims.take j).length ≤ 6 := by
                rw [List.length_take]
                show min j 6 ≤ 6
                omega
              omega
            revert hfl hlen6
            generalize (Tun.lims.take (j + 1)).flatMap (Tun.tunL b gaps) = fl1
            generalize (Tun.lims.take j).flatMap (Tun.tunL b gaps) = fl0 at t6
            rw [← eL]
            generalize Tun.lims[j] = g at hLb
            intro hfl hlen6
            refine ⟨_, rfl, _, rfl, g, G, gaps, rfl, SqL.of h6, hGl, fun H7 s7 => ⟨rfl, _, rfl, ?_⟩⟩
            have t7 := t6.grow (.of s7)
            have h7' := s7 _ _ h6
            rw [dec_intV]
            refine ite2 (fun h => ?_) (fun h => ?_)
            · have hz : Tun.strangers g gaps = 0 := by
                have := of_decide_eq_true h
                omega
              have eT : Tun.tunL b gaps g = [(b, g, Tun.reads g gaps)] := by
                unfold Tun.tunL
                rw [if_pos hz]
              obtain ⟨xs, hx, hxl⟩ := t7.len
              refine ⟨_, rfl, .inl ⟨rfl, _, SqL.of hx⟩, _, rfl, _, rfl, _, rfl, _, rfl, g, G, gaps, rfl, SqL.of h7', hLb.1, hLb.2, hGl, fun H8 r s8 nr hr8 => ⟨by show 3 ≤ sizeLine; omega, fun T' nT' => ?_⟩⟩
              have t8 := t7.grow (.of s8)
              have g9 : Gr H8 (upd H8 T' (.tup [.int b, .int g, .ref r])) := .of (same_upd nT')
              have t9 := t8.grow g9
              have hx9 := g9.lst (s8 _ _ hx)
              have nTD : T' ≠ D := fun z => by
                rw [z, s8 _ _ hx] at nT'
                cases nT'
              have nrD : r ≠ D := fun z => by
                rw [z, hx] at nr
                cases nr
              refine ⟨D, xs, _, rfl, rfl, hx9, ?_, _, ?_, ?_, rfl⟩
              · rw [hxl, List.length_append]
                omega
              · have t10 := t9.push hx9 nTD nrD upd_same (g9.lst hr8)
                rw [List.append_assoc] at t10
                rw [hfl, eT]
                exact t10
              · rw [upd_ne hGD]
                exact g9.lst (s8 _ _ h7')
            · have hz : ¬ Tun.strangers g gaps = 0 := fun z => h (decide_eq_true (by omega))
              have eT : Tun.tunL b gaps g = [] := by
                unfold Tun.tunL
                rw [if_neg hz]
              refine ⟨_, ?_, h7', rfl⟩
              rw [hfl, eT, List.append_nil]
              exact t7
          · rintro σ H6 ⟨y12', t6, h6, rfl⟩
            refine ⟨_, _, _, ?_, rfl⟩
            rw [hsucc]
            have e : Tun.lims.take 6 = Tun.lims := rfl
            rw [e] at t6
            exact t6
    · rintro σ H3 ⟨y10, y11, y12, t, rfl⟩
      refine fin H3 y10 y11 y12 ?_
      have e : Tun.tun steps = Tun.tunP steps m.toNat := by
        unfold Tun.tun Tun.tunP
        rw [hmm]
      rw [e]
      exact t
end
end Tw
end

section
set_option Elab.async false
set_option linter.all false
set_option maxRecDepth 100000
set_option maxHeartbeats 4000000
/-! The law. -/
namespace Tw
open PySem PySem.Spec PyProof.Rows L2
def spLaw (K : PySem.W.Frag) (T : Addr) : Sp := fun vs H Q _ => ∃ (a : Addr) (ns : List Int), vs = [.ref a] ∧ SqL K H a (ns.map V.int) ∧ GxR.TabG H T ∧ ∀ H', Q (.bl true) H'
def cutI (ns : List Int) (lo hi : Option Int) : List Int := (ns.drop (HT.sIx ns.length 0 lo)).take (HT.sIx ns.length ns.length hi - HT.sIx ns.length 0 lo)
theorem cut_ints (ns : List Int) (lo hi : Option Int) : cutV (ns.map V.int) lo hi = (cutI ns lo hi).map V.int := by
  unfold cutV cutI
  rw [List.length_map, List.map_take, List.map_drop]
theorem cutI_mem {ns : List Int} {lo hi : Option Int} {x : Int} (h : x ∈ cutI ns lo hi) : x ∈ ns := List.mem_of_mem_drop (List.mem_of_mem_take h)
theorem cutI_len (ns : List Int) (lo hi : Option Int) : (cutI ns lo hi).length ≤ ns.length := by
  unfold cutI
  rw [List.length_take, List.length_drop]
  omega
theorem last_at {ns : List Int} (h : ns ≠ []) : ∃ v ∈ ns, atI (ns.map V.int) (-1) = some (.int v) := by
  refine ⟨ns.getLast h, List.getLast_mem h, ?_⟩
  have e := List.dropLast_concat_getLast h
  have e2 : ns.map V.int = ns.dropLast.map V.int ++ [V.int (ns.getLast h)] := by
    have e3 := congrArg (List.map V.int) e
    rw [List.map_append] at e3
    exact e3.symm
  rw [e2]
  exact atI_last _ _
section
variable {P : Program} {w : World} {K : PySem.W.Frag} {mg : Str → Option Value} {base : Heap} {T : Addr}
theorem ok_law {f : Addr} {fd : FuncData} (F : FnP K "law" sLaw f fd) (LT : LawT P w K mg base T) : FnOk P w K mg base CX0 5 f fd ["_law_script"] (spLaw K T) := by
  obtain ⟨fc, fdc, CC⟩ := LT.cell
  obtain ⟨fb, fdb, CB⟩ := LT.bits
  obtain ⟨fg, fdg, CG⟩ := LT.sigl
  obtain ⟨ff, fdf, CF⟩ := LT.frm
  obtain ⟨fs, fds, CS⟩ := LT.sig
  refine F.ok scLaw (fun vs H Q E h => ?_) (fun cdv A outer s H vs Q E hr h => ?_)
  · obtain ⟨a, ns, rfl, _⟩ := h
    rfl
  · obtain ⟨a, ns, rfl, hA, hT, hQ⟩ := h
    obtain ⟨tsB, hB, rB⟩ := seg_B (P := P) (w := w) LT (f := f) (cdv := cdv) (A := A) (outer := outer) (s := s) (H0 := H) (E := E) hr
    refine ⟨_, PSs.nox (pss_cons (ps_set (i := 1) scLaw.nd rfl (.inl rfl) (pe_op op_add pe_int (pe_op op_mod (pe_cal CC hr (pa_cons (pv 0) (pa_cons pe_int pa_nil))) pe_int)))
      (pss_cons (ps_set (i := 2) scLaw.nd rfl (.inl rfl) (pe_op op_add pe_int (pe_op op_mod (pe_cal CC hr (pa_cons (pv 0) (pa_cons pe_int pa_nil))) pe_int)))
      (pss_cons (ps_set (i := 3) scLaw.nd rfl (.inl rfl) (pe_cal CB hr (pa_cons (pe_cal CC hr (pa_cons (pv 0) (pa_cons pe_int pa_nil))) (pa_cons pe_int pa_nil))))
      (pss_cons (ps_set (i := 4) scLaw.nd rfl (.inl rfl) (pe_cal CS hr (pa_cons (pe_cal CF hr (pa_cons (pv 1) (pa_cons (pv 3) pa_nil))) (pa_cons pe_int (pa_cons (pv 2) (pa_cons (pe_tup pa_nil) pa_nil))))))
      (pss_cons (ps_set (i := 5) scLaw.nd rfl (.inr rfl) (pe_callTy call_list_of (by rfl) LT.mlist PyProof.Rows.boot_list (pa_cons (pv 4) pa_nil)))
      (pss_cons (ps_set (i := 6) scLaw.nd rfl (.inl rfl) (pe_op op_mod (pe_cal CC hr (pa_cons (pv 0) (pa_cons pe_int pa_nil))) pe_int))
      (pss_cons (ps_if (pt_cmpR op_eq (pv 6) pe_int (nomark _))
          (pss_one (ps_set (i := 5) scLaw.nd rfl (.inr rfl) (pe_op op_cat (pv 5) (pe_lc (own := [("_law_time", 14)]) (g := gName 14) (tt := tYes)
            (te := tOp (rI0 fun i j => .int (i + j)) (tOp (rI0 fun i j => .int (i + j)) (tOp (rI0 fun i j => .int (i + j)) (tOp (rIxL K) (tVar 5) (tUn (rU fun i => .int (-i)) (tC (.int 1)))) (tC (.int 1)))
                (tOp (rI (fun _ j => 0 < j) fun i j => .int (i % j)) (tCall (spCell K) [] E0 (tCons (tVar 0) (tCons (tC (.int 4)) tNil))) (tC (.int 50)))) (tVar 14)) (by rfl) scLaw.nd (pi_list (pv 4))
            (blkOk_by (own := [("_law_time", 14)]) (N := NL) (sc := defScope sLaw) (by decide +kernel)) (fun _ _ _ _ _ => pg_name (i := 14) scLaw.nd rfl (.inl rfl) (.inr rfl)) (fun _ _ _ _ _ => pts_nil)
            (fun _ _ _ _ _ => pe_op op_add (pe_op op_add (pe_op op_add (pe_ix ix_list (pv 5) (pe_un un_neg pe_int) (fun _ _ => rfl)) pe_int) (pe_op op_mod (pe_cal CC hr (pa_cons (pv 0) (pa_cons pe_int pa_nil))) pe_int)) (pv 14))))))
          (pss_one (ps_if (pt_cmpR op_eq (pv 6) pe_int (nomark _))
            (pss_cons (ps_set (i := 7) scLaw.nd rfl (.inl rfl) (pe_op op_mod (pe_cal CC hr (pa_cons (pv 0) (pa_cons pe_int pa_nil))) (pe_callB call_len_seq (by rfl) LT.mlen PySem.boot_len (pa_cons (pv 5) pa_nil))))
            (pss_one (ps_set (i := 5) scLaw.nd rfl (.inr rfl) (pe_op op_cat (pe_slice sl_list (pv 5) po_none (po_some (pv 7))) (pe_lc (own := [("_law_time", 14)]) (g := gName 14) (tt := tYes)
              (te := tOp (rI0 fun i j => .int (i + j)) (tOp (rI0 fun i j => .int (i + j)) (tVar 14) (tC (.int 1)))
                (tOp (rI (fun _ j => 0 < j) fun i j => .int (i % j)) (tCall (spCell K) [] E0 (tCons (tVar 0) (tCons (tC (.int 5)) tNil))) (tC (.int 3)))) (by rfl) scLaw.nd (pi_list (pe_slice sl_list (pv 5) (po_some (pv 7)) po_none))
              (blkOk_by (own := [("_law_time", 14)]) (N := NL) (sc := defScope sLaw) (by decide +kernel)) (fun _ _ _ _ _ => pg_name (i := 14) scLaw.nd rfl (.inl rfl) (.inr rfl)) (fun _ _ _ _ _ => pts_nil)
              (fun _ _ _ _ _ => pe_op op_add (pe_op op_add (pv 14) pe_int) (pe_op op_mod (pe_cal CC hr (pa_cons (pv 0) (pa_cons pe_int pa_nil))) pe_int)))))))
            (pss_one (ps_if (pt_cmpR op_eq (pv 6) pe_int (nomark _))
              (pss_one (ps_set (i := 5) scLaw.nd rfl (.inr rfl) (pe_cal CG hr (pa_cons (pe_cal CC hr (pa_cons (pv 0) (pa_cons pe_int pa_nil))) (pa_cons pe_int (pa_cons pe_int pa_nil))))))
              pss_nil)))))
      hB))))))), ?_⟩
    have hline := line1000
    -- limit, bit_time, payload
    refine ⟨_, rfl, a, ns, 0, rfl, hA, fun c0 => ⟨_, _, rfl, rfl, (by show (0 : Int) < 6; decide), _, _, rfl, rfl, ?_⟩⟩
    refine ⟨_, rfl, a, ns, 1, rfl, hA, fun c1 => ⟨_, _, rfl, rfl, (by show (0 : Int) < 30; decide), _, _, rfl, rfl, ?_⟩⟩
    refine ⟨_, rfl, a, ns, 2, rfl, hA, fun c2 => ⟨c2, 12, rfl, by omega, fun bs H1 hbl s1 => ?_⟩⟩
    have bL : 2 ≤ 2 + c0 % 6 ∧ 2 + c0 % 6 ≤ 7 := by omega
    have bT : 1 ≤ 1 + c1 % 30 ∧ 1 + c1 % 30 ≤ 30 := by omega
    have hfl := Tun.frame_len (2 + c0 % 6) bs bL.2
    -- own
    refine ⟨_, rfl, _, rfl, 2 + c0 % 6, bs, rfl, by omega, bL.2, by omega, _, rfl, Nat.zero_le _, fun e he => ⟨Tun.frame (2 + c0 % 6) bs, 5, 1 + c1 % 30, e, rfl, SqT.of upd_same, by omega, bT.1, by omega, by omega, fun H2 O s2 O0 hO => ?_⟩⟩
    have s12 : Same H H2 := s1.trans ((same_upd he).trans s2)
    have hel := Tun.edges_len 5 (1 + c1 % 30) (Tun.frame (2 + c0 % 6) bs)
    have heb := Tun.edges_bd (bs := Tun.frame (2 + c0 % 6) bs) bT.1 bT.2 (by omega)
    have hen := Tun.edges_ne 5 (1 + c1 % 30) (2 + c0 % 6) bs
    obtain ⟨own, hown⟩ : ∃ own, own = Tun.edges 5 (1 + c1 % 30) (Tun.frame (2 + c0 % 6) bs) := ⟨_, rfl⟩
    -- signal_here = list(own)
    refine ⟨_, rfl, O, _, rfl, .inl (SqL.of hO), fun S hS => ?_⟩
    have s23 : Same H2 (upd H2 S (.lst ((Tun.edges 5 (1 + c1 % 30) (Tun.frame (2 + c0 % 6) bs)).map V.int))) := same_upd hS
    have hS3 : (upd H2 S (.lst ((Tun.edges 5 (1 + c1 % 30) (Tun.frame (2 + c0 % 6) bs)).map V.int))) S = some (.lst (own.map V.int)) := by
      rw [hown]
      exact upd_same
    revert s23 hS3
    generalize upd H2 S (.lst ((Tun.edges 5 (1 + c1 % 30) (Tun.frame (2 + c0 % 6) bs)).map V.int)) = H3
    intro s23 hS3
    have sH3 : Same H H3 := s12.trans s23
    have hA3 : SqL K H3 a (ns.map V.int) := sH3.seq hA
    have hO3 : H3 O = some (.lst (own.map V.int)) := by
      rw [hown]
      exact s23 _ _ hO
    rw [← hown] at hel heb hen
    have fin : ∀ (H' : Hp) (S' : Addr) (sig : List Int) (x6 x7 : Option V), Same H3 H' → H' S' = some (.lst (sig.map V.int)) → sig.length ≤ 1000 → (∀ d ∈ Tun.dists sig, -10000 ≤ d ∧ d ≤ 10000) →
        tsB { nx := fun _ H' => Q .non H', rt := Q } [some (.ref a), some (.int (2 + c0 % 6)), some (.int (1 + c1 % 30)), some (.str (bS bs)), some (.ref O), some (.ref S'), x6, x7, none, none, none, none, none, none, none, none, none] H' := by
      intro H' S' sig x6 x7 s3 hS' hl hd
      refine rB Q H' a O S' _ _ bs sig x6 x7 _ _ _ _ _ _ hQ bL.1 bL.2 bT.1 bT.2 hbl ?_ hS' hl hd ((Gr.of (sH3.trans s3)).tab T hT)
      rw [← hown]
      exact s3 _ _ hO3
    have own_d : ∀ (sig : List Int), (∀ x ∈ sig, 0 ≤ x ∧ x ≤ 10000) → ∀ d ∈ Tun.dists sig, -10000 ≤ d ∧ d ≤ 10000 := fun sig h d hd => Tun.dists_bd sig h d hd
    -- kind
    refine ⟨_, rfl, a, ns, 3, rfl, hA3, fun c3 => ⟨_, _, rfl, rfl, (by show (0 : Int) < 4; decide), ?_⟩⟩
    refine ⟨_, rfl, rfl, _, rfl, ?_⟩
    refine ite2 (fun _ => ?_) (fun _ => ?_)
    · -- two frames
      refine ⟨_, rfl, _, rfl, O, rfl, ⟨_, SqL.of hO3⟩, fun D hD => lc_list (K := K) (a := O) (xs := own.map V.int) (fun i H' => ∃ zs : List Int, zs.length = i ∧ (∀ z ∈ zs, 0 ≤ z ∧ z ≤ 10000) ∧ Same H3 H' ∧ H' D = some (.lst (zs.map V.int)))
        ⟨[], rfl, (fun z hz => by cases hz), same_upd hD, upd_same⟩ (fun i H' _ ⟨_, _, _, hb, _⟩ => hb.seq (SqL.of hO3)) ?_ ?_⟩
      · rintro i x H' hi ⟨zs, hzl, hzb, s4, h4⟩
        obtain ⟨hil, rfl⟩ := map_at hi
        obtain ⟨v, hv, hat⟩ := last_at hen
        have b1 := heb v hv
        have b2 := heb _ (List.getElem_mem hil)
        refine ⟨rfl, ?_⟩
        refine yes_if ?_
        refine ⟨_, rfl, 1, rfl, S, _, _, _, rfl, rfl, SqL.of (s4 _ _ hS3), hat, _, _, rfl, rfl, _, rfl, a, ns, 4, rfl, s4.seq hA3, fun c4 => ⟨_, _, rfl, rfl, (by show (0 : Int) < 50; decide), _, _, rfl, rfl, _, rfl, _, _, rfl, rfl, ?_⟩⟩
        have b3 : 0 ≤ c4 % 50 ∧ c4 % 50 < 50 := by omega
        refine ⟨_, h4, ?_, zs ++ [v + 1 + c4 % 50 + own[i]], by rw [List.length_append, hzl]; rfl, fun z hz => ?_, fun b o e => ?_, ?_⟩
        · rw [List.length_map]
          omega
        · rcases List.mem_append.mp hz with hz | hz
          · exact hzb z hz
          · have e : z = v + 1 + c4 % 50 + own[i] := by simpa using hz
            omega
        · rw [upd_ne (ne_of_none e hD)]
          exact s4 _ _ e
        · rw [upd_same, List.map_append]
          rfl
      · rintro H' ⟨zs, hzl, hzb, s4, h4⟩
        rw [List.length_map] at hzl
        refine ⟨S, D, _, _, rfl, rfl, s4 _ _ hS3, h4, by rw [List.length_map, List.length_map]; omega, fun p hp => ?_⟩
        rw [← List.map_append]
        refine fin _ p (own ++ zs) _ _ (s4.trans (same_upd hp)) upd_same (by rw [List.length_append]; omega) (own_d _ fun x hx => ?_)
        rcases List.mem_append.mp hx with hx | hx
        · have := heb x hx
          omega
        · exact hzb x hx
    · refine ⟨_, rfl, rfl, _, rfl, ?_⟩
      refine ite2 (fun _ => ?_) (fun _ => ?_)
      · -- an edge changed
        have hpos : (0 : Int) < ((own.map V.int).length : Nat) := by
          rw [List.length_map]
          have := List.length_pos_iff.mpr hen
          omega
        refine ⟨_, rfl, a, ns, 4, rfl, hA3, fun c4 => ⟨_, rfl, S, _, rfl, .inl (SqL.of hS3), _, _, rfl, rfl, hpos, ?_⟩⟩
        refine ⟨_, rfl, _, rfl, _, rfl, S, _, rfl, SqL.of hS3, fun p1 hp1 => ?_⟩
        rw [cut_ints]
        have s4 : Same H3 (upd H3 p1 (.lst ((cutI own none (some (c4 % ((own.map V.int).length : Nat)))).map V.int))) := same_upd hp1
        have h4 : (upd H3 p1 (.lst ((cutI own none (some (c4 % ((own.map V.int).length : Nat)))).map V.int))) p1 = some (.lst ((cutI own none (some (c4 % ((own.map V.int).length : Nat)))).map V.int)) := upd_same
        revert s4 h4
        generalize upd H3 p1 (.lst ((cutI own none (some (c4 % ((own.map V.int).length : Nat)))).map V.int)) = H4
        intro s4 h4
        refine ⟨_, rfl, _, rfl, _, rfl, S, _, rfl, SqL.of (s4 _ _ hS3), fun p2 hp2 => ?_⟩
        rw [cut_ints]
        have s5 : Same H4 (upd H4 p2 (.lst ((cutI own (some (c4 % ((own.map V.int).length : Nat))) none).map V.int))) := same_upd hp2
        have h5 : (upd H4 p2 (.lst ((cutI own (some (c4 % ((own.map V.int).length : Nat))) none).map V.int))) p2 = some (.lst ((cutI own (some (c4 % ((own.map V.int).length : Nat))) none).map V.int)) := upd_same
        revert s5 h5
        generalize upd H4 p2 (.lst ((cutI own (some (c4 % ((own.map V.int).length : Nat))) none).map V.int)) = H5
        intro s5 h5
        have l1 := cutI_len own none (some (c4 % ((own.map V.int).length : Nat)))
        have l2 := cutI_len own (some (c4 % ((own.map V.int).length : Nat))) none
        have m1 : ∀ x ∈ cutI own none (some (c4 % ((own.map V.int).length : Nat))), x ∈ own := fun x hx => cutI_mem hx
        have m2 : ∀ x ∈ cutI own (some (c4 % ((own.map V.int).length : Nat))) none, x ∈ own := fun x hx => cutI_mem hx
        revert l1 l2 m1 m2 h4 h5
        generalize cutI own none (some (c4 % ((own.map V.int).length : Nat))) = q1
        generalize cutI own (some (c4 % ((own.map V.int).length : Nat))) none = q2
        intro h4 h5 l1 l2 m1 m2
        have s45 := s4.trans s5
        refine ⟨p2, rfl, ⟨_, SqL.of h5⟩, fun D hD => lc_list (K := K) (a := p2) (xs := q2.map V.int) (fun i H' => ∃ zs : List Int, zs.length = i ∧ (∀ z ∈ zs, 0 ≤ z ∧ z ≤ 10000) ∧ Same H5 H' ∧ H' D = some (.lst (zs.map V.int)))
          ⟨[], rfl, (fun z hz => by cases hz), same_upd hD, upd_same⟩ (fun i H' _ ⟨_, _, _, hb, _⟩ => hb.seq (SqL.of h5)) ?_ ?_⟩
        · rintro i x H' hi ⟨zs, hzl, hzb, s6, h6⟩
          obtain ⟨hil, rfl⟩ := map_at hi
          have b2 := heb _ (m2 _ (List.getElem_mem hil))
          refine ⟨rfl, ?_⟩
          refine yes_if ?_
          refine ⟨_, rfl, _, _, rfl, rfl, _, rfl, a, ns, 5, rfl, (s45.trans s6).seq hA3, fun c5 => ⟨_, _, rfl, rfl, (by show (0 : Int) < 3; decide), _, _, rfl, rfl, ?_⟩⟩
          have b3 : 0 ≤ c5 % 3 ∧ c5 % 3 < 3 := by omega
          refine ⟨_, h6, ?_, zs ++ [q2[i] + 1 + c5 % 3], by rw [List.length_append, hzl]; rfl, fun z hz => ?_, fun b o e => ?_, ?_⟩
          · rw [List.length_map]
            omega
          · rcases List.mem_append.mp hz with hz | hz
            · exact hzb z hz
            · have e : z = q2[i] + 1 + c5 % 3 := by simpa using hz
              omega
          · rw [upd_ne (ne_of_none e hD)]
            exact s6 _ _ e
          · rw [upd_same, List.map_append]
            rfl
        · rintro H' ⟨zs, hzl, hzb, s6, h6⟩
          rw [List.length_map] at hzl
          refine ⟨p1, D, _, _, rfl, rfl, s6 _ _ (s5 _ _ h4), h6, by rw [List.length_map, List.length_map]; omega, fun p hp => ?_⟩
          rw [← List.map_append]
          refine fin _ p (q1 ++ zs) _ _ (s45.trans (s6.trans (same_upd hp))) upd_same (by rw [List.length_append]; omega) (own_d _ fun x hx => ?_)
          rcases List.mem_append.mp hx with hx | hx
          · have := heb x (m1 x hx)
            omega
          · exact hzb x hx
      · refine ⟨_, rfl, rfl, _, rfl, ?_⟩
        refine ite2 (fun _ => ?_) (fun _ => ?_)
        · -- any edges
          refine ⟨_, rfl, a, ns, 4, rfl, hA3, fun c4 => ⟨c4, 6, 9, rfl, by omega, by omega, by omega, fun sig H' p hl hd s4 p0 hp => ?_⟩⟩
          refine fin H' p sig _ _ s4 hp (by omega) fun d hdd => ?_
          have := hd d hdd
          omega
        · refine fin H3 S own _ _ (Same.refl _) hS3 (by omega) (own_d _ fun x hx => ?_)
          have := heb x hx
          omega
end
end Tw
end

section
set_option Elab.async false
set_option linter.all false
set_option maxRecDepth 100000
set_option maxHeartbeats 0
/-! What the top leaves, read by facts. -/
namespace Tw
open PySem PySem.Spec PyProof.Rows L2
def dF (x : Str) (i : Nat) : He.DefD := ⟨(x, none), x, x, defArgs (top i), defBody (top i), defScope (top i), [], []⟩
def dM (x q : Str) (j : Nat) : He.DefD := ⟨("Reader", some x), x, q, defArgs (inClass (top 6) j), defBody (inClass (top 6) j), defScope (inClass (top 6) j), [], []⟩
def fnL : List He.DefD := [dF "stuff" 1, dF "flag_of" 3, dF "frame_bits" 4, dF "zeros_of" 5, dM "__init__" "Reader.__init__" 0, dM "read" "Reader.read" 1, dF "read_gaps" 7, dF "framed" 10, dF "strangers" 11, dF "distances" 12,
  dF "divides_all" 13, dF "tunings" 14, dF "shift_at" 19, dF "check_edges" 20, dF "signal_of" 21, dF "_law_cell" 23, dF "_law_draws" 24, dF "_law_bits" 25, dF "_law_signal" 27, dF "law" 28]
def faL : List He.Fa := [.glo "stuff", .glo "flag_of", .glo "frame_bits", .glo "zeros_of", .glo "Reader", .glo "read_gaps", .glo "framed", .glo "strangers", .glo "distances", .glo "divides_all",
  .glo "tunings", .glo "shift_at", .glo "check_edges", .glo "signal_of", .glo "_law_cell", .glo "_law_draws", .glo "_law_bits", .glo "_law_signal", .glo "law", .glo "LIMITS",
  .free "len", .free "range", .free "enumerate", .free "min", .free "max", .free "all", .free "int", .free "str", .free "list", .free "isinstance",
  .cls "Reader", .noat "Reader" "limit", .noat "Reader" "bits", .noat "Reader" "is_closed", .noat "Reader" "payloads", .meth "Reader" "read", .mkr "Reader"]
def tabL : List He.Defn := [("divides_all", none)]
def limD : List He.Dv := [.int 2, .int 3, .int 4, .int 5, .int 6, .int 7]
def exL (K : PySem.W.Frag) : Bool := He.tupB K "LIMITS" limD
abbrev RL : PySem.W.OpenRow := PySem.W.OpenLaw.row PySem.Challenge.rw_edgelink_k16_tunings
abbrev hkL : PySem.W.Hook := He.hookX 5 faL fnL [] tabL exL
def obL (s : PySem.W.SharedT) : He.AlX := He.obsX 5 faL fnL [] tabL exL (HandSHeadRun.getT s)
theorem obL_eq (s : PySem.W.SharedT) : obL s = hkL.obs s.abs := He.obsX_eq (HandSHeadRun.getT_eq s)
def namesL : List Str := ["stuff", "flag_of", "frame_bits", "zeros_of", "Reader", "read_gaps", "LIMITS", "framed", "strangers", "distances", "divides_all", "tunings", "LinkError", "Refused", "shift_at", "check_edges", "signal_of",
  "_law_cell", "_law_draws", "_law_bits", "_law_generator", "_law_signal"]
theorem runL (w : World) : HandSHeadRun.RunEq RL (PySem.W.view RL.prog [28]) hkL obL 4000 namesL w := by
  intro os
  kernel_rfl
end Tw
end

section
set_option Elab.async false
set_option linter.all false
set_option maxRecDepth 100000
set_option maxHeartbeats 4000000
/-! The end. -/
namespace Tw
open PySem PySem.Spec PyProof.Rows L2
theorem code_of {K : PySem.W.Frag} {x : Str} {st : Stmt} {fd : FuncData} {p : He.Defn} (F : FnP K x st (He.fAd K p) fd) : fd.code = .ref (He.cT K p).1 := by
  obtain ⟨oc, od, dV, kV, doc, pm, an, cdv, ct, osl, rfl, lk, hcd, _, _⟩ := F.ex
  obtain ⟨c, rfl⟩ := He.codeIn_ref hcd
  have e := He.codeOf_eq (p := p) lk (c := c) rfl
  show Value.ref c = .ref (He.codeOf K p)
  rw [e]
section
variable {P : Program} {w : World} {K : PySem.W.Frag} {mg : Str → Option Value} {h : Heap}
theorem facts {wd : World} (X : K.In h) (G : h.Ns mainGlobals mg) (c : He.SaysX faL fnL [] tabL exL wd h K) :
    (∃ fd : FuncData, FnP K "law" sLaw (He.fAd K ("law", none)) fd) ∧ mg "law" = some (.ref (He.fAd K ("law", none))) ∧
    ∀ base : Heap, GxR.TabB base mg (He.cT K ("divides_all", none)).1 (He.cT K ("divides_all", none)).2 → LawT P w K mg base (He.cT K ("divides_all", none)).2 := by
  have d := c.t.d
  obtain ⟨fd0, F0⟩ := d.def_ 0 (d := dF "stuff" 1) rfl
  obtain ⟨fd1, F1⟩ := d.def_ 1 (d := dF "flag_of" 3) rfl
  obtain ⟨fd2, F2⟩ := d.def_ 2 (d := dF "frame_bits" 4) rfl
  obtain ⟨fd3, F3⟩ := d.def_ 3 (d := dF "zeros_of" 5) rfl
  obtain ⟨fd4, F4⟩ := d.def_ 4 (d := dM "__init__" "Reader.__init__" 0) rfl
  obtain ⟨fd5, F5⟩ := d.def_ 5 (d := dM "read" "Reader.read" 1) rfl
  obtain ⟨fd6, F6⟩ := d.def_ 6 (d := dF "read_gaps" 7) rfl
  obtain ⟨fd7, F7⟩ := d.def_ 7 (d := dF "framed" 10) rfl
  obtain ⟨fd8, F8⟩ := d.def_ 8 (d := dF "strangers" 11) rfl
  obtain ⟨fd9, F9⟩ := d.def_ 9 (d := dF "distances" 12) rfl
  obtain ⟨fd10, F10⟩ := d.def_ 10 (d := dF "divides_all" 13) rfl
  obtain ⟨fd11, F11⟩ := d.def_ 11 (d := dF "tunings" 14) rfl
  obtain ⟨fd12, F12⟩ := d.def_ 12 (d := dF "shift_at" 19) rfl
  obtain ⟨fd13, F13⟩ := d.def_ 13 (d := dF "check_edges" 20) rfl
  obtain ⟨fd14, F14⟩ := d.def_ 14 (d := dF "signal_of" 21) rfl
  obtain ⟨fd15, F15⟩ := d.def_ 15 (d := dF "_law_cell" 23) rfl
  obtain ⟨fd16, F16⟩ := d.def_ 16 (d := dF "_law_draws" 24) rfl
  obtain ⟨fd17, F17⟩ := d.def_ 17 (d := dF "_law_bits" 25) rfl
  obtain ⟨fd18, F18⟩ := d.def_ 18 (d := dF "_law_signal" 27) rfl
  obtain ⟨fd19, F19⟩ := d.def_ 19 (d := dF "law" 28) rfl
  have gl : ∀ (i : Nat) (x : Str), faL[i]? = some (.glo x) → mg x = some (.ref (He.ga K x)) := fun i x e => He.glo_ok X G (d.fact i e)
  have fr : ∀ (i : Nat) (x : Str), faL[i]? = some (.free x) → mg x = none := fun i x e => He.free_ok X G (d.fact i e)
  have mlen := fr 20 "len" rfl
  have mrange := fr 21 "range" rfl
  have menum := fr 22 "enumerate" rfl
  have mmin := fr 23 "min" rfl
  have mmax := fr 24 "max" rfl
  have mall := fr 25 "all" rfl
  have mint := fr 26 "int" rfl
  have mstr := fr 27 "str" rfl
  have mlist := fr 28 "list" rfl
  have misi := fr 29 "isinstance" rfl
  have TR : TxtR K mg (He.ga K "Reader") := ⟨He.cls_ok (d.fact 30 (f := .cls "Reader") rfl), He.noat_ok (d.fact 31 (f := .noat "Reader" "limit") rfl), He.noat_ok (d.fact 32 (f := .noat "Reader" "bits") rfl),
    He.noat_ok (d.fact 33 (f := .noat "Reader" "is_closed") rfl), He.noat_ok (d.fact 34 (f := .noat "Reader" "payloads") rfl), gl 4 "Reader" rfl⟩
  have mR : Meth K (He.ga K "Reader") "read" (He.ma K (He.ga K "Reader") "read") := He.meth_ok (d.fact 35 (f := .meth "Reader" "read") rfl)
  have mk : Mk K (He.ga K "Reader") (He.ma K (He.ga K "Reader") "__init__") := He.mkr_ok (d.fact 36 (f := .mkr "Reader") rfl)
  have hL : ∀ H, SqT K H (He.ga K "LIMITS") (Tun.lims.map V.int) := fun H => He.tupB_ok (vs := limD) c.more H
  refine ⟨⟨fd19, F19⟩, gl 18 "law" rfl, fun base TB => ?_⟩
  have F10' : FnP K "divides_all" sDiv (He.fAd K ("divides_all", none)) fd10 := F10
  have e10 : fd10.code = .ref (He.cT K ("divides_all", none)).1 := code_of F10'
  have b4 : Binds K fd4 ["self", "limit"] [] := F4.bindsN fun _ _ _ _ _ _ us hl => match us, hl with | [_, _], _ => rfl
  have b5 : Binds K fd5 ["self", "gap"] [] := F5.bindsN fun _ _ _ _ _ _ us hl => match us, hl with | [_, _], _ => rfl
  have C0 : Cal P w K mg base 1 "stuff" ["limit", "bits"] spStuff _ fd0 := ⟨ok_stuff F0, gl 0 "stuff" rfl, F0.kp, F0.bindsN fun _ _ _ _ _ _ us hl => match us, hl with | [_, _], _ => rfl⟩
  have C1 : Cal P w K mg base 1 "flag_of" ["limit"] spFlag _ fd1 := ⟨ok_flag F1, gl 1 "flag_of" rfl, F1.kp, F1.bindsN fun _ _ _ _ _ _ us hl => match us, hl with | [_], _ => rfl⟩
  have C2 : Cal P w K mg base 2 "frame_bits" ["limit", "payload"] spFrame _ fd2 := ⟨ok_frame F2 C1 C0, gl 2 "frame_bits" rfl, F2.kp, F2.bindsN fun _ _ _ _ _ _ us hl => match us, hl with | [_, _], _ => rfl⟩
  have C3 : Cal P w K mg base 1 "zeros_of" ["bits"] spZeros _ fd3 := ⟨ok_zeros F3 menum, gl 3 "zeros_of" rfl, F3.kp, F3.bindsN fun _ _ _ _ _ _ us hl => match us, hl with | [_], _ => rfl⟩
  have C6 : Cal P w K mg base 3 "read_gaps" ["limit", "gaps"] (spReads K) _ fd6 := ⟨ok_reads F6 TR mk F4 b4 F5 b5 mR, gl 5 "read_gaps" rfl, F6.kp, F6.bindsN fun _ _ _ _ _ _ us hl => match us, hl with | [_, _], _ => rfl⟩
  have C7 : Cal P w K mg base 1 "framed" ["limit", "gaps"] (spFramed K) _ fd7 := ⟨ok_framed F7 menum mrange, gl 6 "framed" rfl, F7.kp, F7.bindsN fun _ _ _ _ _ _ us hl => match us, hl with | [_, _], _ => rfl⟩
  have C8 : Cal P w K mg base 2 "strangers" ["limit", "gaps"] (spStr K) _ fd8 := ⟨ok_strangers F8 C7 mlen, gl 7 "strangers" rfl, F8.kp, F8.bindsN fun _ _ _ _ _ _ us hl => match us, hl with | [_, _], _ => rfl⟩
  have C9 : Cal P w K mg base 1 "distances" ["signal"] (spDist K) _ fd9 := ⟨ok_dist F9 menum, gl 8 "distances" rfl, F9.kp, F9.bindsN fun _ _ _ _ _ _ us hl => match us, hl with | [_], _ => rfl⟩
  have C10 : Cal P w K mg base 1 "divides_all" ["number", "rows"] (spDiv K (He.cT K ("divides_all", none)).2) _ fd10 := ⟨ok_div F10 e10 TB mall, gl 9 "divides_all" rfl, F10.kp, F10.bindsN fun _ _ _ _ _ _ us hl => match us, hl with | [_, _], _ => rfl⟩
  have C11 : Cal P w K mg base 4 "tunings" ["signal"] (spTun K (He.cT K ("divides_all", none)).2) _ fd11 := ⟨ok_tun F11 C9 C10 C8 C6 mrange mmin (gl 19 "LIMITS" rfl) hL, gl 10 "tunings" rfl, F11.kp, F11.bindsN fun _ _ _ _ _ _ us hl => match us, hl with | [_], _ => rfl⟩
  have C12 : Cal P w K mg base 1 "shift_at" ["shifts", "at"] (spShift K) _ fd12 := ⟨ok_shift F12 mlen, gl 11 "shift_at" rfl, F12.kp, F12.bindsN fun _ _ _ _ _ _ us hl => match us, hl with | [_, _], _ => rfl⟩
  have C13 : Cal P w K mg base 1 "check_edges" ["edges"] (spCheck K) _ fd13 := ⟨ok_check F13, gl 12 "check_edges" rfl, F13.kp, F13.bindsN fun _ _ _ _ _ _ us hl => match us, hl with | [_], _ => rfl⟩
  have C14 : Cal P w K mg base 2 "signal_of" ["bits", "start", "bit_time", "shifts"] (spSig K) _ fd14 := ⟨ok_sig F14 C3 C12 C13 menum, gl 13 "signal_of" rfl, F14.kp, F14.bindsN fun _ _ _ _ _ _ us hl => match us, hl with | [_, _, _, _], _ => rfl⟩
  have C15 : Cal P w K mg base 1 "_law_cell" ["_law_script", "_law_k"] (spCell K) _ fd15 := ⟨ok_cell F15 mlen, gl 14 "_law_cell" rfl, F15.kp, F15.bindsN fun _ _ _ _ _ _ us hl => match us, hl with | [_, _], _ => rfl⟩
  have C16 : Cal P w K mg base 1 "_law_draws" ["_law_cell_here", "_law_count"] spDraws _ fd16 := ⟨ok_draws F16 mrange mint, gl 15 "_law_draws" rfl, F16.kp, F16.bindsN fun _ _ _ _ _ _ us hl => match us, hl with | [_, _], _ => rfl⟩
  have C17 : Cal P w K mg base 2 "_law_bits" ["_law_cell_here", "_law_most"] spBits _ fd17 := ⟨ok_bits F17 C16 mrange mint mstr, gl 16 "_law_bits" rfl, F17.kp, F17.bindsN fun _ _ _ _ _ _ us hl => match us, hl with | [_, _], _ => rfl⟩
  have C18 : Cal P w K mg base 2 "_law_signal" ["_law_cell_here", "_law_many", "_law_size"] spSigl _ fd18 := ⟨ok_sigl F18 C16 mrange mint mlen, gl 17 "_law_signal" rfl, F18.kp, F18.bindsN fun _ _ _ _ _ _ us hl => match us, hl with | [_, _, _], _ => rfl⟩
  exact ⟨⟨_, _, C15⟩, ⟨_, _, C17⟩, ⟨_, _, C18⟩, ⟨_, _, C2⟩, ⟨_, _, C14⟩, ⟨_, _, C8⟩, ⟨_, _, C6⟩, ⟨_, _, C11⟩, mlen, mlist, mrange, mmin, mmax, misi⟩
end
end Tw
end

set_option Elab.async false
set_option linter.all false
set_option maxRecDepth 100000
set_option maxHeartbeats 0
/-! The row. -/
open PySem PySem.W PySem.Calls PyProof.Rows
set_option maxRecDepth 100000 in
set_option maxHeartbeats 0 in
theorem PySem.Challenge.cw_edgelink_k16_tunings_holds : PySem.Challenge.rw_edgelink_k16_tunings.Holds := by
  w_on; o_law
  refine HandSHeadRun.head_any (r := OpenLaw.row PySem.Challenge.rw_edgelink_k16_tunings) (q := view (OpenLaw.row PySem.Challenge.rw_edgelink_k16_tunings).prog [28]) (H := Tw.hkL) (ob := Tw.obL) (M := 4000) (loose := Tw.namesL) (d := HandSHeadRun.topDef (OpenLaw.row PySem.Challenge.rw_edgelink_k16_tunings).prog 28) (kwd := []) Tw.obL_eq
    (by kernel_rfl) (fun s => by kernel_rfl) Tw.runL (by kernel_rfl) (by kernel_rfl) (by kernel_rfl) (by rfl) (by first | assumption | decide +kernel) (by decide +kernel) ⟨rfl, rfl, rfl, rfl, rfl, by decide +kernel⟩ ?hw ?hc
  case hw => w_witness2
  case hc =>
    refine LamX.walk_ofTsE (l := PySem.Challenge.rw_edgelink_k16_tunings) (n := 63) (k := 5) (x := "_law_script") (CX := fun _ => L2.CX0) rfl (by decide) (by kernel_rfl) ⟨rfl, by decide, by decide⟩ ?F (fun _ _ _ _ _ z => z)
    intro w mg fa h Y G hmg0
    obtain ⟨K, KX, c⟩ := Y
    have hmg : mg ("law" : PySem.Str) = some (.ref fa) := by
      have e : (HandSHeadRun.topDef (OpenLaw.row PySem.Challenge.rw_edgelink_k16_tunings).prog 28).name = ("law" : PySem.Str) := by kernel_rfl
      rw [← e]
      exact hmg0
    obtain ⟨⟨fd, F⟩, g, LT⟩ := Tw.facts (P := (PySem.Challenge.rw_edgelink_k16_tunings).prog) (w := w) KX G c
    have ef := hmg.symm.trans g
    cases ef
    have b := L2.FunD.bindsA (ps := ["_law_script"]) F fun _ _ _ _ _ _ us hl => match us, hl with | [_], _ => rfl
    refine ⟨K, KX, fd, [He.cT K ("divides_all", none)], Tw.spLaw K (He.cT K ("divides_all", none)).2, fun p hp => ?_, fun p hp => ?_, fun p hp => ?_, fun s v => b s [v] rfl, fun H a ns hl _ hT hS => ?_, fun base _ _ TB => ?_⟩
    · cases List.mem_singleton.mp hp
      exact c.empty _ (List.mem_singleton.mpr rfl)
    · cases List.mem_singleton.mp hp
      exact c.out _ (List.mem_singleton.mpr rfl)
    · cases List.mem_singleton.mp hp
      exact PySem.W.codeHd_of_K KX (c.hd _ (List.mem_singleton.mpr rfl))
    · exact ⟨a, ns, rfl, hS, ⟨#[], hT _ (List.mem_singleton.mpr rfl), True.intro⟩, fun _ => rfl⟩
    · have tb := TB _ (List.mem_singleton.mpr rfl)
      exact Tw.ok_law F (LT base ⟨tb.code, tb.bm, tb.gP⟩)
