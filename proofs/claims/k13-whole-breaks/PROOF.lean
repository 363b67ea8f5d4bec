import PyProof.Rows.All
import HandS.Text
import KE.KBits
import KE.BitLaws
import Wide.All
import OpenK.AllK
import Wide.FinOn
import HandS.ForMost
import HandS.More
import HandS.Codes
import HandS.TupSets
import HandS.TupAny
import HandS.Wide
import HandS.WideBits
import HandS.DictComp
import HandS.Walk
import KE.KEqDeep
import PySem.Challenge.RW_offing_k13_whole_breaks_of_ranges
set_option Elab.async false
set_option linter.all false
set_option maxRecDepth 100000
/-! The mathematics: digests, nodes, told trees, first differences. No program in sight. -/
namespace Of
open PySem

/-! ### digests -/
/-- the digits of a number to the base of 32 bits, the lowest first -/
def digs (n : Int) : List Int := if h : 0 < n then Builtin.bitAnd n 4294967295 :: digs (n / 4294967296) else []
termination_by n.toNat
decreasing_by omega
theorem digs_pos {n : Int} (h : 0 < n) : digs n = Builtin.bitAnd n 4294967295 :: digs (n / 4294967296) := by
  rw [digs, dif_pos h]
theorem digs_neg {n : Int} (h : ¬ 0 < n) : digs n = [] := by
  rw [digs, dif_neg h]
theorem digs_len : ∀ (k : Nat) (n : Int), n < 4294967296 ^ k → (digs n).length ≤ k
  | 0, n, h => by
    rw [digs_neg (by rw [Int.pow_zero] at h; omega)]
    exact Nat.le_refl _
  | k + 1, n, h => by
    by_cases hn : 0 < n
    · rw [digs_pos hn, List.length_cons]
      have h2 : n / 4294967296 < 4294967296 ^ k := by
        rw [Int.pow_succ] at h
        exact Int.ediv_lt_of_lt_mul (by decide) h
      have := digs_len k _ h2
      omega
    · rw [digs_neg hn]
      exact Nat.zero_le _
/-- the limbs of one number -/
def limb1 (n : Int) : List Int := ((digs n).length : Int) :: digs n
/-- the limbs of numbers -/
def limbs (ns : List Int) : List Int := (ns.length : Int) :: ns.flatMap limb1
/-- one limb is mixed into the two words -/
def mixF (p : Int × Int) (l : Int) : Int := Builtin.bitAnd (Builtin.bitXor p.1 l * 15241578750190521011) 18446744073709551615
def mixG (p : Int × Int) (l : Int) : Int := Builtin.bitXor (mixF p l) (mixF p l / 2147483648)
def mixS (p : Int × Int) (l : Int) : Int := Builtin.bitAnd ((p.2 + mixG p l) * 9764318250173649287) 18446744073709551615
def mixT (p : Int × Int) (l : Int) : Int := Builtin.bitXor (mixS p l) (mixS p l / 536870912)
def mix (p : Int × Int) (l : Int) : Int × Int := (Builtin.bitAnd (mixG p l + mixT p l) 18446744073709551615, mixT p l)
def two0 : Int × Int := (7263541890216354987, 12985647301928374651)
def words2 (w tag : Int) (ns : List Int) : Int × Int := (tag :: (limbs ns ++ [w, w])).foldl mix two0
def dig (w tag : Int) (ns : List Int) : Int := ((words2 w tag ns).1 * 18446744073709551616 + (words2 w tag ns).2) / 2 ^ (128 - w).toNat

theorem and_mask (x : Int) : 0 ≤ Builtin.bitAnd x 18446744073709551615 ∧ Builtin.bitAnd x 18446744073709551615 < 18446744073709551616 := by
  have h := PySem.W.kbt_mask x 64
  have e : (2 : Int) ^ 64 - 1 = 18446744073709551615 := by decide
  have e2 : (2 : Int) ^ 64 = 18446744073709551616 := by decide
  rw [e, e2] at h
  rw [h]
  omega
theorem xor_lt {x y : Int} (hx : 0 ≤ x) (hx2 : x < 18446744073709551616) (hy : 0 ≤ y) (hy2 : y < 18446744073709551616) : 0 ≤ Builtin.bitXor x y ∧ Builtin.bitXor x y < 18446744073709551616 := by
  rw [Bits.bitXor_pp hx hy]
  have h1 : x.toNat < 2 ^ 64 := by omega
  have h2 : y.toNat < 2 ^ 64 := by omega
  have h := Nat.xor_lt_two_pow h1 h2
  omega
/-- both words are words of 64 bits -/
structure W64 (p : Int × Int) : Prop where
  a0 : 0 ≤ p.1
  a1 : p.1 < 18446744073709551616
  b0 : 0 ≤ p.2
  b1 : p.2 < 18446744073709551616
theorem mixT_lt (p : Int × Int) (l : Int) : 0 ≤ mixT p l ∧ mixT p l < 18446744073709551616 := by
  have h := and_mask ((p.2 + mixG p l) * 9764318250173649287)
  unfold mixT mixS
  refine xor_lt h.1 h.2 (by omega) (by omega)
theorem mix_w (p : Int × Int) (l : Int) : W64 (mix p l) := by
  have h := and_mask (mixG p l + mixT p l)
  have t := mixT_lt p l
  exact ⟨h.1, h.2, t.1, t.2⟩
theorem two0_w : W64 two0 := ⟨by decide, by decide, by decide, by decide⟩
theorem fold_w : ∀ (ls : List Int) (p : Int × Int), W64 p → W64 (ls.foldl mix p)
  | [], _, h => h
  | l :: ls, p, _ => fold_w ls _ (mix_w p l)
theorem words2_w (w tag : Int) (ns : List Int) : W64 (words2 w tag ns) := fold_w _ _ two0_w
theorem dig_nn (w tag : Int) (ns : List Int) : 0 ≤ dig w tag ns := by
  have h := words2_w w tag ns
  have h1 := h.a0
  have h2 := h.b0
  unfold dig
  exact Int.ediv_nonneg (by omega) (Int.pow_nonneg (by decide))
theorem dig_lt {w tag : Int} {ns : List Int} (h0 : 0 ≤ w) (h1 : w ≤ 128) : dig w tag ns < 2 ^ w.toNat := by
  have h := words2_w w tag ns
  have a1 := h.a1
  have b1 := h.b1
  unfold dig
  refine Int.ediv_lt_of_lt_mul (Int.pow_pos (by decide)) ?_
  rw [← Int.pow_add, show w.toNat + (128 - w).toNat = 128 by omega]
  have e : (2 : Int) ^ 128 = 340282366920938463463374607431768211456 := by decide
  rw [e]
  omega

/-! ### maps -/
abbrev Pairs := List (Int × Int)
/-- the input of a digest -/
abbrev In := Int × List Int
def dg (w : Int) (i : In) : Int := dig w i.1 i.2
/-- n is 31 less the depth -/
def onL (n : Nat) (p : Int × Int) : Bool := decide (p.1 / 2 ^ n % 2 = 0)
def lef (n : Nat) (kvs : Pairs) : Pairs := kvs.filter (onL n)
def rig (n : Nat) (kvs : Pairs) : Pairs := kvs.filter fun p => !onL n p
def leafIn : Pairs → In
  | [] => (2, [])
  | p :: _ => (2, [p.1, p.2])
/-- the input of the node of these entries, with n bits of the keys left -/
def nodeIn (w : Int) : Nat → Pairs → In
  | 0, kvs => leafIn kvs
  | n + 1, kvs => if kvs.length ≤ 1 then leafIn kvs else (3, [((lef n kvs).length : Int), dg w (nodeIn w n (lef n kvs)), ((rig n kvs).length : Int), dg w (nodeIn w n (rig n kvs))])
theorem node_small {w : Int} {n : Nat} {kvs : Pairs} (h : kvs.length ≤ 1) : nodeIn w n kvs = leafIn kvs := by
  cases n with
  | zero => rfl
  | succ n => exact if_pos h
theorem node_big {w : Int} {n : Nat} {kvs : Pairs} (h : ¬ kvs.length ≤ 1) : nodeIn w (n + 1) kvs = (3, [((lef n kvs).length : Int), dg w (nodeIn w n (lef n kvs)), ((rig n kvs).length : Int), dg w (nodeIn w n (rig n kvs))]) := if_neg h
/-- entries of a node: the keys share all but the last n bits -/
structure Good (n : Nat) (least : Int) (kvs : Pairs) : Prop where
  al : least % 2 ^ n = 0
  nn : 0 ≤ least
  wi : ∀ p ∈ kvs, least ≤ p.1 ∧ p.1 < least + 2 ^ n
  nd : (kvs.map (·.1)).Nodup
  vs : ∀ p ∈ kvs, 0 ≤ p.2 ∧ p.2 < 2 ^ 70
  len : kvs.length ≤ 8
theorem pow_pos2 (n : Nat) : (0 : Int) < 2 ^ n := Int.pow_pos (by decide)
theorem nodup_filter {f : Int × Int → Bool} : ∀ {kvs : Pairs}, (kvs.map (·.1)).Nodup → ((kvs.filter f).map (·.1)).Nodup
  | [], _ => List.nodup_nil
  | p :: r, h => by
    have h : (p.1 :: r.map (·.1)).Nodup := h
    obtain ⟨h1, h2⟩ := List.nodup_cons.mp h
    rw [List.filter_cons]
    split
    · show (p.1 :: (r.filter f).map (·.1)).Nodup
      refine List.nodup_cons.mpr ⟨fun m => h1 ?_, nodup_filter h2⟩
      obtain ⟨q, hq, e⟩ := List.mem_map.mp m
      exact List.mem_map.mpr ⟨q, (List.mem_filter.mp hq).1, e⟩
    · exact nodup_filter h2
/-- which half -/
theorem half {n : Nat} {least k : Int} (al : least % 2 ^ (n + 1) = 0) (h1 : least ≤ k) (h2 : k < least + 2 ^ (n + 1)) : k / 2 ^ n % 2 = 0 ↔ k < least + 2 ^ n := by
  have hp := pow_pos2 n
  have e : (2 : Int) ^ (n + 1) = 2 * 2 ^ n := by rw [Int.pow_succ]; omega
  rw [e] at al h2
  generalize (2 : Int) ^ n = m at *
  obtain ⟨c, hc⟩ : ∃ c, least = 2 * m * c := ⟨least / (2 * m), by have := Int.mul_ediv_add_emod least (2 * m); omega⟩
  subst hc
  have e1 : k = m * (2 * c) + (k - 2 * m * c) := by
    have : m * (2 * c) = 2 * m * c := by rw [← Int.mul_assoc, Int.mul_comm m 2]
    omega
  have e2 : k / m = 2 * c + (k - 2 * m * c) / m := by
    conv => lhs; rw [e1]
    rw [Int.mul_add_ediv_left _ _ (by omega)]
  generalize hd : k - 2 * m * c = d at e2
  by_cases hlt : d < m
  · have z : d / m = 0 := Int.ediv_eq_zero_of_lt (by omega) hlt
    rw [e2, z]
    omega
  · have z : d / m = 1 := by
      have : (d - m) / m = 0 := Int.ediv_eq_zero_of_lt (by omega) (by omega)
      have e3 : d = (d - m) + m * 1 := by omega
      rw [e3, Int.add_mul_ediv_left _ _ (by omega), this]
      omega
    rw [e2, z]
    omega
theorem Good.left {n : Nat} {least : Int} {kvs : Pairs} (g : Good (n + 1) least kvs) : Good n least (lef n kvs) := by
  have e : (2 : Int) ^ (n + 1) = 2 ^ n * 2 := Int.pow_succ ..
  refine ⟨?_, g.nn, fun p hp => ?_, nodup_filter g.nd, fun p hp => g.vs p (List.mem_filter.mp hp).1, Nat.le_trans (List.length_filter_le _ _) g.len⟩
  · have h := g.al
    rw [e] at h
    exact Int.emod_eq_zero_of_dvd (Int.dvd_trans ⟨2, rfl⟩ (Int.dvd_of_emod_eq_zero h))
  · obtain ⟨hm, hf⟩ := List.mem_filter.mp hp
    obtain ⟨h1, h2⟩ := g.wi p hm
    have hf : p.1 / 2 ^ n % 2 = 0 := of_decide_eq_true hf
    exact ⟨h1, (half g.al h1 h2).mp hf⟩
theorem Good.right {n : Nat} {least : Int} {kvs : Pairs} (g : Good (n + 1) least kvs) : Good n (least + 2 ^ n) (rig n kvs) := by
  have e : (2 : Int) ^ (n + 1) = 2 ^ n * 2 := Int.pow_succ ..
  have hp2 := pow_pos2 n
  have nn := g.nn
  refine ⟨?_, by omega, fun p hp => ?_, nodup_filter g.nd, fun p hp => g.vs p (List.mem_filter.mp hp).1, Nat.le_trans (List.length_filter_le _ _) g.len⟩
  · have h := g.al
    rw [e] at h
    rw [Int.add_emod_right]
    exact Int.emod_eq_zero_of_dvd (Int.dvd_trans ⟨2, rfl⟩ (Int.dvd_of_emod_eq_zero h))
  · obtain ⟨hm, hf⟩ := List.mem_filter.mp hp
    obtain ⟨h1, h2⟩ := g.wi p hm
    have hf : ¬ p.1 / 2 ^ n % 2 = 0 := by
      intro z
      have hf : (!decide (p.1 / 2 ^ n % 2 = 0)) = true := hf
      rw [decide_eq_true z] at hf
      exact absurd hf (by decide)
    have h3 : ¬ p.1 < least + 2 ^ n := fun z => hf ((half g.al h1 h2).mpr z)
    refine ⟨by omega, ?_⟩
    rw [e] at h2
    omega
theorem Good.zero {least : Int} {kvs : Pairs} (g : Good 0 least kvs) : kvs.length ≤ 1 := by
  match kvs, g with
  | [], _ => exact Nat.zero_le _
  | [_], _ => exact Nat.le_refl _
  | p :: q :: r, g =>
    have h1 := g.wi p (List.mem_cons_self ..)
    have h2 := g.wi q (List.mem_cons_of_mem _ (List.mem_cons_self ..))
    have nd : (p.1 :: q.1 :: r.map (·.1)).Nodup := g.nd
    have ne : p.1 ≠ q.1 := fun e => (List.nodup_cons.mp nd).1 (by rw [e]; exact List.mem_cons_self ..)
    rw [Int.pow_zero] at h1 h2
    omega
/-- what may be the input of a digest here -/
structure InOk (i : In) : Prop where
  t0 : 0 ≤ i.1
  t1 : i.1 < 16
  nn : ∀ x ∈ i.2, 0 ≤ x ∧ x < 2 ^ 100
  len : i.2.length ≤ 4
theorem leaf_ok {n : Nat} {least : Int} {kvs : Pairs} (g : Good n least kvs) (hn : n ≤ 32) (hl : least + 2 ^ n ≤ 2 ^ 32) : InOk (leafIn kvs) := by
  match kvs, g with
  | [], _ => exact ⟨by decide, by decide, fun x h => absurd h (by simp [leafIn]), by decide⟩
  | p :: r, g =>
    have h1 := g.wi p (List.mem_cons_self ..)
    have h2 := g.vs p (List.mem_cons_self ..)
    have nn := g.nn
    have e : (2 : Int) ^ 32 ≤ 2 ^ 100 := by decide
    have e2 : (2 : Int) ^ 70 ≤ 2 ^ 100 := by decide
    refine ⟨by show (0 : Int) ≤ 2; decide, by show (2 : Int) < 16; decide, fun x h => ?_, by show 2 ≤ 4; decide⟩
    rcases List.mem_cons.mp h with h | h
    · subst h
      omega
    · rw [List.mem_singleton.mp h]
      omega
theorem pow8 {n : Nat} (h : n ≤ 8) : (2 : Int) ^ n ≤ 256 := by
  have z : n = 0 ∨ n = 1 ∨ n = 2 ∨ n = 3 ∨ n = 4 ∨ n = 5 ∨ n = 6 ∨ n = 7 ∨ n = 8 := by omega
  rcases z with rfl | rfl | rfl | rfl | rfl | rfl | rfl | rfl | rfl <;> decide
theorem dg_lt {w : Int} {i : In} (h0 : 0 ≤ w) (h1 : w ≤ 8) : 0 ≤ dg w i ∧ dg w i < 2 ^ 100 := by
  refine ⟨dig_nn _ _ _, Int.lt_of_lt_of_le (dig_lt (w := w) h0 (by omega)) ?_⟩
  exact Int.le_trans (pow8 (by omega)) (by decide)
theorem node_ok {w : Int} {n : Nat} {least : Int} {kvs : Pairs} (g : Good n least kvs) (hn : n ≤ 32) (hl : least + 2 ^ n ≤ 2 ^ 32) (h0 : 0 ≤ w) (h1 : w ≤ 8) : InOk (nodeIn w n kvs) := by
  by_cases hk : kvs.length ≤ 1
  · rw [node_small hk]
    exact leaf_ok g hn hl
  · cases n with
    | zero => exact absurd g.zero hk
    | succ n =>
      rw [node_big hk]
      have l8 : (lef n kvs).length ≤ 8 := g.left.len
      have r8 : (rig n kvs).length ≤ 8 := g.right.len
      have e : (8 : Int) < 2 ^ 100 := by decide
      have d1 := dg_lt (w := w) (i := nodeIn w n (lef n kvs)) h0 h1
      have d2 := dg_lt (w := w) (i := nodeIn w n (rig n kvs)) h0 h1
      refine ⟨by show (0 : Int) ≤ 3; decide, by show (3 : Int) < 16; decide, fun x h => ?_, by show 4 ≤ 4; decide⟩
      have h : x ∈ ([((lef n kvs).length : Int), dg w (nodeIn w n (lef n kvs)), ((rig n kvs).length : Int), dg w (nodeIn w n (rig n kvs))] : List Int) := h
      simp only [List.mem_cons, List.not_mem_nil, or_false] at h
      rcases h with h | h | h | h <;> subst h <;> omega

/-! ### told trees -/
inductive T where
  | hid (c d : Int)
  | emp
  | leaf (k v : Int)
  | inn (l r : T)
def T.words : T → List Int
  | .hid c d => [3, c, d]
  | .emp => [0]
  | .leaf k v => [1, k, v]
  | .inn l r => 2 :: (l.words ++ r.words)
def T.cnt : T → Int
  | .hid c _ => c
  | .emp => 0
  | .leaf _ _ => 1
  | .inn l r => l.cnt + r.cnt
def T.dgt (w : Int) : T → Int
  | .hid _ d => d
  | .emp => dig w 2 []
  | .leaf k v => dig w 2 [k, v]
  | .inn l r => dig w 3 [l.cnt, l.dgt w, r.cnt, r.dgt w]
/-- the input that a node tells (a hidden one tells none) -/
def T.inp (w : Int) : T → In
  | .hid _ _ => (0, [])
  | .emp => (2, [])
  | .leaf k v => (2, [k, v])
  | .inn l r => (3, [l.cnt, l.dgt w, r.cnt, r.dgt w])
/-- the entries of the range that are told -/
def T.ents (low high : Int) : T → Pairs
  | .hid _ _ => []
  | .emp => []
  | .leaf k v => if low ≤ k ∧ k ≤ high then [(k, v)] else []
  | .inn l r => l.ents low high ++ r.ents low high
/-- no key of the range belongs here -/
def Out (low high : Int) (n : Nat) (least : Int) : Prop := least + 2 ^ n - 1 < low ∨ least > high
instance (low high : Int) (n : Nat) (least : Int) : Decidable (Out low high n least) := inferInstanceAs (Decidable (_ ∨ _))
def HidOk (w low high : Int) (n : Nat) (least c d : Int) : Prop := (0 ≤ c ∧ 0 ≤ d ∧ d < 2 ^ w.toNat) ∧ Out low high n least
instance (w low high : Int) (n : Nat) (least c d : Int) : Decidable (HidOk w low high n least c d) := inferInstanceAs (Decidable (_ ∧ _))
def LeafOk (n : Nat) (least k v : Int) : Prop := (least ≤ k ∧ k ≤ least + 2 ^ n - 1) ∧ 0 ≤ v
instance (n : Nat) (least k v : Int) : Decidable (LeafOk n least k v) := inferInstanceAs (Decidable (_ ∧ _))
def T.Ok (w low high : Int) : Nat → Int → T → Prop
  | n, least, .hid c d => HidOk w low high n least c d
  | _, _, .emp => True
  | n, least, .leaf k v => LeafOk n least k v
  | 0, _, .inn _ _ => False
  | n + 1, least, .inn l r => T.Ok w low high n least l ∧ T.Ok w low high n (least + 2 ^ n) r
/-- reading: what is told by the first words, and what stands behind it -/
def parse1 (w low high : Int) (n : Nat) (least x : Int) (r : List Int) (k : Option (T × List Int)) : Option (T × List Int) :=
  if x = 0 then some (.emp, r)
  else if x = 1 then (match r with
    | a :: b :: r' => if LeafOk n least a b then some (.leaf a b, r') else none
    | _ => none)
  else if x = 3 then (match r with
    | a :: b :: r' => if HidOk w low high n least a b then some (.hid a b, r') else none
    | _ => none)
  else if x = 2 then k
  else none
def parse (w low high : Int) : Nat → Int → List Int → Option (T × List Int)
  | _, _, [] => none
  | 0, least, x :: r => parse1 w low high 0 least x r none
  | n + 1, least, x :: r => parse1 w low high (n + 1) least x r (match parse w low high n least r with
    | none => none
    | some (t, r1) => match parse w low high n (least + 2 ^ n) r1 with
      | none => none
      | some (u, r2) => some (.inn t u, r2))
theorem parse_words {w low high : Int} : ∀ (t : T) (n : Nat) (least : Int) (r : List Int), T.Ok w low high n least t → parse w low high n least (t.words ++ r) = some (t, r) := by
  intro t
  induction t with
  | hid c d =>
    intro n least r h
    have h : HidOk w low high n least c d := by cases n <;> exact h
    have e : ∀ k, parse1 w low high n least 3 (c :: d :: r) k = some (.hid c d, r) := fun k => by
      unfold parse1
      rw [if_neg (by decide), if_neg (by decide), if_pos rfl]
      exact if_pos h
    cases n <;> exact e _
  | emp =>
    intro n least r h
    cases n <;> rfl
  | leaf k v =>
    intro n least r h
    have h : LeafOk n least k v := by cases n <;> exact h
    have e : ∀ q, parse1 w low high n least 1 (k :: v :: r) q = some (.leaf k v, r) := fun q => by
      unfold parse1
      rw [if_neg (by decide), if_pos rfl]
      exact if_pos h
    cases n <;> exact e _
  | inn l u ihl ihu =>
    intro n least r h
    cases n with
    | zero => exact h.elim
    | succ n =>
      have h1 := ihl n least (u.words ++ r) h.1
      have h2 := ihu n (least + 2 ^ n) r h.2
      show parse w low high (n + 1) least (2 :: (l.words ++ u.words) ++ r) = _
      rw [List.cons_append, List.append_assoc]
      show parse1 w low high (n + 1) least 2 (l.words ++ (u.words ++ r)) _ = _
      unfold parse1
      rw [if_neg (by decide), if_neg (by decide), if_neg (by decide), if_pos rfl, h1]
      show (match parse w low high n (least + 2 ^ n) (u.words ++ r) with | none => none | some (u, r2) => some (T.inn l u, r2)) = _
      rw [h2]
theorem parse_ok {w low high : Int} : ∀ (n : Nat) (least : Int) (ws : List Int) (t : T) (r : List Int), parse w low high n least ws = some (t, r) → T.Ok w low high n least t ∧ ws = t.words ++ r := by
  have leaves : ∀ (n : Nat) (least x : Int) (ws : List Int) (k : Option (T × List Int)) (t : T) (r : List Int), (k = some (t, r) → T.Ok w low high n least t ∧ 2 :: ws = t.words ++ r) → parse1 w low high n least x ws k = some (t, r) → T.Ok w low high n least t ∧ x :: ws = t.words ++ r := by
    intro n least x ws k t r hk h
    unfold parse1 at h
    by_cases h0 : x = 0
    · rw [if_pos h0] at h
      cases h
      subst h0
      exact ⟨by cases n <;> trivial, rfl⟩
    rw [if_neg h0] at h
    by_cases h1 : x = 1
    · rw [if_pos h1] at h
      subst h1
      match ws, h with
      | a :: b :: r', h =>
        have h : (if LeafOk n least a b then some (T.leaf a b, r') else none) = some (t, r) := h
        by_cases hl : LeafOk n least a b
        · rw [if_pos hl] at h
          cases h
          exact ⟨by cases n <;> exact hl, rfl⟩
        · rw [if_neg hl] at h
          cases h
      | [], h => cases h
      | [_], h => cases h
    rw [if_neg h1] at h
    by_cases h3 : x = 3
    · rw [if_pos h3] at h
      subst h3
      match ws, h with
      | a :: b :: r', h =>
        have h : (if HidOk w low high n least a b then some (T.hid a b, r') else none) = some (t, r) := h
        by_cases hl : HidOk w low high n least a b
        · rw [if_pos hl] at h
          cases h
          exact ⟨by cases n <;> exact hl, rfl⟩
        · rw [if_neg hl] at h
          cases h
      | [], h => cases h
      | [_], h => cases h
    rw [if_neg h3] at h
    by_cases h2 : x = 2
    · rw [if_pos h2] at h
      subst h2
      exact hk h
    · rw [if_neg h2] at h
      cases h
  intro n
  induction n with
  | zero =>
    intro least ws t r h
    match ws, h with
    | [], h => cases h
    | x :: ws, h => exact leaves 0 least x ws none t r (fun z => nomatch z) h
  | succ n ih =>
    intro least ws t r h
    match ws, h with
    | [], h => cases h
    | x :: ws, h =>
      refine leaves (n + 1) least x ws _ t r (fun hk => ?_) h
      cases h1 : parse w low high n least ws with
      | none =>
        rw [h1] at hk
        cases hk
      | some p =>
        obtain ⟨a, r1⟩ := p
        rw [h1] at hk
        have hk : (match parse w low high n (least + 2 ^ n) r1 with | none => none | some (u, r2) => some (T.inn a u, r2)) = some (t, r) := hk
        cases h2 : parse w low high n (least + 2 ^ n) r1 with
        | none =>
          rw [h2] at hk
          cases hk
        | some q =>
          obtain ⟨b, r2⟩ := q
          rw [h2] at hk
          cases hk
          obtain ⟨o1, e1⟩ := ih _ _ _ _ h1
          obtain ⟨o2, e2⟩ := ih _ _ _ _ h2
          refine ⟨⟨o1, o2⟩, ?_⟩
          rw [e1, e2]
          show _ = 2 :: (a.words ++ b.words) ++ r
          rw [List.cons_append, List.append_assoc]

/-! ### the true tree -/
def trueT (w low high : Int) : Nat → Int → Pairs → T
  | 0, least, kvs => if Out low high 0 least then .hid (kvs.length : Int) (dg w (nodeIn w 0 kvs)) else (match kvs with
    | [] => .emp
    | p :: _ => .leaf p.1 p.2)
  | n + 1, least, kvs => if Out low high (n + 1) least then .hid (kvs.length : Int) (dg w (nodeIn w (n + 1) kvs)) else (match kvs with
    | [] => .emp
    | [p] => .leaf p.1 p.2
    | _ :: _ :: _ => .inn (trueT w low high n least (lef n kvs)) (trueT w low high n (least + 2 ^ n) (rig n kvs)))
theorem true_out {w low high least : Int} {n : Nat} {kvs : Pairs} (h : Out low high n least) : trueT w low high n least kvs = .hid (kvs.length : Int) (dg w (nodeIn w n kvs)) := by
  cases n with
  | zero => exact if_pos h
  | succ n => exact if_pos h
theorem true_nil {w low high least : Int} {n : Nat} (h : ¬ Out low high n least) : trueT w low high n least [] = .emp := by
  cases n with
  | zero => exact if_neg h
  | succ n => exact if_neg h
theorem true_one {w low high least : Int} {n : Nat} {p : Int × Int} (h : ¬ Out low high n least) : trueT w low high n least [p] = .leaf p.1 p.2 := by
  cases n with
  | zero => exact if_neg h
  | succ n => exact if_neg h
theorem true_more {w low high least : Int} {n : Nat} {kvs : Pairs} (h : ¬ Out low high (n + 1) least) (hk : ¬ kvs.length ≤ 1) :
    trueT w low high (n + 1) least kvs = .inn (trueT w low high n least (lef n kvs)) (trueT w low high n (least + 2 ^ n) (rig n kvs)) := by
  match kvs, hk with
  | [], hk => exact absurd (Nat.zero_le _) hk
  | [_], hk => exact absurd (Nat.le_refl _) hk
  | _ :: _ :: _, _ => exact if_neg h
theorem len_parts (n : Nat) : ∀ kvs : Pairs, (lef n kvs).length + (rig n kvs).length = kvs.length
  | [] => rfl
  | p :: r => by
    have ih := len_parts n r
    unfold lef rig at ih ⊢
    rw [List.filter_cons, List.filter_cons]
    cases h : onL n p
    · simp only [Bool.false_eq_true, if_false, Bool.not_false, if_true, List.length_cons]
      omega
    · simp only [if_true, Bool.not_true, Bool.false_eq_true, if_false, List.length_cons]
      omega
theorem mem_parts {n : Nat} {kvs : Pairs} {p : Int × Int} : p ∈ kvs ↔ p ∈ lef n kvs ∨ p ∈ rig n kvs := by
  unfold lef rig
  rw [List.mem_filter, List.mem_filter]
  cases onL n p <;> simp
/-- cases by the number of entries -/
theorem kv_cases (kvs : Pairs) : kvs = [] ∨ (∃ p, kvs = [p]) ∨ ¬ kvs.length ≤ 1 := by
  match kvs with
  | [] => exact .inl rfl
  | [p] => exact .inr (.inl ⟨p, rfl⟩)
  | _ :: _ :: r => exact .inr (.inr (by simp))
theorem true_cnt {w low high : Int} : ∀ (n : Nat) (least : Int) (kvs : Pairs), Good n least kvs → (trueT w low high n least kvs).cnt = kvs.length ∧ (trueT w low high n least kvs).dgt w = dg w (nodeIn w n kvs) := by
  intro n
  induction n with
  | zero =>
    intro least kvs g
    by_cases ho : Out low high 0 least
    · rw [true_out ho]
      exact ⟨rfl, rfl⟩
    rcases kv_cases kvs with rfl | ⟨p, rfl⟩ | hk
    · rw [true_nil ho]
      exact ⟨rfl, rfl⟩
    · rw [true_one ho]
      exact ⟨rfl, rfl⟩
    · exact absurd g.zero hk
  | succ n ih =>
    intro least kvs g
    by_cases ho : Out low high (n + 1) least
    · rw [true_out ho]
      exact ⟨rfl, rfl⟩
    rcases kv_cases kvs with rfl | ⟨p, rfl⟩ | hk
    · rw [true_nil ho]
      exact ⟨rfl, rfl⟩
    · rw [true_one ho]
      exact ⟨rfl, rfl⟩
    · rw [true_more ho hk, node_big hk]
      obtain ⟨c1, d1⟩ := ih least _ g.left
      obtain ⟨c2, d2⟩ := ih _ _ g.right
      have lp := len_parts n kvs
      refine ⟨?_, ?_⟩
      · show (trueT w low high n least (lef n kvs)).cnt + (trueT w low high n (least + 2 ^ n) (rig n kvs)).cnt = _
        rw [c1, c2]
        omega
      · show dig w 3 [(trueT w low high n least (lef n kvs)).cnt, (trueT w low high n least (lef n kvs)).dgt w, (trueT w low high n (least + 2 ^ n) (rig n kvs)).cnt, (trueT w low high n (least + 2 ^ n) (rig n kvs)).dgt w] = _
        rw [c1, c2, d1, d2]
        rfl
theorem true_ok {w low high : Int} (h0 : 0 ≤ w) (h1 : w ≤ 8) : ∀ (n : Nat) (least : Int) (kvs : Pairs), Good n least kvs → T.Ok w low high n least (trueT w low high n least kvs) := by
  have hid : ∀ (n : Nat) (least : Int) (kvs : Pairs), Out low high n least → T.Ok w low high n least (.hid (kvs.length : Int) (dg w (nodeIn w n kvs))) := fun n least kvs ho => by
    have z : HidOk w low high n least (kvs.length : Int) (dg w (nodeIn w n kvs)) := ⟨⟨by omega, dig_nn _ _ _, dig_lt h0 (by omega)⟩, ho⟩
    cases n <;> exact z
  have leaf : ∀ (n : Nat) (least : Int) (p : Int × Int), Good n least [p] → T.Ok w low high n least (.leaf p.1 p.2) := fun n least p g => by
    have a := g.wi p (List.mem_cons_self ..)
    have b := g.vs p (List.mem_cons_self ..)
    have z : LeafOk n least p.1 p.2 := ⟨⟨a.1, by omega⟩, b.1⟩
    cases n <;> exact z
  intro n
  induction n with
  | zero =>
    intro least kvs g
    by_cases ho : Out low high 0 least
    · rw [true_out ho]
      exact hid _ _ _ ho
    rcases kv_cases kvs with rfl | ⟨p, rfl⟩ | hk
    · rw [true_nil ho]
      trivial
    · rw [true_one ho]
      exact leaf _ _ _ g
    · exact absurd g.zero hk
  | succ n ih =>
    intro least kvs g
    by_cases ho : Out low high (n + 1) least
    · rw [true_out ho]
      exact hid _ _ _ ho
    rcases kv_cases kvs with rfl | ⟨p, rfl⟩ | hk
    · rw [true_nil ho]
      trivial
    · rw [true_one ho]
      exact leaf _ _ _ g
    · rw [true_more ho hk]
      exact ⟨ih _ _ g.left, ih _ _ g.right⟩
/-- how many words, and how great -/
theorem true_words {w low high : Int} (h0 : 0 ≤ w) (h1 : w ≤ 8) : ∀ (n : Nat) (least : Int) (kvs : Pairs), least + 2 ^ n ≤ 2 ^ 32 → Good n least kvs →
    (trueT w low high n least kvs).words.length ≤ 3 + 4 * n * kvs.length ∧ ∀ x ∈ (trueT w low high n least kvs).words, 0 ≤ x ∧ x < 2 ^ 70 := by
  have e8 : (8 : Int) < 2 ^ 70 := by decide
  have e32 : (2 : Int) ^ 32 ≤ 2 ^ 70 := by decide
  have hid : ∀ (n : Nat) (least : Int) (kvs : Pairs), Good n least kvs → ∀ x ∈ (T.hid (kvs.length : Int) (dg w (nodeIn w n kvs))).words, 0 ≤ x ∧ x < 2 ^ 70 := fun n least kvs g x hx => by
    have l8 := g.len
    have d0 : 0 ≤ dg w (nodeIn w n kvs) := dig_nn _ _ _
    have d1 : dg w (nodeIn w n kvs) < 2 ^ 70 := Int.lt_of_lt_of_le (dig_lt (w := w) h0 (by omega)) (Int.le_trans (pow8 (by omega)) (by decide))
    have hx : x ∈ ([3, (kvs.length : Int), dg w (nodeIn w n kvs)] : List Int) := hx
    simp only [List.mem_cons, List.not_mem_nil, or_false] at hx
    rcases hx with rfl | rfl | rfl <;> omega
  have leaf : ∀ (n : Nat) (least : Int) (p : Int × Int), least + 2 ^ n ≤ 2 ^ 32 → Good n least [p] → ∀ x ∈ (T.leaf p.1 p.2).words, 0 ≤ x ∧ x < 2 ^ 70 := fun n least p hl g x hx => by
    have a := g.wi p (List.mem_cons_self ..)
    have b := g.vs p (List.mem_cons_self ..)
    have nn := g.nn
    have hx : x ∈ ([1, p.1, p.2] : List Int) := hx
    simp only [List.mem_cons, List.not_mem_nil, or_false] at hx
    rcases hx with rfl | rfl | rfl <;> omega
  have emp : ∀ x ∈ T.emp.words, 0 ≤ x ∧ x < 2 ^ 70 := fun x hx => by
    have hx : x ∈ ([0] : List Int) := hx
    rw [List.mem_singleton.mp hx]
    omega
  intro n
  induction n with
  | zero =>
    intro least kvs hl g
    by_cases ho : Out low high 0 least
    · rw [true_out ho]
      exact ⟨Nat.le_add_right _ _, hid _ _ _ g⟩
    rcases kv_cases kvs with rfl | ⟨p, rfl⟩ | hk
    · rw [true_nil ho]
      exact ⟨by decide, emp⟩
    · rw [true_one ho]
      exact ⟨Nat.le_add_right _ _, leaf _ _ _ hl g⟩
    · exact absurd g.zero hk
  | succ n ih =>
    intro least kvs hl g
    by_cases ho : Out low high (n + 1) least
    · rw [true_out ho]
      exact ⟨Nat.le_add_right _ _, hid _ _ _ g⟩
    rcases kv_cases kvs with rfl | ⟨p, rfl⟩ | hk
    · rw [true_nil ho]
      exact ⟨Nat.le_trans (by decide : 1 ≤ 3) (Nat.le_add_right _ _), emp⟩
    · rw [true_one ho]
      exact ⟨Nat.le_add_right _ _, leaf _ _ _ hl g⟩
    · rw [true_more ho hk]
      have e : (2 : Int) ^ (n + 1) = 2 ^ n * 2 := Int.pow_succ ..
      have hp := pow_pos2 n
      obtain ⟨a1, a2⟩ := ih least _ (by omega) g.left
      obtain ⟨b1, b2⟩ := ih _ _ (by omega) g.right
      have lp := len_parts n kvs
      refine ⟨?_, fun x hx => ?_⟩
      · show (2 :: ((trueT w low high n least (lef n kvs)).words ++ (trueT w low high n (least + 2 ^ n) (rig n kvs)).words)).length ≤ _
        rw [List.length_cons, List.length_append]
        have m1 : 4 * n * (lef n kvs).length + 4 * n * (rig n kvs).length = 4 * n * kvs.length := by rw [← Nat.mul_add, lp]
        have m2 : 4 * (n + 1) * kvs.length = 4 * n * kvs.length + 4 * kvs.length := by rw [Nat.mul_add, Nat.add_mul]
        omega
      · have hx : x ∈ 2 :: ((trueT w low high n least (lef n kvs)).words ++ (trueT w low high n (least + 2 ^ n) (rig n kvs)).words) := hx
        rcases List.mem_cons.mp hx with rfl | hx
        · omega
        rcases List.mem_append.mp hx with hx | hx
        · exact a2 x hx
        · exact b2 x hx
end Of

set_option Elab.async false
set_option linter.all false
set_option maxRecDepth 100000
namespace Of
open PySem
/-! ### the first node that is told otherwise than it is -/
def fw (w : Int) : Nat → Pairs → T → Option (In × In)
  | _, _, .hid _ _ => none
  | n, kvs, .emp => if T.inp w .emp ≠ nodeIn w n kvs then some (nodeIn w n kvs, T.inp w .emp) else none
  | n, kvs, .leaf k v => if T.inp w (.leaf k v) ≠ nodeIn w n kvs then some (nodeIn w n kvs, T.inp w (.leaf k v)) else none
  | 0, kvs, .inn l r => if T.inp w (.inn l r) ≠ nodeIn w 0 kvs then some (nodeIn w 0 kvs, T.inp w (.inn l r)) else none
  | n + 1, kvs, .inn l r => if T.inp w (.inn l r) ≠ nodeIn w (n + 1) kvs then some (nodeIn w (n + 1) kvs, T.inp w (.inn l r)) else
      match fw w n (lef n kvs) l with
      | some c => some c
      | none => fw w n (rig n kvs) r
/-- all told nodes, the true one beside each -/
def due (w : Int) : Nat → Pairs → T → List (In × In)
  | _, _, .hid _ _ => []
  | n, kvs, .emp => [(nodeIn w n kvs, T.inp w .emp)]
  | n, kvs, .leaf k v => [(nodeIn w n kvs, T.inp w (.leaf k v))]
  | 0, kvs, .inn l r => [(nodeIn w 0 kvs, T.inp w (.inn l r))]
  | n + 1, kvs, .inn l r => (nodeIn w (n + 1) kvs, T.inp w (.inn l r)) :: (due w n (lef n kvs) l ++ due w n (rig n kvs) r)
def differ (p : In × In) : Bool := decide (p.1 ≠ p.2)
theorem find_one (a b : In) : [(a, b)].find? differ = if b ≠ a then some (a, b) else none := by
  rw [List.find?_cons]
  unfold differ
  by_cases e : b = a
  · subst e
    simp
  · have e' : a ≠ b := fun z => e z.symm
    simp [e, e']
theorem fw_due {w : Int} : ∀ (t : T) (n : Nat) (kvs : Pairs), fw w n kvs t = (due w n kvs t).find? differ := by
  intro t
  induction t with
  | hid c d => intro n kvs; cases n <;> rfl
  | emp => intro n kvs; cases n <;> exact (find_one _ _).symm
  | leaf k v => intro n kvs; cases n <;> exact (find_one _ _).symm
  | inn l r ihl ihr =>
    intro n kvs
    cases n with
    | zero => exact (find_one _ _).symm
    | succ n =>
      show _ = ((nodeIn w (n + 1) kvs, T.inp w (.inn l r)) :: (due w n (lef n kvs) l ++ due w n (rig n kvs) r)).find? differ
      rw [List.find?_cons]
      show (if T.inp w (.inn l r) ≠ nodeIn w (n + 1) kvs then some (nodeIn w (n + 1) kvs, T.inp w (.inn l r)) else
        match fw w n (lef n kvs) l with
        | some c => some c
        | none => fw w n (rig n kvs) r) = _
      by_cases e : T.inp w (.inn l r) = nodeIn w (n + 1) kvs
      · have d : differ (nodeIn w (n + 1) kvs, T.inp w (.inn l r)) = false := by
          unfold differ
          rw [e]
          simp
        rw [if_neg (fun z => z e), d, ihl, ihr, List.find?_append]
        cases (due w n (lef n kvs) l).find? differ <;> rfl
      · have d : differ (nodeIn w (n + 1) kvs, T.inp w (.inn l r)) = true := decide_eq_true fun z => e z.symm
        rw [if_pos e, d]
/-- a node with an input is told; hidden ones tell none -/
def T.told : T → Bool
  | .hid _ _ => false
  | _ => true
theorem T.dgt_inp (w : Int) (t : T) (h : t.told = true) : t.dgt w = dg w (t.inp w) := by
  cases t with
  | hid c d => cases h
  | emp => rfl
  | leaf k v => rfl
  | inn l r => rfl
/-! ### what a told tree's numbers are -/
theorem T.cnt_nn {w low high : Int} : ∀ (t : T) (n : Nat) (least : Int), T.Ok w low high n least t → 0 ≤ t.cnt := by
  intro t
  induction t with
  | hid c d => intro n least h; have h : HidOk w low high n least c d := by cases n <;> exact h
               exact h.1.1
  | emp => intro n least h; exact Int.le_refl 0
  | leaf k v => intro n least h; show (0 : Int) ≤ 1; decide
  | inn l r ihl ihr =>
    intro n least h
    cases n with
    | zero => exact h.elim
    | succ n =>
      have a := ihl _ _ h.1
      have b := ihr _ _ h.2
      show 0 ≤ l.cnt + r.cnt
      omega
theorem T.cnt_le (B : Int) (hB : 1 ≤ B) : ∀ t : T, (∀ x ∈ t.words, x < B) → t.cnt ≤ t.words.length * B := by
  intro t
  induction t with
  | hid c d =>
    intro h
    have hc := h c (by show c ∈ [3, c, d]; simp)
    show c ≤ ((3 : Nat) : Int) * B
    omega
  | emp => intro h; show (0 : Int) ≤ ((1 : Nat) : Int) * B; omega
  | leaf k v => intro h; show (1 : Int) ≤ ((3 : Nat) : Int) * B; omega
  | inn l r ihl ihr =>
    intro h
    have a := ihl fun x hx => h x (List.mem_cons_of_mem _ (List.mem_append_left _ hx))
    have b := ihr fun x hx => h x (List.mem_cons_of_mem _ (List.mem_append_right _ hx))
    show l.cnt + r.cnt ≤ ((2 :: (l.words ++ r.words)).length : Nat) * B
    rw [List.length_cons, List.length_append]
    have e : ((l.words.length + r.words.length + 1 : Nat) : Int) * B = (l.words.length : Int) * B + (r.words.length : Int) * B + B := by
      rw [show ((l.words.length + r.words.length + 1 : Nat) : Int) = (l.words.length : Int) + (r.words.length : Int) + 1 by omega, Int.add_mul, Int.add_mul, Int.one_mul]
    omega
theorem T.dgt_b {w low high : Int} (h0 : 0 ≤ w) (h1 : w ≤ 8) : ∀ (t : T) (n : Nat) (least : Int), T.Ok w low high n least t → 0 ≤ t.dgt w ∧ t.dgt w < 2 ^ w.toNat := by
  intro t n least h
  cases t with
  | hid c d =>
    have h : HidOk w low high n least c d := by cases n <;> exact h
    exact ⟨h.1.2.1, h.1.2.2⟩
  | emp => exact ⟨dig_nn _ _ _, dig_lt h0 (by omega)⟩
  | leaf k v => exact ⟨dig_nn _ _ _, dig_lt h0 (by omega)⟩
  | inn l r => exact ⟨dig_nn _ _ _, dig_lt h0 (by omega)⟩
/-- words of a proof -/
structure Wd (ws : List Int) : Prop where
  len : ws.length ≤ 2000
  wd : ∀ x ∈ ws, 0 ≤ x ∧ x < 2 ^ 70
theorem T.cnt_lt (t : T) (hl : t.words.length ≤ 2000) (hw : ∀ x ∈ t.words, x < 2 ^ 70) : t.cnt < 2 ^ 99 := by
  have a := T.cnt_le (2 ^ 70) (by decide) t hw
  have e : (2000 : Int) * 2 ^ 70 < 2 ^ 99 := by decide
  have : (t.words.length : Int) * 2 ^ 70 ≤ 2000 * 2 ^ 70 := Int.mul_le_mul_of_nonneg_right (by omega) (by decide)
  omega
theorem T.inp_ok {w low high : Int} (h0 : 0 ≤ w) (h1 : w ≤ 8) (t : T) (n : Nat) (least : Int) (h : T.Ok w low high n least t) (hl : t.words.length ≤ 2000) (hw : ∀ x ∈ t.words, x < 2 ^ 70) (nn : 0 ≤ least) : InOk (t.inp w) := by
  have e99 : (2 : Int) ^ 99 < 2 ^ 100 := by decide
  have e70 : (2 : Int) ^ 70 < 2 ^ 100 := by decide
  cases t with
  | hid c d => exact ⟨by show (0 : Int) ≤ 0; decide, by show (0 : Int) < 16; decide, fun x hx => absurd hx (by show x ∉ ([] : List Int); simp), by show 0 ≤ 4; decide⟩
  | emp => exact ⟨by show (0 : Int) ≤ 2; decide, by show (2 : Int) < 16; decide, fun x hx => absurd hx (by show x ∉ ([] : List Int); simp), by show 0 ≤ 4; decide⟩
  | leaf k v =>
    have h : LeafOk n least k v := by cases n <;> exact h
    have b1 := hw k (by show k ∈ [1, k, v]; simp)
    have b2 := hw v (by show v ∈ [1, k, v]; simp)
    obtain ⟨⟨z1, z2⟩, z3⟩ := h
    refine ⟨by show (0 : Int) ≤ 2; decide, by show (2 : Int) < 16; decide, fun x hx => ?_, by show 2 ≤ 4; decide⟩
    have hx : x ∈ ([k, v] : List Int) := hx
    simp only [List.mem_cons, List.not_mem_nil, or_false] at hx
    rcases hx with rfl | rfl <;> omega
  | inn l r =>
    cases n with
    | zero => exact h.elim
    | succ n =>
      have hlw : (2 :: (l.words ++ r.words)).length ≤ 2000 := hl
      rw [List.length_cons, List.length_append] at hlw
      have c1 := l.cnt_lt (by omega) fun x hx => hw x (List.mem_cons_of_mem _ (List.mem_append_left _ hx))
      have c2 := r.cnt_lt (by omega) fun x hx => hw x (List.mem_cons_of_mem _ (List.mem_append_right _ hx))
      have n1 := T.cnt_nn l n least h.1
      have n2 := T.cnt_nn r n _ h.2
      have d1 := T.dgt_b h0 h1 l n least h.1
      have d2 := T.dgt_b h0 h1 r n _ h.2
      have p8 : (2 : Int) ^ w.toNat ≤ 256 := pow8 (by omega)
      have e256 : (256 : Int) < 2 ^ 100 := by decide
      refine ⟨by show (0 : Int) ≤ 3; decide, by show (3 : Int) < 16; decide, fun x hx => ?_, by show 4 ≤ 4; decide⟩
      have hx : x ∈ ([l.cnt, l.dgt w, r.cnt, r.dgt w] : List Int) := hx
      simp only [List.mem_cons, List.not_mem_nil, or_false] at hx
      rcases hx with rfl | rfl | rfl | rfl <;> omega
/-! ### the collision -/
theorem fw_hit {w low high : Int} (h0 : 0 ≤ w) (h1 : w ≤ 8) : ∀ (t : T) (n : Nat) (least : Int) (kvs : Pairs) (a b : In), n ≤ 32 → least + 2 ^ n ≤ 2 ^ 32 → Good n least kvs → T.Ok w low high n least t → t.words.length ≤ 2000 → (∀ x ∈ t.words, x < 2 ^ 70) →
    t.dgt w = dg w (nodeIn w n kvs) → fw w n kvs t = some (a, b) → a ≠ b ∧ dg w a = dg w b ∧ InOk a ∧ InOk b := by
  intro t
  have here : ∀ (t : T) (n : Nat) (least : Int) (kvs : Pairs) (a b : In), n ≤ 32 → least + 2 ^ n ≤ 2 ^ 32 → Good n least kvs → T.Ok w low high n least t → t.words.length ≤ 2000 → (∀ x ∈ t.words, x < 2 ^ 70) →
      t.dgt w = dg w (nodeIn w n kvs) → t.told = true → t.inp w ≠ nodeIn w n kvs → some (nodeIn w n kvs, t.inp w) = some (a, b) → a ≠ b ∧ dg w a = dg w b ∧ InOk a ∧ InOk b := by
    intro t n least kvs a b hn hl g ok hw1 hw2 hd ht hne e
    cases e
    refine ⟨fun z => hne z.symm, ?_, node_ok g hn hl h0 h1, T.inp_ok h0 h1 t n least ok hw1 hw2 g.nn⟩
    rw [← hd, T.dgt_inp w t ht]
  induction t with
  | hid c d => intro n least kvs a b hn hl g ok hw1 hw2 hd e; cases n <;> cases e
  | emp =>
    intro n least kvs a b hn hl g ok hw1 hw2 hd e
    have e : (if T.inp w .emp ≠ nodeIn w n kvs then some (nodeIn w n kvs, T.inp w .emp) else none) = some (a, b) := by cases n <;> exact e
    by_cases z : T.inp w .emp = nodeIn w n kvs
    · rw [if_neg (fun y => y z)] at e
      cases e
    · rw [if_pos z] at e
      exact here _ n least kvs a b hn hl g ok hw1 hw2 hd rfl z e
  | leaf k v =>
    intro n least kvs a b hn hl g ok hw1 hw2 hd e
    have e : (if T.inp w (.leaf k v) ≠ nodeIn w n kvs then some (nodeIn w n kvs, T.inp w (.leaf k v)) else none) = some (a, b) := by cases n <;> exact e
    by_cases z : T.inp w (.leaf k v) = nodeIn w n kvs
    · rw [if_neg (fun y => y z)] at e
      cases e
    · rw [if_pos z] at e
      exact here _ n least kvs a b hn hl g ok hw1 hw2 hd rfl z e
  | inn l r ihl ihr =>
    intro n least kvs a b hn hl g ok hw1 hw2 hd e
    cases n with
    | zero => exact ok.elim
    | succ n =>
      by_cases z : T.inp w (.inn l r) = nodeIn w (n + 1) kvs
      · have e : (match fw w n (lef n kvs) l with | some c => some c | none => fw w n (rig n kvs) r) = some (a, b) := by
          have q : fw w (n + 1) kvs (.inn l r) = (match fw w n (lef n kvs) l with | some c => some c | none => fw w n (rig n kvs) r) := if_neg (fun y => y z)
          rw [← q]
          exact e
        have hk : ¬ kvs.length ≤ 1 := fun hk => by
          rw [node_small hk] at z
          have z2 : (3 : Int) = (leafIn kvs).1 := congrArg Prod.fst z
          have z3 : (leafIn kvs).1 = 2 := by cases kvs <;> rfl
          omega
        rw [node_big hk] at z
        have zz : ([l.cnt, l.dgt w, r.cnt, r.dgt w] : List Int) = [((lef n kvs).length : Int), dg w (nodeIn w n (lef n kvs)), ((rig n kvs).length : Int), dg w (nodeIn w n (rig n kvs))] := congrArg Prod.snd z
        injection zz with z1 zz
        injection zz with z2 zz
        injection zz with z3 zz
        injection zz with z4 _
        have e2 : (2 : Int) ^ (n + 1) = 2 ^ n * 2 := Int.pow_succ ..
        have hp := pow_pos2 n
        have hlw : (2 :: (l.words ++ r.words)).length ≤ 2000 := hw1
        rw [List.length_cons, List.length_append] at hlw
        cases hf : fw w n (lef n kvs) l with
        | some c =>
          rw [hf] at e
          have e : c = (a, b) := Option.some.inj e
          subst e
          exact ihl n least (lef n kvs) a b (by omega) (by omega) g.left ok.1 (by omega) (fun x hx => hw2 x (List.mem_cons_of_mem _ (List.mem_append_left _ hx))) z2 hf
        | none =>
          rw [hf] at e
          exact ihr n (least + 2 ^ n) (rig n kvs) a b (by omega) (by omega) g.right ok.2 (by omega) (fun x hx => hw2 x (List.mem_cons_of_mem _ (List.mem_append_right _ hx))) z4 e
      · have e : some (nodeIn w (n + 1) kvs, T.inp w (.inn l r)) = some (a, b) := by
          have q : fw w (n + 1) kvs (.inn l r) = some (nodeIn w (n + 1) kvs, T.inp w (.inn l r)) := if_pos z
          rw [← q]
          exact e
        exact here _ (n + 1) least kvs a b hn hl g ok hw1 hw2 hd rfl z e
/-- where nothing is told otherwise, the shown entries are those of the range -/
theorem fw_none {w low high : Int} : ∀ (t : T) (n : Nat) (least : Int) (kvs : Pairs), Good n least kvs → T.Ok w low high n least t → fw w n kvs t = none → ∀ p, p ∈ t.ents low high ↔ p ∈ kvs ∧ low ≤ p.1 ∧ p.1 ≤ high := by
  intro t
  induction t with
  | hid c d =>
    intro n least kvs g ok e p
    have ok : HidOk w low high n least c d := by cases n <;> exact ok
    refine ⟨fun h => absurd h (by show p ∉ ([] : Pairs); simp), fun ⟨h, h1, h2⟩ => ?_⟩
    have z := g.wi p h
    rcases ok.2 with o | o <;> omega
  | emp =>
    intro n least kvs g ok e p
    have e : (if T.inp w .emp ≠ nodeIn w n kvs then some (nodeIn w n kvs, T.inp w .emp) else none) = none := by cases n <;> exact e
    by_cases z : T.inp w .emp = nodeIn w n kvs
    · have hk : kvs = [] := by
        rcases kv_cases kvs with rfl | ⟨q, rfl⟩ | hk
        · rfl
        · rw [node_small (show [q].length ≤ 1 from Nat.le_refl 1)] at z
          have z : ([] : List Int) = [q.1, q.2] := congrArg Prod.snd z
          cases z
        · cases n with
          | zero => exact absurd g.zero hk
          | succ n =>
            rw [node_big hk] at z
            have z : (2 : Int) = 3 := congrArg Prod.fst z
            exact absurd z (by decide)
      subst hk
      exact ⟨fun h => absurd h (by show p ∉ ([] : Pairs); simp), fun h => absurd h.1 (by simp)⟩
    · rw [if_pos z] at e
      cases e
  | leaf k v =>
    intro n least kvs g ok e p
    have e : (if T.inp w (.leaf k v) ≠ nodeIn w n kvs then some (nodeIn w n kvs, T.inp w (.leaf k v)) else none) = none := by cases n <;> exact e
    by_cases z : T.inp w (.leaf k v) = nodeIn w n kvs
    · have hk : kvs = [(k, v)] := by
        rcases kv_cases kvs with rfl | ⟨q, rfl⟩ | hk
        · rw [node_small (show ([] : Pairs).length ≤ 1 from Nat.zero_le 1)] at z
          have z : ([k, v] : List Int) = [] := congrArg Prod.snd z
          cases z
        · rw [node_small (show [q].length ≤ 1 from Nat.le_refl 1)] at z
          have z : ([k, v] : List Int) = [q.1, q.2] := congrArg Prod.snd z
          injection z with z1 z
          injection z with z2 _
          rw [z1, z2]
        · cases n with
          | zero => exact absurd g.zero hk
          | succ n =>
            rw [node_big hk] at z
            have z : (2 : Int) = 3 := congrArg Prod.fst z
            exact absurd z (by decide)
      subst hk
      show p ∈ (if low ≤ k ∧ k ≤ high then [(k, v)] else []) ↔ _
      by_cases hr : low ≤ k ∧ k ≤ high
      · rw [if_pos hr]
        refine ⟨fun h => ?_, fun h => h.1⟩
        have e := List.mem_singleton.mp h
        subst e
        exact ⟨h, hr⟩
      · rw [if_neg hr]
        refine ⟨fun h => absurd h (by simp), fun ⟨h, h2⟩ => ?_⟩
        have e := List.mem_singleton.mp h
        subst e
        exact absurd h2 hr
    · rw [if_pos z] at e
      cases e
  | inn l r ihl ihr =>
    intro n least kvs g ok e p
    cases n with
    | zero => exact ok.elim
    | succ n =>
      by_cases z : T.inp w (.inn l r) = nodeIn w (n + 1) kvs
      · have e : (match fw w n (lef n kvs) l with | some c => some c | none => fw w n (rig n kvs) r) = none := by
          have q : fw w (n + 1) kvs (.inn l r) = (match fw w n (lef n kvs) l with | some c => some c | none => fw w n (rig n kvs) r) := if_neg (fun y => y z)
          rw [← q]
          exact e
        cases hf : fw w n (lef n kvs) l with
        | some c =>
          rw [hf] at e
          cases e
        | none =>
          rw [hf] at e
          have a := ihl n least _ g.left ok.1 hf p
          have b := ihr n _ _ g.right ok.2 e p
          show p ∈ l.ents low high ++ r.ents low high ↔ _
          rw [List.mem_append, a, b, mem_parts (n := n) (kvs := kvs)]
          constructor
          · rintro (h | h)
            · exact ⟨.inl h.1, h.2⟩
            · exact ⟨.inr h.1, h.2⟩
          · rintro ⟨h | h, h2⟩
            · exact .inl ⟨h, h2⟩
            · exact .inr ⟨h, h2⟩
      · have q : fw w (n + 1) kvs (.inn l r) = some (nodeIn w (n + 1) kvs, T.inp w (.inn l r)) := if_pos z
        rw [q] at e
        cases e
/-- the true tree tells nothing otherwise -/
theorem fw_true {w low high : Int} : ∀ (n : Nat) (least : Int) (kvs : Pairs), Good n least kvs → fw w n kvs (trueT w low high n least kvs) = none := by
  intro n
  induction n with
  | zero =>
    intro least kvs g
    by_cases ho : Out low high 0 least
    · rw [true_out ho]
      rfl
    rcases kv_cases kvs with rfl | ⟨p, rfl⟩ | hk
    · rw [true_nil ho]
      exact if_neg (fun z => z rfl)
    · rw [true_one ho]
      exact if_neg (fun z => z rfl)
    · exact absurd g.zero hk
  | succ n ih =>
    intro least kvs g
    by_cases ho : Out low high (n + 1) least
    · rw [true_out ho]
      rfl
    rcases kv_cases kvs with rfl | ⟨p, rfl⟩ | hk
    · rw [true_nil ho]
      exact if_neg (fun z => z rfl)
    · rw [true_one ho]
      exact if_neg (fun z => z rfl)
    · rw [true_more ho hk]
      have c1 := true_cnt (w := w) (low := low) (high := high) n least _ g.left
      have c2 := true_cnt (w := w) (low := low) (high := high) n (least + 2 ^ n) _ g.right
      have z : T.inp w (.inn (trueT w low high n least (lef n kvs)) (trueT w low high n (least + 2 ^ n) (rig n kvs))) = nodeIn w (n + 1) kvs := by
        rw [node_big hk]
        show ((3 : Int), [(trueT w low high n least (lef n kvs)).cnt, (trueT w low high n least (lef n kvs)).dgt w, (trueT w low high n (least + 2 ^ n) (rig n kvs)).cnt, (trueT w low high n (least + 2 ^ n) (rig n kvs)).dgt w]) = _
        rw [c1.1, c1.2, c2.1, c2.2]
      have q : fw w (n + 1) kvs (.inn (trueT w low high n least (lef n kvs)) (trueT w low high n (least + 2 ^ n) (rig n kvs))) = (match fw w n (lef n kvs) (trueT w low high n least (lef n kvs)) with | some c => some c | none => fw w n (rig n kvs) (trueT w low high n (least + 2 ^ n) (rig n kvs))) := if_neg (fun y => y z)
      rw [q, ih _ _ g.left]
      exact ih _ _ g.right
/-! ### the told keys stand in their nodes, each once -/
theorem ents_in {w low high : Int} : ∀ (t : T) (n : Nat) (least : Int), T.Ok w low high n least t → ∀ p ∈ t.ents low high, least ≤ p.1 ∧ p.1 < least + 2 ^ n := by
  intro t
  induction t with
  | hid c d => intro n least ok p h; exact absurd h (by show p ∉ ([] : Pairs); simp)
  | emp => intro n least ok p h; exact absurd h (by show p ∉ ([] : Pairs); simp)
  | leaf k v =>
    intro n least ok p h
    have ok : LeafOk n least k v := by cases n <;> exact ok
    have h : p ∈ (if low ≤ k ∧ k ≤ high then [(k, v)] else []) := h
    by_cases hr : low ≤ k ∧ k ≤ high
    · rw [if_pos hr] at h
      rw [List.mem_singleton.mp h]
      exact ⟨ok.1.1, by have := ok.1.2; show k < _; omega⟩
    · rw [if_neg hr] at h
      exact absurd h (by simp)
  | inn l r ihl ihr =>
    intro n least ok p h
    cases n with
    | zero => exact ok.elim
    | succ n =>
      have e2 : (2 : Int) ^ (n + 1) = 2 ^ n * 2 := Int.pow_succ ..
      have hp := pow_pos2 n
      have h : p ∈ l.ents low high ++ r.ents low high := h
      rcases List.mem_append.mp h with h | h
      · have := ihl n least ok.1 p h
        omega
      · have := ihr n _ ok.2 p h
        omega
theorem ents_nd {w low high : Int} : ∀ (t : T) (n : Nat) (least : Int), T.Ok w low high n least t → ((t.ents low high).map (·.1)).Nodup := by
  intro t
  induction t with
  | hid c d => intro n least ok; exact List.nodup_nil
  | emp => intro n least ok; exact List.nodup_nil
  | leaf k v =>
    intro n least ok
    show ((if low ≤ k ∧ k ≤ high then [(k, v)] else []).map (·.1)).Nodup
    split
    · exact List.nodup_cons.mpr ⟨by simp, List.nodup_nil⟩
    · exact List.nodup_nil
  | inn l r ihl ihr =>
    intro n least ok
    cases n with
    | zero => exact ok.elim
    | succ n =>
      show ((l.ents low high ++ r.ents low high).map (·.1)).Nodup
      rw [List.map_append]
      refine List.nodup_append.mpr ⟨ihl _ _ ok.1, ihr _ _ ok.2, fun a ha b hb e => ?_⟩
      obtain ⟨p, hp, rfl⟩ := List.mem_map.mp ha
      obtain ⟨q, hq, rfl⟩ := List.mem_map.mp hb
      have a1 := ents_in l _ _ ok.1 p hp
      have a2 := ents_in r _ _ ok.2 q hq
      omega
theorem ents_len {low high : Int} : ∀ t : T, (t.ents low high).length ≤ t.words.length := by
  intro t
  induction t with
  | hid c d => exact Nat.zero_le _
  | emp => exact Nat.zero_le _
  | leaf k v =>
    show (if low ≤ k ∧ k ≤ high then [(k, v)] else []).length ≤ 3
    split
    · show 1 ≤ 3; decide
    · show 0 ≤ 3; decide
  | inn l r ihl ihr =>
    show (l.ents low high ++ r.ents low high).length ≤ (2 :: (l.words ++ r.words)).length
    rw [List.length_append, List.length_cons, List.length_append]
    omega
/-! ### lists with the same members, each once -/
theorem len_sub {α : Type} [DecidableEq α] : ∀ (l m : List α), l.Nodup → (∀ x ∈ l, x ∈ m) → l.length ≤ m.length
  | [], _, _, _ => Nat.zero_le _
  | a :: r, m, h, hs => by
    obtain ⟨h1, h2⟩ := List.nodup_cons.mp h
    have ha : a ∈ m := hs a (List.mem_cons_self ..)
    have ih := len_sub r (m.erase a) h2 fun x hx => (List.mem_erase_of_ne (fun e => h1 (by rw [← e]; exact hx))).mpr (hs x (List.mem_cons_of_mem _ hx))
    rw [List.length_erase_of_mem ha] at ih
    have : 0 < m.length := List.length_pos_of_mem ha
    rw [List.length_cons]
    omega
theorem nodup_of_keys : ∀ {l : Pairs}, (l.map (·.1)).Nodup → l.Nodup
  | [], _ => List.nodup_nil
  | p :: r, h => by
    have h : (p.1 :: r.map (·.1)).Nodup := h
    obtain ⟨h1, h2⟩ := List.nodup_cons.mp h
    exact List.nodup_cons.mpr ⟨fun m => h1 (List.mem_map.mpr ⟨p, m, rfl⟩), nodup_of_keys h2⟩
end Of

set_option Elab.async false
set_option linter.all false
set_option maxRecDepth 100000
set_option maxHeartbeats 4000000
/-! The text by places, own rules, what stands in the heap, promises. -/
namespace Of
open PySem L2
/-! ### the text -/
def topS (i : Nat) : Stmt := PySem.Challenge.pw_offing_k13_whole_breaks_of_ranges.main.body.getD i (.Pass ⟨0, 0, 0, 0⟩)
abbrev sLimbs : Stmt := topS 8
abbrev sHashI : Stmt := inClass (topS 9) 0
abbrev sDigest : Stmt := inClass (topS 9) 1
abbrev sIsDig : Stmt := inClass (topS 9) 2
abbrev sColl : Stmt := topS 10
abbrev sIsInp : Stmt := topS 11
abbrev sIsColl : Stmt := topS 12
abbrev sBit : Stmt := topS 21
abbrev sParted : Stmt := topS 22
abbrev sNodeIn : Stmt := topS 23
abbrev sNodeDg : Stmt := topS 24
abbrev sRoot : Stmt := topS 25
abbrev sWords : Stmt := topS 26
abbrev sProof : Stmt := topS 27
abbrev sReadI : Stmt := inClass (topS 28) 0
abbrev sTake : Stmt := inClass (topS 28) 1
abbrev sHidden : Stmt := inClass (topS 28) 2
abbrev sLeaf : Stmt := inClass (topS 28) 3
abbrev sNode : Stmt := inClass (topS 28) 4
abbrev sCheck : Stmt := topS 29
abbrev sToldI : Stmt := inClass (topS 30) 0
abbrev sSome : Stmt := inClass (topS 30) 1
abbrev sTNode : Stmt := inClass (topS 30) 2
abbrev sWrong : Stmt := topS 31
abbrev sBreak : Stmt := topS 32
abbrev sDraw : Stmt := topS 34
abbrev sLDig : Stmt := topS 35
abbrev sSide : Stmt := topS 36
abbrev sLNode : Stmt := topS 37
abbrev sOfNode : Stmt := topS 38
abbrev sKey : Stmt := topS 39
abbrev sPairs : Stmt := topS 40
abbrev sTold : Stmt := topS 41
abbrev sDue : Stmt := topS 42
abbrev sForged : Stmt := topS 43
abbrev sLaw : Stmt := topS 44
/-- a module's constant -/
def Glob (mg : Str → Option Value) (x : Str) (v : V) : Prop := ∃ u, mg x = some u ∧ RelV v u
/-- what the top has made -/
structure Txt (K : PySem.W.Frag) (mg : Str → Option Value) (CH CR CT : Addr) : Prop where
  clH : Cls K CH
  clR : Cls K CR
  clT : Cls K CT
  hW : NoAttr K CH "width"
  rH : NoAttr K CR "hasher"
  rP : NoAttr K CR "proof"
  rL : NoAttr K CR "low"
  rG : NoAttr K CR "high"
  rA : NoAttr K CR "at"
  rF : NoAttr K CR "found"
  rB : NoAttr K CR "broken"
  tH : NoAttr K CT "hasher"
  tP : NoAttr K CT "proof"
  tA : NoAttr K CT "at"
  gMASK : Glob mg "MASK" (.int 18446744073709551615)
  gFIRST : Glob mg "FIRST" (.int 7263541890216354987)
  gSECOND : Glob mg "SECOND" (.int 12985647301928374651)
  gONE : Glob mg "ONE" (.int 15241578750190521011)
  gOTHER : Glob mg "OTHER" (.int 9764318250173649287)
  gLIMB : Glob mg "LIMB" (.int 4294967295)
  gWHOLE : Glob mg "WHOLE" (.int 128)
  gLEAF : Glob mg "LEAF" (.int 2)
  gINNER : Glob mg "INNER" (.int 3)
  gKB : Glob mg "KEY_BITS" (.int 32)
  gEW : Glob mg "EMPTY_WORD" (.int 0)
  gLW : Glob mg "LEAF_WORD" (.int 1)
  gIW : Glob mg "INNER_WORD" (.int 2)
  gHW : Glob mg "HIDDEN_WORD" (.int 3)
  mH : mg "Hasher" = some (.ref CH)
  mR : mg "RangeReader" = some (.ref CR)
  mT : mg "Told" = some (.ref CT)
  len : mg "len" = none
  min : mg "min" = none
  all : mg "all" = none
  tuple : mg "tuple" = none
  list : mg "list" = none
  dict : mg "dict" = none
  int : mg "int" = none
  range : mg "range" = none
  sorted : mg "sorted" = none
/-! ### own rules -/
section
variable {X : Cx}
/-- xs[i] ahead of an operator's store -/
theorem get_list : PGet X (rIxL X.K) := by
  intro pins s σ H x y v u Q I rx ry h
  obtain ⟨p, xs, i, z, rfl, rfl, hq, he, q⟩ := h
  cases rx
  obtain ⟨t, rfl⟩ := ry
  obtain ⟨its, r, pl, hz⟩ := I.list hq
  obtain ⟨j, h1, h2, h3, h4, h5⟩ := atI_get he
  obtain ⟨w, ew, rw'⟩ := r.get h2
  have hl := r.length
  have hn := line63
  have fin : EP X pins σ Q w s := ⟨z, H, I, rw', q⟩
  by_cases h0 : 0 ≤ i
  · have hj : i.toNat = j := by
      rw [seqIndex_of h0 h5] at h1
      exact Option.some.inj h1
    exact wpAny_getItem_list pl.isList h0 (by omega) (by rw [hj]; simpa using ew) fin
  · have hj : (i + (its.toArray.size : Int)).toNat = j := by
      rw [seqIndex_neg (by omega) h4] at h1
      rw [List.size_toArray, ← hl]
      exact Option.some.inj h1
    exact wpAny_getItem_list_neg pl.isList (by omega) (by rw [List.size_toArray] <;> omega) (by omega) (by rw [hj]; simpa using ew) fin
end
/-! ### entries of a map in a dict -/
def toK (p : Int × Int) : Key × V := (Sum.inl p.1, V.int p.2)
def dk (kvs : Pairs) : HO := .dK (kvs.map toK)
theorem dk_len (kvs : Pairs) : (kvs.map toK).length = kvs.length := List.length_map _
theorem val_none : ∀ {kvs : Pairs} {k : Int}, k ∉ kvs.map (·.1) → valV (kvs.map toK) (Sum.inl k : Key) = none
  | [], _, _ => rfl
  | p :: r, k, h => by
    have h : k ∉ p.1 :: r.map (·.1) := h
    have h1 : ¬ (Sum.inl p.1 : Key) = Sum.inl k := fun e => h (by rw [Sum.inl.inj e]; exact List.mem_cons_self ..)
    show valV (toK p :: r.map toK) (Sum.inl k) = none
    rw [valV_neg (p := toK p) h1]
    exact val_none fun m => h (List.mem_cons_of_mem _ m)
theorem val_some : ∀ {kvs : Pairs} {p : Int × Int}, (kvs.map (·.1)).Nodup → p ∈ kvs → valV (kvs.map toK) (Sum.inl p.1 : Key) = some (.int p.2)
  | [], _, _, h => absurd h (by simp)
  | q :: r, p, nd, h => by
    have nd : (q.1 :: r.map (·.1)).Nodup := nd
    obtain ⟨n1, n2⟩ := List.nodup_cons.mp nd
    show valV (toK q :: r.map toK) (Sum.inl p.1) = some (.int p.2)
    rcases List.mem_cons.mp h with rfl | h
    · exact valV_pos (p := toK p) rfl
    · have h1 : ¬ (Sum.inl q.1 : Key) = Sum.inl p.1 := fun e => n1 (by rw [Sum.inl.inj e]; exact List.mem_map.mpr ⟨p, h, rfl⟩)
      rw [valV_neg (p := toK q) h1]
      exact val_some n2 h
theorem put_new {kvs : Pairs} {p : Int × Int} (h : p.1 ∉ kvs.map (·.1)) : putK (kvs.map toK) (Sum.inl p.1 : Key) (.int p.2) = (kvs ++ [p]).map toK := by
  rw [putK_new _ (val_none h), List.map_append]
  rfl
/-- d != e of two such dicts -/
def rNeDG : R2 := fun x y H Q => ∃ (a b : Addr) (ks ls : Pairs), x = .ref a ∧ y = .ref b ∧ H a = some (dk ks) ∧ H b = some (dk ls) ∧
  ∀ c : Bool, ((ks.length = ls.length ∧ ∀ p ∈ ks, valV (ls.map toK) (Sum.inl p.1 : Key) = some (.int p.2)) → c = false) → Q (.bl c) H
theorem hits_any {A : Around} {s : Shared} {kvs : List (Key × V)} {vb : List (Key × Value)} (rb : KV kvs vb) (fb : ∀ k v, valV kvs k = some v → ∃ i, v = V.int i) : ∀ {ks : Pairs} {va : List (Key × Value)}, KV (ks.map toK) va →
    ∃ r, PySem.W.KeqHits A s vb va r ∧ ((∀ p ∈ ks, valV kvs (Sum.inl p.1 : Key) = some (.int p.2)) → r = true)
  | [], _, ra => by
    cases ra
    exact ⟨true, .nil, fun _ => rfl⟩
  | p :: ks, va, ra => by
    have ra : KV (toK p :: ks.map toK) va := ra
    cases ra with
    | @cons _ q _ qs h t =>
      obtain ⟨h1, h2⟩ := h
      obtain ⟨r, hr, ht⟩ := hits_any rb fb (ks := ks) t
      obtain ⟨k, v⟩ := q
      have h1 : (Sum.inl p.1 : Key) = k := h1
      obtain ⟨tk, h2⟩ : ∃ t, v = Value.int p.2 t := h2
      subst h1 h2
      have rv := rb.val (Sum.inl p.1)
      cases e : valV kvs (Sum.inl p.1 : Key) with
      | none =>
        rw [e] at rv
        refine ⟨false, .miss rv.none_of, fun hp => ?_⟩
        have := hp p (List.mem_cons_self ..)
        rw [e] at this
        cases this
      | some z =>
        obtain ⟨i, rfl⟩ := fb _ _ e
        rw [e] at rv
        obtain ⟨y, hy, ry⟩ := rv.some_of
        obtain ⟨t2, rfl⟩ : ∃ t, y = Value.int i t := ry
        refine ⟨(p.2 == i) && r, .hit hy (SeqAt.EqAt.int_int (A := A) (s := s) p.2 tk i t2) hr, fun hp => ?_⟩
        have hq := hp p (List.mem_cons_self ..)
        rw [e] at hq
        have hq : i = p.2 := V.int.inj (Option.some.inj hq)
        rw [hq, ht fun p' hm => hp p' (List.mem_cons_of_mem _ hm)]
        simp
theorem val_int : ∀ (ls : Pairs) (k : Key) (v : V), valV (ls.map toK) k = some v → ∃ i, v = V.int i
  | [], _, _, h => by cases h
  | p :: r, k, v, h => by
    have h : valV (toK p :: r.map toK) k = some v := h
    by_cases e : (toK p).1 = k
    · rw [valV_pos (p := toK p) e] at h
      exact ⟨p.2, (Option.some.inj h).symm⟩
    · rw [valV_neg (p := toK p) e] at h
      exact val_int r k v h
theorem op_neDG {X : Cx} (hu : X.A.units < cLine) : OpR X (compareOp .NotEq) rNeDG := by
  intro pins s σ H x y v u Q I rx ry h
  obtain ⟨a, b, ks, ls, rfl, rfl, ea, eb, q⟩ := h
  obtain rfl : v = Value.ref a := rx
  obtain rfl : u = Value.ref b := ry
  obtain ⟨_, ya, va, ra, da⟩ := (show ObjOk X.prog X.w H s.heap a (.dK (ks.map toK)) from I.hok a _ ea)
  obtain ⟨_, yb, vb, rb, db⟩ := (show ObjOk X.prog X.w H s.heap b (.dK (ls.map toK)) from I.hok b _ eb)
  obtain ⟨r, hr, ht⟩ := hits_any (A := X.A.in1) (s := s) rb (val_int ls) ra
  have la : va.length = ks.length := by rw [← ra.length, List.length_map]
  have lb : vb.length = ls.length := by rw [← rb.length, List.length_map]
  refine PySem.W.keq_ne (knd := mixKind X.prog X.w) (r := r) ya yb da db hu (fun _ => hr) (fin_bl I (q (!(va.length == vb.length && r)) ?_) rfl)
  rintro ⟨h1, h2⟩
  rw [ht h2, la, lb, h1]
  simp
/-! ### what stands in the heap -/
theorem _root_.L2.Same.tup {K : PySem.W.Frag} {H H' : Hp} {a : Addr} {xs : List V} (e : Same H H') (h : SqT K H a xs) : SqT K H' a xs := by
  rcases h with (h | ⟨o, h⟩) | h
  · exact .inl (.inl (e _ _ h))
  · exact .inl (.inr ⟨o, e _ _ h⟩)
  · exact .inr h
theorem same_new {H : Hp} {p : Addr} (h : H p = none) (o : HO) : Same H (upd H p o) := fun b u q => by rw [upd_ne (ne_of_none q h)]; exact q
/-- an object that is new to H may change behind it -/
theorem _root_.L2.Same.mut {H H' : Hp} {p : Addr} {o : HO} (e : Same H H') (h : H p = none) : Same H (upd H' p o) := fun a u ha => by
  rw [upd_ne (ne_of_none ha h)]
  exact e a u ha
theorem ixN_nat {n j : Nat} (h : j < n) : ixN n (j : Int) = some j := by
  unfold ixN
  rw [if_pos (by omega), if_pos (by omega)]
  exact congrArg some (Int.toNat_natCast j)
theorem small1000' {n : Nat} (h : n ≤ 10000) : n < sizeLine := Nat.lt_of_le_of_lt h (by decide)
theorem take_le {α : Type} (l : List α) (i : Nat) : (l.take i).length ≤ l.length := by
  rw [List.length_take]
  omega
/-- an input of a digest -/
def InAt (K : PySem.W.Frag) (H : Hp) (v : V) (i : In) : Prop := ∃ a b, v = .ref a ∧ SqT K H a [.int i.1, .ref b] ∧ SqT K H b (i.2.map V.int)
theorem InAt.mono {K : PySem.W.Frag} {H H' : Hp} {v : V} {i : In} (h : InAt K H v i) (e : Same H H') : InAt K H' v i := by
  obtain ⟨a, b, rfl, h1, h2⟩ := h
  exact ⟨a, b, rfl, e.tup h1, e.tup h2⟩
def InD (i : In) : PyData := .tuple [.int i.1, .tuple (i.2.map PyData.int)]
theorem dp_ints {K : PySem.W.Frag} {H : Hp} : ∀ ns : List Int, DpAll K H (ns.map V.int) (ns.map PyData.int)
  | [] => .nil
  | n :: r => .cons (.int n) (dp_ints r)
theorem InAt.dp {K : PySem.W.Frag} {H : Hp} {v : V} {i : In} (h : InAt K H v i) : Dp K H v (InD i) := by
  obtain ⟨a, b, rfl, h1, h2⟩ := h
  exact .tup h1 (.cons (.int _) (.cons (.tup h2 (dp_ints _)) .nil))
theorem lay_ints : ∀ ns : List Int, PyData.canLayAll0 (ns.map PyData.int) = true
  | [] => by simp [PyData.canLayAll0]
  | n :: r => by simp [PyData.canLayAll0, PyData.canLay0, lay_ints r]
theorem dep_ints : ∀ ns : List Int, PyData.depthAll (ns.map PyData.int) ≤ 1
  | [] => by simp [PyData.depthAll]
  | n :: r => by
    have := dep_ints r
    simp only [List.map_cons, PyData.depthAll, PyData.depth]
    omega
theorem in_lay (i : In) : (InD i).canLay0 = true := by
  simp [InD, PyData.canLay0, PyData.canLayAll0, lay_ints]
theorem in_dep (i : In) : (InD i).depth ≤ 10 := by
  have h := dep_ints i.2
  simp only [InD, PyData.depth, PyData.depthAll]
  omega
theorem in_shaped (i : In) : SeqAt.shaped (InD i) = true := by
  unfold SeqAt.shaped
  rw [in_lay, decide_eq_true (Nat.le_trans (in_dep i) (by decide))]
  rfl
theorem in_eqv (a b : In) : PyData.eqv (InD a) (InD b) = decide (a = b) := by
  obtain ⟨t, ns⟩ := a
  obtain ⟨u, ms⟩ := b
  simp only [InD, PyData.eqv, PyData.eqvAll, PySem.W.ked_eqvAll]
  by_cases h1 : t = u <;> by_cases h2 : ns = ms <;> simp [h1, h2]
/-- a break, or None -/
def ResAt (K : PySem.W.Frag) (H : Hp) (v : V) : Option (In × In) → Prop
  | none => v = .non
  | some p => ∃ a x y, v = .ref a ∧ SqT K H a [.str "collision", x, y] ∧ InAt K H x p.1 ∧ InAt K H y p.2
theorem ResAt.mono {K : PySem.W.Frag} {H H' : Hp} {v : V} {o : Option (In × In)} (h : ResAt K H v o) (e : Same H H') : ResAt K H' v o := by
  cases o with
  | none => exact h
  | some p =>
    obtain ⟨a, x, y, rfl, h1, h2, h3⟩ := h
    exact ⟨a, x, y, rfl, e.tup h1, h2.mono e, h3.mono e⟩
def ResD : Option (In × In) → PyData
  | none => .none
  | some p => .tuple [.str "collision", InD p.1, InD p.2]
theorem ResAt.dp {K : PySem.W.Frag} {H : Hp} {v : V} {o : Option (In × In)} (h : ResAt K H v o) : Dp K H v (ResD o) := by
  cases o with
  | none =>
    have h : v = .non := h
    subst h
    exact .non
  | some p =>
    obtain ⟨a, x, y, rfl, h1, h2, h3⟩ := h
    exact .tup h1 (.cons (.str _) (.cons h2.dp (.cons h3.dp .nil)))
theorem res_lay (o : Option (In × In)) : (ResD o).canLay0 = true := by
  cases o with
  | none => simp [ResD, PyData.canLay0]
  | some p =>
    have h : PyData.strOk "collision" = true := by decide +kernel
    simp [ResD, PyData.canLay0, PyData.canLayAll0, in_lay, h]
theorem res_shaped (o : Option (In × In)) : SeqAt.shaped (ResD o) = true := by
  unfold SeqAt.shaped
  have hd : (ResD o).depth ≤ 64 := by
    cases o with
    | none => simp [ResD, PyData.depth]
    | some p =>
      have h1 := in_dep p.1
      have h2 := in_dep p.2
      simp only [ResD, PyData.depth, PyData.depthAll]
      omega
  rw [res_lay, decide_eq_true hd]
  rfl
theorem res_eqv (o : Option (In × In)) : PyData.eqv (ResD o) (ResD o) = true := SeqAt.eqv_refl _ (res_lay o)
/-- the nodes that Told tells -/
def TolAt (K : PySem.W.Frag) (w : Int) (H : Hp) : V → T → Prop
  | v, .hid c d => ∃ a q, v = .ref a ∧ SqT K H a [.int c, .int d, .non, .ref q] ∧ SqT K H q []
  | v, .emp => ∃ a x q, v = .ref a ∧ SqT K H a [.int 0, .int (T.dgt w .emp), x, .ref q] ∧ InAt K H x (T.inp w .emp) ∧ SqT K H q []
  | v, .leaf k z => ∃ a x q, v = .ref a ∧ SqT K H a [.int 1, .int (T.dgt w (.leaf k z)), x, .ref q] ∧ InAt K H x (T.inp w (.leaf k z)) ∧ SqT K H q []
  | v, .inn l r => ∃ a x q vl vr, v = .ref a ∧ SqT K H a [.int (T.cnt (.inn l r)), .int (T.dgt w (.inn l r)), x, .ref q] ∧ InAt K H x (T.inp w (.inn l r)) ∧ SqT K H q [vl, vr] ∧ TolAt K w H vl l ∧ TolAt K w H vr r
theorem TolAt.mono {K : PySem.W.Frag} {w : Int} {H H' : Hp} (e : Same H H') : ∀ {v : V} (t : T), TolAt K w H v t → TolAt K w H' v t := by
  intro v t
  induction t generalizing v with
  | hid c d =>
    rintro ⟨a, q, rfl, h1, h2⟩
    exact ⟨a, q, rfl, e.tup h1, e.tup h2⟩
  | emp =>
    rintro ⟨a, x, q, rfl, h1, h2, h3⟩
    exact ⟨a, x, q, rfl, e.tup h1, h2.mono e, e.tup h3⟩
  | leaf k z =>
    rintro ⟨a, x, q, rfl, h1, h2, h3⟩
    exact ⟨a, x, q, rfl, e.tup h1, h2.mono e, e.tup h3⟩
  | inn l r ihl ihr =>
    rintro ⟨a, x, q, vl, vr, rfl, h1, h2, h3, h4, h5⟩
    exact ⟨a, x, q, vl, vr, rfl, e.tup h1, h2.mono e, e.tup h3, ihl h4, ihr h5⟩
/-- its first two items -/
theorem TolAt.two {K : PySem.W.Frag} {w : Int} {H : Hp} {v : V} {t : T} (h : TolAt K w H v t) : ∃ a x q, v = .ref a ∧ SqT K H a [.int t.cnt, .int (t.dgt w), x, .ref q] := by
  cases t with
  | hid c d =>
    obtain ⟨a, q, rfl, h1, h2⟩ := h
    exact ⟨a, _, q, rfl, h1⟩
  | emp =>
    obtain ⟨a, x, q, rfl, h1, _⟩ := h
    exact ⟨a, x, q, rfl, h1⟩
  | leaf k z =>
    obtain ⟨a, x, q, rfl, h1, _⟩ := h
    exact ⟨a, x, q, rfl, h1⟩
  | inn l r =>
    obtain ⟨a, x, q, vl, vr, rfl, h1, _⟩ := h
    exact ⟨a, x, q, rfl, h1⟩
/-! ### objects -/
def hsF (w : Int) : List (Str × V) := [("width", .int w)]
def HsAt (CH : Addr) (H : Hp) (h : Addr) (w : Int) : Prop := ∃ dx, H h = some (.ins CH dx (hsF w))
theorem HsAt.mono {CH h : Addr} {H H' : Hp} {w : Int} (x : HsAt CH H h w) (e : Same H H') : HsAt CH H' h w := by
  obtain ⟨dx, x⟩ := x
  exact ⟨dx, e _ _ x⟩
/-- the widths here -/
def Wok (w : Int) : Prop := 0 ≤ w ∧ w ≤ 8
end Of

set_option Elab.async false
set_option linter.all false
set_option maxRecDepth 100000
set_option maxHeartbeats 4000000
namespace Of
open PySem L2
/-! ### digests: limbs_of, Hasher -/
def spLimbs (K : PySem.W.Frag) : Sp := fun vs H Q _ => ∃ (a : Addr) (ns : List Int), vs = [.ref a] ∧ SqT K H a (ns.map V.int) ∧ ns.length ≤ 4 ∧ (∀ n ∈ ns, n < 2 ^ 100) ∧
  ∀ H' p, Same H H' → H p = none → H' p = some (.lst ((limbs ns).map V.int)) → Q (.ref p) H'
theorem flat_take {ns : List Int} {i : Nat} {n : Int} (h : ns[i]? = some n) : (ns.take (i + 1)).flatMap limb1 = (ns.take i).flatMap limb1 ++ limb1 n := by
  rw [List.take_add_one, h, List.flatMap_append]
  show _ ++ (limb1 n ++ []) = _
  rw [List.append_nil]
theorem limb1_len {n : Int} (h : n < 2 ^ 100) : (limb1 n).length ≤ 5 := by
  have e : (2 : Int) ^ 100 ≤ 4294967296 ^ 4 := by decide
  have := digs_len 4 n (by omega)
  show (digs n).length + 1 ≤ 5
  omega
theorem flat_len : ∀ ns : List Int, (∀ n ∈ ns, n < 2 ^ 100) → (ns.flatMap limb1).length ≤ 5 * ns.length
  | [], _ => Nat.zero_le _
  | n :: r, h => by
    have a := limb1_len (h n (List.mem_cons_self ..))
    have b := flat_len r fun m hm => h m (List.mem_cons_of_mem _ hm)
    rw [List.flatMap_cons, List.length_append, List.length_cons]
    omega
section
variable {P : Program} {w : World} {K : PySem.W.Frag} {mg : Str → Option Value} {base : Heap} {CH CR CT : Addr}
theorem scLimbs : FnScope ["numbers", "found", "number", "place"] ["numbers"] (defScope sLimbs) := ⟨rfl, rfl, rfl, by decide +kernel, rfl, by decide +kernel, by decide +kernel⟩
theorem ok_limbs {f : Addr} {fd : FuncData} (F : Fun K "limbs_of" "limbs_of" sLimbs f fd) (T : Txt K mg CH CR CT) : FnOk P w K mg base CX0 1 f fd ["numbers"] (spLimbs K) := by
  refine F.ok scLimbs (fun vs H Q E h => ?_) (fun cdv A outer s H vs Q E hr h => ?_)
  · obtain ⟨a, ns, rfl, _⟩ := h
    rfl
  obtain ⟨a, ns, rfl, hS, h4, hb, q⟩ := h
  refine ⟨_, (pss_cons ((ps_set (i := 1) scLimbs.nd rfl (Or.inl rfl) ((pe_lst (pa_cons ((pe_callB call_len_seq (by rfl) T.len PySem.boot_len (pa_cons (pv 0) pa_nil))) pa_nil))))) (pss_cons ((ps_for PassesOwn.never rfl (pi_tup (pv 0)) ((pg_name (i := 2) scLimbs.nd rfl (Or.inl rfl))) (pss_cons ((ps_set (i := 3) scLimbs.nd rfl (Or.inl rfl) ((pe_callB call_len_seq (by rfl) T.len PySem.boot_len (pa_cons (pv 1) pa_nil))))) (pss_cons ((ps_expr (pe_bm PySem.F.plainAttrs_list PySem.F.slot_list_append PySem.F.type_list_append mt_append (pv 1) (pa_cons (pe_int) pa_nil)))) (pss_one (ps_while PassesOwn.never (pt_cmpR op_gt (pv 2) (pe_int) (nomark _)) (pss_cons ((ps_expr (pe_bm PySem.F.plainAttrs_list PySem.F.slot_list_append PySem.F.type_list_append mt_append (pv 1) (pa_cons ((pe_op op_and (pv 2) ((C8.pe_gc (by rfl) T.gLIMB)))) pa_nil)))) (pss_cons (ps_augS (pv 1) (pv 3) get_list pe_int ip_add set_list) (pss_one ((ps_set (i := 2) scLimbs.nd rfl (Or.inl rfl) ((pe_op op_shr (pv 2) (pe_int)))))))))))))) (pss_one ((ps_ret (pv 1)))))), ?_⟩
  refine ⟨_, rfl, a, _, rfl, .inr hS, (by show 1 ≤ sizeLine; decide), fun l nl => ?_⟩
  have s1 : Same H (upd H l (.lst [.int ((ns.map V.int).length : Int)])) := same_new nl _
  refine ⟨_, rfl, a, rfl, ⟨_, s1.tup hS⟩, for_tup (K := K) (a := a) (xs := ns.map V.int) (fun i σ H2 => ∃ v2 v3, σ = [some (.ref a), some (.ref l), v2, v3] ∧ Same H H2 ∧ H2 l = some (.lst (((ns.length : Int) :: (ns.take i).flatMap limb1).map V.int))) ?_ ?_ ?_ ?_⟩
  · refine ⟨none, none, rfl, s1, ?_⟩
    rw [upd_same, List.length_map]
    rfl
  · rintro i σ H2 hi ⟨_, _, _, sm, _⟩
    exact sm.tup hS
  · rintro i x σ H2 hi ⟨v2, v3, rfl, sm, hl⟩
    obtain ⟨n, hn, rfl⟩ : ∃ n, ns[i]? = some n ∧ x = V.int n := by
      rw [List.getElem?_map] at hi
      cases e : ns[i]? with
      | none => rw [e] at hi; cases hi
      | some n => rw [e] at hi; exact ⟨n, rfl, (Option.some.inj hi).symm⟩
    have hlt : n < 2 ^ 100 := hb n (List.mem_of_getElem? hn)
    generalize hpre : (ns.length : Int) :: (ns.take i).flatMap limb1 = pre at hl
    have hpl : pre.length ≤ 21 := by
      rw [← hpre, List.length_cons]
      have := flat_len (ns.take i) fun m hm => hb m (List.mem_of_mem_take hm)
      have h2 : (ns.take i).length ≤ 4 := Nat.le_trans (take_le _ _) h4
      omega
    -- place = len(found); found.append(0)
    refine ⟨_, rfl, l, _, rfl, .inl (SqL.of hl), ?_⟩
    refine ⟨_, rfl, .inl ⟨rfl, _, SqL.of hl⟩, l, _, _, rfl, rfl, hl, (by rw [List.length_map]; exact small1000 (by omega)), ?_⟩
    -- while
    refine ⟨fun m σ H3 => ∃ (r : Int) (ds : List Int), m = r.toNat ∧ σ = [some (.ref a), some (.ref l), some (.int r), some (.int ((pre.map V.int).length : Int))] ∧ Same H H3 ∧ digs n = ds ++ digs r ∧ H3 l = some (.lst ((pre ++ (ds.length : Int) :: ds).map V.int)),
      ⟨_, n, [], rfl, rfl, Same.mut sm nl, rfl, ?_⟩, ?_⟩
    · rw [upd_same, List.map_append]
      rfl
    · rintro m σ H3 ⟨r, ds, rfl, rfl, s3, hd, hl3⟩
      have hds : ds.length ≤ 4 := by
        have e : (2 : Int) ^ 100 ≤ 4294967296 ^ 4 := by decide
        have h5 := digs_len 4 n (by omega)
        rw [hd, List.length_append] at h5
        omega
      refine ⟨_, rfl, _, _, rfl, rfl, _, rfl, ite2 (fun c => ?_) (fun c => ?_)⟩
      · have c : 0 < r := of_decide_eq_true c
        refine ⟨fun σ' H' => ∃ m', m' < r.toNat ∧ _, fun _ _ z => z, ?_⟩
        -- found.append(number & LIMB)
        have hz : ((pre ++ (ds.length : Int) :: ds).map V.int).length < sizeLine := by
          rw [List.length_map, List.length_append, List.length_cons]
          exact small1000 (by omega)
        refine ⟨_, rfl, .inl ⟨rfl, _, SqL.of hl3⟩, _, rfl, _, _, rfl, rfl, l, _, _, rfl, rfl, hl3, hz, ?_⟩
        -- found[place] += 1
        have e4 : ((pre ++ (ds.length : Int) :: ds).map V.int ++ [V.int (Builtin.bitAnd r 4294967295)]) = (pre.map V.int) ++ (V.int (ds.length : Int) :: ((ds ++ [Builtin.bitAnd r 4294967295]).map V.int)) := by
          simp
        have ei : ((pre.map V.int) ++ (V.int (ds.length : Int) :: ((ds ++ [Builtin.bitAnd r 4294967295]).map V.int)))[(pre.map V.int).length]? = some (V.int (ds.length : Int)) := by
          rw [List.getElem?_append_right (Nat.le_refl _), Nat.sub_self]
          rfl
        rw [e4]
        have ix : ixN ((pre.map V.int) ++ (V.int (ds.length : Int) :: ((ds ++ [Builtin.bitAnd r 4294967295]).map V.int))).length ((pre.map V.int).length : Int) = some (pre.map V.int).length := by
          rw [List.length_append, List.length_cons]
          exact ixN_nat (by omega)
        refine ⟨_, rfl, _, rfl, l, _, _, _, rfl, rfl, SqL.of upd_same, atI_nat ei, _, _, rfl, rfl, l, _, _, _, rfl, rfl, upd_same, ix, ?_⟩
        -- number = number >> 32
        refine ⟨_, rfl, _, _, rfl, rfl, (by show (0 : Int) ≤ 32; decide), ?_⟩
        have e5 : r / 2 ^ (32 : Int).toNat = r / 4294967296 := rfl
        refine ⟨(r / 4294967296).toNat, by omega, r / 4294967296, ds ++ [Builtin.bitAnd r 4294967295], rfl, ?_, ?_, ?_, ?_⟩
        · rw [← e5]
          rfl
        · exact Same.mut (Same.mut s3 nl) nl
        · rw [hd, digs_pos c, List.append_assoc]
          rfl
        · rw [upd_same, List.set_append_right _ _ (Nat.le_refl _), Nat.sub_self]
          simp
      · have c : ¬ 0 < r := of_decide_eq_false (Bool.eq_false_iff.mpr c)
        refine ⟨_, _, rfl, s3, ?_⟩
        rw [digs_neg c, List.append_nil] at hd
        rw [hl3, flat_take hn]
        rw [← hpre]
        show _ = some (HO.lst ((((ns.length : Int) :: ((ns.take i).flatMap limb1 ++ ((digs n).length : Int) :: digs n))).map V.int))
        rw [hd]
        rfl
  · rintro σ H2 ⟨v2, v3, rfl, sm, hl⟩
    refine ⟨_, rfl, q _ _ sm nl ?_⟩
    rw [hl, List.length_map, List.take_length]
    rfl
/-! ### Hasher -/
def spHashI (CH : Addr) : Sp := fun vs H Q _ => ∃ (p dx : Addr) (v : Int), vs = [.ref p, .int v] ∧ H p = some (.ins CH dx []) ∧ Q .non (upd H p (.ins CH dx (hsF v)))
theorem scHashI : FnScope ["self", "width"] ["self", "width"] (defScope sHashI) := ⟨rfl, rfl, rfl, by decide +kernel, rfl, by decide +kernel, by decide +kernel⟩
theorem ok_hashI {f : Addr} {fd : FuncData} (F : Fun K "__init__" "Hasher.__init__" sHashI f fd) (T : Txt K mg CH CR CT) : FnOk P w K mg base CX0 1 f fd ["self", "width"] (spHashI CH) := by
  refine F.ok scHashI (fun vs H Q E h => ?_) (fun cdv A outer s H vs Q E hr h => ?_)
  · obtain ⟨p, dx, v, rfl, _⟩ := h
    rfl
  obtain ⟨p, dx, v, rfl, hp, q⟩ := h
  refine ⟨_, pss_one (ps_fld (pv 0) (pv 1) rfl), ?_⟩
  exact ⟨_, rfl, _, rfl, p, CH, dx, [], rfl, hp, T.clH, T.hW, (by show 0 < 1000; decide), q⟩
def spIsDig (CH : Addr) : Sp := fun vs H Q _ => ∃ (h : Addr) (v n : Int), vs = [.ref h, .int n] ∧ HsAt CH H h v ∧ Wok v ∧ Q (.bl (decide (0 ≤ n ∧ n < 2 ^ v.toNat))) H
theorem scIsDig : FnScope ["self", "number"] ["self", "number"] (defScope sIsDig) := ⟨rfl, rfl, rfl, by decide +kernel, rfl, by decide +kernel, by decide +kernel⟩
theorem ok_isDig {f : Addr} {fd : FuncData} (F : Fun K "is_digest" "Hasher.is_digest" sIsDig f fd) (T : Txt K mg CH CR CT) : FnOk P w K mg base CX0 1 f fd ["self", "number"] (spIsDig CH) := by
  refine F.ok scIsDig (fun vs H Q E h => ?_) (fun cdv A outer s H vs Q E hr h => ?_)
  · obtain ⟨h, v, n, rfl, _⟩ := h
    rfl
  obtain ⟨h, v, n, rfl, ⟨dx, hh⟩, wo, q⟩ := h
  obtain ⟨w0, w8⟩ := wo
  refine ⟨_, pss_one (ps_ret (pe_chain op_le op_lt pe_int (pv 1) (pe_op op_shl (pe_int) ((pe_fld (pv 0) rfl))))), ?_⟩
  refine ⟨_, rfl, _, _, rfl, rfl, _, rfl, ite2 (fun c => ?_) (fun c => ?_)⟩
  · have c : 0 ≤ n := of_decide_eq_true c
    refine ⟨_, rfl, h, CH, dx, _, _, rfl, hh, T.clH, T.hW, rfl, _, _, rfl, rfl, ⟨w0, by omega, by decide⟩, _, _, rfl, rfl, ?_⟩
    have e : decide (n < 1 * 2 ^ v.toNat) = decide (0 ≤ n ∧ n < 2 ^ v.toNat) := by
      rw [Int.one_mul]
      by_cases z : n < 2 ^ v.toNat
      · rw [decide_eq_true z, decide_eq_true ⟨c, z⟩]
      · rw [decide_eq_false z, decide_eq_false fun y => z y.2]
    have e2 : Q (.bl (decide (n < 1 * 2 ^ v.toNat))) H := by
      rw [e]
      exact q
    exact e2
  · have c : ¬ 0 ≤ n := of_decide_eq_false (Bool.eq_false_iff.mpr c)
    rw [decide_eq_false fun y => c y.1] at q
    exact q
def spDigest (K : PySem.W.Frag) (CH : Addr) : Sp := fun vs H Q _ => ∃ (h a : Addr) (v t : Int) (ns : List Int), vs = [.ref h, .int t, .ref a] ∧ HsAt CH H h v ∧ Wok v ∧ SqT K H a (ns.map V.int) ∧ ns.length ≤ 4 ∧ (∀ n ∈ ns, n < 2 ^ 100) ∧
  ∀ H', Same H H' → Q (.int (dig v t ns)) H'
theorem limbs_len {ns : List Int} (h4 : ns.length ≤ 4) (hb : ∀ n ∈ ns, n < 2 ^ 100) : (limbs ns).length ≤ 21 := by
  have := flat_len ns hb
  show (ns.flatMap limb1).length + 1 ≤ 21
  omega
theorem scDigest : FnScope ["self", "tag", "numbers", "first", "second", "limb"] ["self", "tag", "numbers"] (defScope sDigest) := ⟨rfl, rfl, rfl, by decide +kernel, rfl, by decide +kernel, by decide +kernel⟩
theorem ok_digest {f : Addr} {fd : FuncData} (F : Fun K "digest" "Hasher.digest" sDigest f fd) (T : Txt K mg CH CR CT) (cL : C8.Cal P w K mg base 1 "limbs_of" (spLimbs K) []) : FnOk P w K mg base CX0 2 f fd ["self", "tag", "numbers"] (spDigest K CH) := by
  refine F.ok scDigest (fun vs H Q E h => ?_) (fun cdv A outer s H vs Q E hr h => ?_)
  · obtain ⟨h, a, v, t, ns, rfl, _⟩ := h
    rfl
  obtain ⟨h, a, v, t, ns, rfl, ⟨dx, hh⟩, ⟨w0, w8⟩, hS, h4, hb, q⟩ := h
  refine ⟨_, (pss_cons ((ps_set (i := 3) scDigest.nd rfl (Or.inl rfl) ((C8.pe_gc (by rfl) T.gFIRST)))) (pss_cons ((ps_set (i := 4) scDigest.nd rfl (Or.inl rfl) ((C8.pe_gc (by rfl) T.gSECOND)))) (pss_cons ((ps_for PassesOwn.never rfl (pi_list (pe_op op_cat ((pe_op op_cat ((pe_lst (pa_cons (pv 1) pa_nil))) ((C8.pe_c cL hr (by first | exact Nat.le_refl _ | decide | omega) (by rfl) (pa_cons (pv 2) pa_nil))))) ((pe_lst (pa_cons ((pe_fld (pv 0) rfl)) (pa_cons ((pe_fld (pv 0) rfl)) pa_nil)))))) ((pg_name (i := 5) scDigest.nd rfl (Or.inl rfl))) (pss_cons ((ps_set (i := 3) scDigest.nd rfl (Or.inl rfl) ((pe_op op_and ((pe_op op_mul ((pe_op op_xor (pv 3) (pv 5))) ((C8.pe_gc (by rfl) T.gONE)))) ((C8.pe_gc (by rfl) T.gMASK)))))) (pss_cons ((ps_set (i := 3) scDigest.nd rfl (Or.inl rfl) ((pe_op op_xor (pv 3) ((pe_op op_shr (pv 3) (pe_int))))))) (pss_cons ((ps_set (i := 4) scDigest.nd rfl (Or.inl rfl) ((pe_op op_and ((pe_op op_mul ((pe_op op_add (pv 4) (pv 3))) ((C8.pe_gc (by rfl) T.gOTHER)))) ((C8.pe_gc (by rfl) T.gMASK)))))) (pss_cons ((ps_set (i := 4) scDigest.nd rfl (Or.inl rfl) ((pe_op op_xor (pv 4) ((pe_op op_shr (pv 4) (pe_int))))))) (pss_one ((ps_set (i := 3) scDigest.nd rfl (Or.inl rfl) ((pe_op op_and ((pe_op op_add (pv 3) (pv 4))) ((C8.pe_gc (by rfl) T.gMASK))))))))))))) (pss_one ((ps_ret ((pe_op op_shr ((pe_op op_or ((pe_op op_shl (pv 3) (pe_int))) (pv 4))) ((pe_op op_sub ((C8.pe_gc (by rfl) T.gWHOLE)) ((pe_fld (pv 0) rfl)))))))))))), ?_⟩
  -- the limbs
  refine ⟨_, rfl, (by show 1 ≤ sizeLine; decide), fun p1 n1 => ?_⟩
  have s1 := same_new n1 (.lst [.int t])
  refine ⟨_, rfl, a, ns, rfl, s1.tup hS, h4, hb, fun H2 p2 s2 n2 e2 => ?_⟩
  have s02 := s1.trans s2
  have ll := limbs_len h4 hb
  refine ⟨p1, p2, _, _, rfl, rfl, s2 _ _ upd_same, e2, (by rw [List.length_map, List.length_singleton]; exact Nat.le_of_lt (small1000 (by omega))), fun p3 n3 => ?_⟩
  have s3 := same_new n3 (.lst ([V.int t] ++ (limbs ns).map V.int))
  have s03 := s02.trans s3
  refine ⟨_, rfl, h, CH, dx, _, _, rfl, s03 _ _ hh, T.clH, T.hW, rfl, _, rfl, h, CH, dx, _, _, rfl, s03 _ _ hh, T.clH, T.hW, rfl, (by show 2 ≤ sizeLine; decide), fun p4 n4 => ?_⟩
  have s4 := same_new n4 (.lst [V.int v, V.int v])
  have s04 := s03.trans s4
  refine ⟨p3, p4, _, _, rfl, rfl, s4 _ _ upd_same, upd_same, (by rw [List.length_append, List.length_map]; exact Nat.le_of_lt (small1000 (by show 1 + (limbs ns).length + 2 ≤ 1000; omega))), fun p5 n5 => ?_⟩
  have s5 := same_new n5 (.lst (([V.int t] ++ (limbs ns).map V.int) ++ [V.int v, V.int v]))
  have s05 := s04.trans s5
  have el : ([V.int t] ++ (limbs ns).map V.int) ++ [V.int v, V.int v] = (t :: (limbs ns ++ [v, v])).map V.int := by simp
  rw [el] at s05
  rw [el]
  generalize hls : t :: (limbs ns ++ [v, v]) = ls at s05
  refine ⟨p5, rfl, ⟨_, SqL.of upd_same⟩, for_list (K := K) (a := p5) (xs := ls.map V.int) (fun i σ H2 => ∃ v5, σ = [some (.ref h), some (.int t), some (.ref a), some (.int ((ls.take i).foldl mix two0).1), some (.int ((ls.take i).foldl mix two0).2), v5] ∧ Same H H2 ∧ H2 p5 = some (.lst (ls.map V.int))) ?_ ?_ ?_ ?_⟩
  · exact ⟨none, rfl, s05, upd_same⟩
  · rintro i σ H2 hi ⟨_, _, _, z⟩
    exact SqL.of z
  · rintro i x σ H2 hi ⟨v5, rfl, sm, hl⟩
    obtain ⟨n, hn, rfl⟩ : ∃ n, ls[i]? = some n ∧ x = V.int n := by
      rw [List.getElem?_map] at hi
      cases e : ls[i]? with
      | none => rw [e] at hi; cases hi
      | some n => rw [e] at hi; exact ⟨n, rfl, (Option.some.inj hi).symm⟩
    have hf : (ls.take (i + 1)).foldl mix two0 = mix ((ls.take i).foldl mix two0) n := by
      rw [List.take_add_one, hn, List.foldl_append]
      rfl
    generalize (ls.take i).foldl mix two0 = z at hf
    refine ⟨_, rfl, _, rfl, _, _, rfl, rfl, _, _, rfl, rfl, .inr ⟨by decide, by decide⟩, _, _, rfl, rfl, ?_⟩
    refine ⟨_, rfl, _, rfl, _, _, rfl, rfl, (by show (0 : Int) ≤ 31; decide), _, _, rfl, rfl, ?_⟩
    refine ⟨_, rfl, _, rfl, _, _, rfl, rfl, _, _, rfl, rfl, .inr ⟨by decide, by decide⟩, _, _, rfl, rfl, ?_⟩
    refine ⟨_, rfl, _, rfl, _, _, rfl, rfl, (by show (0 : Int) ≤ 29; decide), _, _, rfl, rfl, ?_⟩
    refine ⟨_, rfl, _, rfl, _, _, rfl, rfl, _, _, rfl, rfl, ?_⟩
    refine ⟨some (.int n), ?_, sm, hl⟩
    rw [hf]
    rfl
  · rintro σ H2 ⟨v5, rfl, sm, hl⟩
    have e2 : ls.foldl mix two0 = words2 v t ns := by rw [← hls]; rfl
    have hw := words2_w v t ns
    rw [List.length_map, List.take_length, e2]
    obtain ⟨a0, a1, b0, b1⟩ := hw
    refine ⟨_, rfl, _, _, rfl, rfl, ⟨by decide, by decide, by omega⟩, _, rfl, _, _, rfl, rfl, _, rfl, h, CH, dx, _, _, rfl, sm _ _ hh, T.clH, T.hW, rfl, _, _, rfl, rfl, _, _, rfl, rfl, (by omega), ?_⟩
    have e3 : Builtin.bitOr ((words2 v t ns).1 * 2 ^ (64 : Int).toNat) (words2 v t ns).2 = (words2 v t ns).1 * 18446744073709551616 + (words2 v t ns).2 := by
      have e5 : (2 : Int) ^ 64 = 18446744073709551616 := by decide
      have e4 := Bits.bitOr_join' (a := (words2 v t ns).2) (b := (words2 v t ns).1) (k := 64) b0 (by omega) a0
      rw [show (64 : Int).toNat = 64 from rfl, e4, show (2 : Int) ^ 64 = 18446744073709551616 by decide]
      omega
    have e6 : Q (.int (Builtin.bitOr ((words2 v t ns).1 * 2 ^ (64 : Int).toNat) (words2 v t ns).2 / 2 ^ (128 - v).toNat)) H2 := by
      rw [e3]
      exact q H2 sm
    exact e6
end
end Of

set_option Elab.async false
set_option linter.all false
set_option maxRecDepth 100000
set_option maxHeartbeats 4000000
namespace Of
open PySem L2
/-! ### bits and parts of a map -/
theorem get_toK {kvs : Pairs} {i : Nat} {k : Key} {v : V} (h : (kvs.map toK)[i]? = some (k, v)) : ∃ p, kvs[i]? = some p ∧ k = Sum.inl p.1 ∧ v = .int p.2 := by
  rw [List.getElem?_map] at h
  cases e : kvs[i]? with
  | none => rw [e] at h; cases h
  | some p =>
    rw [e] at h
    have h : toK p = (k, v) := Option.some.inj h
    exact ⟨p, rfl, (congrArg Prod.fst h).symm, (congrArg Prod.snd h).symm⟩
theorem fil_take {f : Int × Int → Bool} {kvs : Pairs} {i : Nat} {p : Int × Int} (h : kvs[i]? = some p) : (kvs.take (i + 1)).filter f = (kvs.take i).filter f ++ (if f p then [p] else []) := by
  rw [List.take_add_one, h, List.filter_append]
  show _ ++ [p].filter f = _
  rw [List.filter_cons]
  rfl
theorem nodup_at : ∀ {kvs : Pairs} {i : Nat} {p : Int × Int}, (kvs.map (·.1)).Nodup → kvs[i]? = some p → p.1 ∉ (kvs.take i).map (·.1)
  | [], _, _, _, h => by simp at h
  | q :: r, 0, _, _, _ => by simp
  | q :: r, i + 1, p, nd, h => by
    have nd : (q.1 :: r.map (·.1)).Nodup := nd
    obtain ⟨n1, n2⟩ := List.nodup_cons.mp nd
    have h : r[i]? = some p := h
    show p.1 ∉ q.1 :: (r.take i).map (·.1)
    intro m
    rcases List.mem_cons.mp m with e | m
    · exact n1 (by rw [← e]; exact List.mem_map.mpr ⟨p, List.mem_of_getElem? h, rfl⟩)
    · exact nodup_at n2 h m
theorem fresh_take {f : Int × Int → Bool} {kvs : Pairs} {i : Nat} {p : Int × Int} (nd : (kvs.map (·.1)).Nodup) (h : kvs[i]? = some p) : p.1 ∉ ((kvs.take i).filter f).map (·.1) := fun m => by
  obtain ⟨q, hq, e⟩ := List.mem_map.mp m
  exact nodup_at nd h (List.mem_map.mpr ⟨q, (List.mem_filter.mp hq).1, e⟩)
theorem fil_le {f : Int × Int → Bool} {kvs : Pairs} {i : Nat} (h8 : kvs.length ≤ 8) : (((kvs.take i).filter f).map toK).length ≤ 8 := by
  rw [List.length_map]
  exact Nat.le_trans (List.length_filter_le _ _) (Nat.le_trans (take_le _ _) h8)
def spBit : Sp := fun vs H Q _ => ∃ (n : Nat) (k d : Int), vs = [.int k, .int d] ∧ d = 31 - (n : Int) ∧ Q (.int (k / 2 ^ n % 2)) H
section
variable {P : Program} {w : World} {K : PySem.W.Frag} {mg : Str → Option Value} {base : Heap} {CH CR CT : Addr}
theorem scBit : FnScope ["key", "depth"] ["key", "depth"] (defScope sBit) := ⟨rfl, rfl, rfl, by decide +kernel, rfl, by decide +kernel, by decide +kernel⟩
theorem ok_bit {f : Addr} {fd : FuncData} (F : Fun K "bit_of" "bit_of" sBit f fd) (T : Txt K mg CH CR CT) : FnOk P w K mg base CX0 1 f fd ["key", "depth"] spBit := by
  refine F.ok scBit (fun vs H Q E h => ?_) (fun cdv A outer s H vs Q E hr h => ?_)
  · obtain ⟨n, k, d, rfl, _⟩ := h
    rfl
  obtain ⟨n, k, d, rfl, rfl, q⟩ := h
  refine ⟨_, pss_one (ps_ret ((pe_op op_and ((pe_op op_shr (pv 0) ((pe_op op_sub ((pe_op op_sub ((C8.pe_gc (by rfl) T.gKB)) (pe_int))) (pv 1))))) (pe_int)))), ?_⟩
  refine ⟨_, rfl, _, _, rfl, rfl, _, rfl, _, _, rfl, rfl, _, _, rfl, rfl, (by omega), _, _, rfl, rfl, ?_⟩
  have e : (32 - 1 - (31 - (n : Int))).toNat = n := by omega
  have e2 : Q (.int (Builtin.bitAnd (k / 2 ^ (32 - 1 - (31 - (n : Int))).toNat) 1)) H := by
    rw [e, PyProof.Rows.bitAnd_m1]
    exact q
  exact e2
def spParted : Sp := fun vs H Q _ => ∃ (n : Nat) (p : Addr) (d : Int) (kvs : Pairs), vs = [.ref p, .int d] ∧ d = 31 - (n : Int) ∧ H p = some (dk kvs) ∧ (kvs.map (·.1)).Nodup ∧ kvs.length ≤ 8 ∧
  ∀ H' t l r, Same H H' → H' t = some (.tup [.ref l, .ref r]) → H' l = some (dk (lef n kvs)) → H' r = some (dk (rig n kvs)) → Q (.ref t) H'
theorem scParted : FnScope ["pairs", "depth", "left", "right", "key"] ["pairs", "depth"] (defScope sParted) := ⟨rfl, rfl, rfl, by decide +kernel, rfl, by decide +kernel, by decide +kernel⟩
theorem ok_parted {f : Addr} {fd : FuncData} (F : Fun K "parted" "parted" sParted f fd) (T : Txt K mg CH CR CT) (cB : C8.Cal P w K mg base 1 "bit_of" spBit []) : FnOk P w K mg base CX0 2 f fd ["pairs", "depth"] spParted := by
  refine F.ok scParted (fun vs H Q E h => ?_) (fun cdv A outer s H vs Q E hr h => ?_)
  · obtain ⟨n, p, d, kvs, rfl, _⟩ := h
    rfl
  obtain ⟨n, p, d, kvs, rfl, hd, hp, nd, h8, q⟩ := h
  have hu := hu_of hr
  refine ⟨_, (pss_cons ((ps_set (i := 2) scParted.nd rfl (Or.inl rfl) (pe_dnewK))) (pss_cons ((ps_set (i := 3) scParted.nd rfl (Or.inl rfl) (pe_dnewK))) (pss_cons (ps_lock (ps_for PassesOwn.never rfl (pi_keys (pv 0)) ((pg_name (i := 4) scParted.nd rfl (Or.inl rfl))) (pss_one ((ps_if ((pt_cmpR op_eq ((C8.pe_c cB hr (by first | exact Nat.le_refl _ | decide | omega) (by rfl) (pa_cons (pv 4) (pa_cons (pv 1) pa_nil)))) (pe_int) (nomark _))) (pss_one (ps_dput hu (pv 2) (pv 4) (pe_dget hu (pv 0) (pv 4) (fun _ _ => rfl)) rfl)) (pss_one (ps_dput hu (pv 3) (pv 4) (pe_dget hu (pv 0) (pv 4) (fun _ _ => rfl)) rfl))))))) (pss_one ((ps_ret ((pe_tup (pa_cons (pv 2) (pa_cons (pv 3) pa_nil)))))))))), ?_⟩
  intro l nl
  intro r nr
  have npl : p ≠ l := ne_of_none hp nl
  have npr : p ≠ r := fun e => by rw [← e, upd_ne npl, hp] at nr; cases nr
  have nlr : l ≠ r := fun e => by rw [← e, upd_same] at nr; cases nr
  have nr0 : H r = none := by rw [upd_ne nlr.symm] at nr; exact nr
  have hp2 : (upd (upd H l (.dK [])) r (.dK [])) p = some (dk kvs) := by rw [upd_ne npr, upd_ne npl]; exact hp
  refine ⟨p, dk kvs, hp2, trivial, fun od => ?_⟩
  refine ⟨_, rfl, p, od, rfl, .inl ⟨kvs.map toK, upd_same, ?_⟩⟩
  refine for_it (walk_keys (d := p) (o := od) (kvs := kvs.map toK)) (fun i σ H2 => ∃ v4, σ = [some (.ref p), some (.int d), some (.ref l), some (.ref r), v4] ∧ (∀ b o, b ≠ p → H b = some o → H2 b = some o) ∧ H2 p = some (.frz od (dk kvs)) ∧ H2 l = some (dk (lef n (kvs.take i))) ∧ H2 r = some (dk (rig n (kvs.take i)))) ?_ ?_ ?_ ?_
  · refine ⟨none, rfl, fun b o hb e => ?_, upd_same, ?_, ?_⟩
    · rw [upd_ne hb, upd_ne (ne_of_none e nr0), upd_ne (ne_of_none e nl)]
      exact e
    · rw [upd_ne npl.symm, upd_ne nlr, upd_same]
      rfl
    · rw [upd_ne npr.symm, upd_same]
      rfl
  · rintro i σ H2 hi ⟨_, _, _, z, _⟩
    exact z
  · rintro i x σ H2 H3 hi ⟨v4, rfl, sm, hp3, hl, hr2⟩ ⟨rfl, k, v, hk, rfl⟩
    obtain ⟨q2, hq2, rfl, rfl⟩ := get_toK hk
    refine ⟨_, rfl, _, rfl, n, q2.1, d, rfl, hd, rfl, _, rfl, ite2 (fun c => ?_) (fun c => ?_)⟩
    · have c : q2.1 / 2 ^ n % 2 = 0 := V.int.inj (of_decide_eq_true c)
      have on : onL n q2 = true := decide_eq_true c
      refine ⟨_, rfl, _, rfl, p, _, rfl, .inl ⟨kvs.map toK, Sum.inl q2.1, .inr ⟨od, hp3⟩, rfl, (val_some nd (List.mem_of_getElem? hq2)).symm⟩, _, rfl, _, rfl, l, _, rfl, DPut.k (k := Sum.inl q2.1) hl (small1000 (Nat.le_trans (fil_le h8) (by decide))), ?_⟩
      refine ⟨_, rfl, fun b o hb e => ?_, ?_, ?_, ?_⟩
      · rw [upd_ne (ne_of_none e nl)]
        exact sm b o hb e
      · rw [upd_ne npl]
        exact hp3
      · rw [upd_same]
        show some (HO.dK (putK (((kvs.take i).filter (onL n)).map toK) (Sum.inl q2.1) (V.int q2.2))) = some (HO.dK (((kvs.take (i + 1)).filter (onL n)).map toK))
        rw [put_new (fresh_take nd hq2)]
        rw [fil_take hq2, on]
        rfl
      · rw [upd_ne nlr.symm, hr2]
        show _ = some (HO.dK (((kvs.take (i + 1)).filter (fun p => !onL n p)).map toK))
        rw [fil_take hq2, on]
        show _ = some (HO.dK (((kvs.take i).filter (fun p => !onL n p) ++ []).map toK))
        rw [List.append_nil]
        rfl
    · have c : ¬ q2.1 / 2 ^ n % 2 = 0 := fun e => of_decide_eq_false (Bool.eq_false_iff.mpr c) (congrArg V.int e)
      have on : onL n q2 = false := decide_eq_false c
      refine ⟨_, rfl, _, rfl, p, _, rfl, .inl ⟨kvs.map toK, Sum.inl q2.1, .inr ⟨od, hp3⟩, rfl, (val_some nd (List.mem_of_getElem? hq2)).symm⟩, _, rfl, _, rfl, r, _, rfl, DPut.k (k := Sum.inl q2.1) hr2 (small1000 (Nat.le_trans (fil_le h8) (by decide))), ?_⟩
      refine ⟨_, rfl, fun b o hb e => ?_, ?_, ?_, ?_⟩
      · rw [upd_ne (ne_of_none e nr0)]
        exact sm b o hb e
      · rw [upd_ne npr]
        exact hp3
      · rw [upd_ne nlr, hl]
        show _ = some (HO.dK (((kvs.take (i + 1)).filter (onL n)).map toK))
        rw [fil_take hq2, on]
        show _ = some (HO.dK (((kvs.take i).filter (onL n) ++ []).map toK))
        rw [List.append_nil]
        rfl
      · rw [upd_same]
        show some (HO.dK (putK (((kvs.take i).filter (fun p => !onL n p)).map toK) (Sum.inl q2.1) (V.int q2.2))) = some (HO.dK (((kvs.take (i + 1)).filter (fun p => !onL n p)).map toK))
        rw [put_new (fresh_take nd hq2)]
        rw [fil_take hq2, on]
        rfl
  · rintro σ H2 ⟨v4, rfl, sm, hp3, hl, hr2⟩
    rw [List.length_map, List.take_length] at hl hr2
    refine ⟨hp3, _, rfl, _, rfl, (by show 2 ≤ sizeLine; decide), fun t nt => ?_⟩
    have sU : Same H (upd H2 p (dk kvs)) := fun b o e => by
      by_cases hb : b = p
      · subst hb
        rw [upd_same, ← hp]
        exact e
      · rw [upd_ne hb]
        exact sm b o hb e
    have sN := same_new nt (.tup [V.ref l, V.ref r])
    exact q _ t l r (sU.trans sN) upd_same (sN _ _ (by rw [upd_ne npl.symm]; exact hl)) (sN _ _ (by rw [upd_ne npr.symm]; exact hr2))
end
end Of

set_option Elab.async false
set_option linter.all false
set_option maxRecDepth 100000
set_option maxHeartbeats 4000000
namespace Of
open PySem L2
/-! ### nodes of a map -/
def spNodeIn (K : PySem.W.Frag) (CH : Addr) (n : Nat) : Sp := fun vs H Q _ => ∃ (h p : Addr) (v d least : Int) (kvs : Pairs), vs = [.ref h, .ref p, .int d] ∧ d = 32 - (n : Int) ∧ HsAt CH H h v ∧ Wok v ∧ H p = some (dk kvs) ∧
  Good n least kvs ∧ least + 2 ^ n ≤ 2 ^ 32 ∧ n ≤ 32 ∧ ∀ H' u, Same H H' → InAt K H' u (nodeIn v n kvs) → Q u H'
def spNodeDg (CH : Addr) (n : Nat) : Sp := fun vs H Q _ => ∃ (h p : Addr) (v d least : Int) (kvs : Pairs), vs = [.ref h, .ref p, .int d] ∧ d = 32 - (n : Int) ∧ HsAt CH H h v ∧ Wok v ∧ H p = some (dk kvs) ∧
  Good n least kvs ∧ least + 2 ^ n ≤ 2 ^ 32 ∧ n ≤ 32 ∧ ∀ H', Same H H' → Q (.int (dg v (nodeIn v n kvs))) H'
/-- the same for a node one deeper -/
def spNodeDg1 (CH : Addr) (n : Nat) : Sp := fun vs H Q E => ∃ m, n = m + 1 ∧ spNodeDg CH m vs H Q E
theorem never_ok {P : Program} {w : World} {K : PySem.W.Frag} {mg : Str → Option Value} {base : Heap} {k : Nat} {f : Addr} {fd : FuncData} {ps : List Str} {sp : Sp} (no : ∀ vs H Q E, ¬ sp vs H Q E) : FnOk P w K mg base CX0 k f fd ps sp :=
  ⟨fun vs H Q E h => absurd h (no vs H Q E), fun A outer s H args us vs Q E _ _ _ _ h => absurd h (no vs H Q E)⟩
theorem in_made {K : PySem.W.Frag} {H : Hp} {a b : Addr} {t : Int} {ns : List Int} (nb : H b = none) (na : (upd H b (.tup (ns.map V.int))) a = none) :
    InAt K (upd (upd H b (.tup (ns.map V.int))) a (.tup [.int t, .ref b])) (.ref a) (t, ns) ∧ Same H (upd (upd H b (.tup (ns.map V.int))) a (.tup [.int t, .ref b])) := by
  have s1 := same_new nb (.tup (ns.map V.int))
  have s2 := same_new na (.tup [.int t, .ref b])
  exact ⟨⟨a, b, rfl, SqT.of upd_same, SqT.of (s2 _ _ upd_same)⟩, s1.trans s2⟩
section
variable {P : Program} {w : World} {K : PySem.W.Frag} {mg : Str → Option Value} {base : Heap} {CH CR CT : Addr}
theorem scNodeIn : FnScope ["hasher", "pairs", "depth", "key", "left", "right"] ["hasher", "pairs", "depth"] (defScope sNodeIn) := ⟨rfl, rfl, rfl, by decide +kernel, rfl, by decide +kernel, by decide +kernel⟩
theorem ok_nodeIn {f : Addr} {fd : FuncData} (n : Nat) (F : Fun K "node_input" "node_input" sNodeIn f fd) (T : Txt K mg CH CR CT) (cP : C8.Cal P w K mg base 2 "parted" spParted []) (cD : C8.Cal P w K mg base (2 * n + 2) "node_digest" (spNodeDg1 CH n) []) :
    FnOk P w K mg base CX0 (2 * n + 3) f fd ["hasher", "pairs", "depth"] (spNodeIn K CH n) := by
  refine F.ok scNodeIn (fun vs H Q E h => ?_) (fun cdv A outer s H vs Q E hr h => ?_)
  · obtain ⟨h, p, v, d, least, kvs, rfl, _⟩ := h
    rfl
  obtain ⟨h, p, v, d, least, kvs, rfl, hd, hh, wo, hp, g, hl, hn, q⟩ := h
  have hu := hu_of hr
  refine ⟨_, (pss_cons ((ps_if ((pt_cmpR op_eq ((pe_callB call_lenD (by rfl) T.len PySem.boot_len (pa_cons (pv 1) pa_nil))) (pe_int) (nomark _))) (pss_one ((ps_ret ((pe_tup (pa_cons ((C8.pe_gc (by rfl) T.gLEAF)) (pa_cons ((pe_tup pa_nil)) pa_nil))))))) pss_nil)) (pss_cons ((ps_if ((pt_cmpR op_eq ((pe_callB call_lenD (by rfl) T.len PySem.boot_len (pa_cons (pv 1) pa_nil))) (pe_int) (nomark _))) (pss_cons ((ps_set (i := 3) scNodeIn.nd rfl (Or.inl rfl) ((pe_callB (cr_minK rfl) (by rfl) T.min (by decide +kernel) (pa_cons (pv 1) pa_nil))))) (pss_one ((ps_ret ((pe_tup (pa_cons ((C8.pe_gc (by rfl) T.gLEAF)) (pa_cons ((pe_tup (pa_cons (pv 3) (pa_cons (pe_dget hu (pv 1) (pv 3) (fun _ _ => rfl)) pa_nil)))) pa_nil)))))))) pss_nil)) (pss_cons ((ps_asg ((C8.pe_c cP hr (by first | exact Nat.le_refl _ | decide | omega) (by rfl) (pa_cons (pv 1) (pa_cons (pv 2) pa_nil)))) (pg_tup rfl (pgs_cons ((pg_name (i := 4) scNodeIn.nd rfl (Or.inl rfl))) (pgs_cons ((pg_name (i := 5) scNodeIn.nd rfl (Or.inl rfl))) pgs_nil))))) (pss_one ((ps_ret ((pe_tup (pa_cons ((C8.pe_gc (by rfl) T.gINNER)) (pa_cons ((pe_tup (pa_cons ((pe_callB call_lenD (by rfl) T.len PySem.boot_len (pa_cons (pv 4) pa_nil))) (pa_cons ((C8.pe_c cD hr (by first | exact Nat.le_refl _ | decide | omega) (by rfl) (pa_cons (pv 0) (pa_cons (pv 4) (pa_cons ((pe_op op_add (pv 2) (pe_int))) pa_nil))))) (pa_cons ((pe_callB call_lenD (by rfl) T.len PySem.boot_len (pa_cons (pv 5) pa_nil))) (pa_cons ((C8.pe_c cD hr (by first | exact Nat.le_refl _ | decide | omega) (by rfl) (pa_cons (pv 0) (pa_cons (pv 5) (pa_cons ((pe_op op_add (pv 2) (pe_int))) pa_nil))))) pa_nil)))))) pa_nil)))))))))), ?_⟩
  have e2 : ∀ z : Int, decide (V.int ((kvs.map toK).length : Int) = V.int z) = true ↔ (kvs.length : Int) = z := fun z => by
    rw [List.length_map, decide_eq_true_iff]
    exact ⟨V.int.inj, congrArg V.int⟩
  refine ⟨_, rfl, p, _, rfl, hp, rfl, _, rfl, ite2 (fun c => ?_) (fun c => ?_)⟩
  · have c : (kvs.length : Int) = 0 := (e2 0).mp c
    have ek : kvs = [] := List.length_eq_zero_iff.mp (by omega)
    subst ek
    refine ⟨(by show 0 ≤ sizeLine; decide), fun b nb => ⟨(by show 2 ≤ sizeLine; decide), fun a na => ?_⟩⟩
    have z := in_made (K := K) (t := 2) (ns := []) nb na
    refine q _ _ z.2 ?_
    rw [node_small (show ([] : Pairs).length ≤ 1 from Nat.zero_le 1)]
    exact z.1
  have c0 : ¬ (kvs.length : Int) = 0 := fun z => c ((e2 0).mpr z)
  refine ⟨_, rfl, p, _, rfl, hp, rfl, _, rfl, ite2 (fun c => ?_) (fun c => ?_)⟩
  · have c : (kvs.length : Int) = 1 := (e2 1).mp c
    obtain ⟨e, rfl⟩ : ∃ e, kvs = [e] := List.length_eq_one_iff.mp (by omega)
    refine ⟨_, rfl, p, _, [e.1], rfl, hp, rfl, (by simp), fun m hm _ => ?_⟩
    have em : m = e.1 := List.mem_singleton.mp hm
    subst em
    have hv : some (V.int e.2) = valV ([e].map toK) (Sum.inl e.1 : Key) := (val_some g.nd (List.mem_singleton.mpr rfl)).symm
    refine ⟨_, rfl, _, rfl, _, rfl, p, _, rfl, .inl ⟨_, Sum.inl e.1, .inl hp, rfl, hv⟩, (by show 2 ≤ sizeLine; decide), fun b nb => ⟨(by show 2 ≤ sizeLine; decide), fun a na => ?_⟩⟩
    have z := in_made (K := K) (t := 2) (ns := [e.1, e.2]) nb na
    refine q _ _ z.2 ?_
    rw [node_small (show [e].length ≤ 1 from Nat.le_refl 1)]
    exact z.1
  have c1 : ¬ (kvs.length : Int) = 1 := fun z => c ((e2 1).mpr z)
  have hk : ¬ kvs.length ≤ 1 := by omega
  cases n with
  | zero => exact absurd g.zero hk
  | succ n =>
    have e3 : (2 : Int) ^ (n + 1) = 2 ^ n * 2 := Int.pow_succ ..
    have p2 := pow_pos2 n
    refine ⟨_, rfl, _, rfl, n, p, d, kvs, rfl, (by omega), hp, g.nd, g.len, fun H1 t l r s1 ht hl1 hr1 => ?_⟩
    refine ⟨t, _, rfl, SqT.of ht, rfl, _, _, rfl, _, _, rfl, rfl, ?_⟩
    refine ⟨_, rfl, l, _, rfl, hl1, _, rfl, _, rfl, _, rfl, _, _, rfl, rfl, n, rfl, h, l, v, d + 1, least, lef n kvs, rfl, (by omega), hh.mono s1, wo, hl1, g.left, (by omega), (by omega), fun H2 s2 => ?_⟩
    refine ⟨_, rfl, r, _, rfl, s2 _ _ hr1, _, rfl, _, rfl, _, rfl, _, _, rfl, rfl, n, rfl, h, r, v, d + 1, least + 2 ^ n, rig n kvs, rfl, (by omega), hh.mono (s1.trans s2), wo, s2 _ _ hr1, g.right, (by omega), (by omega), fun H3 s3 => ?_⟩
    refine ⟨(by show 4 ≤ sizeLine; decide), fun b nb => ⟨(by show 2 ≤ sizeLine; decide), fun a na => ?_⟩⟩
    have z := in_made (K := K) (t := 3) (ns := [(((lef n kvs).map toK).length : Int), dg v (nodeIn v n (lef n kvs)), (((rig n kvs).map toK).length : Int), dg v (nodeIn v n (rig n kvs))]) nb na
    refine q _ _ (((s1.trans s2).trans s3).trans z.2) ?_
    have e9 : nodeIn v (n + 1) kvs = (3, [(((lef n kvs).map toK).length : Int), dg v (nodeIn v n (lef n kvs)), (((rig n kvs).map toK).length : Int), dg v (nodeIn v n (rig n kvs))]) := by
      rw [node_big hk, List.length_map, List.length_map]
    rw [e9]
    exact z.1
theorem scNodeDg : FnScope ["hasher", "pairs", "depth", "tag", "numbers"] ["hasher", "pairs", "depth"] (defScope sNodeDg) := ⟨rfl, rfl, rfl, by decide +kernel, rfl, by decide +kernel, by decide +kernel⟩
theorem ok_nodeDg {f : Addr} {fd : FuncData} (n : Nat) (F : Fun K "node_digest" "node_digest" sNodeDg f fd) (T : Txt K mg CH CR CT) (cI : C8.Cal P w K mg base (2 * n + 3) "node_input" (spNodeIn K CH n) []) (cH : C8.Met P w K mg base 2 CH "digest" (spDigest K CH) []) :
    FnOk P w K mg base CX0 (2 * n + 4) f fd ["hasher", "pairs", "depth"] (spNodeDg CH n) := by
  refine F.ok scNodeDg (fun vs H Q E h => ?_) (fun cdv A outer s H vs Q E hr h => ?_)
  · obtain ⟨h, p, v, d, least, kvs, rfl, _⟩ := h
    rfl
  obtain ⟨h, p, v, d, least, kvs, rfl, hd, hh, wo, hp, g, hl, hn, q⟩ := h
  refine ⟨_, (pss_cons ((ps_asg ((C8.pe_c cI hr (by first | exact Nat.le_refl _ | decide | omega) (by rfl) (pa_cons (pv 0) (pa_cons (pv 1) (pa_cons (pv 2) pa_nil))))) (pg_tup rfl (pgs_cons ((pg_name (i := 3) scNodeDg.nd rfl (Or.inl rfl))) (pgs_cons ((pg_name (i := 4) scNodeDg.nd rfl (Or.inl rfl))) pgs_nil))))) (pss_one ((ps_ret ((C8.pe_mt cH hr (by first | exact Nat.le_refl _ | decide | omega) (pv 0) (pa_cons (pv 3) (pa_cons (pv 4) pa_nil)))))))), ?_⟩
  refine ⟨_, rfl, _, rfl, _, rfl, h, p, v, d, least, kvs, rfl, hd, hh, wo, hp, g, hl, hn, fun H1 u s1 hi => ?_⟩
  obtain ⟨a, b, rfl, h1, h2⟩ := hi
  have ok := node_ok g hn hl wo.1 wo.2
  refine ⟨a, _, rfl, h1, rfl, _, _, rfl, _, _, rfl, rfl, ?_⟩
  obtain ⟨dx, hh1⟩ := hh.mono s1
  refine ⟨_, rfl, h, dx, _, rfl, hh1, rfl, _, rfl, _, rfl, h, b, v, _, _, rfl, ⟨dx, hh1⟩, wo, h2, ok.len, fun x hx => (ok.nn x hx).2, fun H2 s2 => ?_⟩
  exact q H2 (s1.trans s2)
/-- both, for every depth -/
theorem nodes {fI fD : Addr} {fdI fdD : FuncData} (FI : Fun K "node_input" "node_input" sNodeIn fI fdI) (bI : Binds K fdI ["hasher", "pairs", "depth"] []) (mI : mg "node_input" = some (.ref fI))
    (FD : Fun K "node_digest" "node_digest" sNodeDg fD fdD) (bD : Binds K fdD ["hasher", "pairs", "depth"] []) (mD : mg "node_digest" = some (.ref fD)) (T : Txt K mg CH CR CT)
    (cP : C8.Cal P w K mg base 2 "parted" spParted []) (cH : C8.Met P w K mg base 2 CH "digest" (spDigest K CH) []) :
    ∀ n : Nat, C8.Cal P w K mg base (2 * n + 3) "node_input" (spNodeIn K CH n) [] ∧ C8.Cal P w K mg base (2 * n + 4) "node_digest" (spNodeDg CH n) []
  | 0 => by
    have c0 : C8.Cal P w K mg base (2 * 0 + 2) "node_digest" (spNodeDg1 CH 0) [] := ⟨fD, fdD, _, [], never_ok (fun vs H Q E z => by obtain ⟨m, e, _⟩ := z; cases e), mD, FD.kp, bD, .nil⟩
    have c1 : C8.Cal P w K mg base (2 * 0 + 3) "node_input" (spNodeIn K CH 0) [] := ⟨fI, fdI, _, [], ok_nodeIn 0 FI T cP c0, mI, FI.kp, bI, .nil⟩
    exact ⟨c1, ⟨fD, fdD, _, [], ok_nodeDg 0 FD T c1 cH, mD, FD.kp, bD, .nil⟩⟩
  | n + 1 => by
    obtain ⟨_, ⟨f, fd, ps, ds, ok, m, k, b, v⟩⟩ := nodes FI bI mI FD bD mD T cP cH n
    have c0 : C8.Cal P w K mg base (2 * (n + 1) + 2) "node_digest" (spNodeDg1 CH (n + 1)) [] := ⟨f, fd, ps, ds, ok.imp fun vs H Q E z => by
      obtain ⟨m, e, z⟩ := z
      obtain rfl : n = m := Nat.succ.inj e
      exact z, m, k, b, v⟩
    have c1 : C8.Cal P w K mg base (2 * (n + 1) + 3) "node_input" (spNodeIn K CH (n + 1)) [] := ⟨fI, fdI, _, [], ok_nodeIn (n + 1) FI T cP c0, mI, FI.kp, bI, .nil⟩
    exact ⟨c1, ⟨fD, fdD, _, [], ok_nodeDg (n + 1) FD T c1 cH, mD, FD.kp, bD, .nil⟩⟩
end
end Of

set_option Elab.async false
set_option linter.all false
set_option maxRecDepth 100000
set_option maxHeartbeats 4000000
namespace Of
open PySem L2
/-! ### the proof of a range -/
def spRoot (CH : Addr) : Sp := fun vs H Q _ => ∃ (h p : Addr) (v : Int) (kvs : Pairs), vs = [.ref h, .ref p] ∧ HsAt CH H h v ∧ Wok v ∧ H p = some (dk kvs) ∧ Good 32 0 kvs ∧ ∀ H', Same H H' → Q (.int (dg v (nodeIn v 32 kvs))) H'
def spWords (CH : Addr) (n : Nat) : Sp := fun vs H Q _ => ∃ (h p : Addr) (v d low high least : Int) (kvs : Pairs), vs = [.ref h, .ref p, .int d, .int low, .int high, .int least] ∧ d = 32 - (n : Int) ∧ HsAt CH H h v ∧ Wok v ∧ H p = some (dk kvs) ∧
  Good n least kvs ∧ least + 2 ^ n ≤ 2 ^ 32 ∧ n ≤ 32 ∧ ∀ H' a, Same H H' → H' a = some (.lst ((trueT v low high n least kvs).words.map V.int)) → Q (.ref a) H'
def spWords1 (CH : Addr) (n : Nat) : Sp := fun vs H Q E => ∃ m, n = m + 1 ∧ spWords CH m vs H Q E
def spProof (CH : Addr) : Sp := fun vs H Q _ => ∃ (h p : Addr) (v low high : Int) (kvs : Pairs), vs = [.ref h, .ref p, .int low, .int high] ∧ HsAt CH H h v ∧ Wok v ∧ H p = some (dk kvs) ∧ Good 32 0 kvs ∧
  ∀ H' a, Same H H' → H' a = some (.tup ((trueT v low high 32 0 kvs).words.map V.int)) → Q (.ref a) H'
theorem shl_eq {n : Nat} {d : Int} (h : d = 32 - (n : Int)) : (1 : Int) * 2 ^ (32 - d).toNat = 2 ^ n := by
  have e : (32 - d).toNat = n := by omega
  rw [e, Int.one_mul]
theorem shl_eq1 {n : Nat} {d : Int} (h : d = 31 - (n : Int)) : (1 : Int) * 2 ^ (32 - 1 - d).toNat = 2 ^ n := by
  have e : (32 - 1 - d).toNat = n := by omega
  rw [e, Int.one_mul]
section
variable {P : Program} {w : World} {K : PySem.W.Frag} {mg : Str → Option Value} {base : Heap} {CH CR CT : Addr}
theorem scRoot : FnScope ["hasher", "pairs"] ["hasher", "pairs"] (defScope sRoot) := ⟨rfl, rfl, rfl, by decide +kernel, rfl, by decide +kernel, by decide +kernel⟩
theorem ok_root {f : Addr} {fd : FuncData} (F : Fun K "map_root" "map_root" sRoot f fd) (T : Txt K mg CH CR CT) (cD : C8.Cal P w K mg base 68 "node_digest" (spNodeDg CH 32) []) : FnOk P w K mg base CX0 69 f fd ["hasher", "pairs"] (spRoot CH) := by
  refine F.ok scRoot (fun vs H Q E h => ?_) (fun cdv A outer s H vs Q E hr h => ?_)
  · obtain ⟨h, p, v, kvs, rfl, _⟩ := h
    rfl
  obtain ⟨h, p, v, kvs, rfl, hh, wo, hp, g, q⟩ := h
  refine ⟨_, pss_one (ps_ret ((C8.pe_c cD hr (by first | exact Nat.le_refl _ | decide | omega) (by rfl) (pa_cons (pv 0) (pa_cons (pv 1) (pa_cons (pe_int) pa_nil)))))), ?_⟩
  exact ⟨_, rfl, _, rfl, h, p, v, 0, 0, kvs, rfl, rfl, hh, wo, hp, g, by decide, by decide, q⟩
theorem scWords : FnScope ["hasher", "pairs", "depth", "low", "high", "least", "most", "key", "left", "right", "middle", "words"] ["hasher", "pairs", "depth", "low", "high", "least"] (defScope sWords) := ⟨rfl, rfl, rfl, by decide +kernel, rfl, by decide +kernel, by decide +kernel⟩
theorem ok_words {f : Addr} {fd : FuncData} (n : Nat) (F : Fun K "range_words" "range_words" sWords f fd) (T : Txt K mg CH CR CT) (cP : C8.Cal P w K mg base 2 "parted" spParted [])
    (cD : C8.Cal P w K mg base (2 * n + 4) "node_digest" (spNodeDg CH n) []) (cW : C8.Cal P w K mg base (n + 68) "range_words" (spWords1 CH n) []) :
    FnOk P w K mg base CX0 (n + 69) f fd ["hasher", "pairs", "depth", "low", "high", "least"] (spWords CH n) := by
  refine F.ok scWords (fun vs H Q E h => ?_) (fun cdv A outer s H vs Q E hr h => ?_)
  · obtain ⟨h, p, v, d, low, high, least, kvs, rfl, _⟩ := h
    rfl
  obtain ⟨h, p, v, d, low, high, least, kvs, rfl, hd, hh, wo, hp, g, hl, hn, q⟩ := h
  have hu := hu_of hr
  refine ⟨_, (pss_cons ((ps_set (i := 6) scWords.nd rfl (Or.inl rfl) ((pe_op op_sub ((pe_op op_add (pv 5) ((pe_op op_shl (pe_int) ((pe_op op_sub ((C8.pe_gc (by rfl) T.gKB)) (pv 2))))))) (pe_int))))) (pss_cons ((ps_if ((PW.pt (pw_or ((pt_cmpR op_lt (pv 6) (pv 3) (nomark _))) (pw_or1 ((pt_cmpR op_gt (pv 5) (pv 4) (nomark _))))))) (pss_one ((ps_ret ((pe_lst (pa_cons ((C8.pe_gc (by rfl) T.gHW)) (pa_cons ((pe_callB call_lenD (by rfl) T.len PySem.boot_len (pa_cons (pv 1) pa_nil))) (pa_cons ((C8.pe_c cD hr (by first | exact Nat.le_refl _ | decide | omega) (by rfl) (pa_cons (pv 0) (pa_cons (pv 1) (pa_cons (pv 2) pa_nil))))) pa_nil)))))))) pss_nil)) (pss_cons ((ps_if ((pt_cmpR op_eq ((pe_callB call_lenD (by rfl) T.len PySem.boot_len (pa_cons (pv 1) pa_nil))) (pe_int) (nomark _))) (pss_one ((ps_ret ((pe_lst (pa_cons ((C8.pe_gc (by rfl) T.gEW)) pa_nil)))))) pss_nil)) (pss_cons ((ps_if ((pt_cmpR op_eq ((pe_callB call_lenD (by rfl) T.len PySem.boot_len (pa_cons (pv 1) pa_nil))) (pe_int) (nomark _))) (pss_cons ((ps_set (i := 7) scWords.nd rfl (Or.inl rfl) ((pe_callB (cr_minK rfl) (by rfl) T.min (by decide +kernel) (pa_cons (pv 1) pa_nil))))) (pss_one ((ps_ret ((pe_lst (pa_cons ((C8.pe_gc (by rfl) T.gLW)) (pa_cons (pv 7) (pa_cons (pe_dget hu (pv 1) (pv 7) (fun _ _ => rfl)) pa_nil))))))))) pss_nil)) (pss_cons ((ps_asg ((C8.pe_c cP hr (by first | exact Nat.le_refl _ | decide | omega) (by rfl) (pa_cons (pv 1) (pa_cons (pv 2) pa_nil)))) (pg_tup rfl (pgs_cons ((pg_name (i := 8) scWords.nd rfl (Or.inl rfl))) (pgs_cons ((pg_name (i := 9) scWords.nd rfl (Or.inl rfl))) pgs_nil))))) (pss_cons ((ps_set (i := 10) scWords.nd rfl (Or.inl rfl) ((pe_op op_add (pv 5) ((pe_op op_shl (pe_int) ((pe_op op_sub ((pe_op op_sub ((C8.pe_gc (by rfl) T.gKB)) (pe_int))) (pv 2))))))))) (pss_cons ((ps_set (i := 11) scWords.nd rfl (Or.inl rfl) ((pe_op op_cat ((pe_lst (pa_cons ((C8.pe_gc (by rfl) T.gIW)) pa_nil))) ((C8.pe_c cW hr (by first | exact Nat.le_refl _ | decide | omega) (by rfl) (pa_cons (pv 0) (pa_cons (pv 8) (pa_cons ((pe_op op_add (pv 2) (pe_int))) (pa_cons (pv 3) (pa_cons (pv 4) (pa_cons (pv 5) pa_nil)))))))))))) (pss_one ((ps_ret ((pe_op op_cat (pv 11) ((C8.pe_c cW hr (by first | exact Nat.le_refl _ | decide | omega) (by rfl) (pa_cons (pv 0) (pa_cons (pv 9) (pa_cons ((pe_op op_add (pv 2) (pe_int))) (pa_cons (pv 3) (pa_cons (pv 4) (pa_cons (pv 10) pa_nil)))))))))))))))))))), ?_⟩
  have em := shl_eq hd
  have e2 : ∀ z : Int, decide (V.int ((kvs.map toK).length : Int) = V.int z) = true ↔ (kvs.length : Int) = z := fun z => by
    rw [List.length_map, decide_eq_true_iff]
    exact ⟨V.int.inj, congrArg V.int⟩
  have hid : Out low high n least → ∀ (H1 : Hp) (a : Addr), Same H H1 → H1 a = none → Q (.ref a) (upd H1 a (.lst [.int 3, .int ((kvs.map toK).length : Int), .int (dg v (nodeIn v n kvs))])) := fun ho H1 a s1 na => by
    refine q _ a (s1.trans (same_new na _)) ?_
    rw [upd_same, true_out ho, List.length_map]
    rfl
  -- most
  refine ⟨_, rfl, _, rfl, _, _, rfl, rfl, _, _, rfl, rfl, ⟨by omega, by omega, by decide⟩, _, _, rfl, rfl, _, _, rfl, rfl, ?_⟩
  refine ⟨_, rfl, _, rfl, _, _, rfl, rfl, _, rfl, ite2 (fun c1 => iteT ?_) (fun c1 => ⟨_, rfl, _, rfl, _, _, rfl, rfl, _, rfl, ite2 (fun c2 => ?_) (fun c2 => ?_)⟩)⟩
  · have c1 : least + 1 * 2 ^ (32 - d).toNat - 1 < low := of_decide_eq_true c1
    rw [em] at c1
    exact ⟨_, rfl, p, _, rfl, hp, _, rfl, _, rfl, _, rfl, h, p, v, d, least, kvs, rfl, hd, hh, wo, hp, g, hl, hn, fun H1 s1 => ⟨(by show 3 ≤ sizeLine; decide), fun a na => hid (.inl c1) H1 a s1 na⟩⟩
  · have c2 : high < least := of_decide_eq_true c2
    exact ⟨_, rfl, p, _, rfl, hp, _, rfl, _, rfl, _, rfl, h, p, v, d, least, kvs, rfl, hd, hh, wo, hp, g, hl, hn, fun H1 s1 => ⟨(by show 3 ≤ sizeLine; decide), fun a na => hid (.inr c2) H1 a s1 na⟩⟩
  have c1 : ¬ least + 1 * 2 ^ (32 - d).toNat - 1 < low := of_decide_eq_false (Bool.eq_false_iff.mpr c1)
  rw [em] at c1
  have c2 : ¬ high < least := of_decide_eq_false (Bool.eq_false_iff.mpr c2)
  have ho : ¬ Out low high n least := fun z => z.elim c1 c2
  refine ⟨_, rfl, p, _, rfl, hp, rfl, _, rfl, ite2 (fun c => ?_) (fun c => ?_)⟩
  · have c : (kvs.length : Int) = 0 := (e2 0).mp c
    have ek : kvs = [] := List.length_eq_zero_iff.mp (by omega)
    subst ek
    refine ⟨(by show 1 ≤ sizeLine; decide), fun a na => q _ a (same_new na _) ?_⟩
    rw [upd_same, true_nil ho]
    rfl
  have c0 : ¬ (kvs.length : Int) = 0 := fun z => c ((e2 0).mpr z)
  refine ⟨_, rfl, p, _, rfl, hp, rfl, _, rfl, ite2 (fun c => ?_) (fun c => ?_)⟩
  · have c : (kvs.length : Int) = 1 := (e2 1).mp c
    obtain ⟨e, rfl⟩ : ∃ e, kvs = [e] := List.length_eq_one_iff.mp (by omega)
    refine ⟨_, rfl, p, _, [e.1], rfl, hp, rfl, (by simp), fun m hm _ => ?_⟩
    have em : m = e.1 := List.mem_singleton.mp hm
    subst em
    have hv : some (V.int e.2) = valV ([e].map toK) (Sum.inl e.1 : Key) := (val_some g.nd (List.mem_singleton.mpr rfl)).symm
    refine ⟨_, rfl, _, rfl, _, rfl, p, _, rfl, .inl ⟨_, Sum.inl e.1, .inl hp, rfl, hv⟩, (by show 3 ≤ sizeLine; decide), fun a na => q _ a (same_new na _) ?_⟩
    rw [upd_same, true_one ho]
    rfl
  have c1 : ¬ (kvs.length : Int) = 1 := fun z => c ((e2 1).mpr z)
  have hk : ¬ kvs.length ≤ 1 := by omega
  cases n with
  | zero => exact absurd g.zero hk
  | succ n =>
    have e3 : (2 : Int) ^ (n + 1) = 2 ^ n * 2 := Int.pow_succ ..
    have p2 := pow_pos2 n
    have em1 := shl_eq1 (n := n) (d := d) (by omega)
    have g1 := g.left
    have g2 := g.right
    obtain ⟨w1, _⟩ := true_words (w := v) (low := low) (high := high) wo.1 wo.2 n least _ (by omega) g1
    obtain ⟨w2, _⟩ := true_words (w := v) (low := low) (high := high) wo.1 wo.2 n _ _ (by omega) g2
    have bound : ∀ m : Nat, m ≤ 8 → 3 + 4 * n * m ≤ 1100 := fun m hm => by
      have : 4 * n * m ≤ 4 * 32 * 8 := Nat.mul_le_mul (by omega) hm
      omega
    have b1 := bound _ g1.len
    have b2 := bound _ g2.len
    refine ⟨_, rfl, _, rfl, n, p, d, kvs, rfl, (by omega), hp, g.nd, g.len, fun H1 t l r s1 ht hl1 hr1 => ?_⟩
    refine ⟨t, _, rfl, SqT.of ht, rfl, _, _, rfl, _, _, rfl, rfl, ?_⟩
    -- middle
    refine ⟨_, rfl, _, _, rfl, rfl, _, rfl, _, _, rfl, rfl, _, _, rfl, rfl, ⟨by omega, by omega, by decide⟩, _, _, rfl, rfl, ?_⟩
    -- words
    refine ⟨(by show 1 ≤ sizeLine; decide), fun a1 n1 => ?_⟩
    have s2 := same_new n1 (.lst [V.int 2])
    refine ⟨_, rfl, _, rfl, _, rfl, _, _, rfl, rfl, _, rfl, _, rfl, _, rfl, n, rfl, h, l, v, d + 1, low, high, least, lef n kvs, rfl, (by omega), (hh.mono s1).mono s2, wo, s2 _ _ hl1, g1, (by omega), (by omega), fun H2 a2 s3 h2 => ?_⟩
    refine ⟨a1, a2, _, _, rfl, rfl, s3 _ _ upd_same, h2, (by rw [List.length_map, List.length_singleton]; exact Nat.le_of_lt (small1000' (by omega))), fun a3 n3 => ?_⟩
    have s4 := same_new n3 (.lst ([V.int 2] ++ (trueT v low high n least (lef n kvs)).words.map V.int))
    have s04 := ((s1.trans s2).trans s3).trans s4
    have g2' : Good n (least + 1 * 2 ^ (32 - 1 - d).toNat) (rig n kvs) := by
      rw [em1]
      exact g2
    refine ⟨_, rfl, _, rfl, _, rfl, _, rfl, _, _, rfl, rfl, _, rfl, _, rfl, _, rfl, n, rfl, h, r, v, d + 1, low, high, _, rig n kvs, rfl, (by omega), hh.mono s04, wo, ((s2.trans s3).trans s4) _ _ hr1, g2', (by rw [em1]; omega), (by omega), fun H3 a4 s5 h4 => ?_⟩
    rw [em1] at h4
    refine ⟨a3, a4, _, _, rfl, rfl, s5 _ _ upd_same, h4, (by rw [List.length_append, List.length_map, List.length_map, List.length_singleton]; exact Nat.le_of_lt (small1000' (by omega))), fun a5 n5 => q _ a5 ((s04.trans s5).trans (same_new n5 _)) ?_⟩
    rw [upd_same, true_more ho hk]
    show _ = some (HO.lst ((2 :: ((trueT v low high n least (lef n kvs)).words ++ (trueT v low high n (least + 2 ^ n) (rig n kvs)).words)).map V.int))
    simp
theorem all_words {f : Addr} {fd : FuncData} (F : Fun K "range_words" "range_words" sWords f fd) (b : Binds K fd ["hasher", "pairs", "depth", "low", "high", "least"] []) (m : mg "range_words" = some (.ref f)) (T : Txt K mg CH CR CT) (cP : C8.Cal P w K mg base 2 "parted" spParted [])
    (cD : ∀ n : Nat, C8.Cal P w K mg base (2 * n + 4) "node_digest" (spNodeDg CH n) []) : ∀ n : Nat, C8.Cal P w K mg base (n + 69) "range_words" (spWords CH n) []
  | 0 => ⟨f, fd, _, [], ok_words 0 F T cP (cD 0) ⟨f, fd, _, [], never_ok (fun vs H Q E z => by obtain ⟨m, e, _⟩ := z; cases e), m, F.kp, b, .nil⟩, m, F.kp, b, .nil⟩
  | n + 1 => by
    obtain ⟨f', fd', ps, ds, ok, m', k, b', v'⟩ := all_words F b m T cP cD n
    exact ⟨f, fd, _, [], ok_words (n + 1) F T cP (cD (n + 1)) ⟨f', fd', ps, ds, ok.imp fun vs H Q E z => by
      obtain ⟨m, e, z⟩ := z
      obtain rfl : n = m := Nat.succ.inj e
      exact z, m', k, b', v'⟩, m, F.kp, b, .nil⟩
theorem scProof : FnScope ["hasher", "pairs", "low", "high"] ["hasher", "pairs", "low", "high"] (defScope sProof) := ⟨rfl, rfl, rfl, by decide +kernel, rfl, by decide +kernel, by decide +kernel⟩
theorem ok_proof {f : Addr} {fd : FuncData} (F : Fun K "range_proof" "range_proof" sProof f fd) (T : Txt K mg CH CR CT) (cW : C8.Cal P w K mg base 101 "range_words" (spWords CH 32) []) : FnOk P w K mg base CX0 102 f fd ["hasher", "pairs", "low", "high"] (spProof CH) := by
  refine F.ok scProof (fun vs H Q E h => ?_) (fun cdv A outer s H vs Q E hr h => ?_)
  · obtain ⟨h, p, v, low, high, kvs, rfl, _⟩ := h
    rfl
  obtain ⟨h, p, v, low, high, kvs, rfl, hh, wo, hp, g, q⟩ := h
  refine ⟨_, pss_one (ps_ret ((pe_callTy call_tuple_of (by rfl) T.tuple (by decide +kernel) (pa_cons ((C8.pe_c cW hr (by first | exact Nat.le_refl _ | decide | omega) (by rfl) (pa_cons (pv 0) (pa_cons (pv 1) (pa_cons (pe_int) (pa_cons (pv 2) (pa_cons (pv 3) (pa_cons (pe_int) pa_nil)))))))) pa_nil)))), ?_⟩
  refine ⟨_, rfl, _, rfl, _, rfl, _, rfl, h, p, v, 0, low, high, 0, kvs, rfl, rfl, hh, wo, hp, g, by decide, by decide, fun H1 a s1 h1 => ?_⟩
  exact ⟨a, _, rfl, .inl ⟨SqL.of h1, fun l nl => q _ l (s1.trans (same_new nl _)) upd_same⟩⟩
end
end Of

set_option Elab.async false
set_option linter.all false
set_option maxRecDepth 100000
set_option maxHeartbeats 4000000
namespace Of
open PySem L2
/-! ### the reader of a proof -/
def rdF (h pr : Addr) (low high at_ : Int) (fd : Addr) (br : Bool) : List (Str × V) :=
  [("hasher", .ref h), ("proof", .ref pr), ("low", .int low), ("high", .int high), ("at", .int at_), ("found", .ref fd), ("broken", .bl br)]
theorem putF_neg {f g : Str} {v u : V} {r : List (Str × V)} (h : ¬ g = f) : putF f v ((g, u) :: r) = (g, u) :: putF f v r := if_neg h
theorem putF_pos {f : Str} {v u : V} {r : List (Str × V)} : putF f v ((f, u) :: r) = (f, v) :: r := if_pos rfl
theorem rd_at {h pr : Addr} {low high z z' : Int} {fd : Addr} {br : Bool} : putF "at" (.int z') (rdF h pr low high z fd br) = rdF h pr low high z' fd br := by
  unfold rdF
  rw [putF_neg (by decide +kernel), putF_neg (by decide +kernel), putF_neg (by decide +kernel), putF_neg (by decide +kernel), putF_pos]
theorem rd_br {h pr : Addr} {low high z : Int} {fd : Addr} {br br' : Bool} : putF "broken" (.bl br') (rdF h pr low high z fd br) = rdF h pr low high z fd br' := by
  unfold rdF
  rw [putF_neg (by decide +kernel), putF_neg (by decide +kernel), putF_neg (by decide +kernel), putF_neg (by decide +kernel), putF_neg (by decide +kernel), putF_neg (by decide +kernel), putF_pos]
theorem rd_made {h pr : Addr} {low high : Int} {fd : Addr} : putF "broken" (.bl false) (putF "found" (.ref fd) (putF "at" (.int 0) (putF "high" (.int high) (putF "low" (.int low) (putF "proof" (.ref pr) (putF "hasher" (.ref h) [])))))) = rdF h pr low high 0 fd false := by
  show putF "broken" (.bl false) (putF "found" (.ref fd) (putF "at" (.int 0) (putF "high" (.int high) (putF "low" (.int low) (putF "proof" (.ref pr) [("hasher", .ref h)]))))) = _
  unfold rdF
  rw [putF_neg (by decide +kernel)]
  show putF "broken" (.bl false) (putF "found" (.ref fd) (putF "at" (.int 0) (putF "high" (.int high) (putF "low" (.int low) [("hasher", .ref h), ("proof", .ref pr)])))) = _
  rw [putF_neg (by decide +kernel), putF_neg (by decide +kernel)]
  show putF "broken" (.bl false) (putF "found" (.ref fd) (putF "at" (.int 0) (putF "high" (.int high) [("hasher", .ref h), ("proof", .ref pr), ("low", .int low)]))) = _
  rw [putF_neg (by decide +kernel), putF_neg (by decide +kernel), putF_neg (by decide +kernel)]
  show putF "broken" (.bl false) (putF "found" (.ref fd) (putF "at" (.int 0) [("hasher", .ref h), ("proof", .ref pr), ("low", .int low), ("high", .int high)])) = _
  rw [putF_neg (by decide +kernel), putF_neg (by decide +kernel), putF_neg (by decide +kernel), putF_neg (by decide +kernel)]
  show putF "broken" (.bl false) (putF "found" (.ref fd) [("hasher", .ref h), ("proof", .ref pr), ("low", .int low), ("high", .int high), ("at", .int 0)]) = _
  rw [putF_neg (by decide +kernel), putF_neg (by decide +kernel), putF_neg (by decide +kernel), putF_neg (by decide +kernel), putF_neg (by decide +kernel)]
  show putF "broken" (.bl false) [("hasher", .ref h), ("proof", .ref pr), ("low", .int low), ("high", .int high), ("at", .int 0), ("found", .ref fd)] = _
  rw [putF_neg (by decide +kernel), putF_neg (by decide +kernel), putF_neg (by decide +kernel), putF_neg (by decide +kernel), putF_neg (by decide +kernel), putF_neg (by decide +kernel)]
  rfl
section
variable {h pr fd : Addr} {low high z : Int} {br : Bool}
theorem lk_h : (rdF h pr low high z fd br).lookup ("hasher" : Str) = some (.ref h) := rfl
theorem lk_p : (rdF h pr low high z fd br).lookup ("proof" : Str) = some (.ref pr) := rfl
theorem lk_l : (rdF h pr low high z fd br).lookup ("low" : Str) = some (.int low) := rfl
theorem lk_g : (rdF h pr low high z fd br).lookup ("high" : Str) = some (.int high) := rfl
theorem lk_a : (rdF h pr low high z fd br).lookup ("at" : Str) = some (.int z) := rfl
theorem lk_f : (rdF h pr low high z fd br).lookup ("found" : Str) = some (.ref fd) := rfl
theorem lk_b : (rdF h pr low high z fd br).lookup ("broken" : Str) = some (.bl br) := rfl
theorem lk_no {m : Str} (hm : (["hasher", "proof", "low", "high", "at", "found", "broken"] : List Str).contains m = false) : (rdF h pr low high z fd br).lookup m = none := by
  simp only [List.contains_cons, Bool.or_eq_false_iff] at hm
  obtain ⟨h1, h2, h3, h4, h5, h6, h7, _⟩ := hm
  unfold rdF
  rw [List.lookup_cons, h1, List.lookup_cons, h2, List.lookup_cons, h3, List.lookup_cons, h4, List.lookup_cons, h5, List.lookup_cons, h6, List.lookup_cons, h7]
  rfl
end
/-- what one take gives -/
def tk (ws : List Int) (k : Nat) (br : Bool) : Int × Bool := match ws.drop k with
  | [] => (-1, true)
  | x :: _ => (x, br)
/-- all but one object kept -/
def Kp (p : Addr) (H H' : Hp) : Prop := ∀ b o, b ≠ p → H b = some o → H' b = some o
theorem Kp.upd {p : Addr} {H H' : Hp} (k : Kp p H H') (o : HO) : Kp p H (L2.upd H' p o) := fun b u hb e => by
  rw [upd_ne hb]
  exact k b u hb e
theorem Kp.refl (p : Addr) (H : Hp) : Kp p H H := fun _ _ _ e => e
theorem Kp.trans {p : Addr} {H H1 H2 : Hp} (a : Kp p H H1) (b : Kp p H1 H2) : Kp p H H2 := fun c o hc e => b c o hc (a c o hc e)
theorem _root_.L2.Same.kp {p : Addr} {H H' : Hp} (s : Same H H') : Kp p H H' := fun b o _ e => s b o e
theorem Kp.tup {K : PySem.W.Frag} {p a C dx : Addr} {fs : List (Str × V)} {H H' : Hp} {xs : List V} (k : Kp p H H') (hp : H p = some (.ins C dx fs)) (h : SqT K H a xs) : SqT K H' a xs := by
  rcases h with (h | ⟨o, h⟩) | h
  · exact .inl (.inl (k _ _ (ne_of h hp (by intro z; cases z)) h))
  · exact .inl (.inr ⟨o, k _ _ (ne_of h hp (by intro z; cases z)) h⟩)
  · exact .inr h
def spTake (K : PySem.W.Frag) (CR : Addr) : Sp := fun vs H Q _ => ∃ (p dx h pr fd : Addr) (low high : Int) (k : Nat) (br : Bool) (ws : List Int), vs = [.ref p] ∧ H p = some (.ins CR dx (rdF h pr low high (k : Int) fd br)) ∧ SqT K H pr (ws.map V.int) ∧
  Q (.int (tk ws k br).1) (upd H p (.ins CR dx (rdF h pr low high ((k + 1 : Nat) : Int) fd (tk ws k br).2)))
section
variable {P : Program} {w : World} {K : PySem.W.Frag} {mg : Str → Option Value} {base : Heap} {CH CR CT : Addr}
theorem scTake : FnScope ["self"] ["self"] (defScope sTake) := ⟨rfl, rfl, rfl, by decide +kernel, rfl, by decide +kernel, by decide +kernel⟩
theorem ok_take {f : Addr} {fd : FuncData} (F : Fun K "take" "RangeReader.take" sTake f fd) (T : Txt K mg CH CR CT) : FnOk P w K mg base CX0 1 f fd ["self"] (spTake K CR) := by
  refine F.ok scTake (fun vs H Q E h => ?_) (fun cdv A outer s H vs Q E hr h => ?_)
  · obtain ⟨p, dx, h, pr, fd, low, high, k, br, ws, rfl, _⟩ := h
    rfl
  obtain ⟨p, dx, h, pr, fd, low, high, k, br, ws, rfl, hp, hS, q⟩ := h
  refine ⟨_, (pss_cons (ps_fldaug (pv 0) pe_int in_add) (pss_cons ((ps_if ((pt_cmpR op_gt ((pe_fld (pv 0) rfl)) ((pe_callB call_len_seq (by rfl) T.len PySem.boot_len (pa_cons ((pe_fld (pv 0) rfl)) pa_nil))) (nomark _))) (pss_cons ((ps_fld (pv 0) (pe_bl) rfl)) (pss_one ((ps_ret (pe_un un_neg pe_int))))) pss_nil)) (pss_one ((ps_ret ((pe_ix ix_tup ((pe_fld (pv 0) rfl)) ((pe_op op_sub ((pe_fld (pv 0) rfl)) (pe_int))) (fun _ _ => rfl)))))))), ?_⟩
  refine ⟨_, rfl, p, CR, dx, _, _, rfl, hp, T.clR, T.rA, lk_a, _, _, rfl, rfl, dx, _, hp, (by show 7 < 1000; decide), ?_⟩
  rw [rd_at]
  have k1 : Kp p H (upd H p (.ins CR dx (rdF h pr low high ((k : Int) + 1) fd br))) := (Kp.refl p H).upd _
  refine ⟨_, rfl, p, CR, dx, _, _, rfl, upd_same, T.clR, T.rA, lk_a, _, rfl, p, CR, dx, _, _, rfl, upd_same, T.clR, T.rP, lk_p, pr, _, rfl, .inr (k1.tup hp hS), _, _, rfl, rfl, _, rfl, ite2 (fun c => ?_) (fun c => ?_)⟩
  · have c : ((ws.map V.int).length : Int) < (k : Int) + 1 := of_decide_eq_true c
    rw [List.length_map] at c
    have e : tk ws k br = (-1, true) := by
      unfold tk
      rw [List.drop_eq_nil_of_le (by omega)]
    refine ⟨_, rfl, p, CR, dx, _, rfl, upd_same, T.clR, T.rB, (by show 7 < 1000; decide), 1, rfl, ?_⟩
    rw [rd_br, upd_upd]
    rw [e] at q
    exact q
  · have c : ¬ ((ws.map V.int).length : Int) < (k : Int) + 1 := of_decide_eq_false (Bool.eq_false_iff.mpr c)
    rw [List.length_map] at c
    have hk : k < ws.length := by omega
    have e : tk ws k br = (ws[k], br) := by
      unfold tk
      rw [List.drop_eq_getElem_cons hk]
    have ea : atI (ws.map V.int) ((k : Int) + 1 - 1) = some (.int ws[k]) := at_of (j := k) (by omega) (by rw [List.getElem?_map, List.getElem?_eq_getElem hk]; rfl)
    refine ⟨_, rfl, p, CR, dx, _, _, rfl, upd_same, T.clR, T.rP, lk_p, _, rfl, p, CR, dx, _, _, rfl, upd_same, T.clR, T.rA, lk_a, _, _, rfl, rfl, pr, _, _, _, rfl, rfl, k1.tup hp hS, ea, ?_⟩
    rw [e] at q
    exact q
end
end Of

set_option Elab.async false
set_option linter.all false
set_option maxRecDepth 100000
set_option maxHeartbeats 4000000
namespace Of
open PySem L2
theorem tk_two (ws : List Int) (k : Nat) (br : Bool) : (tk ws (k + 1) (tk ws k br).2).2 = false ↔ br = false ∧ ∃ r, ws.drop k = (tk ws k br).1 :: (tk ws (k + 1) (tk ws k br).2).1 :: r := by
  have e1 : ws.drop (k + 1) = (ws.drop k).tail := by rw [List.tail_drop]
  unfold tk
  rw [e1]
  cases ws.drop k with
  | nil => simp
  | cons x r =>
    cases r with
    | nil => simp
    | cons y r => simp
theorem len_put {f : Str} {v : V} {fs : List (Str × V)} {n : Nat} (h : fs.length ≤ n) : (putF f v fs).length ≤ n + 1 := Nat.le_trans (length_putF f v fs) (Nat.succ_le_succ h)
def spReadI (CR : Addr) : Sp := fun vs H Q _ => ∃ (p dx h pr : Addr) (low high : Int), vs = [.ref p, .ref h, .ref pr, .int low, .int high] ∧ H p = some (.ins CR dx []) ∧
  ∀ H' fd, Kp p H H' → H fd = none → H' fd = some (.dK []) → H' p = some (.ins CR dx (rdF h pr low high 0 fd false)) → Q .non H'
def spHidden (K : PySem.W.Frag) (CH CR : Addr) : Sp := fun vs H Q _ => ∃ (n : Nat) (p dx h pr fd : Addr) (low high least most v : Int) (k : Nat) (br : Bool) (ws : List Int), vs = [.ref p, .int least, .int most] ∧ most = least + 2 ^ n - 1 ∧ H p = some (.ins CR dx (rdF h pr low high (k : Int) fd br)) ∧ HsAt CH H h v ∧ Wok v ∧ SqT K H pr (ws.map V.int) ∧
  ∀ H' q x y br', Kp p H H' → H' q = some (.tup [.int x, .int y]) → H' p = some (.ins CR dx (rdF h pr low high ((k + 2 : Nat) : Int) fd br')) → (br' = false ↔ br = false ∧ ∃ r, ws.drop k = x :: y :: r ∧ HidOk v low high n least x y) → (∀ a b r, ws.drop k = a :: b :: r → x = a ∧ y = b) → Q (.ref q) H'
/-- what a told leaf puts -/
def put1 (low high : Int) (kvs : List (Key × V)) (a b : Int) : List (Key × V) := if low ≤ a ∧ a ≤ high then putK kvs (Sum.inl a : Key) (.int b) else kvs
def spLeaf (K : PySem.W.Frag) (CH CR : Addr) : Sp := fun vs H Q _ => ∃ (n : Nat) (p dx h pr fd : Addr) (low high least most v : Int) (k : Nat) (br : Bool) (ws : List Int) (kvs : List (Key × V)), vs = [.ref p, .int least, .int most] ∧ most = least + 2 ^ n - 1 ∧ H p = some (.ins CR dx (rdF h pr low high (k : Int) fd br)) ∧ HsAt CH H h v ∧ Wok v ∧ SqT K H pr (ws.map V.int) ∧ Wd ws ∧
  H fd = some (.dK kvs) ∧ kvs.length ≤ 10000 ∧ 0 ≤ least ∧
  ∀ H' q y br' kvs', (∀ b o, b ≠ p → b ≠ fd → H b = some o → H' b = some o) → H' q = some (.tup [.int 1, .int y]) → H' p = some (.ins CR dx (rdF h pr low high ((k + 2 : Nat) : Int) fd br')) → H' fd = some (.dK kvs') → kvs'.length ≤ kvs.length + 1 →
    (br' = false ↔ br = false ∧ ∃ a b r, ws.drop k = a :: b :: r ∧ LeafOk n least a b) → (∀ a b r, ws.drop k = a :: b :: r → LeafOk n least a b → y = dig v 2 [a, b] ∧ kvs' = put1 low high kvs a b) → Q (.ref q) H'
section
variable {P : Program} {w : World} {K : PySem.W.Frag} {mg : Str → Option Value} {base : Heap} {CH CR CT : Addr}
theorem scReadI : FnScope ["self", "hasher", "proof", "low", "high"] ["self", "hasher", "proof", "low", "high"] (defScope sReadI) := ⟨rfl, rfl, rfl, by decide +kernel, rfl, by decide +kernel, by decide +kernel⟩
theorem ok_readI {f : Addr} {fd : FuncData} (F : Fun K "__init__" "RangeReader.__init__" sReadI f fd) (T : Txt K mg CH CR CT) : FnOk P w K mg base CX0 1 f fd ["self", "hasher", "proof", "low", "high"] (spReadI CR) := by
  refine F.ok scReadI (fun vs H Q E h => ?_) (fun cdv A outer s H vs Q E hr h => ?_)
  · obtain ⟨p, dx, h, pr, low, high, rfl, _⟩ := h
    rfl
  obtain ⟨p, dx, h, pr, low, high, rfl, hp, q⟩ := h
  refine ⟨_, (pss_cons ((ps_fld (pv 0) (pv 1) rfl)) (pss_cons ((ps_fld (pv 0) (pv 2) rfl)) (pss_cons ((ps_fld (pv 0) (pv 3) rfl)) (pss_cons ((ps_fld (pv 0) (pv 4) rfl)) (pss_cons ((ps_fld (pv 0) (pe_int) rfl)) (pss_cons ((ps_fld (pv 0) (pe_dnewK) rfl)) (pss_one ((ps_fld (pv 0) (pe_bl) rfl))))))))), ?_⟩
  have l0 : ([] : List (Str × V)).length ≤ 0 := Nat.le_refl 0
  refine ⟨_, rfl, _, rfl, p, CR, dx, _, rfl, hp, T.clR, T.rH, (by decide), ?_⟩
  refine ⟨_, rfl, _, rfl, p, CR, dx, _, rfl, upd_same, T.clR, T.rP, Nat.lt_of_le_of_lt (len_put l0) (by decide), ?_⟩
  refine ⟨_, rfl, _, rfl, p, CR, dx, _, rfl, upd_same, T.clR, T.rL, Nat.lt_of_le_of_lt (len_put (len_put l0)) (by decide), ?_⟩
  refine ⟨_, rfl, _, rfl, p, CR, dx, _, rfl, upd_same, T.clR, T.rG, Nat.lt_of_le_of_lt (len_put (len_put (len_put l0))) (by decide), ?_⟩
  refine ⟨_, rfl, p, CR, dx, _, rfl, upd_same, T.clR, T.rA, Nat.lt_of_le_of_lt (len_put (len_put (len_put (len_put l0)))) (by decide), ?_⟩
  intro fd nfd
  have npf : p ≠ fd := fun e => by rw [← e, upd_same] at nfd; cases nfd
  have nf0 : H fd = none := by
    rw [upd_ne npf.symm, upd_ne npf.symm, upd_ne npf.symm, upd_ne npf.symm, upd_ne npf.symm] at nfd
    exact nfd
  refine ⟨_, rfl, p, CR, dx, _, rfl, (by rw [upd_ne npf]; exact upd_same), T.clR, T.rF, Nat.lt_of_le_of_lt (len_put (len_put (len_put (len_put (len_put l0))))) (by decide), ?_⟩
  refine ⟨_, rfl, p, CR, dx, _, rfl, upd_same, T.clR, T.rB, Nat.lt_of_le_of_lt (len_put (len_put (len_put (len_put (len_put (len_put l0)))))) (by decide), ?_⟩
  refine q _ fd (fun b o hb e => ?_) nf0 ?_ ?_
  · rw [upd_ne hb, upd_ne hb, upd_ne (ne_of_none e nf0), upd_ne hb, upd_ne hb, upd_ne hb, upd_ne hb, upd_ne hb]
    exact e
  · rw [upd_ne npf.symm, upd_ne npf.symm]
    exact upd_same
  · rw [upd_same, rd_made]
theorem scHidden : FnScope ["self", "least", "most", "count", "digest"] ["self", "least", "most"] (defScope sHidden) := ⟨rfl, rfl, rfl, by decide +kernel, rfl, by decide +kernel, by decide +kernel⟩
theorem ok_hidden {f : Addr} {fd : FuncData} (F : Fun K "hidden" "RangeReader.hidden" sHidden f fd) (T : Txt K mg CH CR CT) (cK : C8.Met P w K mg base 1 CR "take" (spTake K CR) []) (cI : C8.Met P w K mg base 1 CH "is_digest" (spIsDig CH) []) :
    FnOk P w K mg base CX0 2 f fd ["self", "least", "most"] (spHidden K CH CR) := by
  refine F.ok scHidden (fun vs H Q E h => ?_) (fun cdv A outer s H vs Q E hr h => ?_)
  · obtain ⟨n, p, dx, h, pr, fd, low, high, least, most, v, k, br, ws, rfl, _⟩ := h
    rfl
  obtain ⟨n, p, dx, h, pr, fd, low, high, least, most, v, k, br, ws, rfl, hm, hp, ⟨dxh, hh⟩, wo, hS, q⟩ := h
  refine ⟨_, (pss_cons ((ps_set (i := 3) scHidden.nd rfl (Or.inl rfl) ((C8.pe_mt0 cK hr (by first | exact Nat.le_refl _ | decide | omega) (pv 0))))) (pss_cons ((ps_set (i := 4) scHidden.nd rfl (Or.inl rfl) ((C8.pe_mt0 cK hr (by first | exact Nat.le_refl _ | decide | omega) (pv 0))))) (pss_cons ((ps_if ((PW.pt (pw_or ((pt_cmpR op_lt (pv 3) (pe_int) (nomark _))) (pw_or ((pt_not (pt_val (C8.pe_mt cI hr (by first | exact Nat.le_refl _ | decide | omega) ((pe_fld (pv 0) rfl)) (pa_cons (pv 4) pa_nil))))) (pw_or1 ((pt_not ((PW.pt (pw_or ((pt_cmpR op_lt (pv 2) ((pe_fld (pv 0) rfl)) (nomark _))) (pw_or1 ((pt_cmpR op_gt (pv 1) ((pe_fld (pv 0) rfl)) (nomark _)))))))))))))) (pss_one ((ps_fld (pv 0) (pe_bl) rfl))) pss_nil)) (pss_one ((ps_ret ((pe_tup (pa_cons (pv 3) (pa_cons (pv 4) pa_nil)))))))))), ?_⟩
  have noT : (rdF h pr low high (k : Int) fd br).lookup ("take" : Str) = none := lk_no (by decide +kernel)
  refine ⟨_, rfl, p, dx, _, rfl, hp, noT, p, dx, h, pr, fd, low, high, k, br, ws, rfl, hp, hS, ?_⟩
  have k1 : Kp p H (upd H p (.ins CR dx (rdF h pr low high ((k + 1 : Nat) : Int) fd (tk ws k br).2))) := (Kp.refl p H).upd _
  refine ⟨_, rfl, p, dx, _, rfl, upd_same, lk_no (by decide +kernel), p, dx, h, pr, fd, low, high, k + 1, (tk ws k br).2, ws, rfl, upd_same, k1.tup hp hS, ?_⟩
  have h2 := tk_two ws k br
  rw [upd_upd]
  have hfit : ∀ a b r, ws.drop k = a :: b :: r → (tk ws k br).1 = a ∧ (tk ws (k + 1) (tk ws k br).2).1 = b := fun a b r e => by
    have e1 : ws.drop (k + 1) = b :: r := by rw [← List.tail_drop, e]; rfl
    unfold tk
    rw [e, e1]
    exact ⟨rfl, rfl⟩
  generalize tk ws (k + 1) (tk ws k br).2 = z2 at h2 hfit
  generalize tk ws k br = z1 at h2 hfit
  obtain ⟨x, b1⟩ := z1
  obtain ⟨y, b2⟩ := z2
  have hfit : ∀ a b r, ws.drop k = a :: b :: r → x = a ∧ y = b := hfit
  have h2 : b2 = false ↔ br = false ∧ ∃ r, ws.drop k = x :: y :: r := h2
  have kp : ∀ b' : Bool, Kp p H (upd H p (.ins CR dx (rdF h pr low high ((k + 1 + 1 : Nat) : Int) fd b'))) := fun b' => (Kp.refl p H).upd _
  have nph : h ≠ p := fun e => by
    rw [e, hp] at hh
    have z := congrArg (fun o => match o with | some (HO.ins _ _ fs) => fs.length | _ => 0) hh
    exact absurd z (by show ¬ 7 = 1; decide)
  have hh2 : ∀ b' : Bool, (upd H p (.ins CR dx (rdF h pr low high ((k + 1 + 1 : Nat) : Int) fd b'))) h = some (.ins CH dxh (hsF v)) := fun b' => kp b' _ _ nph hh
  have fin : ∀ b' : Bool, (b' = false ↔ br = false ∧ ∃ r, ws.drop k = x :: y :: r ∧ HidOk v low high n least x y) → ∀ t, (upd H p (.ins CR dx (rdF h pr low high ((k + 1 + 1 : Nat) : Int) fd b'))) t = none →
      Q (.ref t) (upd (upd H p (.ins CR dx (rdF h pr low high ((k + 1 + 1 : Nat) : Int) fd b'))) t (.tup [.int x, .int y])) := fun b' hb t nt => by
    have npt : p ≠ t := fun e => by rw [← e, upd_same] at nt; cases nt
    exact q _ t x y b' ((kp b').trans (same_new nt _).kp) upd_same (by rw [upd_ne npt]; exact upd_same) hb hfit
  have bad : ¬ HidOk v low high n least x y → (true = false ↔ br = false ∧ ∃ r, ws.drop k = x :: y :: r ∧ HidOk v low high n least x y) := fun hn => ⟨fun z => Bool.noConfusion z, fun ⟨_, _, _, z⟩ => absurd z hn⟩
  refine ⟨_, rfl, _, _, rfl, rfl, _, rfl, ite2 (fun c1 => iteT ?_) (fun c1 => ⟨_, rfl, p, CR, dx, _, _, rfl, upd_same, T.clR, T.rH, lk_h, h, dxh, _, rfl, hh2 _, rfl, _, rfl, h, v, y, rfl, ⟨dxh, hh2 _⟩, wo, _, rfl, ite2 (fun c2 => iteT ?_) (fun c2 => ⟨_, rfl, _, rfl, p, CR, dx, _, _, rfl, upd_same, T.clR, T.rL, lk_l, _, _, rfl, rfl, _, rfl,
    ite2 (fun c3 => iteF ?_) (fun c3 => ⟨_, rfl, _, rfl, p, CR, dx, _, _, rfl, upd_same, T.clR, T.rG, lk_g, _, _, rfl, rfl, _, rfl, ?_⟩)⟩)⟩)⟩
  · have c1 : x < 0 := of_decide_eq_true c1
    refine ⟨_, rfl, p, CR, dx, _, rfl, upd_same, T.clR, T.rB, (by show 7 < 1000; decide), ?_⟩
    rw [upd_upd, rd_br]
    exact ⟨_, rfl, _, rfl, (by show 2 ≤ sizeLine; decide), fin true (bad fun z => by have := z.1.1; omega)⟩
  · have c2 : ¬ (0 ≤ y ∧ y < 2 ^ v.toNat) := fun z => by
      rw [decide_eq_true z] at c2
      exact absurd c2 (by decide)
    refine ⟨_, rfl, p, CR, dx, _, rfl, upd_same, T.clR, T.rB, (by show 7 < 1000; decide), ?_⟩
    rw [upd_upd, rd_br]
    exact ⟨_, rfl, _, rfl, (by show 2 ≤ sizeLine; decide), fin true (bad fun z => c2 z.1.2)⟩
  all_goals
    have c1 : ¬ x < 0 := of_decide_eq_false (Bool.eq_false_iff.mpr c1)
    have c2 : 0 ≤ y ∧ y < 2 ^ v.toNat := by
      by_cases z : 0 ≤ y ∧ y < 2 ^ v.toNat
      · exact z
      · rw [decide_eq_false z] at c2
        exact absurd rfl c2
  · have c3 : most < low := of_decide_eq_true c3
    refine ⟨_, rfl, _, rfl, (by show 2 ≤ sizeLine; decide), fin b2 (h2.trans ⟨fun ⟨a, r, e⟩ => ⟨a, r, e, ⟨by omega, c2⟩, .inl (by omega)⟩, fun ⟨a, r, e, _⟩ => ⟨a, r, e⟩⟩)⟩
  · have c3 : ¬ most < low := of_decide_eq_false (Bool.eq_false_iff.mpr c3)
    by_cases c4 : high < least
    · rw [decide_eq_true c4]
      refine iteF ⟨_, rfl, _, rfl, (by show 2 ≤ sizeLine; decide), fin b2 (h2.trans ⟨fun ⟨a, r, e⟩ => ⟨a, r, e, ⟨by omega, c2⟩, .inr c4⟩, fun ⟨a, r, e, _⟩ => ⟨a, r, e⟩⟩)⟩
    · rw [decide_eq_false c4]
      refine iteT ?_
      refine ⟨_, rfl, p, CR, dx, _, rfl, upd_same, T.clR, T.rB, (by show 7 < 1000; decide), ?_⟩
      rw [upd_upd, rd_br]
      exact ⟨_, rfl, _, rfl, (by show 2 ≤ sizeLine; decide), fin true (bad fun z => z.2.elim (fun y => c3 (by omega)) c4)⟩
end
end Of

set_option Elab.async false
set_option linter.all false
set_option maxRecDepth 100000
set_option maxHeartbeats 4000000
namespace Of
open PySem L2
section
variable {P : Program} {w : World} {K : PySem.W.Frag} {mg : Str → Option Value} {base : Heap} {CH CR CT : Addr}
theorem scLeaf : FnScope ["self", "least", "most", "key", "value"] ["self", "least", "most"] (defScope sLeaf) := ⟨rfl, rfl, rfl, by decide +kernel, rfl, by decide +kernel, by decide +kernel⟩
theorem ok_leaf {f : Addr} {fd : FuncData} (F : Fun K "leaf" "RangeReader.leaf" sLeaf f fd) (T : Txt K mg CH CR CT) (cK : C8.Met P w K mg base 1 CR "take" (spTake K CR) []) (cD : C8.Met P w K mg base 2 CH "digest" (spDigest K CH) []) :
    FnOk P w K mg base CX0 3 f fd ["self", "least", "most"] (spLeaf K CH CR) := by
  refine F.ok scLeaf (fun vs H Q E h => ?_) (fun cdv A outer s H vs Q E hr h => ?_)
  · obtain ⟨n, p, dx, h, pr, fd, low, high, least, most, v, k, br, ws, kvs, rfl, _⟩ := h
    rfl
  obtain ⟨n, p, dx, h, pr, fd, low, high, least, most, v, k, br, ws, kvs, rfl, hm, hp, ⟨dxh, hh⟩, wo, hS, wd, hf, hkl, nn, q⟩ := h
  have hu := hu_of hr
  refine ⟨_, (pss_cons ((ps_set (i := 3) scLeaf.nd rfl (Or.inl rfl) ((C8.pe_mt0 cK hr (by first | exact Nat.le_refl _ | decide | omega) (pv 0))))) (pss_cons ((ps_set (i := 4) scLeaf.nd rfl (Or.inl rfl) ((C8.pe_mt0 cK hr (by first | exact Nat.le_refl _ | decide | omega) (pv 0))))) (pss_cons ((ps_if ((PW.pt (pw_or ((pt_not (pt_chain op_le op_le (pv 1) (pv 3) (pv 2)))) (pw_or1 ((pt_cmpR op_lt (pv 4) (pe_int) (nomark _))))))) (pss_cons ((ps_fld (pv 0) (pe_bl) rfl)) (pss_one ((ps_ret ((pe_tup (pa_cons (pe_int) (pa_cons (pe_int) pa_nil)))))))) pss_nil)) (pss_cons ((ps_if (pt_chain op_le op_le (pe_fld (pv 0) rfl) (pv 3) (pe_fld (pv 0) rfl)) (pss_one (ps_dput hu (pe_fld (pv 0) rfl) (pv 3) (pv 4) rfl)) pss_nil)) (pss_one ((ps_ret ((pe_tup (pa_cons (pe_int) (pa_cons ((C8.pe_mt cD hr (by first | exact Nat.le_refl _ | decide | omega) ((pe_fld (pv 0) rfl)) (pa_cons ((C8.pe_gc (by rfl) T.gLEAF)) (pa_cons ((pe_tup (pa_cons (pv 3) (pa_cons (pv 4) pa_nil)))) pa_nil)))) pa_nil))))))))))), ?_⟩
  refine ⟨_, rfl, p, dx, _, rfl, hp, lk_no (by decide +kernel), p, dx, h, pr, fd, low, high, k, br, ws, rfl, hp, hS, ?_⟩
  have k1 : Kp p H (upd H p (.ins CR dx (rdF h pr low high ((k + 1 : Nat) : Int) fd (tk ws k br).2))) := (Kp.refl p H).upd _
  refine ⟨_, rfl, p, dx, _, rfl, upd_same, lk_no (by decide +kernel), p, dx, h, pr, fd, low, high, k + 1, (tk ws k br).2, ws, rfl, upd_same, k1.tup hp hS, ?_⟩
  have h2 := tk_two ws k br
  rw [upd_upd]
  have hfit : ∀ a b r, ws.drop k = a :: b :: r → (tk ws k br).1 = a ∧ (tk ws (k + 1) (tk ws k br).2).1 = b := fun a b r e => by
    have e1 : ws.drop (k + 1) = b :: r := by rw [← List.tail_drop, e]; rfl
    unfold tk
    rw [e, e1]
    exact ⟨rfl, rfl⟩
  have hbd : (0 ≤ (tk ws (k + 1) (tk ws k br).2).1 → (tk ws (k + 1) (tk ws k br).2).1 < 2 ^ 70) ∧ (0 ≤ (tk ws k br).1 → (tk ws k br).1 < 2 ^ 70) := by
    have one : ∀ (j : Nat) (b : Bool), 0 ≤ (tk ws j b).1 → (tk ws j b).1 < 2 ^ 70 := fun j b h0 => by
      unfold tk at h0 ⊢
      cases e : ws.drop j with
      | nil => rw [e] at h0; exact absurd h0 (by show ¬ (0 : Int) ≤ -1; decide)
      | cons x r => exact (wd.wd x (List.mem_of_mem_drop (by rw [e]; exact List.mem_cons_self ..))).2
    exact ⟨one _ _, one _ _⟩
  generalize tk ws (k + 1) (tk ws k br).2 = z2 at h2 hfit hbd
  generalize tk ws k br = z1 at h2 hfit hbd
  obtain ⟨x, b1⟩ := z1
  obtain ⟨y, b2⟩ := z2
  have h2 : b2 = false ↔ br = false ∧ ∃ r, ws.drop k = x :: y :: r := h2
  have hfit : ∀ a b r, ws.drop k = a :: b :: r → x = a ∧ y = b := hfit
  have hbd : (0 ≤ y → y < 2 ^ 70) ∧ (0 ≤ x → x < 2 ^ 70) := hbd
  have kp : ∀ b' : Bool, Kp p H (upd H p (.ins CR dx (rdF h pr low high ((k + 1 + 1 : Nat) : Int) fd b'))) := fun b' => (Kp.refl p H).upd _
  have nph : h ≠ p := fun e => by
    rw [e, hp] at hh
    have z := congrArg (fun o => match o with | some (HO.ins _ _ fs) => fs.length | _ => 0) hh
    exact absurd z (by show ¬ 7 = 1; decide)
  have npf : fd ≠ p := ne_of hf hp (by intro z; cases z)
  have nhf : h ≠ fd := ne_of hh hf (by intro z; cases z)
  have hh2 : ∀ b' : Bool, (upd H p (.ins CR dx (rdF h pr low high ((k + 1 + 1 : Nat) : Int) fd b'))) h = some (.ins CH dxh (hsF v)) := fun b' => kp b' _ _ nph hh
  have bad : ¬ LeafOk n least x y → ∀ t, (upd H p (.ins CR dx (rdF h pr low high ((k + 1 + 1 : Nat) : Int) fd true))) t = none →
      Q (.ref t) (upd (upd H p (.ins CR dx (rdF h pr low high ((k + 1 + 1 : Nat) : Int) fd true))) t (.tup [.int 1, .int 0])) := fun hn t nt => by
    have npt : p ≠ t := fun e => by rw [← e, upd_same] at nt; cases nt
    have nft : fd ≠ t := fun e => by rw [← e, upd_ne npf, hf] at nt; cases nt
    refine q _ t 0 true kvs (fun b o hb _ e => ((kp true).trans (same_new nt _).kp) b o hb e) upd_same (by rw [upd_ne npt]; exact upd_same) (by rw [upd_ne nft, upd_ne npf]; exact hf) (Nat.le_succ _) ⟨fun z => Bool.noConfusion z, fun ⟨_, a, b, r, e, ok⟩ => ?_⟩ (fun a b r e ok => ?_)
    · obtain ⟨rfl, rfl⟩ := hfit a b r e
      exact absurd ok hn
    · obtain ⟨rfl, rfl⟩ := hfit a b r e
      exact absurd ok hn
  have notL : ¬ (least ≤ x ∧ x ≤ most) ∨ y < 0 → ¬ LeafOk n least x y := fun z ok => by
    obtain ⟨⟨o1, o2⟩, o3⟩ := ok
    rcases z with z | z
    · exact z ⟨o1, by omega⟩
    · omega
  -- not least <= key <= most or value < 0
  by_cases c1 : least ≤ x
  case neg =>
    refine ⟨_, rfl, _, rfl, _, _, rfl, rfl, false, congrArg V.bl (decide_eq_false c1), iteF ⟨false, rfl, iteT ?_⟩⟩
    refine ⟨_, rfl, p, CR, dx, _, rfl, upd_same, T.clR, T.rB, (by show 7 < 1000; decide), ?_⟩
    rw [upd_upd, rd_br]
    exact ⟨(by show 2 ≤ sizeLine; decide), bad (notL (.inl fun z => c1 z.1))⟩
  refine ⟨_, rfl, _, rfl, _, _, rfl, rfl, true, congrArg V.bl (decide_eq_true c1), iteT ?_⟩
  by_cases c2 : x ≤ most
  case neg =>
    refine ⟨_, rfl, _, _, rfl, rfl, false, congrArg V.bl (decide_eq_false c2), iteT ?_⟩
    refine ⟨_, rfl, p, CR, dx, _, rfl, upd_same, T.clR, T.rB, (by show 7 < 1000; decide), ?_⟩
    rw [upd_upd, rd_br]
    exact ⟨(by show 2 ≤ sizeLine; decide), bad (notL (.inl fun z => c2 z.2))⟩
  refine ⟨_, rfl, _, _, rfl, rfl, true, congrArg V.bl (decide_eq_true c2), iteF ?_⟩
  by_cases c3 : y < 0
  · refine ⟨_, rfl, _, _, rfl, rfl, true, congrArg V.bl (decide_eq_true c3), iteT ?_⟩
    refine ⟨_, rfl, p, CR, dx, _, rfl, upd_same, T.clR, T.rB, (by show 7 < 1000; decide), ?_⟩
    rw [upd_upd, rd_br]
    exact ⟨(by show 2 ≤ sizeLine; decide), bad (notL (.inr c3))⟩
  refine ⟨_, rfl, _, _, rfl, rfl, false, congrArg V.bl (decide_eq_false c3), iteF ?_⟩
  have okL : LeafOk n least x y := ⟨⟨c1, by omega⟩, by omega⟩
  have e70 : (2 : Int) ^ 70 < 2 ^ 100 := by decide
  have hx70 := hbd.2 (by have := okL.1.1; omega)
  -- the end, the dict as it then stands
  have fin : ∀ (H2 : Hp) (kvs' : List (Key × V)), (∀ b o, b ≠ p → b ≠ fd → H b = some o → H2 b = some o) → H2 p = some (.ins CR dx (rdF h pr low high ((k + 1 + 1 : Nat) : Int) fd b2)) → H2 fd = some (.dK kvs') → kvs' = put1 low high kvs x y →
      ∀ t, H2 t = none → ∀ H3, Same (upd H2 t (.tup [.int x, .int y])) H3 → ∀ u, H3 u = none → Q (.ref u) (upd H3 u (.tup [.int 1, .int (dig v 2 [x, y])])) := by
    intro H2 kvs' kp2 hp2 hf2 ek t nt H3 s3 u nu
    have s23 : Same H2 (upd H3 u (.tup [.int 1, .int (dig v 2 [x, y])])) := ((same_new nt _).trans s3).trans (same_new nu _)
    refine q _ u _ b2 kvs' (fun b o hb hb2 e => s23 _ _ (kp2 b o hb hb2 e)) upd_same (s23 _ _ hp2) (s23 _ _ hf2) ?_ (h2.trans ⟨fun ⟨z, r, e⟩ => ⟨z, x, y, r, e, okL⟩, fun ⟨z, a, b, r, e, _⟩ => ?_⟩) (fun a b r e ok => ?_)
    · rw [ek]
      unfold put1
      split
      · exact length_putK _ _ _
      · exact Nat.le_succ _
    · obtain ⟨rfl, rfl⟩ := hfit a b r e
      exact ⟨z, r, e⟩
    · obtain ⟨rfl, rfl⟩ := hfit a b r e
      exact ⟨rfl, ek⟩
  have stay : ¬ (low ≤ x ∧ x ≤ high) → put1 low high kvs x y = kvs := fun z => if_neg z
  have ends : ∀ (H2 : Hp) (kvs' : List (Key × V)), (∀ b o, b ≠ p → b ≠ fd → H b = some o → H2 b = some o) → H2 p = some (.ins CR dx (rdF h pr low high ((k + 1 + 1 : Nat) : Int) fd b2)) → H2 fd = some (.dK kvs') → kvs' = put1 low high kvs x y →
      ∀ t, H2 t = none → spDigest K CH ([V.ref h, V.int 2, V.ref t] ++ []) (upd H2 t (.tup [.int x, .int y])) (fun y' H3 => 2 ≤ sizeLine ∧ ∀ u, H3 u = none → Q (.ref u) (upd H3 u (.tup [.int 1, y']))) (fun _ _ _ => False) := by
    intro H2 kvs' kp2 hp2 hf2 ek t nt
    refine ⟨h, t, v, 2, [x, y], rfl, ⟨dxh, (same_new nt _) _ _ (kp2 _ _ nph nhf hh)⟩, wo, SqT.of upd_same, (by show 2 ≤ 4; decide), fun m hm => ?_, fun H3 s3 => ⟨by decide, fun u nu => fin H2 kvs' kp2 hp2 hf2 ek t nt H3 s3 u nu⟩⟩
    simp only [List.mem_cons, List.not_mem_nil, or_false] at hm
    have hy70 := hbd.1 (by omega)
    rcases hm with rfl | rfl <;> omega
  have kp2 : ∀ b o, b ≠ p → b ≠ fd → H b = some o → (upd H p (.ins CR dx (rdF h pr low high ((k + 1 + 1 : Nat) : Int) fd b2))) b = some o := fun b o hb _ e => kp b2 b o hb e
  have hf2 : (upd H p (.ins CR dx (rdF h pr low high ((k + 1 + 1 : Nat) : Int) fd b2))) fd = some (.dK kvs) := by rw [upd_ne npf]; exact hf
  by_cases c4 : low ≤ x
  case neg =>
    refine ⟨_, rfl, p, CR, dx, _, _, rfl, upd_same, T.clR, T.rL, lk_l, _, rfl, _, _, rfl, rfl, false, congrArg V.bl (decide_eq_false c4), iteF ⟨false, rfl, iteF ?_⟩⟩
    exact ⟨_, rfl, p, CR, dx, _, _, rfl, upd_same, T.clR, T.rH, lk_h, h, dxh, _, rfl, hh2 _, rfl, _, rfl, _, rfl, (by show 2 ≤ sizeLine; decide), ends _ kvs kp2 upd_same hf2 (stay fun z => c4 z.1).symm⟩
  refine ⟨_, rfl, p, CR, dx, _, _, rfl, upd_same, T.clR, T.rL, lk_l, _, rfl, _, _, rfl, rfl, true, congrArg V.bl (decide_eq_true c4), iteT ?_⟩
  by_cases c5 : x ≤ high
  case neg =>
    refine ⟨_, rfl, p, CR, dx, _, _, rfl, upd_same, T.clR, T.rG, lk_g, _, _, rfl, rfl, false, congrArg V.bl (decide_eq_false c5), iteF ?_⟩
    exact ⟨_, rfl, p, CR, dx, _, _, rfl, upd_same, T.clR, T.rH, lk_h, h, dxh, _, rfl, hh2 _, rfl, _, rfl, _, rfl, (by show 2 ≤ sizeLine; decide), ends _ kvs kp2 upd_same hf2 (stay fun z => c5 z.2).symm⟩
  refine ⟨_, rfl, p, CR, dx, _, _, rfl, upd_same, T.clR, T.rG, lk_g, _, _, rfl, rfl, true, congrArg V.bl (decide_eq_true c5), iteT ?_⟩
  -- self.found[key] = value
  refine ⟨_, rfl, _, rfl, p, CR, dx, _, _, rfl, upd_same, T.clR, T.rF, lk_f, _, rfl, fd, _, rfl, DPut.k (k := Sum.inl x) hf2 (small1000' hkl), ?_⟩
  have hp3 : (upd (upd H p (.ins CR dx (rdF h pr low high ((k + 1 + 1 : Nat) : Int) fd b2))) fd (.dK (putK kvs (Sum.inl x : Key) (.int y)))) p = some (.ins CR dx (rdF h pr low high ((k + 1 + 1 : Nat) : Int) fd b2)) := by
    rw [upd_ne npf.symm]
    exact upd_same
  exact ⟨_, rfl, p, CR, dx, _, _, rfl, hp3, T.clR, T.rH, lk_h, h, dxh, _, rfl, (by rw [upd_ne nhf]; exact hh2 _), rfl, _, rfl, _, rfl, (by show 2 ≤ sizeLine; decide), ends _ _ (fun b o hb hb2 e => by rw [upd_ne hb2]; exact kp2 b o hb hb2 e) hp3 upd_same (if_pos ⟨c4, c5⟩).symm⟩
end
end Of

set_option Elab.async false
set_option linter.all false
set_option maxRecDepth 100000
set_option maxHeartbeats 4000000
namespace Of
open PySem L2
def puts (kvs : List (Key × V)) (es : Pairs) : List (Key × V) := es.foldl (fun a p => putK a (Sum.inl p.1 : Key) (.int p.2)) kvs
theorem puts_len : ∀ (es : Pairs) (kvs : List (Key × V)), (puts kvs es).length ≤ kvs.length + es.length
  | [], _ => Nat.le_refl _
  | p :: r, kvs => by
    have a := puts_len r (putK kvs (Sum.inl p.1 : Key) (.int p.2))
    have b := length_putK kvs (Sum.inl p.1 : Key) (V.int p.2)
    show (puts (putK kvs (Sum.inl p.1 : Key) (.int p.2)) r).length ≤ kvs.length + (r.length + 1)
    omega
theorem puts_app (kvs : List (Key × V)) (a b : Pairs) : puts kvs (a ++ b) = puts (puts kvs a) b := List.foldl_append
theorem put1_puts (low high : Int) (kvs : List (Key × V)) (a b : Int) : put1 low high kvs a b = puts kvs ((T.leaf a b).ents low high) := by
  show put1 low high kvs a b = puts kvs (if low ≤ a ∧ a ≤ high then [(a, b)] else [])
  unfold put1
  split <;> rfl
theorem puts_nd : ∀ (es pre : Pairs), ((pre ++ es).map (·.1)).Nodup → puts (pre.map toK) es = (pre ++ es).map toK
  | [], pre, _ => by rw [List.append_nil]; rfl
  | p :: r, pre, h => by
    have hp : p.1 ∉ pre.map (·.1) := by
      rw [List.map_append] at h
      intro m
      exact (List.nodup_append.mp h).2.2 _ m _ (List.mem_cons_self ..) rfl
    show puts (putK (pre.map toK) (Sum.inl p.1 : Key) (.int p.2)) r = _
    rw [put_new hp, puts_nd r (pre ++ [p]) (by rw [List.append_assoc]; exact h), List.append_assoc]
    rfl
def Kp2 (p fd : Addr) (H H' : Hp) : Prop := ∀ b o, b ≠ p → b ≠ fd → H b = some o → H' b = some o
theorem Kp2.trans {p fd : Addr} {H H1 H2 : Hp} (a : Kp2 p fd H H1) (b : Kp2 p fd H1 H2) : Kp2 p fd H H2 := fun c o h1 h2 e => b c o h1 h2 (a c o h1 h2 e)
theorem _root_.L2.Same.kp2 {p fd : Addr} {H H' : Hp} (s : Same H H') : Kp2 p fd H H' := fun b o _ _ e => s b o e
theorem Kp.kp2 {p fd : Addr} {H H' : Hp} (s : Kp p H H') : Kp2 p fd H H' := fun b o h _ e => s b o h e
theorem Kp2.tup {K : PySem.W.Frag} {p fd a C dx : Addr} {fs : List (Str × V)} {kvs : List (Key × V)} {H H' : Hp} {xs : List V} (k : Kp2 p fd H H') (hp : H p = some (.ins C dx fs)) (hf : H fd = some (.dK kvs)) (h : SqT K H a xs) : SqT K H' a xs := by
  rcases h with (h | ⟨o, h⟩) | h
  · exact .inl (.inl (k _ _ (ne_of h hp (by intro z; cases z)) (ne_of h hf (by intro z; cases z)) h))
  · exact .inl (.inr ⟨o, k _ _ (ne_of h hp (by intro z; cases z)) (ne_of h hf (by intro z; cases z)) h⟩)
  · exact .inr h
def spRNode (K : PySem.W.Frag) (CH CR : Addr) (n : Nat) : Sp := fun vs H Q _ => ∃ (p dx h pr fd : Addr) (low high d least v : Int) (k : Nat) (br : Bool) (ws : List Int) (kvs : List (Key × V)),
  vs = [.ref p, .int d, .int least] ∧ d = 32 - (n : Int) ∧ H p = some (.ins CR dx (rdF h pr low high (k : Int) fd br)) ∧ HsAt CH H h v ∧ Wok v ∧ SqT K H pr (ws.map V.int) ∧ Wd ws ∧ H fd = some (.dK kvs) ∧ kvs.length ≤ k ∧ k ≤ 5000 ∧ (br = false → k ≤ ws.length) ∧ 0 ≤ least ∧ n ≤ 32 ∧
  (br = false → ∀ t r, parse v low high n least (ws.drop k) = some (t, r) → ∀ (H' : Hp) (q : Addr) (k' : Nat), Kp2 p fd H H' → H' q = some (.tup [.int t.cnt, .int (t.dgt v)]) → H' p = some (.ins CR dx (rdF h pr low high (k' : Int) fd false)) → ws.drop k' = r → k' ≤ ws.length →
    H' fd = some (.dK (puts kvs (t.ents low high))) → (puts kvs (t.ents low high)).length ≤ k' → Q (.ref q) H') ∧
  ((br = true ∨ parse v low high n least (ws.drop k) = none) → ∀ (H' : Hp) (q : Addr) (x y : Int) (k' : Nat) (kvs' : List (Key × V)), Kp2 p fd H H' → H' q = some (.tup [.int x, .int y]) → H' p = some (.ins CR dx (rdF h pr low high (k' : Int) fd true)) →
    H' fd = some (.dK kvs') → kvs'.length ≤ k' → k' ≤ (if br = true then k + 3 else 2003 + 3 * n) → Q (.ref q) H')
def spRNode1 (K : PySem.W.Frag) (CH CR : Addr) (n : Nat) : Sp := fun vs H Q E => ∃ m, n = m + 1 ∧ spRNode K CH CR m vs H Q E
theorem parse_nil {w low high least : Int} {n : Nat} : parse w low high n least [] = none := by cases n <;> rfl
/-- what parse says of a first word that is no inner node's -/
theorem parse_one {w low high least x : Int} {n : Nat} {r : List Int} (h : x ≠ 2) : parse w low high n least (x :: r) = parse1 w low high n least x r none := by
  have e : ∀ k, parse1 w low high n least x r k = parse1 w low high n least x r none := fun k => by
    unfold parse1
    by_cases h0 : x = 0
    · rw [if_pos h0, if_pos h0]
    rw [if_neg h0, if_neg h0]
    by_cases h1 : x = 1
    · rw [if_pos h1, if_pos h1]
    rw [if_neg h1, if_neg h1]
    by_cases h3 : x = 3
    · rw [if_pos h3, if_pos h3]
    rw [if_neg h3, if_neg h3, if_neg h, if_neg h]
  cases n <;> exact e _
theorem parse_two0 {w low high least : Int} {r : List Int} : parse w low high 0 least (2 :: r) = none := rfl
theorem parse_two {w low high least : Int} {n : Nat} {r : List Int} : parse w low high (n + 1) least (2 :: r) = (match parse w low high n least r with
    | none => none
    | some (t, r1) => match parse w low high n (least + 2 ^ n) r1 with
      | none => none
      | some (u, r2) => some (.inn t u, r2)) := by
  show parse1 w low high (n + 1) least 2 r _ = _
  unfold parse1
  rw [if_neg (by decide), if_neg (by decide), if_neg (by decide), if_pos rfl]
  all_goals rfl
section
variable {P : Program} {w : World} {K : PySem.W.Frag} {mg : Str → Option Value} {base : Heap} {CH CR CT : Addr}
theorem scNode : FnScope ["self", "depth", "least", "most", "word", "left", "right"] ["self", "depth", "least"] (defScope sNode) := ⟨rfl, rfl, rfl, by decide +kernel, rfl, by decide +kernel, by decide +kernel⟩
theorem ok_node {f : Addr} {fd : FuncData} (n : Nat) (F : Fun K "node" "RangeReader.node" sNode f fd) (T : Txt K mg CH CR CT) (cK : C8.Met P w K mg base 1 CR "take" (spTake K CR) []) (cD : C8.Met P w K mg base 2 CH "digest" (spDigest K CH) [])
    (cL : C8.Met P w K mg base 3 CR "leaf" (spLeaf K CH CR) []) (cH : C8.Met P w K mg base 2 CR "hidden" (spHidden K CH CR) []) (cN : C8.Met P w K mg base (n + 3) CR "node" (spRNode1 K CH CR n) []) :
    FnOk P w K mg base CX0 (n + 4) f fd ["self", "depth", "least"] (spRNode K CH CR n) := by
  refine F.ok scNode (fun vs H Q E h => ?_) (fun cdv A outer s H vs Q E hr h => ?_)
  · obtain ⟨p, dx, h, pr, fd, low, high, d, least, v, k, br, ws, kvs, rfl, _⟩ := h
    rfl
  obtain ⟨p, dx, h, pr, fd, low, high, d, least, v, k, br, ws, kvs, rfl, hd, hp, ⟨dxh, hh⟩, wo, hS, wd, hf, hkl, hk5, hkw, nn, hn, good, bad⟩ := h
  refine ⟨_, (pss_cons ((ps_set (i := 3) scNode.nd rfl (Or.inl rfl) ((pe_op op_sub ((pe_op op_add (pv 2) ((pe_op op_shl (pe_int) ((pe_op op_sub ((C8.pe_gc (by rfl) T.gKB)) (pv 1))))))) (pe_int))))) (pss_cons ((ps_set (i := 4) scNode.nd rfl (Or.inl rfl) ((C8.pe_mt0 cK hr (by first | exact Nat.le_refl _ | decide | omega) (pv 0))))) (pss_cons ((ps_if ((pt_cmpR op_eq (pv 4) ((C8.pe_gc (by rfl) T.gEW)) (nomark _))) (pss_one ((ps_ret ((pe_tup (pa_cons (pe_int) (pa_cons ((C8.pe_mt cD hr (by first | exact Nat.le_refl _ | decide | omega) ((pe_fld (pv 0) rfl)) (pa_cons ((C8.pe_gc (by rfl) T.gLEAF)) (pa_cons ((pe_tup pa_nil)) pa_nil)))) pa_nil))))))) pss_nil)) (pss_cons ((ps_if ((pt_cmpR op_eq (pv 4) ((C8.pe_gc (by rfl) T.gLW)) (nomark _))) (pss_one ((ps_ret ((C8.pe_mt cL hr (by first | exact Nat.le_refl _ | decide | omega) (pv 0) (pa_cons (pv 2) (pa_cons (pv 3) pa_nil))))))) pss_nil)) (pss_cons ((ps_if ((pt_cmpR op_eq (pv 4) ((C8.pe_gc (by rfl) T.gHW)) (nomark _))) (pss_one ((ps_ret ((C8.pe_mt cH hr (by first | exact Nat.le_refl _ | decide | omega) (pv 0) (pa_cons (pv 2) (pa_cons (pv 3) pa_nil))))))) pss_nil)) (pss_cons ((ps_if ((PW.pt (pw_or ((pt_cmpR op_ne (pv 4) ((C8.pe_gc (by rfl) T.gIW)) (nomark _))) (pw_or ((pt_cmpR op_eq (pv 1) ((C8.pe_gc (by rfl) T.gKB)) (nomark _))) (pw_or1 (pt_val (pe_fld (pv 0) rfl))))))) (pss_cons ((ps_fld (pv 0) (pe_bl) rfl)) (pss_one ((ps_ret ((pe_tup (pa_cons (pe_int) (pa_cons (pe_int) pa_nil)))))))) pss_nil)) (pss_cons ((ps_set (i := 5) scNode.nd rfl (Or.inl rfl) ((C8.pe_mt cN hr (by first | exact Nat.le_refl _ | decide | omega) (pv 0) (pa_cons ((pe_op op_add (pv 1) (pe_int))) (pa_cons (pv 2) pa_nil)))))) (pss_cons ((ps_set (i := 6) scNode.nd rfl (Or.inl rfl) ((C8.pe_mt cN hr (by first | exact Nat.le_refl _ | decide | omega) (pv 0) (pa_cons ((pe_op op_add (pv 1) (pe_int))) (pa_cons ((pe_op op_add (pv 2) ((pe_op op_shl (pe_int) ((pe_op op_sub ((pe_op op_sub ((C8.pe_gc (by rfl) T.gKB)) (pe_int))) (pv 1))))))) pa_nil)))))) (pss_cons ((ps_if (pt_val (pe_fld (pv 0) rfl)) (pss_one ((ps_ret ((pe_tup (pa_cons (pe_int) (pa_cons (pe_int) pa_nil))))))) pss_nil)) (pss_one ((ps_ret ((pe_tup (pa_cons ((pe_op op_add ((pe_ix ix_tup (pv 5) (pe_int) (fun _ _ => rfl))) ((pe_ix ix_tup (pv 6) (pe_int) (fun _ _ => rfl))))) (pa_cons ((C8.pe_mt cD hr (by first | exact Nat.le_refl _ | decide | omega) ((pe_fld (pv 0) rfl)) (pa_cons ((C8.pe_gc (by rfl) T.gINNER)) (pa_cons ((pe_op op_catT (pv 5) (pv 6))) pa_nil)))) pa_nil)))))))))))))))), ?_⟩
  have em := shl_eq hd
  -- most; word
  refine ⟨_, rfl, _, rfl, _, _, rfl, rfl, _, _, rfl, rfl, ⟨by omega, by omega, by decide⟩, _, _, rfl, rfl, _, _, rfl, rfl, ?_⟩
  refine ⟨_, rfl, p, dx, _, rfl, hp, lk_no (by decide +kernel), p, dx, h, pr, fd, low, high, k, br, ws, rfl, hp, hS, ?_⟩
  have nph : h ≠ p := fun e => by
    rw [e, hp] at hh
    have z := congrArg (fun o => match o with | some (HO.ins _ _ fs) => fs.length | _ => 0) hh
    exact absurd z (by show ¬ 7 = 1; decide)
  have npf : fd ≠ p := ne_of hf hp (by intro z; cases z)
  have nhf : h ≠ fd := ne_of hh hf (by intro z; cases z)
  have htk : (ws.drop k = [] ∧ tk ws k br = (-1, true)) ∨ ∃ x r, ws.drop k = x :: r ∧ ws.drop (k + 1) = r ∧ tk ws k br = (x, br) := by
    unfold tk
    cases e : ws.drop k with
    | nil => exact .inl ⟨rfl, rfl⟩
    | cons x r => exact .inr ⟨x, r, rfl, by rw [← List.tail_drop, e]; rfl, rfl⟩
  have kp1 : ∀ b' : Bool, Kp p H (upd H p (.ins CR dx (rdF h pr low high ((k + 1 : Nat) : Int) fd b'))) := fun b' => (Kp.refl p H).upd _
  have hh1 : ∀ b' : Bool, (upd H p (.ins CR dx (rdF h pr low high ((k + 1 : Nat) : Int) fd b'))) h = some (.ins CH dxh (hsF v)) := fun b' => kp1 b' _ _ nph hh
  have hf1 : ∀ b' : Bool, (upd H p (.ins CR dx (rdF h pr low high ((k + 1 : Nat) : Int) fd b'))) fd = some (.dK kvs) := fun b' => kp1 b' _ _ npf hf
  have two : ∀ {x y : Int}, x = y → decide (V.int x = V.int y) = true := fun e => decide_eq_true (congrArg V.int e)
  have two0 : ∀ {x y : Int}, ¬ x = y → decide (V.int x = V.int y) = false := fun e => decide_eq_false fun z => e (V.int.inj z)
  have hbr : ∀ m : Nat, 1 ≤ m → m ≤ 3 → (br = false → k + m ≤ 2003 + 3 * n) → k + m ≤ (if br = true then k + 3 else 2003 + 3 * n) := fun m _ h3 hb => by
    cases br with
    | true => rw [if_pos rfl]; omega
    | false => rw [if_neg Bool.false_ne_true]; exact hb rfl
  have hwl := wd.len
  -- broken by this word alone
  have brk : (br = true ∨ parse v low high n least (ws.drop k) = none) → ∀ t, (upd H p (.ins CR dx (rdF h pr low high ((k + 1 : Nat) : Int) fd true))) t = none → Q (.ref t) (upd (upd H p (.ins CR dx (rdF h pr low high ((k + 1 : Nat) : Int) fd true))) t (.tup [.int 0, .int 0])) := fun hb t nt => by
    have s1 := same_new nt (.tup [V.int 0, V.int 0])
    refine bad hb _ t 0 0 (k + 1) kvs (fun b o h1 _ e => s1 _ _ (kp1 true b o h1 e)) upd_same (s1 _ _ upd_same) (s1 _ _ (hf1 true)) (by omega) (hbr 1 (by decide) (by decide) fun z => by have := hkw z; omega)
  rcases htk with ⟨hnil, htk⟩ | ⟨x, r, hcons, htail, htk⟩
  · -- nothing left
    rw [htk]
    refine ⟨_, rfl, rfl, false, congrArg V.bl (two0 (by decide)), iteF ?_⟩
    refine ⟨_, rfl, rfl, false, congrArg V.bl (two0 (by decide)), iteF ?_⟩
    refine ⟨_, rfl, rfl, false, congrArg V.bl (two0 (by decide)), iteF ?_⟩
    refine ⟨_, rfl, rfl, true, congrArg (fun z => V.bl (!z)) (two0 (by decide)), iteT ?_⟩
    refine ⟨_, rfl, p, CR, dx, _, rfl, upd_same, T.clR, T.rB, (by show 7 < 1000; decide), ?_⟩
    rw [upd_upd, rd_br]
    exact ⟨(by show 2 ≤ sizeLine; decide), brk (.inr (by rw [hnil]; exact parse_nil))⟩
  rw [htk]
  have hkl2 : k < ws.length := by
    have := congrArg List.length hcons
    rw [List.length_drop, List.length_cons] at this
    omega
  by_cases x0 : x = 0
  · -- an empty node
    subst x0
    refine ⟨_, rfl, rfl, true, congrArg V.bl (two rfl), iteT ?_⟩
    refine ⟨_, rfl, p, CR, dx, _, _, rfl, upd_same, T.clR, T.rH, lk_h, h, dxh, _, rfl, hh1 br, rfl, (by show 0 ≤ sizeLine; decide), fun b nb => ?_⟩
    have s1 := same_new nb (.tup [])
    refine ⟨h, b, v, 2, [], rfl, ⟨dxh, s1 _ _ (hh1 br)⟩, wo, SqT.of upd_same, (by decide), (fun _ z => absurd z (by simp)), fun H2 s2 => ⟨(by show 2 ≤ sizeLine; decide), fun t nt => ?_⟩⟩
    have s3 := (s1.trans s2).trans (same_new nt (.tup [V.int 0, V.int (dig v 2 [])]))
    cases br with
    | true => exact bad (.inl rfl) _ t _ _ (k + 1) kvs (fun b o h1 _ e => s3 _ _ (kp1 true b o h1 e)) upd_same (s3 _ _ upd_same) (s3 _ _ (hf1 true)) (by omega) (by rw [if_pos rfl]; omega)
    | false => exact good rfl .emp r (by rw [hcons, parse_one (by decide)]; rfl) _ t (k + 1) (fun b o h1 _ e => s3 _ _ (kp1 false b o h1 e)) upd_same (s3 _ _ upd_same) htail (by omega) (s3 _ _ (hf1 false)) (by show kvs.length ≤ k + 1; omega)
  refine ⟨_, rfl, rfl, false, congrArg V.bl (two0 x0), iteF ?_⟩
  by_cases x1 : x = 1
  · -- a leaf
    subst x1
    refine ⟨_, rfl, rfl, true, congrArg V.bl (two rfl), iteT ?_⟩
    refine ⟨_, rfl, p, dx, _, rfl, upd_same, lk_no (by decide +kernel), _, rfl, _, rfl, n, p, dx, h, pr, fd, low, high, least, _, v, k + 1, br, ws, kvs, rfl, (by rw [em]), upd_same, ⟨dxh, hh1 br⟩, wo, (kp1 br).tup hp hS, wd, hf1 br, (by omega), nn, fun H' q y br' kvs' kp' hq hp' hf' hl' hiff hval => ?_⟩
    have kk : Kp2 p fd H H' := fun b o h1 h2 e => kp' b o h1 h2 (kp1 br b o h1 e)
    cases br with
    | true =>
      have hb : br' = true := by
        cases br' with
        | true => rfl
        | false => exact absurd (hiff.mp rfl).1 (by decide)
      subst hb
      exact bad (.inl rfl) H' q 1 y (k + 1 + 2) kvs' kk hq hp' hf' (by omega) (by rw [if_pos rfl]; omega)
    | false =>
      cases br' with
      | false =>
        obtain ⟨_, a, b, r', e, okl⟩ := hiff.mp rfl
        obtain ⟨rfl, rfl⟩ := hval a b r' e okl
        rw [htail] at e
        subst e
        have er : ws.drop (k + 1 + 2) = r' := by
          have z : ws.drop (k + 1 + 2) = (ws.drop (k + 1)).drop 2 := by rw [List.drop_drop]
          rw [z, htail]
          rfl
        have hle : k + 1 + 2 ≤ ws.length := by
          have := congrArg List.length hcons
          simp only [List.length_drop, List.length_cons] at this
          omega
        refine good rfl (.leaf a b) r' ?_ H' q (k + 1 + 2) kk hq hp' er hle (by rw [hf', put1_puts]) (by rw [← put1_puts]; omega)
        rw [hcons, parse_one (by decide)]
        unfold parse1
        rw [if_neg (by decide), if_pos rfl]
        exact if_pos okl
      | true =>
        refine bad (.inr ?_) H' q 1 y (k + 1 + 2) kvs' kk hq hp' hf' (by omega) (by rw [if_neg Bool.false_ne_true]; omega)
        rw [hcons, parse_one (by decide)]
        unfold parse1
        rw [if_neg (by decide), if_pos rfl]
        match r, htail with
        | [], _ => rfl
        | [_], _ => rfl
        | a :: b :: r', htail => exact if_neg fun okl => Bool.noConfusion (hiff.mpr ⟨rfl, a, b, r', htail, okl⟩)
  refine ⟨_, rfl, rfl, false, congrArg V.bl (two0 x1), iteF ?_⟩
  by_cases x3 : x = 3
  · -- hidden
    subst x3
    refine ⟨_, rfl, rfl, true, congrArg V.bl (two rfl), iteT ?_⟩
    refine ⟨_, rfl, p, dx, _, rfl, upd_same, lk_no (by decide +kernel), _, rfl, _, rfl, n, p, dx, h, pr, fd, low, high, least, _, v, k + 1, br, ws, rfl, (by rw [em]), upd_same, ⟨dxh, hh1 br⟩, wo, (kp1 br).tup hp hS, fun H' q a b br' kp' hq hp' hiff hfit => ?_⟩
    have kk : Kp2 p fd H H' := fun c o h1 h2 e => kp' c o h1 (kp1 br c o h1 e)
    have hf' : H' fd = some (.dK kvs) := kp' _ _ npf (hf1 br)
    cases br with
    | true =>
      have hb : br' = true := by
        cases br' with
        | true => rfl
        | false => exact absurd (hiff.mp rfl).1 (by decide)
      subst hb
      exact bad (.inl rfl) H' q a b (k + 1 + 2) kvs kk hq hp' hf' (by omega) (by rw [if_pos rfl]; omega)
    | false =>
      cases br' with
      | false =>
        obtain ⟨_, r', e, okl⟩ := hiff.mp rfl
        rw [htail] at e
        subst e
        have er : ws.drop (k + 1 + 2) = r' := by
          have z : ws.drop (k + 1 + 2) = (ws.drop (k + 1)).drop 2 := by rw [List.drop_drop]
          rw [z, htail]
          rfl
        have hle : k + 1 + 2 ≤ ws.length := by
          have := congrArg List.length hcons
          simp only [List.length_drop, List.length_cons] at this
          omega
        refine good rfl (.hid a b) r' ?_ H' q (k + 1 + 2) kk hq hp' er hle hf' (by show kvs.length ≤ k + 1 + 2; omega)
        rw [hcons, parse_one (by decide)]
        unfold parse1
        rw [if_neg (by decide), if_neg (by decide), if_pos rfl]
        exact if_pos okl
      | true =>
        refine bad (.inr ?_) H' q a b (k + 1 + 2) kvs kk hq hp' hf' (by omega) (by rw [if_neg Bool.false_ne_true]; omega)
        rw [hcons, parse_one (by decide)]
        unfold parse1
        rw [if_neg (by decide), if_neg (by decide), if_pos rfl]
        match r, htail, hfit with
        | [], _, _ => rfl
        | [_], _, _ => rfl
        | a' :: b' :: r', htail, hfit =>
          obtain ⟨rfl, rfl⟩ := hfit a' b' r' htail
          exact if_neg fun okl => Bool.noConfusion (hiff.mpr ⟨rfl, r', htail, okl⟩)
  refine ⟨_, rfl, rfl, false, congrArg V.bl (two0 x3), iteF ?_⟩
  by_cases x2 : x = 2
  case neg =>
    -- no word of the four
    refine ⟨_, rfl, rfl, true, congrArg (fun z => V.bl (!z)) (two0 x2), iteT ?_⟩
    refine ⟨_, rfl, p, CR, dx, _, rfl, upd_same, T.clR, T.rB, (by show 7 < 1000; decide), ?_⟩
    rw [upd_upd, rd_br]
    refine ⟨(by show 2 ≤ sizeLine; decide), brk (.inr ?_)⟩
    rw [hcons, parse_one x2]
    unfold parse1
    rw [if_neg x0, if_neg x1, if_neg x3, if_neg x2]
  subst x2
  refine ⟨_, rfl, rfl, false, congrArg (fun z => V.bl (!z)) (two rfl), iteF ?_⟩
  by_cases d32 : d = 32
  · -- too deep
    refine ⟨_, rfl, rfl, true, congrArg V.bl (two d32), iteT ?_⟩
    refine ⟨_, rfl, p, CR, dx, _, rfl, upd_same, T.clR, T.rB, (by show 7 < 1000; decide), ?_⟩
    rw [upd_upd, rd_br]
    have n0 : n = 0 := by omega
    subst n0
    exact ⟨(by show 2 ≤ sizeLine; decide), brk (.inr (by rw [hcons]; exact parse_two0))⟩
  refine ⟨_, rfl, rfl, false, congrArg V.bl (two0 d32), iteF ?_⟩
  refine ⟨_, rfl, p, CR, dx, _, _, rfl, upd_same, T.clR, T.rB, lk_b, ?_⟩
  cases br with
  | true =>
    refine ⟨true, rfl, iteT ?_⟩
    refine ⟨_, rfl, p, CR, dx, _, rfl, upd_same, T.clR, T.rB, (by show 7 < 1000; decide), ?_⟩
    rw [upd_upd, rd_br]
    exact ⟨(by show 2 ≤ sizeLine; decide), brk (.inl rfl)⟩
  | false =>
    refine ⟨false, rfl, iteF ?_⟩
    cases n with
    | zero => exact absurd hd (by omega)
    | succ n =>
      have em1 := shl_eq1 (n := n) (d := d) (by omega)
      have p2n := pow_pos2 n
      -- what every broken end comes to
      have lost : parse v low high (n + 1) least (ws.drop k) = none → ∀ (H3 : Hp) (k2 : Nat) (kvs2 : List (Key × V)), Kp2 p fd H H3 → H3 p = some (.ins CR dx (rdF h pr low high (k2 : Int) fd true)) → H3 fd = some (.dK kvs2) → kvs2.length ≤ k2 → k2 ≤ 2003 + 3 * (n + 1) →
          ∀ t, H3 t = none → Q (.ref t) (upd H3 t (.tup [.int 0, .int 0])) := fun hn H3 k2 kvs2 kk hp3 hf3 hl3 hk3 t nt => by
        have s1 := same_new nt (.tup [V.int 0, V.int 0])
        exact bad (.inr hn) _ t 0 0 k2 kvs2 (kk.trans s1.kp2) upd_same (s1 _ _ hp3) (s1 _ _ hf3) hl3 (by rw [if_neg Bool.false_ne_true]; exact hk3)
      have kk1 : Kp2 p fd H (upd H p (.ins CR dx (rdF h pr low high ((k + 1 : Nat) : Int) fd false))) := (kp1 false).kp2
      refine ⟨_, rfl, p, dx, _, rfl, upd_same, lk_no (by decide +kernel), _, rfl, _, _, rfl, rfl, _, rfl, n, rfl, p, dx, h, pr, fd, low, high, d + 1, least, v, k + 1, false, ws, kvs, rfl, (by omega), upd_same, ⟨dxh, hh1 false⟩, wo, (kp1 false).tup hp hS, wd, hf1 false, (by omega), (by omega), (fun _ => by omega), nn, (by omega), ?_, ?_⟩
      · -- the left part is told well
        intro _ t r1 hpt H2 q1 k1 kp2 hq1 hp2 hd1 hk1 hf2 hl2
        rw [htail] at hpt
        have kk2 : Kp2 p fd H H2 := kk1.trans kp2
        have hh2 : H2 h = some (.ins CH dxh (hsF v)) := kk2 _ _ nph nhf hh
        refine ⟨_, rfl, p, dx, _, rfl, hp2, lk_no (by decide +kernel), _, rfl, _, _, rfl, rfl, _, rfl, _, _, rfl, rfl, _, rfl, _, _, rfl, rfl, _, _, rfl, rfl, ⟨by omega, by omega, by decide⟩, _, _, rfl, rfl, n, rfl, p, dx, h, pr, fd, low, high, d + 1, _, v, k1, false, ws, _, rfl, (by omega), hp2, ⟨dxh, hh2⟩, wo, kk2.tup hp hf hS, wd, hf2, hl2, (by omega), (fun _ => hk1), (by rw [em1]; omega), (by omega), ?_, ?_⟩
        · intro _ u r2 hpu H3 q2 k2 kp3 hq2 hp3 hd2 hk2 hf3 hl3
          rw [em1, hd1] at hpu
          have kk3 : Kp2 p fd H H3 := kk2.trans kp3
          have hh3 : H3 h = some (.ins CH dxh (hsF v)) := kk3 _ _ nph nhf hh
          have hq13 : H3 q1 = some (.tup [.int t.cnt, .int (t.dgt v)]) := kp3 _ _ (ne_of hq1 hp2 (by intro z; cases z)) (ne_of hq1 hf2 (by intro z; cases z)) hq1
          refine ⟨_, rfl, p, CR, dx, _, _, rfl, hp3, T.clR, T.rB, lk_b, false, rfl, iteF ?_⟩
          have hpar : parse v low high (n + 1) least (ws.drop k) = some (.inn t u, r2) := by
            rw [hcons, parse_two, hpt]
            show (match parse v low high n (least + 2 ^ n) r1 with | none => none | some (u, r2) => some (Of.T.inn t u, r2)) = _
            rw [hpu]
          obtain ⟨ok, ew⟩ := parse_ok _ _ _ _ _ hpar
          have wl : (Of.T.inn t u).words.length ≤ 2000 := by
            have := congrArg List.length ew
            rw [List.length_drop, List.length_append] at this
            omega
          have wb : ∀ z ∈ (Of.T.inn t u).words, z < 2 ^ 70 := fun z hz => (wd.wd z (List.mem_of_mem_drop (by rw [ew]; exact List.mem_append_left _ hz))).2
          have iok := Of.T.inp_ok wo.1 wo.2 (.inn t u) (n + 1) least ok wl wb nn
          refine ⟨_, rfl, q1, _, 0, .int t.cnt, rfl, rfl, SqT.of hq13, atI_nat (j := 0) rfl, _, rfl, q2, _, 0, .int u.cnt, rfl, rfl, SqT.of hq2, atI_nat (j := 0) rfl, _, _, rfl, rfl, ?_⟩
          refine ⟨_, rfl, p, CR, dx, _, _, rfl, hp3, T.clR, T.rH, lk_h, h, dxh, _, rfl, hh3, rfl, _, rfl, _, rfl, q1, q2, _, _, rfl, rfl, SqT.of hq13, SqT.of hq2, (by simp), (by show 4 ≤ sizeLine; decide), (fun z => by cases z), fun _ c nc => ?_⟩
          have s4 := same_new nc (.tup ([V.int t.cnt, V.int (t.dgt v)] ++ [V.int u.cnt, V.int (u.dgt v)]))
          refine ⟨h, c, v, 3, [t.cnt, t.dgt v, u.cnt, u.dgt v], rfl, ⟨dxh, s4 _ _ hh3⟩, wo, SqT.of upd_same, (by show 4 ≤ 4; decide), (fun z hz => (iok.nn z hz).2), fun H4 s5 => ⟨(by show 2 ≤ sizeLine; decide), fun e ne => ?_⟩⟩
          have s6 := (s4.trans s5).trans (same_new ne (.tup [V.int (t.cnt + u.cnt), V.int (dig v 3 [t.cnt, t.dgt v, u.cnt, u.dgt v])]))
          exact good rfl (.inn t u) r2 hpar _ e k2 (kk3.trans s6.kp2) upd_same (s6 _ _ hp3) hd2 hk2 (by rw [s6 _ _ hf3]; exact congrArg (fun z => some (HO.dK z)) (puts_app kvs _ _).symm) (Nat.le_trans (Nat.le_of_eq (congrArg List.length (puts_app kvs (t.ents low high) (u.ents low high)))) hl3)
        · intro hb H3 q2 x y k2 kvs2 kp3 hq2 hp3 hf3 hl3 hk2
          rw [if_neg Bool.false_ne_true] at hk2
          have hpu : parse v low high n (least + 2 ^ n) r1 = none := by
            rcases hb with hb | hb
            · cases hb
            · rw [em1, hd1] at hb
              exact hb
          refine ⟨_, rfl, p, CR, dx, _, _, rfl, hp3, T.clR, T.rB, lk_b, true, rfl, iteT ?_⟩
          refine ⟨(by show 2 ≤ sizeLine; decide), lost ?_ H3 k2 kvs2 (kk2.trans kp3) hp3 hf3 hl3 (by omega)⟩
          rw [hcons, parse_two, hpt]
          show (match parse v low high n (least + 2 ^ n) r1 with | none => none | some (u, r2) => some (Of.T.inn t u, r2)) = _
          rw [hpu]
      · -- the left part is broken
        intro hb H2 q1 x y k1 kvs1 kp2 hq1 hp2 hf2 hl2 hk1
        rw [if_neg Bool.false_ne_true] at hk1
        have hpt : parse v low high n least r = none := by
          rcases hb with hb | hb
          · cases hb
          · rw [htail] at hb
            exact hb
        have kk2 : Kp2 p fd H H2 := kk1.trans kp2
        have hh2 : H2 h = some (.ins CH dxh (hsF v)) := kk2 _ _ nph nhf hh
        refine ⟨_, rfl, p, dx, _, rfl, hp2, lk_no (by decide +kernel), _, rfl, _, _, rfl, rfl, _, rfl, _, _, rfl, rfl, _, rfl, _, _, rfl, rfl, _, _, rfl, rfl, ⟨by omega, by omega, by decide⟩, _, _, rfl, rfl, n, rfl, p, dx, h, pr, fd, low, high, d + 1, _, v, k1, true, ws, kvs1, rfl, (by omega), hp2, ⟨dxh, hh2⟩, wo, kk2.tup hp hf hS, wd, hf2, hl2, (by omega), (fun z => nomatch z), (by rw [em1]; omega), (by omega), (fun z => nomatch z), ?_⟩
        intro _ H3 q2 x2 y2 k2 kvs2 kp3 hq2 hp3 hf3 hl3 hk2
        rw [if_pos rfl] at hk2
        refine ⟨_, rfl, p, CR, dx, _, _, rfl, hp3, T.clR, T.rB, lk_b, true, rfl, iteT ?_⟩
        refine ⟨(by show 2 ≤ sizeLine; decide), lost ?_ H3 k2 kvs2 (kk2.trans kp3) hp3 hf3 hl3 (by omega)⟩
        rw [hcons, parse_two, hpt]
end
end Of

set_option Elab.async false
set_option linter.all false
set_option maxRecDepth 100000
set_option maxHeartbeats 4000000
namespace Of
open PySem L2
section
variable {X : Cx}
/-- tuple(x) of a list or a tuple: some tuple of the same items -/
theorem call_tuple_any : CallR X (.type "tuple") (fun xs H Q => ∃ (p : Addr) (ys : List V), xs = [.ref p] ∧ (SqL X.K H p ys ∨ SqT X.K H p ys) ∧ ∀ H' q, Same H H' → SqT X.K H' q ys → Q (.ref q) H') := by
  intro pins s σ H xs us Q I r h
  obtain ⟨p, ys, rfl, hS, q⟩ := h
  rcases hS with hS | hS
  · exact call_tuple_of pins s σ H _ us Q I r ⟨p, ys, rfl, .inl ⟨hS, fun l nl => q _ l (same_new nl _) (SqT.of upd_same)⟩⟩
  · exact call_tuple_of pins s σ H _ us Q I r ⟨p, ys, rfl, .inr ⟨hS, q H p (Same.refl H) hS⟩⟩
/-- t[a:b] of a tuple: some tuple of these items -/
def rSlAny (K : PySem.W.Frag) : V → Option Int → Option Int → Hp → VK → Prop := fun x lo hi H Q => ∃ a xs, x = .ref a ∧ SqT K H a xs ∧ ∀ H' q, Same H H' → SqT K H' q (cutV xs lo hi) → Q (.ref q) H'
theorem cut_all {xs : List V} {lo hi : Option Int} (h : HT.sIx xs.length 0 lo = 0 ∧ HT.sIx xs.length xs.length hi = xs.length) : cutV xs lo hi = xs := by
  unfold cutV
  rw [h.1, h.2]
  simp
theorem sl_any : SlR X (rSlAny X.K) := by
  intro pins s σ H x v vl vu lo hi sl Q I rx hs pl pu h
  obtain ⟨a, xs, hx, hS, q⟩ := h
  refine sl_tupA pins s σ H x v vl vu lo hi sl Q I rx hs pl pu ⟨a, xs, hx, hS, fun z => q H a (Same.refl H) (by rw [cut_all z]; exact hS), fun _ p np => q _ p (same_new np _) (SqT.of upd_same)⟩
end
/-- the tree that an accepted proof tells -/
def accT (v low high root : Int) (ws : List Int) : Option T := match parse v low high 32 0 ws with
  | some (t, []) => if t.dgt v = root then some t else none
  | _ => none
theorem acc_some {v low high root : Int} {ws : List Int} {t : T} (h : accT v low high root ws = some t) : T.Ok v low high 32 0 t ∧ ws = t.words ∧ t.dgt v = root := by
  unfold accT at h
  cases e : parse v low high 32 0 ws with
  | none => rw [e] at h; cases h
  | some p =>
    obtain ⟨u, r⟩ := p
    rw [e] at h
    cases r with
    | cons _ _ => cases h
    | nil =>
      have h : (if u.dgt v = root then some u else none) = some t := h
      by_cases z : u.dgt v = root
      · rw [if_pos z] at h
        cases h
        obtain ⟨a, b⟩ := parse_ok _ _ _ _ _ e
        rw [List.append_nil] at b
        exact ⟨a, b, z⟩
      · rw [if_neg z] at h
        cases h
theorem acc_of {v low high root : Int} {t : T} (ok : T.Ok v low high 32 0 t) (e : t.dgt v = root) : accT v low high root t.words = some t := by
  have h := parse_words (w := v) (low := low) (high := high) t 32 0 [] ok
  rw [List.append_nil] at h
  unfold accT
  rw [h]
  exact if_pos e
def spCheck (K : PySem.W.Frag) (CH : Addr) : Sp := fun vs H Q _ => ∃ (h pr : Addr) (v root low high : Int) (ws : List Int), vs = [.ref h, .int root, .int low, .int high, .ref pr] ∧ HsAt CH H h v ∧ Wok v ∧ (SqL K H pr (ws.map V.int) ∨ SqT K H pr (ws.map V.int)) ∧ Wd ws ∧
  (accT v low high root ws = none → ∀ H', Same H H' → Q .non H') ∧ ∀ t, accT v low high root ws = some t → ∀ H' d, Same H H' → H d = none → H' d = some (dk (t.ents low high)) → Q (.ref d) H'
section
variable {P : Program} {w : World} {K : PySem.W.Frag} {mg : Str → Option Value} {base : Heap} {CH CR CT : Addr}
theorem all_rnodes {f : Addr} {fd : FuncData} (F : Fun K "node" "RangeReader.node" sNode f fd) (b : Binds K fd ["self", "depth", "least"] []) (me : Meth K CR "node" f) (T : Txt K mg CH CR CT) (cK : C8.Met P w K mg base 1 CR "take" (spTake K CR) []) (cD : C8.Met P w K mg base 2 CH "digest" (spDigest K CH) [])
    (cL : C8.Met P w K mg base 3 CR "leaf" (spLeaf K CH CR) []) (cH : C8.Met P w K mg base 2 CR "hidden" (spHidden K CH CR) []) : ∀ n : Nat, C8.Met P w K mg base (n + 4) CR "node" (spRNode K CH CR n) []
  | 0 => ⟨f, fd, _, [], T.clR, me, ok_node 0 F T cK cD cL cH ⟨f, fd, _, [], T.clR, me, never_ok (fun vs H Q E z => by obtain ⟨m, e, _⟩ := z; cases e), b, .nil⟩, b, .nil⟩
  | n + 1 => by
    obtain ⟨f', fd', ps, ds, c, me', ok, b', v'⟩ := all_rnodes F b me T cK cD cL cH n
    exact ⟨f, fd, _, [], T.clR, me, ok_node (n + 1) F T cK cD cL cH ⟨f', fd', ps, ds, c, me', ok.imp fun vs H Q E z => by
      obtain ⟨m, e, z⟩ := z
      obtain rfl : n = m := Nat.succ.inj e
      exact z, b', v'⟩, b, .nil⟩
theorem scCheck : FnScope ["hasher", "root", "low", "high", "proof", "reader", "digest"] ["hasher", "root", "low", "high", "proof"] (defScope sCheck) := ⟨rfl, rfl, rfl, by decide +kernel, rfl, by decide +kernel, by decide +kernel⟩
theorem ok_check {f : Addr} {fd : FuncData} (F : Fun K "range_check" "range_check" sCheck f fd) (T : Txt K mg CH CR CT) (cM : C8.Mak P w K mg base 1 "RangeReader" CR (spReadI CR) []) (cN : C8.Met P w K mg base 36 CR "node" (spRNode K CH CR 32) []) :
    FnOk P w K mg base CX0 37 f fd ["hasher", "root", "low", "high", "proof"] (spCheck K CH) := by
  refine F.ok scCheck (fun vs H Q E h => ?_) (fun cdv A outer s H vs Q E hr h => ?_)
  · obtain ⟨h, pr, v, root, low, high, ws, rfl, _⟩ := h
    rfl
  obtain ⟨h, pr, v, root, low, high, ws, rfl, hh, wo, hS, wd, qn, qs⟩ := h
  refine ⟨_, (pss_cons ((ps_set (i := 5) scCheck.nd rfl (Or.inl rfl) ((C8.pe_mk cM hr (by first | exact Nat.le_refl _ | decide | omega) (by rfl) (pa_cons (pv 0) (pa_cons ((pe_callTy call_tuple_any (by rfl) T.tuple (by decide +kernel) (pa_cons (pv 4) pa_nil))) (pa_cons (pv 2) (pa_cons (pv 3) pa_nil)))))))) (pss_cons ((ps_set (i := 6) scCheck.nd rfl (Or.inl rfl) ((pe_ix ix_tup ((C8.pe_mt cN hr (by first | exact Nat.le_refl _ | decide | omega) (pv 5) (pa_cons (pe_int) (pa_cons (pe_int) pa_nil)))) (pe_int) (fun _ _ => rfl))))) (pss_cons ((ps_if ((PW.pt (pw_or (pt_val (pe_fld (pv 5) rfl)) (pw_or ((pt_cmpR op_ne ((pe_fld (pv 5) rfl)) ((pe_callB call_len_seq (by rfl) T.len PySem.boot_len (pa_cons ((pe_fld (pv 5) rfl)) pa_nil))) (nomark _))) (pw_or1 ((pt_cmpR op_ne (pv 6) (pv 1) (nomark _)))))))) (pss_one ((ps_ret (pe_non)))) pss_nil)) (pss_one ((ps_ret ((pe_fld (pv 5) rfl)))))))), ?_⟩
  refine ⟨_, rfl, _, rfl, pr, ws.map V.int, rfl, hS, fun H1 tp s1 ht => ⟨_, rfl, _, rfl, fun x dx nx ndx nex => ?_⟩⟩
  refine ⟨x, dx, h, tp, low, high, rfl, upd_same, fun H2 fd kp nfd hfd hx2 => ⟨rfl, ?_⟩⟩
  have s2 : Same H1 H2 := Same.made nx ndx fun b o e hb => kp b o hb e
  have s02 := s1.trans s2
  have nxf : fd ≠ x := fun e => by rw [e, upd_same] at nfd; cases nfd
  have nf1 : H1 fd = none := by
    rw [upd_ne nxf] at nfd
    have ndf : fd ≠ dx := fun e => by rw [e, upd_same] at nfd; cases nfd
    rw [upd_ne ndf] at nfd
    exact nfd
  have nf0 : H fd = none := s1.free nf1
  have nx0 : H x = none := s1.free nx
  have back : ∀ H3, Kp2 x fd H2 H3 → Same H H3 := fun H3 k b o e => k b o (ne_of_none e nx0) (ne_of_none e nf0) (s02 b o e)
  refine ⟨_, rfl, x, dx, _, rfl, hx2, lk_no (by decide +kernel), x, dx, h, tp, fd, low, high, 0, 0, v, 0, false, ws, [], rfl, rfl, hx2, hh.mono s02, wo, s2.tup ht, wd, hfd, Nat.le_refl _, Nat.zero_le _, (fun _ => Nat.zero_le _), Int.le_refl 0, Nat.le_refl _, ?_, ?_⟩
  · intro _ t r hpar H3 q k' k3 hq hp3 hd hk hf3 _
    rw [List.drop_zero] at hpar
    have ht3 : SqT K H3 tp (ws.map V.int) := k3.tup hx2 hfd (s2.tup ht)
    refine ⟨q, _, 1, .int (t.dgt v), rfl, rfl, SqT.of hq, atI_nat (j := 1) rfl, ?_⟩
    refine ⟨_, rfl, x, CR, dx, _, _, rfl, hp3, T.clR, T.rB, lk_b, false, rfl, iteF ?_⟩
    have hl : (ws.map V.int).length = ws.length := List.length_map _
    by_cases hr0 : r = []
    · subst hr0
      have ek : k' = ws.length := by
        have := congrArg List.length hd
        rw [List.length_drop, List.length_nil] at this
        omega
      refine ⟨_, rfl, x, CR, dx, _, _, rfl, hp3, T.clR, T.rA, lk_a, _, rfl, x, CR, dx, _, _, rfl, hp3, T.clR, T.rP, lk_p, tp, _, rfl, .inr ht3, rfl, false, congrArg (fun z => V.bl (!z)) (decide_eq_true (congrArg V.int (by rw [hl, ek]))), iteF ?_⟩
      by_cases hg : t.dgt v = root
      · have hacc : accT v low high root ws = some t := by
          unfold accT
          rw [hpar]
          exact if_pos hg
        have he : H3 fd = some (dk (t.ents low high)) := by
          obtain ⟨ok, _⟩ := parse_ok _ _ _ _ _ hpar
          rw [hf3]
          exact congrArg (fun z => some (HO.dK z)) (puts_nd (t.ents low high) [] (ents_nd t 32 0 ok))
        refine ⟨_, rfl, _, rfl, rfl, false, congrArg (fun z => V.bl (!z)) (decide_eq_true (congrArg V.int hg)), ?_⟩
        exact ⟨_, rfl, x, CR, dx, _, _, rfl, hp3, T.clR, T.rF, lk_f, qs t hacc H3 fd (back H3 k3) nf0 he⟩
      · have hacc : accT v low high root ws = none := by
          unfold accT
          rw [hpar]
          exact if_neg hg
        exact ⟨_, rfl, _, rfl, rfl, true, congrArg (fun z => V.bl (!z)) (decide_eq_false fun z => hg (V.int.inj z)), qn hacc H3 (back H3 k3)⟩
    · have hacc : accT v low high root ws = none := by
        unfold accT
        rw [hpar]
        cases r with
        | nil => exact absurd rfl hr0
        | cons _ _ => rfl
      have ek : ¬ (k' : Int) = ((ws.map V.int).length : Int) := fun z => by
        rw [hl] at z
        have e2 : k' = ws.length := by omega
        rw [e2, List.drop_length] at hd
        exact hr0 hd.symm
      exact ⟨_, rfl, x, CR, dx, _, _, rfl, hp3, T.clR, T.rA, lk_a, _, rfl, x, CR, dx, _, _, rfl, hp3, T.clR, T.rP, lk_p, tp, _, rfl, .inr ht3, rfl, true, congrArg (fun z => V.bl (!z)) (decide_eq_false fun z => ek (V.int.inj z)), iteT (qn hacc H3 (back H3 k3))⟩
  · intro hb H3 q x2 y2 k' kvs' k3 hq hp3 hf3 _ _
    have hpar : parse v low high 32 0 ws = none := by
      rcases hb with hb | hb
      · cases hb
      · exact hb
    have hacc : accT v low high root ws = none := by
      unfold accT
      rw [hpar]
    refine ⟨q, _, 1, .int y2, rfl, rfl, SqT.of hq, atI_nat (j := 1) rfl, ?_⟩
    exact ⟨_, rfl, x, CR, dx, _, _, rfl, hp3, T.clR, T.rB, lk_b, true, rfl, iteT (qn hacc H3 (back H3 k3))⟩
end
end Of

set_option Elab.async false
set_option linter.all false
set_option maxRecDepth 100000
set_option maxHeartbeats 4000000
namespace Of
open PySem L2
/-! ### Told -/
def tdF (h pr : Addr) (at_ : Int) : List (Str × V) := [("hasher", .ref h), ("proof", .ref pr), ("at", .int at_)]
theorem td_at {h pr : Addr} {z z' : Int} : putF "at" (.int z') (tdF h pr z) = tdF h pr z' := by
  unfold tdF
  rw [putF_neg (by decide +kernel), putF_neg (by decide +kernel), putF_pos]
theorem td_made {h pr : Addr} : putF "at" (.int 0) (putF "proof" (.ref pr) (putF "hasher" (.ref h) [])) = tdF h pr 0 := by
  show putF "at" (.int 0) (putF "proof" (.ref pr) [("hasher", .ref h)]) = _
  rw [putF_neg (by decide +kernel)]
  show putF "at" (.int 0) [("hasher", .ref h), ("proof", .ref pr)] = _
  rw [putF_neg (by decide +kernel), putF_neg (by decide +kernel)]
  rfl
section
variable {h pr : Addr} {z : Int}
theorem lt_h : (tdF h pr z).lookup ("hasher" : Str) = some (.ref h) := rfl
theorem lt_p : (tdF h pr z).lookup ("proof" : Str) = some (.ref pr) := rfl
theorem lt_a : (tdF h pr z).lookup ("at" : Str) = some (.int z) := rfl
theorem lt_no {m : Str} (hm : (["hasher", "proof", "at"] : List Str).contains m = false) : (tdF h pr z).lookup m = none := by
  simp only [List.contains_cons, Bool.or_eq_false_iff] at hm
  obtain ⟨h1, h2, h3, _⟩ := hm
  unfold tdF
  rw [List.lookup_cons, h1, List.lookup_cons, h2, List.lookup_cons, h3]
  rfl
end
/-- all tuples kept -/
def Tups (K : PySem.W.Frag) (H H' : Hp) : Prop := ∀ a xs, SqT K H a xs → SqT K H' a xs
theorem InAt.keep {K : PySem.W.Frag} {H H' : Hp} {v : V} {i : In} (h : InAt K H v i) (e : Tups K H H') : InAt K H' v i := by
  obtain ⟨a, b, rfl, h1, h2⟩ := h
  exact ⟨a, b, rfl, e _ _ h1, e _ _ h2⟩
theorem TolAt.keep {K : PySem.W.Frag} {w : Int} {H H' : Hp} (e : Tups K H H') : ∀ {v : V} (t : T), TolAt K w H v t → TolAt K w H' v t := by
  intro v t
  induction t generalizing v with
  | hid c d =>
    rintro ⟨a, q, rfl, h1, h2⟩
    exact ⟨a, q, rfl, e _ _ h1, e _ _ h2⟩
  | emp =>
    rintro ⟨a, x, q, rfl, h1, h2, h3⟩
    exact ⟨a, x, q, rfl, e _ _ h1, h2.keep e, e _ _ h3⟩
  | leaf k z =>
    rintro ⟨a, x, q, rfl, h1, h2, h3⟩
    exact ⟨a, x, q, rfl, e _ _ h1, h2.keep e, e _ _ h3⟩
  | inn l r ihl ihr =>
    rintro ⟨a, x, q, vl, vr, rfl, h1, h2, h3, h4, h5⟩
    exact ⟨a, x, q, vl, vr, rfl, e _ _ h1, h2.keep e, e _ _ h3, ihl h4, ihr h5⟩
theorem cut_nat {xs : List V} {k m : Nat} {lo hi : Int} (el : lo = (k : Int)) (eh : hi = ((k + m : Nat) : Int)) (h : k + m ≤ xs.length) : cutV xs (some lo) (some hi) = (xs.drop k).take m := by
  subst el eh
  unfold cutV
  rw [HT.sIx_nat, HT.sIx_nat, Nat.min_eq_left (a := k) (b := xs.length) (by omega), Nat.min_eq_left h, Nat.add_sub_cancel_left]
theorem cut_to {xs : List V} {m : Nat} (h : m ≤ xs.length) : cutV xs none (some (m : Int)) = xs.take m := by
  unfold cutV
  rw [HT.sIx_none, HT.sIx_nat, Nat.min_eq_left h]
  rfl
def spToldI (K : PySem.W.Frag) (CT : Addr) : Sp := fun vs H Q _ => ∃ (p dx h pr : Addr) (ys : List V), vs = [.ref p, .ref h, .ref pr] ∧ H p = some (.ins CT dx []) ∧ (SqL K H pr ys ∨ SqT K H pr ys) ∧
  ∀ H' tp, Kp p H H' → SqT K H' tp ys → H' p = some (.ins CT dx (tdF h tp 0)) → Q .non H'
def spSome (K : PySem.W.Frag) (CT : Addr) : Sp := fun vs H Q _ => ∃ (p dx h tp : Addr) (k m : Nat) (ys : List V), vs = [.ref p, .int (m : Int)] ∧ H p = some (.ins CT dx (tdF h tp (k : Int))) ∧ SqT K H tp ys ∧ k + m ≤ ys.length ∧
  ∀ H' q, Kp p H H' → H' p = some (.ins CT dx (tdF h tp ((k + m : Nat) : Int))) → SqT K H' q ((ys.drop k).take m) → Q (.ref q) H'
def spTNode (K : PySem.W.Frag) (CH CT : Addr) (n : Nat) : Sp := fun vs H Q _ => ∃ (p dx h tp : Addr) (k : Nat) (ws : List Int) (v low high least : Int) (t : T) (r : List Int), vs = [.ref p] ∧ H p = some (.ins CT dx (tdF h tp (k : Int))) ∧ HsAt CH H h v ∧ Wok v ∧ SqT K H tp (ws.map V.int) ∧ Wd ws ∧ T.Ok v low high n least t ∧ 0 ≤ least ∧ ws.drop k = t.words ++ r ∧
  ∀ (H' : Hp) (u : V) (k' : Nat), Kp p H H' → H' p = some (.ins CT dx (tdF h tp (k' : Int))) → ws.drop k' = r → TolAt K v H' u t → Q u H'
def spTNode1 (K : PySem.W.Frag) (CH CT : Addr) (n : Nat) : Sp := fun vs H Q E => ∃ m, n = m + 1 ∧ spTNode K CH CT m vs H Q E
section
variable {P : Program} {w : World} {K : PySem.W.Frag} {mg : Str → Option Value} {base : Heap} {CH CR CT : Addr}
theorem scToldI : FnScope ["self", "hasher", "proof"] ["self", "hasher", "proof"] (defScope sToldI) := ⟨rfl, rfl, rfl, by decide +kernel, rfl, by decide +kernel, by decide +kernel⟩
theorem ok_toldI {f : Addr} {fd : FuncData} (F : Fun K "__init__" "Told.__init__" sToldI f fd) (T : Txt K mg CH CR CT) : FnOk P w K mg base CX0 1 f fd ["self", "hasher", "proof"] (spToldI K CT) := by
  refine F.ok scToldI (fun vs H Q E h => ?_) (fun cdv A outer s H vs Q E hr h => ?_)
  · obtain ⟨p, dx, h, pr, ys, rfl, _⟩ := h
    rfl
  obtain ⟨p, dx, h, pr, ys, rfl, hp, hS, q⟩ := h
  refine ⟨_, (pss_cons ((ps_fld (pv 0) (pv 1) rfl)) (pss_cons ((ps_fld (pv 0) ((pe_callTy call_tuple_any (by rfl) T.tuple (by decide +kernel) (pa_cons (pv 2) pa_nil))) rfl)) (pss_one ((ps_fld (pv 0) (pe_int) rfl))))), ?_⟩
  have l0 : ([] : List (Str × V)).length ≤ 0 := Nat.le_refl 0
  refine ⟨_, rfl, _, rfl, p, CT, dx, _, rfl, hp, T.clT, T.tH, (by decide), ?_⟩
  have k1 : Kp p H (upd H p (.ins CT dx (putF "hasher" (.ref h) []))) := (Kp.refl p H).upd _
  have hS1 : SqL K (upd H p (.ins CT dx (putF "hasher" (.ref h) []))) pr ys ∨ SqT K (upd H p (.ins CT dx (putF "hasher" (.ref h) []))) pr ys := by
    rcases hS with hS | hS
    · refine .inl ?_
      rcases hS with (hS | ⟨o, hS⟩) | hS
      · exact .inl (.inl (k1 _ _ (ne_of hS hp (by intro z; cases z)) hS))
      · exact .inl (.inr ⟨o, k1 _ _ (ne_of hS hp (by intro z; cases z)) hS⟩)
      · exact .inr hS
    · exact .inr (k1.tup hp hS)
  refine ⟨_, rfl, pr, ys, rfl, hS1, fun H2 tp s2 ht => ⟨_, rfl, p, CT, dx, _, rfl, s2 _ _ upd_same, T.clT, T.tP, Nat.lt_of_le_of_lt (len_put l0) (by decide), ?_⟩⟩
  refine ⟨_, rfl, p, CT, dx, _, rfl, upd_same, T.clT, T.tA, Nat.lt_of_le_of_lt (len_put (len_put l0)) (by decide), ?_⟩
  have k2 : Kp p H2 (upd (upd H2 p (.ins CT dx (putF "proof" (.ref tp) (putF "hasher" (.ref h) [])))) p (.ins CT dx (putF "at" (.int 0) (putF "proof" (.ref tp) (putF "hasher" (.ref h) []))))) := ((Kp.refl p H2).upd _).upd _
  refine q _ tp ((k1.trans s2.kp).trans k2) (k2.tup (s2 _ _ upd_same) ht) ?_
  rw [upd_same, td_made]
theorem scSome : FnScope ["self", "count"] ["self", "count"] (defScope sSome) := ⟨rfl, rfl, rfl, by decide +kernel, rfl, by decide +kernel, by decide +kernel⟩
theorem ok_some {f : Addr} {fd : FuncData} (F : Fun K "some" "Told.some" sSome f fd) (T : Txt K mg CH CR CT) : FnOk P w K mg base CX0 1 f fd ["self", "count"] (spSome K CT) := by
  refine F.ok scSome (fun vs H Q E h => ?_) (fun cdv A outer s H vs Q E hr h => ?_)
  · obtain ⟨p, dx, h, tp, k, m, ys, rfl, _⟩ := h
    rfl
  obtain ⟨p, dx, h, tp, k, m, ys, rfl, hp, hS, hl, q⟩ := h
  refine ⟨_, (pss_cons (ps_fldaug (pv 0) (pv 1) in_add) (pss_one ((ps_ret (pe_slice sl_any (pe_fld (pv 0) rfl) (po_some (pe_op op_sub ((pe_fld (pv 0) rfl)) (pv 1))) (po_some (pe_fld (pv 0) rfl))))))), ?_⟩
  refine ⟨_, rfl, p, CT, dx, _, _, rfl, hp, T.clT, T.tA, lt_a, _, rfl, _, _, rfl, rfl, dx, _, hp, (by show 3 < 1000; decide), ?_⟩
  rw [td_at]
  have k1 : Kp p H (upd H p (.ins CT dx (tdF h tp ((k : Int) + (m : Int))))) := (Kp.refl p H).upd _
  refine ⟨_, rfl, p, CT, dx, _, _, rfl, upd_same, T.clT, T.tP, lt_p, _, rfl, p, CT, dx, _, _, rfl, upd_same, T.clT, T.tA, lt_a, _, rfl, _, _, rfl, rfl, _, rfl, _, rfl, p, CT, dx, _, _, rfl, upd_same, T.clT, T.tA, lt_a, _, rfl, tp, ys, rfl, k1.tup hp hS, fun H2 u s2 hu => ?_⟩
  rw [cut_nat (k := k) (m := m) (by omega) (by omega) hl] at hu
  exact q H2 u (k1.trans s2.kp) (s2 _ _ upd_same) hu
end
end Of

set_option Elab.async false
set_option linter.all false
set_option maxRecDepth 100000
set_option maxHeartbeats 4000000
namespace Of
open PySem L2
section
variable {P : Program} {w : World} {K : PySem.W.Frag} {mg : Str → Option Value} {base : Heap} {CH CR CT : Addr}
theorem scTNode : FnScope ["self", "word", "left", "right", "numbers"] ["self"] (defScope sTNode) := ⟨rfl, rfl, rfl, by decide +kernel, rfl, by decide +kernel, by decide +kernel⟩
theorem ok_tnode {f : Addr} {fd : FuncData} (n : Nat) (F : Fun K "node" "Told.node" sTNode f fd) (T : Txt K mg CH CR CT) (cS : C8.Met P w K mg base 1 CT "some" (spSome K CT) []) (cD : C8.Met P w K mg base 2 CH "digest" (spDigest K CH) [])
    (cN : C8.Met P w K mg base (n + 2) CT "node" (spTNode1 K CH CT n) []) : FnOk P w K mg base CX0 (n + 3) f fd ["self"] (spTNode K CH CT n) := by
  refine F.ok scTNode (fun vs H Q E h => ?_) (fun cdv A outer s H vs Q E hr h => ?_)
  · obtain ⟨p, dx, h, tp, k, ws, v, low, high, least, t, r, rfl, _⟩ := h
    rfl
  obtain ⟨p, dx, h, tp, k, ws, v, low, high, least, t, r, rfl, hp, ⟨dxh, hh⟩, wo, hS, wd, ok, nn, hw, q⟩ := h
  refine ⟨_, (pss_cons ((ps_set (i := 1) scTNode.nd rfl (Or.inl rfl) ((pe_ix ix_tup ((C8.pe_mt cS hr (by first | exact Nat.le_refl _ | decide | omega) (pv 0) (pa_cons (pe_int) pa_nil))) (pe_int) (fun _ _ => rfl))))) (pss_cons ((ps_if ((pt_cmpR op_eq (pv 1) ((C8.pe_gc (by rfl) T.gHW)) (nomark _))) (pss_one ((ps_ret ((pe_op op_catT ((C8.pe_mt cS hr (by first | exact Nat.le_refl _ | decide | omega) (pv 0) (pa_cons (pe_int) pa_nil))) ((pe_tup (pa_cons (pe_non) (pa_cons ((pe_tup pa_nil)) pa_nil))))))))) pss_nil)) (pss_cons ((ps_if ((pt_cmpR op_eq (pv 1) ((C8.pe_gc (by rfl) T.gIW)) (nomark _))) (pss_cons ((ps_set (i := 2) scTNode.nd rfl (Or.inl rfl) ((C8.pe_mt0 cN hr (by first | exact Nat.le_refl _ | decide | omega) (pv 0))))) (pss_cons ((ps_set (i := 3) scTNode.nd rfl (Or.inl rfl) ((C8.pe_mt0 cN hr (by first | exact Nat.le_refl _ | decide | omega) (pv 0))))) (pss_cons ((ps_set (i := 4) scTNode.nd rfl (Or.inl rfl) ((pe_op op_catT (pe_slice sl_any (pv 2) po_none (po_some pe_int)) (pe_slice sl_any (pv 3) po_none (po_some pe_int)))))) (pss_one ((ps_ret ((pe_tup (pa_cons ((pe_op op_add ((pe_ix ix_tup (pv 2) (pe_int) (fun _ _ => rfl))) ((pe_ix ix_tup (pv 3) (pe_int) (fun _ _ => rfl))))) (pa_cons ((C8.pe_mt cD hr (by first | exact Nat.le_refl _ | decide | omega) ((pe_fld (pv 0) rfl)) (pa_cons ((C8.pe_gc (by rfl) T.gINNER)) (pa_cons (pv 4) pa_nil)))) (pa_cons ((pe_tup (pa_cons ((C8.pe_gc (by rfl) T.gINNER)) (pa_cons (pv 4) pa_nil)))) (pa_cons ((pe_tup (pa_cons (pv 2) (pa_cons (pv 3) pa_nil)))) pa_nil)))))))))))) pss_nil)) (pss_cons ((ps_set (i := 4) scTNode.nd rfl (Or.inl rfl) (pe_ifExp (pt_cmpR op_eq (pv 1) ((C8.pe_gc (by rfl) T.gLW)) (nomark _)) (C8.pe_mt cS hr (by first | exact Nat.le_refl _ | decide | omega) (pv 0) (pa_cons (pe_int) pa_nil)) (pe_tup pa_nil)))) (pss_one ((ps_ret ((pe_tup (pa_cons ((pe_op op_fdiv ((pe_callB call_len_seq (by rfl) T.len PySem.boot_len (pa_cons (pv 4) pa_nil))) (pe_int))) (pa_cons ((C8.pe_mt cD hr (by first | exact Nat.le_refl _ | decide | omega) ((pe_fld (pv 0) rfl)) (pa_cons ((C8.pe_gc (by rfl) T.gLEAF)) (pa_cons (pv 4) pa_nil)))) (pa_cons ((pe_tup (pa_cons ((C8.pe_gc (by rfl) T.gLEAF)) (pa_cons (pv 4) pa_nil)))) (pa_cons ((pe_tup pa_nil)) pa_nil))))))))))))), ?_⟩
  have nph : h ≠ p := fun e => by
    rw [e, hp] at hh
    have z := congrArg (fun o => match o with | some (HO.ins _ _ fs) => fs.length | _ => 0) hh
    exact absurd z (by show ¬ 3 = 1; decide)
  have two : ∀ {x y : Int}, x = y → decide (V.int x = V.int y) = true := fun e => decide_eq_true (congrArg V.int e)
  have two0 : ∀ {x y : Int}, ¬ x = y → decide (V.int x = V.int y) = false := fun e => decide_eq_false fun z => e (V.int.inj z)
  have hlen : (ws.map V.int).length = ws.length := List.length_map _
  -- the first word
  obtain ⟨x, r', hcons⟩ : ∃ x r', ws.drop k = x :: r' := by
    rw [hw]
    cases t <;> exact ⟨_, _, rfl⟩
  have hk : k < ws.length := by
    have := congrArg List.length hcons
    rw [List.length_drop, List.length_cons] at this
    omega
  have htail : ws.drop (k + 1) = r' := by rw [← List.tail_drop, hcons]; rfl
  refine ⟨_, rfl, p, dx, _, rfl, hp, lt_no (by decide +kernel), p, dx, h, tp, k, 1, _, rfl, hp, hS, (by omega), fun H1 q1 k1 hp1 hq1 => ?_⟩
  have e1 : ((ws.map V.int).drop k).take 1 = [V.int x] := by
    rw [← List.map_drop, hcons]
    rfl
  rw [e1] at hq1
  refine ⟨q1, _, 0, .int x, rfl, rfl, hq1, atI_nat (j := 0) rfl, ?_⟩
  have hS1 : SqT K H1 tp (ws.map V.int) := k1.tup hp hS
  have hh1 : H1 h = some (.ins CH dxh (hsF v)) := k1 _ _ nph hh
  -- the digest of two or no numbers, at the end
  have kk : ∀ {H' : Hp}, Same H1 H' → Kp p H H' := fun s => k1.trans s.kp
  cases t with
  | hid c d =>
    have ex : x = 3 ∧ r' = c :: d :: r := by
      rw [hw] at hcons
      injection hcons with a b
      exact ⟨a.symm, b.symm⟩
    obtain ⟨rfl, rfl⟩ := ex
    have hl3 : k + 1 + 2 ≤ ws.length := by
      have := congrArg List.length hcons
      simp only [List.length_drop, List.length_cons] at this
      omega
    refine ⟨_, rfl, rfl, true, congrArg V.bl (two rfl), iteT ?_⟩
    refine ⟨_, rfl, p, dx, _, rfl, hp1, lt_no (by decide +kernel), p, dx, h, tp, k + 1, 2, _, rfl, hp1, hS1, (by omega), fun H2 q2 k2 hp2 hq2 => ?_⟩
    have e2 : ((ws.map V.int).drop (k + 1)).take 2 = [V.int c, V.int d] := by
      rw [← List.map_drop, htail]
      rfl
    rw [e2] at hq2
    refine ⟨(by show 0 ≤ sizeLine; decide), fun a na => ⟨(by show 2 ≤ sizeLine; decide), fun b nb => ?_⟩⟩
    have s3 := same_new na (.tup [])
    have s4 := same_new nb (.tup [V.non, V.ref a])
    refine ⟨q2, b, _, _, rfl, rfl, (s3.trans s4).tup hq2, SqT.of upd_same, (by simp), (by show 4 ≤ sizeLine; decide), (fun z => by cases z), fun _ e ne => ?_⟩
    have s5 := (s3.trans s4).trans (same_new ne (.tup ([V.int c, V.int d] ++ [V.non, V.ref a])))
    have s45 := s4.trans (same_new ne (.tup ([V.int c, V.int d] ++ [V.non, V.ref a])))
    refine q _ _ (k + 1 + 2) ((k1.trans k2).trans s5.kp) (s5 _ _ hp2) ?_ ⟨e, a, rfl, SqT.of upd_same, SqT.of (s45 _ _ upd_same)⟩
    have z : ws.drop (k + 1 + 2) = (ws.drop (k + 1)).drop 2 := by rw [List.drop_drop]
    rw [z, htail]
    rfl
  | emp =>
    have ex : x = 0 ∧ r' = r := by
      rw [hw] at hcons
      injection hcons with a b
      exact ⟨a.symm, b.symm⟩
    obtain ⟨rfl, rfl⟩ := ex
    refine ⟨_, rfl, rfl, false, congrArg V.bl (two0 (by decide)), iteF ?_⟩
    refine ⟨_, rfl, rfl, false, congrArg V.bl (two0 (by decide)), iteF ?_⟩
    refine ⟨_, rfl, rfl, false, congrArg V.bl (two0 (by decide)), iteF ?_⟩
    refine ⟨(by show 0 ≤ sizeLine; decide), fun a na => ?_⟩
    have s3 := same_new na (.tup [])
    refine ⟨_, rfl, a, _, rfl, .inr (SqT.of upd_same), _, _, rfl, rfl, ⟨by decide, by decide⟩, ?_⟩
    refine ⟨_, rfl, p, CT, dx, _, _, rfl, s3 _ _ hp1, T.clT, T.tH, lt_h, h, dxh, _, rfl, s3 _ _ hh1, rfl, _, rfl, h, a, v, 2, [], rfl, ⟨dxh, s3 _ _ hh1⟩, wo, SqT.of upd_same, (by decide), (fun _ z => absurd z (by simp)), fun H2 s4 => ?_⟩
    refine ⟨_, rfl, (by show 2 ≤ sizeLine; decide), fun b nb => ⟨(by show 0 ≤ sizeLine; decide), fun c nc => ⟨(by show 4 ≤ sizeLine; decide), fun e ne => ?_⟩⟩⟩
    have s5 := same_new nb (.tup [V.int 2, V.ref a])
    have s6 := same_new nc (.tup [])
    have s7 := same_new ne (.tup [V.int 0, V.int (dig v 2 []), V.ref b, V.ref c])
    have sA := ((s4.trans s5).trans s6).trans s7
    refine q _ _ (k + 1) (kk (s3.trans sA)) (sA _ _ (s3 _ _ hp1)) htail ⟨e, .ref b, c, rfl, SqT.of upd_same, ⟨b, a, rfl, SqT.of ((s6.trans s7) _ _ upd_same), SqT.of (sA _ _ upd_same)⟩, SqT.of (s7 _ _ upd_same)⟩
  | leaf y z =>
    have ex : x = 1 ∧ r' = y :: z :: r := by
      rw [hw] at hcons
      injection hcons with a b
      exact ⟨a.symm, b.symm⟩
    obtain ⟨rfl, rfl⟩ := ex
    have hl3 : k + 1 + 2 ≤ ws.length := by
      have := congrArg List.length hcons
      simp only [List.length_drop, List.length_cons] at this
      omega
    refine ⟨_, rfl, rfl, false, congrArg V.bl (two0 (by decide)), iteF ?_⟩
    refine ⟨_, rfl, rfl, false, congrArg V.bl (two0 (by decide)), iteF ?_⟩
    refine ⟨_, rfl, rfl, true, congrArg V.bl (two rfl), iteT ?_⟩
    refine ⟨_, rfl, p, dx, _, rfl, hp1, lt_no (by decide +kernel), p, dx, h, tp, k + 1, 2, _, rfl, hp1, hS1, (by omega), fun H2 a k2 hp2 hq2 => ?_⟩
    have e2 : ((ws.map V.int).drop (k + 1)).take 2 = [V.int y, V.int z] := by
      rw [← List.map_drop, htail]
      rfl
    rw [e2] at hq2
    have hh2 : H2 h = some (.ins CH dxh (hsF v)) := k2 _ _ nph hh1
    have b70 : ∀ m ∈ ([y, z] : List Int), m < 2 ^ 100 := fun m hm => by
      have e70 : (2 : Int) ^ 70 < 2 ^ 100 := by decide
      have := (wd.wd m (List.mem_of_mem_drop (show m ∈ ws.drop k by rw [hcons]; simp only [List.mem_cons, List.not_mem_nil, or_false] at hm ⊢; rcases hm with rfl | rfl <;> simp))).2
      omega
    refine ⟨_, rfl, a, _, rfl, .inr hq2, _, _, rfl, rfl, ⟨by decide, by decide⟩, ?_⟩
    refine ⟨_, rfl, p, CT, dx, _, _, rfl, hp2, T.clT, T.tH, lt_h, h, dxh, _, rfl, hh2, rfl, _, rfl, h, a, v, 2, [y, z], rfl, ⟨dxh, hh2⟩, wo, hq2, (by show 2 ≤ 4; decide), b70, fun H3 s4 => ?_⟩
    refine ⟨_, rfl, (by show 2 ≤ sizeLine; decide), fun b nb => ⟨(by show 0 ≤ sizeLine; decide), fun c nc => ⟨(by show 4 ≤ sizeLine; decide), fun e ne => ?_⟩⟩⟩
    have s5 := same_new nb (.tup [V.int 2, V.ref a])
    have s6 := same_new nc (.tup [])
    have s7 := same_new ne (.tup [V.int 1, V.int (dig v 2 [y, z]), V.ref b, V.ref c])
    have sA := ((s4.trans s5).trans s6).trans s7
    have z2 : ws.drop (k + 1 + 2) = r := by
      have z2 : ws.drop (k + 1 + 2) = (ws.drop (k + 1)).drop 2 := by rw [List.drop_drop]
      rw [z2, htail]
      rfl
    have fin := q _ (.ref e) (k + 1 + 2) ((k1.trans k2).trans sA.kp) (sA _ _ hp2) z2 ⟨e, .ref b, c, rfl, SqT.of upd_same, ⟨b, a, rfl, SqT.of ((s6.trans s7) _ _ upd_same), sA.tup hq2⟩, SqT.of (s7 _ _ upd_same)⟩
    have e22 : ((([V.int y, V.int z] : List V).length : Int) / 2) = 1 := by
      show ((2 : Nat) : Int) / 2 = 1
      decide
    show Q (.ref e) (upd (upd (upd H3 b (.tup [V.int 2, V.ref a])) c (.tup [])) e (.tup [V.int ((([V.int y, V.int z] : List V).length : Int) / 2), V.int (dig v 2 [y, z]), V.ref b, V.ref c]))
    rw [e22]
    exact fin
  | inn l u =>
    have ex : x = 2 ∧ r' = l.words ++ (u.words ++ r) := by
      rw [hw] at hcons
      injection hcons with a b
      exact ⟨a.symm, b.symm.trans (List.append_assoc l.words u.words r)⟩
    obtain ⟨rfl, rfl⟩ := ex
    refine ⟨_, rfl, rfl, false, congrArg V.bl (two0 (by decide)), iteF ?_⟩
    refine ⟨_, rfl, rfl, true, congrArg V.bl (two rfl), iteT ?_⟩
    cases n with
    | zero => exact ok.elim
    | succ n =>
      have p2n := pow_pos2 n
      have wl : (Of.T.inn l u).words.length ≤ 2000 := by
        have := congrArg List.length hw
        rw [List.length_drop, List.length_append] at this
        have := wd.len
        omega
      have wb : ∀ z ∈ (Of.T.inn l u).words, z < 2 ^ 70 := fun z hz => (wd.wd z (List.mem_of_mem_drop (by rw [hw]; exact List.mem_append_left _ hz))).2
      have iok := Of.T.inp_ok wo.1 wo.2 (.inn l u) (n + 1) least ok wl wb nn
      refine ⟨_, rfl, p, dx, _, rfl, hp1, lt_no (by decide +kernel), n, rfl, p, dx, h, tp, k + 1, ws, v, low, high, least, l, _, rfl, hp1, ⟨dxh, hh1⟩, wo, hS1, wd, ok.1, nn, htail, fun H2 vl ka k2 hp2 hka tl => ?_⟩
      have hh2 : H2 h = some (.ins CH dxh (hsF v)) := k2 _ _ nph hh1
      have hS2 : SqT K H2 tp (ws.map V.int) := k2.tup hp1 hS1
      refine ⟨_, rfl, p, dx, _, rfl, hp2, lt_no (by decide +kernel), n, rfl, p, dx, h, tp, ka, ws, v, low, high, least + 2 ^ n, u, r, rfl, hp2, ⟨dxh, hh2⟩, wo, hS2, wd, ok.2, (by omega), hka, fun H3 vr kb k3 hp3 hkb tr => ?_⟩
      have hh3 : H3 h = some (.ins CH dxh (hsF v)) := k3 _ _ nph hh2
      have tl3 : TolAt K v H3 vl l := TolAt.keep (fun a xs z => k3.tup hp2 z) l tl
      obtain ⟨al, xl, ql, rfl, hal⟩ := tl3.two
      obtain ⟨ar, xr, qr, rfl, har⟩ := tr.two
      -- numbers = left[:2] + right[:2]
      refine ⟨_, rfl, 2, rfl, al, _, rfl, hal, fun H4 a4 s4 h4 => ?_⟩
      have c4 : cutV [V.int l.cnt, V.int (l.dgt v), xl, V.ref ql] none (some 2) = [V.int l.cnt, V.int (l.dgt v)] := cut_to (m := 2) (by show 2 ≤ 4; decide)
      rw [c4] at h4
      refine ⟨_, rfl, 2, rfl, ar, _, rfl, s4.tup har, fun H5 a5 s5 h5 => ?_⟩
      have c5 : cutV [V.int u.cnt, V.int (u.dgt v), xr, V.ref qr] none (some 2) = [V.int u.cnt, V.int (u.dgt v)] := cut_to (m := 2) (by show 2 ≤ 4; decide)
      rw [c5] at h5
      refine ⟨a4, a5, _, _, rfl, rfl, s5.tup h4, h5, (by simp), (by show 4 ≤ sizeLine; decide), (fun z => by cases z), fun _ a6 n6 => ?_⟩
      have s6 := same_new n6 (.tup ([V.int l.cnt, V.int (l.dgt v)] ++ [V.int u.cnt, V.int (u.dgt v)]))
      have s46 := (s4.trans s5).trans s6
      refine ⟨_, rfl, al, _, 0, .int l.cnt, rfl, rfl, s46.tup hal, atI_nat (j := 0) rfl, _, rfl, ar, _, 0, .int u.cnt, rfl, rfl, s46.tup har, atI_nat (j := 0) rfl, _, _, rfl, rfl, ?_⟩
      refine ⟨_, rfl, p, CT, dx, _, _, rfl, s46 _ _ hp3, T.clT, T.tH, lt_h, h, dxh, _, rfl, s46 _ _ hh3, rfl, _, rfl, h, a6, v, 3, [l.cnt, l.dgt v, u.cnt, u.dgt v], rfl, ⟨dxh, s46 _ _ hh3⟩, wo, SqT.of upd_same, (by show 4 ≤ 4; decide), (fun z hz => (iok.nn z hz).2), fun H7 s7 => ?_⟩
      refine ⟨_, rfl, (by show 2 ≤ sizeLine; decide), fun b nb => ⟨_, rfl, _, rfl, (by show 2 ≤ sizeLine; decide), fun c nc => ⟨(by show 4 ≤ sizeLine; decide), fun e ne => ?_⟩⟩⟩
      have s8 := same_new nb (.tup [V.int 3, V.ref a6])
      have s9 := same_new nc (.tup [V.ref al, V.ref ar])
      have s10 := same_new ne (.tup [V.int (l.cnt + u.cnt), V.int (dig v 3 [l.cnt, l.dgt v, u.cnt, u.dgt v]), V.ref b, V.ref c])
      have sB := ((s7.trans s8).trans s9).trans s10
      have sA := s46.trans sB
      exact q _ _ kb (((k1.trans k2).trans k3).trans sA.kp) (sA _ _ hp3) hkb ⟨e, .ref b, c, .ref al, .ref ar, rfl, SqT.of upd_same, ⟨b, a6, rfl, SqT.of ((s9.trans s10) _ _ upd_same), SqT.of (sB _ _ upd_same)⟩, SqT.of (s10 _ _ upd_same), TolAt.mono sA l tl3, TolAt.mono sA u tr⟩
theorem all_tnodes {f : Addr} {fd : FuncData} (F : Fun K "node" "Told.node" sTNode f fd) (b : Binds K fd ["self"] []) (me : Meth K CT "node" f) (T : Txt K mg CH CR CT) (cS : C8.Met P w K mg base 1 CT "some" (spSome K CT) []) (cD : C8.Met P w K mg base 2 CH "digest" (spDigest K CH) []) :
    ∀ n : Nat, C8.Met P w K mg base (n + 3) CT "node" (spTNode K CH CT n) []
  | 0 => ⟨f, fd, _, [], T.clT, me, ok_tnode 0 F T cS cD ⟨f, fd, _, [], T.clT, me, never_ok (fun vs H Q E z => by obtain ⟨m, e, _⟩ := z; cases e), b, .nil⟩, b, .nil⟩
  | n + 1 => by
    obtain ⟨f', fd', ps, ds, c, me', ok, b', v'⟩ := all_tnodes F b me T cS cD n
    exact ⟨f, fd, _, [], T.clT, me, ok_tnode (n + 1) F T cS cD ⟨f', fd', ps, ds, c, me', ok.imp fun vs H Q E z => by
      obtain ⟨m, e, z⟩ := z
      obtain rfl : n = m := Nat.succ.inj e
      exact z, b', v'⟩, b, .nil⟩
end
end Of

set_option Elab.async false
set_option linter.all false
set_option maxRecDepth 100000
set_option maxHeartbeats 4000000
namespace Of
open PySem L2
def spColl (K : PySem.W.Frag) : Sp := fun vs H Q _ => ∃ (x y : V) (a b : In), vs = [x, y] ∧ InAt K H x a ∧ InAt K H y b ∧ ∀ H' u, Same H H' → ResAt K H' u (some (a, b)) → Q u H'
def spIsInp (K : PySem.W.Frag) : Sp := fun vs H Q _ => ∃ (x : V) (i : In), vs = [x] ∧ InAt K H x i ∧ InOk i ∧ ∀ H', Same H H' → Q (.bl true) H'
def spIsColl (K : PySem.W.Frag) (CH : Addr) : Sp := fun vs H Q _ => ∃ (h : Addr) (u : V) (v : Int) (a b : In), vs = [.ref h, u] ∧ HsAt CH H h v ∧ Wok v ∧ ResAt K H u (some (a, b)) ∧ InOk a ∧ InOk b ∧ a ≠ b ∧ dg v a = dg v b ∧ ∀ H', Same H H' → Q (.bl true) H'
def spWrong (K : PySem.W.Frag) (CH : Addr) (n : Nat) : Sp := fun vs H Q _ => ∃ (h p : Addr) (v d low high least : Int) (kvs : Pairs) (t : T) (tv : V), vs = [.ref h, .ref p, .int d, tv] ∧ d = 32 - (n : Int) ∧ HsAt CH H h v ∧ Wok v ∧ H p = some (dk kvs) ∧ Good n least kvs ∧ least + 2 ^ n ≤ 2 ^ 32 ∧ n ≤ 32 ∧
  T.Ok v low high n least t ∧ TolAt K v H tv t ∧ ∀ H' u, Same H H' → ResAt K H' u (fw v n kvs t) → Q u H'
def spWrong1 (K : PySem.W.Frag) (CH : Addr) (n : Nat) : Sp := fun vs H Q E => ∃ m, n = m + 1 ∧ spWrong K CH m vs H Q E
/-- what range_break is worth -/
def brk (v low high : Int) (kvs : Pairs) (ws : List Int) : Option (In × In) := match accT v low high (dg v (nodeIn v 32 kvs)) ws with
  | none => none
  | some t => fw v 32 kvs t
def spBreak (K : PySem.W.Frag) (CH : Addr) : Sp := fun vs H Q _ => ∃ (h p pr : Addr) (v low high : Int) (kvs : Pairs) (ws : List Int), vs = [.ref h, .ref p, .int low, .int high, .ref pr] ∧ HsAt CH H h v ∧ Wok v ∧ H p = some (dk kvs) ∧ Good 32 0 kvs ∧ (SqL K H pr (ws.map V.int) ∨ SqT K H pr (ws.map V.int)) ∧ Wd ws ∧
  ∀ H' u, Same H H' → ResAt K H' u (brk v low high kvs ws) → Q u H'
section
variable {P : Program} {w : World} {K : PySem.W.Frag} {mg : Str → Option Value} {base : Heap} {CH CR CT : Addr}
theorem scColl : FnScope ["first", "second"] ["first", "second"] (defScope sColl) := ⟨rfl, rfl, rfl, by decide +kernel, rfl, by decide +kernel, by decide +kernel⟩
theorem ok_coll {f : Addr} {fd : FuncData} (F : Fun K "collision" "collision" sColl f fd) (T : Txt K mg CH CR CT) : FnOk P w K mg base CX0 1 f fd ["first", "second"] (spColl K) := by
  refine F.ok scColl (fun vs H Q E h => ?_) (fun cdv A outer s H vs Q E hr h => ?_)
  · obtain ⟨x, y, a, b, rfl, _⟩ := h
    rfl
  obtain ⟨x, y, a, b, rfl, hx, hy, q⟩ := h
  refine ⟨_, pss_one (ps_ret ((pe_tup (pa_cons (pe_str) (pa_cons ((pe_tup (pa_cons ((pe_ix ix_tup (pv 0) (pe_int) (fun _ _ => rfl))) (pa_cons ((pe_callTy call_tupleT (by rfl) T.tuple (by decide +kernel) (pa_cons ((pe_ix ix_tup (pv 0) (pe_int) (fun _ _ => rfl))) pa_nil))) pa_nil)))) (pa_cons ((pe_tup (pa_cons ((pe_ix ix_tup (pv 1) (pe_int) (fun _ _ => rfl))) (pa_cons ((pe_callTy call_tupleT (by rfl) T.tuple (by decide +kernel) (pa_cons ((pe_ix ix_tup (pv 1) (pe_int) (fun _ _ => rfl))) pa_nil))) pa_nil)))) pa_nil)))))), ?_⟩
  obtain ⟨a1, a2, rfl, h1, h2⟩ := hx
  obtain ⟨b1, b2, rfl, g1, g2⟩ := hy
  refine ⟨_, rfl, a1, _, 0, .int a.1, rfl, rfl, h1, atI_nat (j := 0) rfl, _, rfl, a1, _, 1, .ref a2, rfl, rfl, h1, atI_nat (j := 1) rfl, a2, _, rfl, h2, (by show 2 ≤ sizeLine; decide), fun c nc => ?_⟩
  have s1 := same_new nc (.tup [V.int a.1, V.ref a2])
  refine ⟨_, rfl, b1, _, 0, .int b.1, rfl, rfl, s1.tup g1, atI_nat (j := 0) rfl, _, rfl, b1, _, 1, .ref b2, rfl, rfl, s1.tup g1, atI_nat (j := 1) rfl, b2, _, rfl, s1.tup g2, (by show 2 ≤ sizeLine; decide), fun d nd => ⟨(by show 3 ≤ sizeLine; decide), fun e ne => ?_⟩⟩
  have s2 := same_new nd (.tup [V.int b.1, V.ref b2])
  have s3 := same_new ne (.tup [V.str "collision", V.ref c, V.ref d])
  have s := (s1.trans s2).trans s3
  exact q _ _ s ⟨e, .ref c, .ref d, rfl, SqT.of upd_same, ⟨c, a2, rfl, SqT.of ((s2.trans s3) _ _ upd_same), s.tup h2⟩, ⟨d, b2, rfl, SqT.of (s3 _ _ upd_same), s.tup g2⟩⟩
theorem scIsInp : FnScope ["answer", "tag", "numbers", "number"] ["answer"] (defScope sIsInp) := ⟨rfl, rfl, rfl, by decide +kernel, rfl, by decide +kernel, by decide +kernel⟩
theorem ok_isInp {f : Addr} {fd : FuncData} (F : Fun K "is_input" "is_input" sIsInp f fd) (T : Txt K mg CH CR CT) : FnOk P w K mg base CX0 1 f fd ["answer"] (spIsInp K) := by
  refine F.ok scIsInp (fun vs H Q E h => ?_) (fun cdv A outer s H vs Q E hr h => ?_)
  · obtain ⟨x, i, rfl, _⟩ := h
    rfl
  obtain ⟨x, i, rfl, hx, ok, q⟩ := h
  refine ⟨_, (pss_cons ((ps_asg (pv 0) (pg_tup rfl (pgs_cons ((pg_name (i := 1) scIsInp.nd rfl (Or.inl rfl))) (pgs_cons ((pg_name (i := 2) scIsInp.nd rfl (Or.inl rfl))) pgs_nil))))) (pss_one ((ps_ret (pe_and (pe_chain op_le op_lt pe_int (pv 1) pe_int) (pe_one (pe_callB (cr_all rfl) (by rfl) T.all (by decide +kernel) (pa_cons (pe_lc (own := [("number", 3)]) (g := gName 3) (tt := tYes) rfl scIsInp.nd (pi_tup (pv 2)) (blkOk_by (N := ["answer", "tag", "numbers", "number"]) (sc := defScope sIsInp) (by decide +kernel)) (fun _ _ _ _ _ => (pg_name (i := 3) scIsInp.nd rfl (Or.inl rfl))) (fun _ _ _ _ _ => pts_nil) (fun _ _ _ _ _ => (pe_cmpR op_ge (pv 3) (pe_int) (nomark _)))) pa_nil)))))))), ?_⟩
  obtain ⟨a, b, rfl, h1, h2⟩ := hx
  refine ⟨_, rfl, a, _, rfl, h1, rfl, _, _, rfl, _, _, rfl, rfl, ?_⟩
  refine ⟨_, rfl, _, _, rfl, rfl, true, congrArg V.bl (decide_eq_true ok.t0), iteT ⟨_, _, rfl, rfl, ?_⟩⟩
  refine ⟨_, congrArg V.bl (decide_eq_true ok.t1), iteT ?_⟩
  refine ⟨_, rfl, b, rfl, ⟨_, h2⟩, fun D nD => lc_tup (K := K) (a := b) (xs := i.2.map V.int) (fun j H2 => Same H H2 ∧ H2 D = some (.lst ((List.replicate j true).map V.bl))) ⟨same_new nD _, upd_same⟩ (fun j H2 _ z => z.1.tup h2) ?_ ?_⟩
  · rintro j x H2 hj ⟨sm, hD⟩
    obtain ⟨n, hn, rfl⟩ : ∃ n, i.2[j]? = some n ∧ x = V.int n := by
      rw [List.getElem?_map] at hj
      cases e : i.2[j]? with
      | none => rw [e] at hj; cases hj
      | some n => rw [e] at hj; exact ⟨n, rfl, (Option.some.inj hj).symm⟩
    have h4 := ok.len
    have hjl : j < i.2.length := (List.getElem?_eq_some_iff.mp hn).1
    refine ⟨rfl, ?_⟩
    dsimp only [tYes]
    rw [if_pos rfl]
    refine ⟨_, rfl, _, _, rfl, rfl, _, hD, (by rw [List.length_map, List.length_replicate]; exact small1000 (by omega)), sm.mut nD, ?_⟩
    have e : decide (0 ≤ n) = true := decide_eq_true (ok.nn n (List.mem_of_getElem? hn)).1
    rw [upd_same, List.replicate_succ', List.map_append]
    show some (HO.lst (_ ++ [V.bl (decide (0 ≤ n))])) = _
    rw [e]
    rfl
  · rintro H2 ⟨sm, hD⟩
    refine ⟨D, List.replicate (i.2.map V.int).length true, rfl, SqL.of hD, ?_⟩
    have e : (List.replicate (i.2.map V.int).length true).all id = true := by
      rw [List.all_eq_true]
      intro z hz
      rw [(List.mem_replicate.mp hz).2]
      rfl
    rw [e]
    exact q H2 sm
theorem scIsColl : FnScope ["hasher", "answer", "first", "second"] ["hasher", "answer"] (defScope sIsColl) := ⟨rfl, rfl, rfl, by decide +kernel, rfl, by decide +kernel, by decide +kernel⟩
theorem ok_isColl {f : Addr} {fd : FuncData} (F : Fun K "is_collision" "is_collision" sIsColl f fd) (T : Txt K mg CH CR CT) (cI : C8.Cal P w K mg base 1 "is_input" (spIsInp K) []) (cD : C8.Met P w K mg base 2 CH "digest" (spDigest K CH) []) :
    FnOk P w K mg base CX0 3 f fd ["hasher", "answer"] (spIsColl K CH) := by
  refine F.ok scIsColl (fun vs H Q E h => ?_) (fun cdv A outer s H vs Q E hr h => ?_)
  · obtain ⟨h, u, v, a, b, rfl, _⟩ := h
    rfl
  obtain ⟨h, u, v, a, b, rfl, hh, wo, hu, oka, okb, hne, hdg, q⟩ := h
  refine ⟨_, (pss_cons ((ps_if ((PW.pt (pw_or ((pt_cmpR op_isN (pv 1) (pe_non) (nomark _))) (pw_or1 ((pt_cmpR op_ne ((pe_ix ix_tup (pv 1) (pe_int) (fun _ _ => rfl))) (pe_str) (nomark _))))))) (pss_one ((ps_ret (pe_bl)))) pss_nil)) (pss_cons ((ps_asg (pe_slice sl_any (pv 1) (po_some pe_int) po_none) (pg_tup rfl (pgs_cons ((pg_name (i := 2) scIsColl.nd rfl (Or.inl rfl))) (pgs_cons ((pg_name (i := 3) scIsColl.nd rfl (Or.inl rfl))) pgs_nil))))) (pss_cons ((ps_if ((PW.pt (pw_or ((pt_not (pt_val (C8.pe_c cI hr (by first | exact Nat.le_refl _ | decide | omega) (by rfl) (pa_cons (pv 2) pa_nil))))) (pw_or ((pt_not (pt_val (C8.pe_c cI hr (by first | exact Nat.le_refl _ | decide | omega) (by rfl) (pa_cons (pv 3) pa_nil))))) (pw_or1 ((pt_cmpR (op_eqD hr.units) (pv 2) (pv 3) (nomark _)))))))) (pss_one ((ps_ret (pe_bl)))) pss_nil)) (pss_one ((ps_ret ((pe_cmpR op_eq ((C8.pe_mt cD hr (by first | exact Nat.le_refl _ | decide | omega) (pv 0) (pa_cons ((pe_ix ix_tup (pv 2) (pe_int) (fun _ _ => rfl))) (pa_cons ((pe_ix ix_tup (pv 2) (pe_int) (fun _ _ => rfl))) pa_nil)))) ((C8.pe_mt cD hr (by first | exact Nat.le_refl _ | decide | omega) (pv 0) (pa_cons ((pe_ix ix_tup (pv 3) (pe_int) (fun _ _ => rfl))) (pa_cons ((pe_ix ix_tup (pv 3) (pe_int) (fun _ _ => rfl))) pa_nil)))) (nomark _))))))))), ?_⟩
  obtain ⟨c, x, y, rfl, hc, hx, hy⟩ := hu
  refine ⟨_, rfl, rfl, false, rfl, iteF ?_⟩
  refine ⟨_, rfl, c, _, 0, .str "collision", rfl, rfl, hc, atI_nat (j := 0) rfl, rfl, false, congrArg (fun z => V.bl (!z)) (decide_eq_true rfl), iteF ?_⟩
  refine ⟨_, rfl, 1, rfl, c, _, rfl, hc, fun H1 e s1 he => ?_⟩
  have ec : cutV [V.str "collision", x, y] (some 1) none = [x, y] := by
    unfold cutV
    rw [show HT.sIx [V.str "collision", x, y].length 0 (some 1) = 1 from HT.sIx_nat 3 0 1, HT.sIx_none]
    rfl
  rw [ec] at he
  refine ⟨e, _, rfl, he, rfl, _, _, rfl, _, _, rfl, rfl, ?_⟩
  refine ⟨_, rfl, x, a, rfl, hx.mono s1, oka, fun H2 s2 => ⟨_, rfl, iteF ?_⟩⟩
  refine ⟨_, rfl, y, b, rfl, (hy.mono s1).mono s2, okb, fun H3 s3 => ⟨_, rfl, iteF ?_⟩⟩
  have s13 := (s1.trans s2).trans s3
  have hx3 := hx.mono s13
  have hy3 := hy.mono s13
  refine ⟨_, rfl, _, rfl, InD a, InD b, hx3.dp, hy3.dp, in_shaped a, in_shaped b, false, congrArg V.bl ((in_eqv a b).trans (decide_eq_false hne)), iteF ?_⟩
  obtain ⟨a1, a2, rfl, h1, h2⟩ := hx3
  obtain ⟨b1, b2, rfl, g1, g2⟩ := hy3
  obtain ⟨dxh, hh3⟩ := hh.mono s13
  refine ⟨_, rfl, h, dxh, _, rfl, hh3, rfl, _, rfl, a1, _, 0, .int a.1, rfl, rfl, h1, atI_nat (j := 0) rfl, _, rfl, a1, _, 1, .ref a2, rfl, rfl, h1, atI_nat (j := 1) rfl, h, a2, v, a.1, a.2, rfl, ⟨dxh, hh3⟩, wo, h2, oka.len, (fun z hz => (oka.nn z hz).2), fun H4 s4 => ?_⟩
  refine ⟨_, rfl, h, dxh, _, rfl, s4 _ _ hh3, rfl, _, rfl, b1, _, 0, .int b.1, rfl, rfl, s4.tup g1, atI_nat (j := 0) rfl, _, rfl, b1, _, 1, .ref b2, rfl, rfl, s4.tup g1, atI_nat (j := 1) rfl, h, b2, v, b.1, b.2, rfl, ⟨dxh, s4 _ _ hh3⟩, wo, s4.tup g2, okb.len, (fun z hz => (okb.nn z hz).2), fun H5 s5 => ⟨rfl, ?_⟩⟩
  have e : decide (V.int (dig v a.1 a.2) = V.int (dig v b.1 b.2)) = true := decide_eq_true (congrArg V.int hdg)
  rw [e]
  exact q H5 ((s13.trans s4).trans s5)
theorem scWrong : FnScope ["hasher", "pairs", "depth", "told", "count", "digest", "seen", "parts", "true", "left", "right", "found"] ["hasher", "pairs", "depth", "told"] (defScope sWrong) := ⟨rfl, rfl, rfl, by decide +kernel, rfl, by decide +kernel, by decide +kernel⟩
theorem ok_wrong {f : Addr} {fd : FuncData} (n : Nat) (F : Fun K "first_wrong" "first_wrong" sWrong f fd) (T : Txt K mg CH CR CT) (cP : C8.Cal P w K mg base 2 "parted" spParted []) (cI : C8.Cal P w K mg base (2 * n + 3) "node_input" (spNodeIn K CH n) []) (cC : C8.Cal P w K mg base 1 "collision" (spColl K) [])
    (cW : C8.Cal P w K mg base (n + 67) "first_wrong" (spWrong1 K CH n) []) : FnOk P w K mg base CX0 (n + 68) f fd ["hasher", "pairs", "depth", "told"] (spWrong K CH n) := by
  refine F.ok scWrong (fun vs H Q E h => ?_) (fun cdv A outer s H vs Q E hr h => ?_)
  · obtain ⟨h, p, v, d, low, high, least, kvs, t, tv, rfl, _⟩ := h
    rfl
  obtain ⟨h, p, v, d, low, high, least, kvs, t, tv, rfl, hd, hh, wo, hp, g, hl, hn, ok, ht, q⟩ := h
  refine ⟨_, (pss_cons ((ps_asg (pv 3) (pg_tup rfl (pgs_cons ((pg_name (i := 4) scWrong.nd rfl (Or.inl rfl))) (pgs_cons ((pg_name (i := 5) scWrong.nd rfl (Or.inl rfl))) (pgs_cons ((pg_name (i := 6) scWrong.nd rfl (Or.inl rfl))) (pgs_cons ((pg_name (i := 7) scWrong.nd rfl (Or.inl rfl))) pgs_nil))))))) (pss_cons ((ps_if ((pt_cmpR op_isN (pv 6) (pe_non) (nomark _))) (pss_one ((ps_ret (pe_non)))) pss_nil)) (pss_cons ((ps_set (i := 8) scWrong.nd rfl (Or.inl rfl) ((C8.pe_c cI hr (by first | exact Nat.le_refl _ | decide | omega) (by rfl) (pa_cons (pv 0) (pa_cons (pv 1) (pa_cons (pv 2) pa_nil))))))) (pss_cons ((ps_if ((pt_cmpR (op_neD hr.units) (pv 6) (pv 8) (nomark _))) (pss_one ((ps_ret ((C8.pe_c cC hr (by first | exact Nat.le_refl _ | decide | omega) (by rfl) (pa_cons (pv 8) (pa_cons (pv 6) pa_nil))))))) pss_nil)) (pss_cons ((ps_if ((pt_cmpR op_eq ((pe_callB call_len_seq (by rfl) T.len PySem.boot_len (pa_cons (pv 7) pa_nil))) (pe_int) (nomark _))) (pss_one ((ps_ret (pe_non)))) pss_nil)) (pss_cons ((ps_asg ((C8.pe_c cP hr (by first | exact Nat.le_refl _ | decide | omega) (by rfl) (pa_cons (pv 1) (pa_cons (pv 2) pa_nil)))) (pg_tup rfl (pgs_cons ((pg_name (i := 9) scWrong.nd rfl (Or.inl rfl))) (pgs_cons ((pg_name (i := 10) scWrong.nd rfl (Or.inl rfl))) pgs_nil))))) (pss_cons ((ps_set (i := 11) scWrong.nd rfl (Or.inl rfl) ((C8.pe_c cW hr (by first | exact Nat.le_refl _ | decide | omega) (by rfl) (pa_cons (pv 0) (pa_cons (pv 9) (pa_cons ((pe_op op_add (pv 2) (pe_int))) (pa_cons ((pe_ix ix_tup (pv 7) (pe_int) (fun _ _ => rfl))) pa_nil)))))))) (pss_cons ((ps_if ((pt_cmpR op_notN (pv 11) (pe_non) (nomark _))) (pss_one ((ps_ret (pv 11)))) pss_nil)) (pss_one ((ps_ret ((C8.pe_c cW hr (by first | exact Nat.le_refl _ | decide | omega) (by rfl) (pa_cons (pv 0) (pa_cons (pv 10) (pa_cons ((pe_op op_add (pv 2) (pe_int))) (pa_cons ((pe_ix ix_tup (pv 7) (pe_int) (fun _ _ => rfl))) pa_nil))))))))))))))))), ?_⟩
  -- from a told node with an input on
  have differs : ∀ {x : V} {b : In} {H1 : Hp} {u : V}, Same H H1 → InAt K H x b → InAt K H1 u (nodeIn v n kvs) → b ≠ nodeIn v n kvs → fw v n kvs t = some (nodeIn v n kvs, b) → spColl K ([u, x] ++ []) H1 Q (fun _ _ _ => False) := by
    intro x b H1 u s1 hx hu _ hf
    refine ⟨u, x, nodeIn v n kvs, b, rfl, hu, hx.mono s1, fun H2 z s2 hz => q H2 z (s1.trans s2) ?_⟩
    rw [hf]
    exact hz
  cases t with
  | hid c d =>
    obtain ⟨a, qq, rfl, h1, h2⟩ := ht
    refine ⟨_, rfl, a, _, rfl, h1, rfl, _, _, rfl, _, _, rfl, _, _, rfl, _, _, rfl, rfl, ?_⟩
    refine ⟨_, rfl, rfl, true, rfl, iteT ?_⟩
    refine q H .non (Same.refl H) ?_
    cases n <;> rfl
  | emp =>
    obtain ⟨a, x, qq, rfl, h1, hx, h2⟩ := ht
    refine ⟨_, rfl, a, _, rfl, h1, rfl, _, _, rfl, _, _, rfl, _, _, rfl, _, _, rfl, rfl, ?_⟩
    have hxn : decide (x = V.non) = false := by obtain ⟨_, _, rfl, _⟩ := hx; rfl
    refine ⟨_, rfl, rfl, false, congrArg V.bl hxn, iteF ?_⟩
    refine ⟨_, rfl, _, rfl, _, rfl, h, p, v, d, least, kvs, rfl, hd, hh, wo, hp, g, hl, hn, fun H1 u s1 hu => ?_⟩
    have ef : fw v n kvs .emp = if Of.T.inp v .emp ≠ nodeIn v n kvs then some (nodeIn v n kvs, Of.T.inp v .emp) else none := by cases n <;> rfl
    by_cases e : Of.T.inp v .emp = nodeIn v n kvs
    · refine ⟨_, rfl, _, rfl, _, _, (hx.mono s1).dp, hu.dp, in_shaped _, in_shaped _, false, congrArg (fun z => V.bl (!z)) ((in_eqv _ _).trans (decide_eq_true e)), iteF ?_⟩
      refine ⟨_, rfl, qq, _, rfl, .inr (s1.tup h2), rfl, true, rfl, iteT (q H1 .non s1 ?_)⟩
      rw [ef, if_neg (fun z => z e)]
      rfl
    · refine ⟨_, rfl, _, rfl, _, _, (hx.mono s1).dp, hu.dp, in_shaped _, in_shaped _, true, congrArg (fun z => V.bl (!z)) ((in_eqv _ _).trans (decide_eq_false e)), iteT ?_⟩
      exact ⟨_, rfl, _, rfl, differs s1 hx hu e (ef.trans (if_pos e))⟩
  | leaf y z =>
    obtain ⟨a, x, qq, rfl, h1, hx, h2⟩ := ht
    refine ⟨_, rfl, a, _, rfl, h1, rfl, _, _, rfl, _, _, rfl, _, _, rfl, _, _, rfl, rfl, ?_⟩
    have hxn : decide (x = V.non) = false := by obtain ⟨_, _, rfl, _⟩ := hx; rfl
    refine ⟨_, rfl, rfl, false, congrArg V.bl hxn, iteF ?_⟩
    refine ⟨_, rfl, _, rfl, _, rfl, h, p, v, d, least, kvs, rfl, hd, hh, wo, hp, g, hl, hn, fun H1 u s1 hu => ?_⟩
    have ef : fw v n kvs (.leaf y z) = if Of.T.inp v (.leaf y z) ≠ nodeIn v n kvs then some (nodeIn v n kvs, Of.T.inp v (.leaf y z)) else none := by cases n <;> rfl
    by_cases e : Of.T.inp v (.leaf y z) = nodeIn v n kvs
    · refine ⟨_, rfl, _, rfl, _, _, (hx.mono s1).dp, hu.dp, in_shaped _, in_shaped _, false, congrArg (fun z => V.bl (!z)) ((in_eqv _ _).trans (decide_eq_true e)), iteF ?_⟩
      refine ⟨_, rfl, qq, _, rfl, .inr (s1.tup h2), rfl, true, rfl, iteT (q H1 .non s1 ?_)⟩
      rw [ef, if_neg (fun z => z e)]
      rfl
    · refine ⟨_, rfl, _, rfl, _, _, (hx.mono s1).dp, hu.dp, in_shaped _, in_shaped _, true, congrArg (fun z => V.bl (!z)) ((in_eqv _ _).trans (decide_eq_false e)), iteT ?_⟩
      exact ⟨_, rfl, _, rfl, differs s1 hx hu e (ef.trans (if_pos e))⟩
  | inn l r =>
    cases n with
    | zero => exact ok.elim
    | succ n =>
      obtain ⟨a, x, qq, vl, vr, rfl, h1, hx, h2, tl, tr⟩ := ht
      refine ⟨_, rfl, a, _, rfl, h1, rfl, _, _, rfl, _, _, rfl, _, _, rfl, _, _, rfl, rfl, ?_⟩
      have hxn : decide (x = V.non) = false := by obtain ⟨_, _, rfl, _⟩ := hx; rfl
      refine ⟨_, rfl, rfl, false, congrArg V.bl hxn, iteF ?_⟩
      refine ⟨_, rfl, _, rfl, _, rfl, h, p, v, d, least, kvs, rfl, hd, hh, wo, hp, g, hl, hn, fun H1 u s1 hu => ?_⟩
      by_cases e : Of.T.inp v (.inn l r) = nodeIn v (n + 1) kvs
      · refine ⟨_, rfl, _, rfl, _, _, (hx.mono s1).dp, hu.dp, in_shaped _, in_shaped _, false, congrArg (fun z => V.bl (!z)) ((in_eqv _ _).trans (decide_eq_true e)), iteF ?_⟩
        have ef : fw v (n + 1) kvs (.inn l r) = (match fw v n (lef n kvs) l with | some c => some c | none => fw v n (rig n kvs) r) := if_neg (fun z => z e)
        have e3 : (2 : Int) ^ (n + 1) = 2 ^ n * 2 := Int.pow_succ ..
        have p2n := pow_pos2 n
        have h21 := s1.tup h2
        refine ⟨_, rfl, qq, _, rfl, .inr h21, rfl, false, rfl, iteF ?_⟩
        refine ⟨_, rfl, _, rfl, n, p, d, kvs, rfl, (by omega), s1 _ _ hp, g.nd, g.len, fun H2 tt l2 r2 s2 htt hl2 hr2 => ?_⟩
        have s12 := s1.trans s2
        refine ⟨tt, _, rfl, SqT.of htt, rfl, _, _, rfl, _, _, rfl, rfl, ?_⟩
        refine ⟨_, rfl, _, rfl, _, rfl, _, _, rfl, rfl, _, rfl, qq, _, 0, vl, rfl, rfl, s2.tup h21, atI_nat (j := 0) rfl, n, rfl, h, l2, v, d + 1, low, high, least, lef n kvs, l, vl, rfl, (by omega), hh.mono s12, wo, hl2, g.left, (by omega), (by omega), ok.1, TolAt.mono s12 l tl, fun H3 z s3 hz => ?_⟩
        have s13 := s12.trans s3
        cases hf : fw v n (lef n kvs) l with
        | some c =>
          rw [hf] at hz
          have hzn : decide (z = V.non) = false := by obtain ⟨_, _, _, rfl, _⟩ := hz; rfl
          refine ⟨_, rfl, rfl, true, congrArg (fun z => V.bl (!z)) hzn, iteT ⟨_, rfl, q H3 z s13 ?_⟩⟩
          rw [ef, hf]
          exact hz
        | none =>
          rw [hf] at hz
          have hz : z = .non := hz
          subst hz
          refine ⟨_, rfl, rfl, false, rfl, iteF ?_⟩
          refine ⟨_, rfl, _, rfl, _, rfl, _, _, rfl, rfl, _, rfl, qq, _, 1, vr, rfl, rfl, (s2.trans s3).tup h21, atI_nat (j := 1) rfl, n, rfl, h, r2, v, d + 1, low, high, least + 2 ^ n, rig n kvs, r, vr, rfl, (by omega), hh.mono s13, wo, s3 _ _ hr2, g.right, (by omega), (by omega), ok.2, TolAt.mono s13 r tr, fun H4 z s4 hz => q H4 z (s13.trans s4) ?_⟩
          rw [ef, hf]
          exact hz
      · refine ⟨_, rfl, _, rfl, _, _, (hx.mono s1).dp, hu.dp, in_shaped _, in_shaped _, true, congrArg (fun z => V.bl (!z)) ((in_eqv _ _).trans (decide_eq_false e)), iteT ?_⟩
        exact ⟨_, rfl, _, rfl, differs s1 hx hu e (if_pos e)⟩
end
end Of

set_option Elab.async false
set_option linter.all false
set_option maxRecDepth 100000
set_option maxHeartbeats 4000000
namespace Of
open PySem L2
theorem seq_or {K : PySem.W.Frag} {H H' : Hp} {a : Addr} {xs : List V} (e : Same H H') (h : SqL K H a xs ∨ SqT K H a xs) : SqL K H' a xs ∨ SqT K H' a xs := h.elim (fun z => .inl (e.seq z)) (fun z => .inr (e.tup z))
section
variable {P : Program} {w : World} {K : PySem.W.Frag} {mg : Str → Option Value} {base : Heap} {CH CR CT : Addr}
theorem all_wrong {f : Addr} {fd : FuncData} (F : Fun K "first_wrong" "first_wrong" sWrong f fd) (b : Binds K fd ["hasher", "pairs", "depth", "told"] []) (m : mg "first_wrong" = some (.ref f)) (T : Txt K mg CH CR CT) (cP : C8.Cal P w K mg base 2 "parted" spParted [])
    (cI : ∀ n : Nat, C8.Cal P w K mg base (2 * n + 3) "node_input" (spNodeIn K CH n) []) (cC : C8.Cal P w K mg base 1 "collision" (spColl K) []) : ∀ n : Nat, C8.Cal P w K mg base (n + 68) "first_wrong" (spWrong K CH n) []
  | 0 => ⟨f, fd, _, [], ok_wrong 0 F T cP (cI 0) cC ⟨f, fd, _, [], never_ok (fun vs H Q E z => by obtain ⟨m, e, _⟩ := z; cases e), m, F.kp, b, .nil⟩, m, F.kp, b, .nil⟩
  | n + 1 => by
    obtain ⟨f', fd', ps, ds, ok, m', k, b', v'⟩ := all_wrong F b m T cP cI cC n
    exact ⟨f, fd, _, [], ok_wrong (n + 1) F T cP (cI (n + 1)) cC ⟨f', fd', ps, ds, ok.imp fun vs H Q E z => by
      obtain ⟨m, e, z⟩ := z
      obtain rfl : n = m := Nat.succ.inj e
      exact z, m', k, b', v'⟩, m, F.kp, b, .nil⟩
theorem scBreak : FnScope ["hasher", "pairs", "low", "high", "proof"] ["hasher", "pairs", "low", "high", "proof"] (defScope sBreak) := ⟨rfl, rfl, rfl, by decide +kernel, rfl, by decide +kernel, by decide +kernel⟩
theorem ok_break {f : Addr} {fd : FuncData} (F : Fun K "range_break" "range_break" sBreak f fd) (T : Txt K mg CH CR CT) (cC : C8.Cal P w K mg base 37 "range_check" (spCheck K CH) []) (cR : C8.Cal P w K mg base 69 "map_root" (spRoot CH) [])
    (cW : C8.Cal P w K mg base 100 "first_wrong" (spWrong K CH 32) []) (cM : C8.Mak P w K mg base 1 "Told" CT (spToldI K CT) []) (cN : C8.Met P w K mg base 35 CT "node" (spTNode K CH CT 32) []) : FnOk P w K mg base CX0 101 f fd ["hasher", "pairs", "low", "high", "proof"] (spBreak K CH) := by
  refine F.ok scBreak (fun vs H Q E h => ?_) (fun cdv A outer s H vs Q E hr h => ?_)
  · obtain ⟨h, p, pr, v, low, high, kvs, ws, rfl, _⟩ := h
    rfl
  obtain ⟨h, p, pr, v, low, high, kvs, ws, rfl, hh, wo, hp, g, hS, wd, q⟩ := h
  refine ⟨_, (pss_cons ((ps_if ((pt_cmpR op_isN ((C8.pe_c cC hr (by first | exact Nat.le_refl _ | decide | omega) (by rfl) (pa_cons (pv 0) (pa_cons ((C8.pe_c cR hr (by first | exact Nat.le_refl _ | decide | omega) (by rfl) (pa_cons (pv 0) (pa_cons (pv 1) pa_nil)))) (pa_cons (pv 2) (pa_cons (pv 3) (pa_cons (pv 4) pa_nil))))))) (pe_non) (nomark _))) (pss_one ((ps_ret (pe_non)))) pss_nil)) (pss_one ((ps_ret ((C8.pe_c cW hr (by first | exact Nat.le_refl _ | decide | omega) (by rfl) (pa_cons (pv 0) (pa_cons (pv 1) (pa_cons (pe_int) (pa_cons ((C8.pe_mt0 cN hr (by first | exact Nat.le_refl _ | decide | omega) ((C8.pe_mk cM hr (by first | exact Nat.le_refl _ | decide | omega) (by rfl) (pa_cons (pv 0) (pa_cons (pv 4) pa_nil)))))) pa_nil)))))))))), ?_⟩
  refine ⟨_, rfl, _, rfl, _, rfl, h, p, v, kvs, rfl, hh, wo, hp, g, fun H1 s1 => ?_⟩
  refine ⟨_, rfl, _, rfl, _, rfl, h, pr, v, _, low, high, ws, rfl, hh.mono s1, wo, seq_or s1 hS, wd, fun hacc H2 s2 => ?_, fun t hacc H2 d s2 _ _ => ?_⟩
  · refine ⟨rfl, true, rfl, iteT (q H2 .non (s1.trans s2) ?_)⟩
    unfold brk
    rw [hacc]
    rfl
  · refine ⟨rfl, false, rfl, iteF ?_⟩
    have s12 := s1.trans s2
    obtain ⟨ok, ew, _⟩ := acc_some hacc
    refine ⟨_, rfl, _, rfl, _, rfl, _, rfl, fun x dx nx ndx nex => ?_⟩
    have sN : Same H2 (upd (upd H2 dx (.own x)) x (.ins CT dx [])) := (same_new ndx _).mut nx
    refine ⟨x, dx, h, pr, ws.map V.int, rfl, upd_same, seq_or (s12.trans sN) hS, fun H3 tp kp htp hx3 => ⟨rfl, ?_⟩⟩
    have s23 : Same H2 H3 := Same.made nx ndx fun b o e hb => kp b o hb e
    have s03 := s12.trans s23
    have nx0 : H x = none := s12.free nx
    refine ⟨x, dx, _, rfl, hx3, lt_no (by decide +kernel), x, dx, h, tp, 0, ws, v, low, high, 0, t, [], rfl, hx3, hh.mono s03, wo, htp, wd, ok, Int.le_refl 0, (by rw [List.drop_zero, List.append_nil]; exact ew), fun H4 u k' kp4 _ _ tol => ?_⟩
    have s04 : Same H H4 := fun b o e => kp4 b o (ne_of_none e nx0) (s03 b o e)
    refine ⟨h, p, v, 0, low, high, 0, kvs, t, u, rfl, rfl, hh.mono s04, wo, s04 _ _ hp, g, by decide, by decide, ok, tol, fun H5 z s5 hz => q H5 z (s04.trans s5) ?_⟩
    unfold brk
    rw [hacc]
    exact hz
end
end Of

set_option Elab.async false
set_option linter.all false
set_option maxRecDepth 100000
set_option maxHeartbeats 4000000
namespace Of
open PySem L2
/-! ### the law's own reckoning: digests, nodes -/
theorem paired_snoc {α β : Type} {F : α → β → Prop} : ∀ {l : List α} {m : List β} {a : α} {b : β}, Paired F l m → F a b → Paired F (l ++ [a]) (m ++ [b])
  | _, _, _, _, .nil, h => .cons h .nil
  | _, _, _, _, .cons r t, h => .cons r (paired_snoc t h)
theorem merge_nd : ∀ (es pre : Pairs), ((pre ++ es).map (·.1)).Nodup → mergeK (pre.map toK) (es.map toK) = (pre ++ es).map toK
  | [], pre, _ => by rw [List.append_nil]; rfl
  | p :: r, pre, h => by
    have hp : p.1 ∉ pre.map (·.1) := by
      rw [List.map_append] at h
      intro m
      exact (List.nodup_append.mp h).2.2 _ m _ (List.mem_cons_self ..) rfl
    show mergeK (putK (pre.map toK) (Sum.inl p.1 : Key) (.int p.2)) (r.map toK) = _
    rw [put_new hp, merge_nd r (pre ++ [p]) (by rw [List.append_assoc]; exact h), List.append_assoc]
    rfl
/-- [(k, d[k]) for k in d if ..], d locked meanwhile -/
theorem lcd {K : PySem.W.Frag} {ip ik : Nat} {vs : List Nat} {tt : TT} {σ : L2.St} {H : Hp} {Q : VK} {p : Addr} {kvs : Pairs} (f : Int × Int → Bool) (h0 : σ[ip]? = some (some (.ref p))) (hP : H p = some (dk kvs)) (nd : (kvs.map (·.1)).Nodup) (h8 : kvs.length ≤ 8)
    (hw : ∀ x, wipe ((wipe σ vs).set ik (some x)) vs = wipe σ vs) (hp : ∀ x, ((wipe σ vs).set ik (some x))[ip]? = some (some (.ref p))) (hk : ∀ x, ((wipe σ vs).set ik (some x))[ik]? = some (some x))
    (htt : ∀ e ∈ kvs, ∀ (H2 : Hp) (R : Bool → Hp → Prop), (∀ b o, b ≠ p → H b = some o → H2 b = some o) → R (f e) H2 → tt ((wipe σ vs).set ik (some (.int e.1))) H2 R)
    (q : ∀ (H' : Hp) (D : Addr) (ps : List Addr), Same H H' → H' D = some (.lst (ps.map V.ref)) → Paired (fun a (kv : Key × V) => SqT K H' a [kV kv.1, kv.2]) ps ((kvs.filter f).map toK) → Q (.ref D) H') :
    tLockE (tLc (iKeys (tVar ip)) (gName ik) tt (tTup (tCons (tVar ik) (tCons (tDGet (tVar ip) (tVar ik)) tNil))) vs) σ H Q := by
  refine ⟨p, dk kvs, hP, trivial, fun od => ?_⟩
  refine ⟨.ref p, h0, p, od, rfl, .inl ⟨kvs.map toK, upd_same, fun D nD => ?_⟩⟩
  have nDp : D ≠ p := fun e => by rw [e, upd_same] at nD; cases nD
  have nD0 : H D = none := by rw [upd_ne nDp] at nD; exact nD
  refine lc_it (walk_keys (d := p) (o := od) (kvs := kvs.map toK)) (fun i H2 => (∀ b o, b ≠ p → H b = some o → H2 b = some o) ∧ H2 p = some (.frz od (dk kvs)) ∧ ∃ ps : List Addr, H2 D = some (.lst (ps.map V.ref)) ∧
    Paired (fun a (kv : Key × V) => H2 a = some (.tup [kV kv.1, kv.2])) ps (((kvs.take i).filter f).map toK)) ?_ ?_ ?_ ?_
  · refine ⟨fun b o hb e => ?_, ?_, [], upd_same, .nil⟩
    · rw [upd_ne (ne_of_none e nD0), upd_ne hb]
      exact e
    · rw [upd_ne nDp.symm]
      exact upd_same
  · rintro i H2 _ ⟨_, z, _⟩
    exact z
  · rintro i x H2 H3 hi ⟨sm, hp3, ps, hD, pr⟩ ⟨rfl, k, v, hkv, rfl⟩
    obtain ⟨e, he, rfl, rfl⟩ := get_toK hkv
    have hplen : ps.length ≤ 8 := by
      rw [Paired.length pr]
      exact fil_le h8
    refine ⟨hw _, htt e (List.mem_of_getElem? he) H3 _ sm ?_⟩
    cases hf : f e with
    | false =>
      refine iteF ⟨sm, hp3, ps, hD, ?_⟩
      rw [fil_take he, hf]
      show Paired _ _ ((_ ++ []).map toK)
      rw [List.append_nil]
      exact pr
    | true =>
      refine iteT ⟨_, hk _, _, hp _, _, hk _, p, _, rfl, .inl ⟨kvs.map toK, Sum.inl e.1, .inr ⟨od, hp3⟩, rfl, (val_some nd (List.mem_of_getElem? he)).symm⟩, (by show 2 ≤ sizeLine; decide), fun t nt => ?_⟩
      have s1 := same_new nt (.tup [kV (Sum.inl e.1), V.int e.2])
      refine ⟨_, s1 _ _ hD, (by rw [List.length_map]; exact small1000 (by omega)), fun b o hb e' => ?_, ?_, ps ++ [t], ?_, ?_⟩
      · rw [upd_ne (ne_of_none e' nD0)]
        exact s1 _ _ (sm b o hb e')
      · rw [upd_ne nDp.symm]
        exact s1 _ _ hp3
      · rw [upd_same, List.map_append]
        rfl
      · rw [fil_take he, hf, List.map_append]
        have ntD : ∀ a xs, (upd H3 t (.tup [kV (Sum.inl e.1), V.int e.2])) a = some (.tup xs) → a ≠ D := fun a xs z => ne_of z (s1 _ _ hD) (by intro y; cases y)
        refine paired_snoc (Paired.mapP pr fun a kv z => ?_) ?_
        · have z1 := s1 _ _ z
          rw [upd_ne (ntD _ _ z1)]
          exact z1
        · rw [upd_ne (ntD _ _ upd_same)]
          exact upd_same
  · rintro H2 ⟨sm, hp3, ps, hD, pr⟩
    rw [List.length_map, List.take_length] at pr
    refine ⟨hp3, q _ D ps (fun b o e => ?_) (by rw [upd_ne nDp]; exact hD) (Paired.mapP pr fun a kv z => ?_)⟩
    · by_cases hb : b = p
      · subst hb
        rw [upd_same, ← hP]
        exact e
      · rw [upd_ne hb]
        exact sm b o hb e
    · refine SqT.of ?_
      rw [upd_ne (ne_of z hp3 (by intro y; cases y))]
      exact z
def spLDig (K : PySem.W.Frag) : Sp := fun vs H Q _ => ∃ (a : Addr) (v t : Int) (ns : List Int), vs = [.int v, .int t, .ref a] ∧ Wok v ∧ SqT K H a (ns.map V.int) ∧ ns.length ≤ 4 ∧ (∀ n ∈ ns, n < 2 ^ 100) ∧ ∀ H', Same H H' → Q (.int (dig v t ns)) H'
section
variable {P : Program} {w : World} {K : PySem.W.Frag} {mg : Str → Option Value} {base : Heap} {CH CR CT : Addr}
theorem scSide : FnScope ["_law_key_here", "_law_depth"] ["_law_key_here", "_law_depth"] (defScope sSide) := ⟨rfl, rfl, rfl, by decide +kernel, rfl, by decide +kernel, by decide +kernel⟩
theorem ok_side {f : Addr} {fd : FuncData} (F : Fun K "_law_side" "_law_side" sSide f fd) (T : Txt K mg CH CR CT) : FnOk P w K mg base CX0 1 f fd ["_law_key_here", "_law_depth"] spBit := by
  refine F.ok scSide (fun vs H Q E h => ?_) (fun cdv A outer s H vs Q E hr h => ?_)
  · obtain ⟨n, k, d, rfl, _⟩ := h
    rfl
  obtain ⟨n, k, d, rfl, rfl, q⟩ := h
  refine ⟨_, pss_one (ps_ret ((pe_op op_and ((pe_op op_shr (pv 0) ((pe_op op_sub (pe_int) (pv 1))))) (pe_int)))), ?_⟩
  refine ⟨_, rfl, _, rfl, _, _, rfl, rfl, _, _, rfl, rfl, (by omega), _, _, rfl, rfl, ?_⟩
  have e : (31 - (31 - (n : Int))).toNat = n := by omega
  have e2 : Q (.int (Builtin.bitAnd (k / 2 ^ (31 - (31 - (n : Int))).toNat) 1)) H := by
    rw [e, PyProof.Rows.bitAnd_m1]
    exact q
  exact e2
theorem scLDig : FnScope ["_law_width", "_law_tag", "_law_numbers", "_law_limbs", "_law_number", "_law_digits", "_law_mask", "_law_first", "_law_second", "_law_limb"] ["_law_width", "_law_tag", "_law_numbers"] (defScope sLDig) := ⟨rfl, rfl, rfl, by decide +kernel, rfl, by decide +kernel, by decide +kernel⟩
theorem ok_lDig {f : Addr} {fd : FuncData} (F : Fun K "_law_digest" "_law_digest" sLDig f fd) (T : Txt K mg CH CR CT) : FnOk P w K mg base CX0 1 f fd ["_law_width", "_law_tag", "_law_numbers"] (spLDig K) := by
  refine F.ok scLDig (fun vs H Q E h => ?_) (fun cdv A outer s H vs Q E hr h => ?_)
  · obtain ⟨a, v, t, ns, rfl, _⟩ := h
    rfl
  obtain ⟨a, v, t, ns, rfl, ⟨w0, w8⟩, hS, h4, hb, q⟩ := h
  refine ⟨_, (pss_cons ((ps_set (i := 3) scLDig.nd rfl (Or.inl rfl) ((pe_lst (pa_cons (pv 1) (pa_cons ((pe_callB call_len_seq (by rfl) T.len PySem.boot_len (pa_cons (pv 2) pa_nil))) pa_nil)))))) (pss_cons ((ps_for PassesOwn.never rfl (pi_tup (pv 2)) ((pg_name (i := 4) scLDig.nd rfl (Or.inl rfl))) (pss_cons ((ps_set (i := 5) scLDig.nd rfl (Or.inl rfl) ((pe_lst pa_nil)))) (pss_cons (ps_while PassesOwn.never (pt_cmpR op_gt (pv 4) (pe_int) (nomark _)) (pss_cons ((ps_expr (pe_bm PySem.F.plainAttrs_list PySem.F.slot_list_append PySem.F.type_list_append mt_append (pv 5) (pa_cons ((pe_op op_and (pv 4) (pe_int))) pa_nil)))) (pss_one ((ps_set (i := 4) scLDig.nd rfl (Or.inl rfl) ((pe_op op_shr (pv 4) (pe_int)))))))) (pss_one ((ps_set (i := 3) scLDig.nd rfl (Or.inl rfl) ((pe_op op_cat ((pe_op op_cat (pv 3) ((pe_lst (pa_cons ((pe_callB call_len_seq (by rfl) T.len PySem.boot_len (pa_cons (pv 5) pa_nil))) pa_nil))))) (pv 5)))))))))) (pss_cons ((ps_set (i := 6) scLDig.nd rfl (Or.inl rfl) ((pe_op op_sub ((pe_op op_shl (pe_int) (pe_int))) (pe_int))))) (pss_cons ((ps_set (i := 7) scLDig.nd rfl (Or.inl rfl) (pe_int))) (pss_cons ((ps_set (i := 8) scLDig.nd rfl (Or.inl rfl) (pe_int))) (pss_cons ((ps_for PassesOwn.never rfl (pi_list (pe_op op_cat (pv 3) ((pe_lst (pa_cons (pv 0) (pa_cons (pv 0) pa_nil)))))) ((pg_name (i := 9) scLDig.nd rfl (Or.inl rfl))) (pss_cons ((ps_set (i := 7) scLDig.nd rfl (Or.inl rfl) ((pe_op op_and ((pe_op op_mul ((pe_op op_xor (pv 7) (pv 9))) (pe_int))) (pv 6))))) (pss_cons ((ps_set (i := 7) scLDig.nd rfl (Or.inl rfl) ((pe_op op_xor (pv 7) ((pe_op op_shr (pv 7) (pe_int))))))) (pss_cons ((ps_set (i := 8) scLDig.nd rfl (Or.inl rfl) ((pe_op op_and ((pe_op op_mul ((pe_op op_add (pv 8) (pv 7))) (pe_int))) (pv 6))))) (pss_cons ((ps_set (i := 8) scLDig.nd rfl (Or.inl rfl) ((pe_op op_xor (pv 8) ((pe_op op_shr (pv 8) (pe_int))))))) (pss_one ((ps_set (i := 7) scLDig.nd rfl (Or.inl rfl) ((pe_op op_and ((pe_op op_add (pv 7) (pv 8))) (pv 6)))))))))))) (pss_one ((ps_ret ((pe_op op_shr ((pe_op op_add ((pe_op op_shl (pv 7) (pe_int))) (pv 8))) ((pe_op op_sub (pe_int) (pv 0)))))))))))))), ?_⟩
  refine ⟨_, rfl, _, rfl, a, _, rfl, .inr hS, (by show 2 ≤ sizeLine; decide), fun l nl => ?_⟩
  have s1 : Same H (upd H l (.lst [.int t, .int ((ns.map V.int).length : Int)])) := same_new nl _
  refine ⟨_, rfl, a, rfl, ⟨_, s1.tup hS⟩, for_tup (K := K) (a := a) (xs := ns.map V.int) (fun i σ H2 => ∃ (l : Addr) (v4 v5 : Option V), σ = [some (.int v), some (.int t), some (.ref a), some (.ref l), v4, v5, none, none, none, none] ∧ Same H H2 ∧ H2 l = some (.lst ((t :: (ns.length : Int) :: (ns.take i).flatMap limb1).map V.int))) ?_ ?_ ?_ ?_⟩
  · refine ⟨l, none, none, rfl, s1, ?_⟩
    rw [upd_same, List.length_map]
    rfl
  · rintro i σ H2 hi ⟨_, _, _, _, sm, _⟩
    exact sm.tup hS
  · rintro i x σ H2 hi ⟨l, v4, v5, rfl, sm, hl⟩
    obtain ⟨n, hn, rfl⟩ : ∃ n, ns[i]? = some n ∧ x = V.int n := by
      rw [List.getElem?_map] at hi
      cases e : ns[i]? with
      | none => rw [e] at hi; cases hi
      | some n => rw [e] at hi; exact ⟨n, rfl, (Option.some.inj hi).symm⟩
    have hlt : n < 2 ^ 100 := hb n (List.mem_of_getElem? hn)
    have hpl : (t :: (ns.length : Int) :: (ns.take i).flatMap limb1).length ≤ 22 := by
      rw [List.length_cons, List.length_cons]
      have := flat_len (ns.take i) fun m hm => hb m (List.mem_of_mem_take hm)
      have h2 : (ns.take i).length ≤ 4 := Nat.le_trans (take_le _ _) h4
      omega
    -- digits = []
    refine ⟨Nat.zero_le _, fun dl ndl => ?_⟩
    have s2 := same_new ndl (.lst [])
    have nd0 : H dl = none := sm.free ndl
    refine ⟨fun m σ H3 => ∃ (r : Int) (ds : List Int), m = r.toNat ∧ σ = [some (.int v), some (.int t), some (.ref a), some (.ref l), some (.int r), some (.ref dl), none, none, none, none] ∧ Same H2 H3 ∧ digs n = ds ++ digs r ∧ H3 dl = some (.lst (ds.map V.int)), ⟨_, n, [], rfl, rfl, s2, rfl, upd_same⟩, ?_⟩
    rintro m σ H3 ⟨r, ds, rfl, rfl, s3, hd, hl3⟩
    have hds : ds.length ≤ 4 := by
      have e : (2 : Int) ^ 100 ≤ 4294967296 ^ 4 := by decide
      have h5 := digs_len 4 n (by omega)
      rw [hd, List.length_append] at h5
      omega
    refine ⟨_, rfl, _, _, rfl, rfl, _, rfl, ite2 (fun c => ?_) (fun c => ?_)⟩
    · have c : 0 < r := of_decide_eq_true c
      refine ⟨fun σ' H' => ∃ m', m' < r.toNat ∧ _, fun _ _ z => z, ?_⟩
      refine ⟨_, rfl, .inl ⟨rfl, _, SqL.of hl3⟩, _, rfl, _, _, rfl, rfl, dl, _, _, rfl, rfl, hl3, (by rw [List.length_map]; exact small1000 (by omega)), ?_⟩
      refine ⟨_, rfl, _, _, rfl, rfl, (by show (0 : Int) ≤ 32; decide), ?_⟩
      refine ⟨(r / 4294967296).toNat, by omega, r / 4294967296, ds ++ [Builtin.bitAnd r 4294967295], rfl, rfl, s3.mut ndl, ?_, ?_⟩
      · rw [hd, digs_pos c, List.append_assoc]
        rfl
      · rw [upd_same, List.map_append]
        rfl
    · have c : ¬ 0 < r := of_decide_eq_false (Bool.eq_false_iff.mpr c)
      rw [digs_neg c, List.append_nil] at hd
      -- limbs = limbs + [len(digits)] + digits
      have hlen : ((ds.map V.int).length : Int) = (ds.length : Int) := by rw [List.length_map]
      refine ⟨_, rfl, _, rfl, dl, _, rfl, .inl (SqL.of hl3), (by show 1 ≤ sizeLine; decide), fun p1 n1 => ?_⟩
      have s4 := same_new n1 (.lst [V.int ((ds.map V.int).length : Int)])
      refine ⟨l, p1, _, _, rfl, rfl, (s3.trans s4) _ _ hl, upd_same, (by rw [List.length_map]; exact Nat.le_of_lt (small1000 (Nat.le_trans (Nat.add_le_add_right hpl 1) (by decide)))), fun p2 n2 => ?_⟩
      have s5 := same_new n2 (.lst ((t :: (ns.length : Int) :: (ns.take i).flatMap limb1).map V.int ++ [V.int ((ds.map V.int).length : Int)]))
      refine ⟨_, rfl, p2, dl, _, _, rfl, rfl, upd_same, (s4.trans s5) _ _ hl3, (by rw [List.length_append, List.length_map, List.length_map, List.length_singleton]; exact Nat.le_of_lt (small1000 (by omega))), fun p3 n3 => ?_⟩
      have s6 := same_new n3 (.lst ((t :: (ns.length : Int) :: (ns.take i).flatMap limb1).map V.int ++ [V.int ((ds.map V.int).length : Int)] ++ ds.map V.int))
      refine ⟨p3, some (.int r), some (.ref dl), rfl, (((sm.trans s3).trans s4).trans s5).trans s6, ?_⟩
      rw [upd_same, flat_take hn]
      show _ = some (HO.lst ((t :: (ns.length : Int) :: ((ns.take i).flatMap limb1 ++ ((digs n).length : Int) :: digs n)).map V.int))
      rw [hd, hlen]
      simp
  · rintro σ H2 ⟨l, v4, v5, rfl, sm, hl⟩
    rw [List.length_map, List.take_length] at hl
    -- mask, first, second
    refine ⟨_, _, rfl, rfl, ⟨by decide, by decide, by decide⟩, _, _, rfl, rfl, ?_⟩
    have ll := limbs_len h4 hb
    refine ⟨_, rfl, _, rfl, _, rfl, (by show 2 ≤ sizeLine; decide), fun p1 n1 => ?_⟩
    have s1 := same_new n1 (.lst [V.int v, V.int v])
    have hl2 : (t :: limbs ns).length ≤ 22 := Nat.succ_le_succ ll
    refine ⟨l, p1, _, _, rfl, rfl, s1 _ _ hl, upd_same, (by rw [List.length_map]; exact Nat.le_of_lt (small1000 (Nat.le_trans (Nat.add_le_add_right hl2 2) (by decide)))), fun p2 n2 => ?_⟩
    have s2 := same_new n2 (.lst ((t :: limbs ns).map V.int ++ [V.int v, V.int v]))
    have el : (t :: limbs ns).map V.int ++ [V.int v, V.int v] = (t :: (limbs ns ++ [v, v])).map V.int := by simp
    have hls2 : (upd (upd H2 p1 (.lst [V.int v, V.int v])) p2 (.lst ((t :: limbs ns).map V.int ++ [V.int v, V.int v]))) p2 = some (.lst ((t :: (limbs ns ++ [v, v])).map V.int)) := by rw [upd_same, el]
    generalize hls : t :: (limbs ns ++ [v, v]) = ls at hls2
    refine ⟨p2, rfl, ⟨_, SqL.of hls2⟩, for_list (K := K) (a := p2) (xs := ls.map V.int) (fun i σ H2 => ∃ v9, σ = [some (.int v), some (.int t), some (.ref a), some (.ref l), v4, v5, some (.int 18446744073709551615), some (.int ((ls.take i).foldl mix two0).1), some (.int ((ls.take i).foldl mix two0).2), v9] ∧ Same H H2 ∧ H2 p2 = some (.lst (ls.map V.int))) ?_ ?_ ?_ ?_⟩
    · exact ⟨none, rfl, (sm.trans s1).trans s2, hls2⟩
    · rintro i σ H2 hi ⟨_, _, _, z⟩
      exact SqL.of z
    · rintro i x σ H2 hi ⟨v9, rfl, sm, hl⟩
      obtain ⟨n, hn, rfl⟩ : ∃ n, ls[i]? = some n ∧ x = V.int n := by
        rw [List.getElem?_map] at hi
        cases e : ls[i]? with
        | none => rw [e] at hi; cases hi
        | some n => rw [e] at hi; exact ⟨n, rfl, (Option.some.inj hi).symm⟩
      have hf : (ls.take (i + 1)).foldl mix two0 = mix ((ls.take i).foldl mix two0) n := by
        rw [List.take_add_one, hn, List.foldl_append]
        rfl
      generalize (ls.take i).foldl mix two0 = z at hf
      refine ⟨_, rfl, _, rfl, _, _, rfl, rfl, _, _, rfl, rfl, .inr ⟨by decide, by decide⟩, _, rfl, _, _, rfl, rfl, ?_⟩
      refine ⟨_, rfl, _, rfl, _, _, rfl, rfl, (by show (0 : Int) ≤ 31; decide), _, _, rfl, rfl, ?_⟩
      refine ⟨_, rfl, _, rfl, _, _, rfl, rfl, _, _, rfl, rfl, .inr ⟨by decide, by decide⟩, _, rfl, _, _, rfl, rfl, ?_⟩
      refine ⟨_, rfl, _, rfl, _, _, rfl, rfl, (by show (0 : Int) ≤ 29; decide), _, _, rfl, rfl, ?_⟩
      refine ⟨_, rfl, _, rfl, _, _, rfl, rfl, _, rfl, _, _, rfl, rfl, ?_⟩
      refine ⟨some (.int n), ?_, sm, hl⟩
      rw [hf]
      rfl
    · rintro σ H2 ⟨v9, rfl, sm, hl⟩
      have e2 : ls.foldl mix two0 = words2 v t ns := by rw [← hls]; rfl
      have hw := words2_w v t ns
      rw [List.length_map, List.take_length, e2]
      obtain ⟨a0, a1, b0, b1⟩ := hw
      refine ⟨_, rfl, _, _, rfl, rfl, ⟨by decide, by decide, by omega⟩, _, rfl, _, _, rfl, rfl, _, rfl, _, _, rfl, rfl, _, _, rfl, rfl, (by omega), ?_⟩
      exact q H2 sm
end
end Of

set_option Elab.async false
set_option linter.all false
set_option maxRecDepth 100000
set_option maxHeartbeats 4000000
namespace Of
open PySem L2
def spLNode (K : PySem.W.Frag) (n : Nat) : Sp := fun vs H Q _ => ∃ (p : Addr) (v d least : Int) (kvs : Pairs), vs = [.int v, .ref p, .int d] ∧ d = 32 - (n : Int) ∧ Wok v ∧ H p = some (dk kvs) ∧
  Good n least kvs ∧ least + 2 ^ n ≤ 2 ^ 32 ∧ n ≤ 32 ∧ ∀ H' u, Same H H' → InAt K H' u (nodeIn v n kvs) → Q u H'
def spLNode1 (K : PySem.W.Frag) (n : Nat) : Sp := fun vs H Q E => ∃ m, n = m + 1 ∧ spLNode K m vs H Q E
def spOfNode : Sp := fun vs H Q _ => ∃ (p : Addr) (v : Int) (kvs : Pairs), vs = [.int v, .ref p, .int 0] ∧ Wok v ∧ H p = some (dk kvs) ∧ Good 32 0 kvs ∧ ∀ H', Same H H' → Q (.int (dg v (nodeIn v 32 kvs))) H'
theorem side01 (n : Nat) (k : Int) : (k / 2 ^ n % 2 = 1) ↔ ¬ k / 2 ^ n % 2 = 0 := by omega
section
variable {P : Program} {w : World} {K : PySem.W.Frag} {mg : Str → Option Value} {base : Heap} {CH CR CT : Addr}
abbrev nLNode : List Str := ["_law_width", "_law_pairs_here", "_law_depth", "_law_key_here", "_law_numbers", "_law_side_here", "_law_part", "_law_tag", "_law_inner"]
theorem scLNode : FnScope nLNode ["_law_width", "_law_pairs_here", "_law_depth"] (defScope sLNode) := ⟨rfl, rfl, rfl, by decide +kernel, rfl, by decide +kernel, by decide +kernel⟩
theorem ok_lNode {f : Addr} {fd : FuncData} (n : Nat) (F : Fun K "_law_node" "_law_node" sLNode f fd) (T : Txt K mg CH CR CT) (cS : C8.Cal P w K mg base 1 "_law_side" spBit []) (cD : C8.Cal P w K mg base 1 "_law_digest" (spLDig K) [])
    (cN : C8.Cal P w K mg base (n + 1) "_law_node" (spLNode1 K n) []) : FnOk P w K mg base CX0 (n + 2) f fd ["_law_width", "_law_pairs_here", "_law_depth"] (spLNode K n) := by
  refine F.ok scLNode (fun vs H Q E h => ?_) (fun cdv A outer s H vs Q E hr h => ?_)
  · obtain ⟨p, v, d, least, kvs, rfl, _⟩ := h
    rfl
  obtain ⟨p, v, d, least, kvs, rfl, hd, wo, hp, g, hl, hn, q⟩ := h
  have hu := hu_of hr
  refine ⟨_, (pss_cons ((ps_if ((pt_cmpR op_eq ((pe_callB call_lenD (by rfl) T.len PySem.boot_len (pa_cons (pv 1) pa_nil))) (pe_int) (nomark _))) (pss_one ((ps_ret ((pe_tup (pa_cons (pe_int) (pa_cons ((pe_tup pa_nil)) pa_nil))))))) pss_nil)) (pss_cons ((ps_if ((pt_cmpR op_eq ((pe_callB call_lenD (by rfl) T.len PySem.boot_len (pa_cons (pv 1) pa_nil))) (pe_int) (nomark _))) (pss_cons ((ps_set (i := 3) scLNode.nd rfl (Or.inl rfl) ((pe_callB (cr_minK rfl) (by rfl) T.min (by decide +kernel) (pa_cons (pv 1) pa_nil))))) (pss_one ((ps_ret ((pe_tup (pa_cons (pe_int) (pa_cons ((pe_tup (pa_cons (pv 3) (pa_cons (pe_dget hu (pv 1) (pv 3) (fun _ _ => rfl)) pa_nil)))) pa_nil)))))))) pss_nil)) (pss_cons ((ps_set (i := 4) scLNode.nd rfl (Or.inl rfl) ((pe_lst pa_nil)))) (pss_cons ((ps_for PassesOwn.never rfl (pi_list (pe_lst (pa_cons (pe_int) (pa_cons (pe_int) pa_nil)))) ((pg_name (i := 5) scLNode.nd rfl (Or.inr rfl))) (pss_cons ((ps_set (i := 6) scLNode.nd rfl (Or.inl rfl) ((pe_callTy (call_dictP rfl) (by rfl) T.dict (by decide +kernel) (pa_cons (pe_lock (pe_lc (own := [("_law_key_here", 3)]) (g := gName 3) rfl scLNode.nd (pi_keys (pv 1)) (blkOk_by (N := nLNode) (sc := defScope sLNode) (by decide +kernel)) (fun _ _ _ _ _ => (pg_name (i := 3) scLNode.nd rfl (Or.inl rfl)))
        (fun _ _ _ _ _ => pts_one (pt_cmpR op_eq ((C8.pe_c cS hr (by first | exact Nat.le_refl _ | decide | omega) (by rfl) (pa_cons (pv 3) (pa_cons (pv 2) pa_nil)))) (pv 5) (nomark _))) (fun _ _ _ _ _ => (pe_tup (pa_cons (pv 3) (pa_cons (pe_dget hu (pv 1) (pv 3) (fun _ _ => rfl)) pa_nil)))))) pa_nil))))) (pss_cons ((ps_asg ((C8.pe_c cN hr (by first | exact Nat.le_refl _ | decide | omega) (by rfl) (pa_cons (pv 0) (pa_cons (pv 6) (pa_cons ((pe_op op_add (pv 2) (pe_int))) pa_nil))))) (pg_tup rfl (pgs_cons ((pg_name (i := 7) scLNode.nd rfl (Or.inl rfl))) (pgs_cons ((pg_name (i := 8) scLNode.nd rfl (Or.inl rfl))) pgs_nil))))) (pss_one ((ps_set (i := 4) scLNode.nd rfl (Or.inl rfl) ((pe_op op_cat (pv 4) ((pe_lst (pa_cons ((pe_callB call_lenD (by rfl) T.len PySem.boot_len (pa_cons (pv 6) pa_nil))) (pa_cons ((C8.pe_c cD hr (by first | exact Nat.le_refl _ | decide | omega) (by rfl) (pa_cons (pv 0) (pa_cons (pv 7) (pa_cons (pv 8) pa_nil))))) pa_nil))))))))))))) (pss_one ((ps_ret ((pe_tup (pa_cons (pe_int) (pa_cons ((pe_callTy call_tuple_any (by rfl) T.tuple (by decide +kernel) (pa_cons (pv 4) pa_nil))) pa_nil))))))))))), ?_⟩
  have e2 : ∀ z : Int, decide (V.int ((kvs.map toK).length : Int) = V.int z) = true ↔ (kvs.length : Int) = z := fun z => by
    rw [List.length_map, decide_eq_true_iff]
    exact ⟨V.int.inj, congrArg V.int⟩
  refine ⟨_, rfl, p, _, rfl, hp, rfl, _, rfl, ite2 (fun c => ?_) (fun c => ?_)⟩
  · have c : (kvs.length : Int) = 0 := (e2 0).mp c
    have ek : kvs = [] := List.length_eq_zero_iff.mp (by omega)
    subst ek
    refine ⟨(by show 0 ≤ sizeLine; decide), fun b nb => ⟨(by show 2 ≤ sizeLine; decide), fun a na => ?_⟩⟩
    have z := in_made (K := K) (t := 2) (ns := []) nb na
    refine q _ _ z.2 ?_
    rw [node_small (show ([] : Pairs).length ≤ 1 from Nat.zero_le 1)]
    exact z.1
  have c0 : ¬ (kvs.length : Int) = 0 := fun z => c ((e2 0).mpr z)
  refine ⟨_, rfl, p, _, rfl, hp, rfl, _, rfl, ite2 (fun c => ?_) (fun c => ?_)⟩
  · have c : (kvs.length : Int) = 1 := (e2 1).mp c
    obtain ⟨e, rfl⟩ : ∃ e, kvs = [e] := List.length_eq_one_iff.mp (by omega)
    refine ⟨_, rfl, p, _, [e.1], rfl, hp, rfl, (by simp), fun m hm _ => ?_⟩
    have em : m = e.1 := List.mem_singleton.mp hm
    subst em
    have hv : some (V.int e.2) = valV ([e].map toK) (Sum.inl e.1 : Key) := (val_some g.nd (List.mem_singleton.mpr rfl)).symm
    refine ⟨_, rfl, _, rfl, _, rfl, p, _, rfl, .inl ⟨_, Sum.inl e.1, .inl hp, rfl, hv⟩, (by show 2 ≤ sizeLine; decide), fun b nb => ⟨(by show 2 ≤ sizeLine; decide), fun a na => ?_⟩⟩
    have z := in_made (K := K) (t := 2) (ns := [e.1, e.2]) nb na
    refine q _ _ z.2 ?_
    rw [node_small (show [e].length ≤ 1 from Nat.le_refl 1)]
    exact z.1
  have c1 : ¬ (kvs.length : Int) = 1 := fun z => c ((e2 1).mpr z)
  have hk : ¬ kvs.length ≤ 1 := by omega
  cases n with
  | zero => exact absurd g.zero hk
  | succ n =>
    have e3 : (2 : Int) ^ (n + 1) = 2 ^ n * 2 := Int.pow_succ ..
    have p2 := pow_pos2 n
    -- numbers = []; for side in [0, 1]
    refine ⟨Nat.zero_le _, fun l0 nl0 => ⟨(by show 2 ≤ sizeLine; decide), fun sl nsl => ⟨sl, rfl, ⟨_, SqL.of upd_same⟩, ?_⟩⟩⟩
    have s0 := same_new nl0 (.lst [])
    have s1 := same_new nsl (.lst [V.int 0, V.int 1])
    refine for_list (K := K) (a := sl) (xs := [V.int 0, V.int 1]) (fun i σ H2 => ∃ (l : Addr) (v3 v5 v6 v7 v8 : Option V) (ns : List Int), σ = [some (.int v), some (.ref p), some (.int d), v3, some (.ref l), v5, v6, v7, v8] ∧ Same H H2 ∧ H2 sl = some (.lst [V.int 0, V.int 1]) ∧ H2 l = some (.lst (ns.map V.int)) ∧
      ns = (([((lef n kvs).length : Int), dg v (nodeIn v n (lef n kvs)), ((rig n kvs).length : Int), dg v (nodeIn v n (rig n kvs))] : List Int)).take (2 * i)) ?_ ?_ ?_ ?_
    · exact ⟨l0, none, none, none, none, none, [], rfl, s0.trans s1, upd_same, s1 _ _ upd_same, rfl⟩
    · rintro i σ H2 hi ⟨_, _, _, _, _, _, _, _, _, z, _⟩
      exact SqL.of z
    · rintro i x σ H2 hi ⟨l, v3, v5, v6, v7, v8, ns, rfl, sm, hsl, hln, ens⟩
      -- one half: the filter, its least key
      obtain ⟨j, f, low, rfl, hf, gf, hlf, eres⟩ : ∃ (j : Int) (f : Int × Int → Bool) (low : Int), x = .int j ∧ (∀ e ∈ kvs, decide (V.int (e.1 / 2 ^ n % 2) = V.int j) = f e) ∧ Good n low (kvs.filter f) ∧ low + 2 ^ n ≤ 2 ^ 32 ∧
          ns ++ [((kvs.filter f).length : Int), dg v (nodeIn v n (kvs.filter f))] = (([((lef n kvs).length : Int), dg v (nodeIn v n (lef n kvs)), ((rig n kvs).length : Int), dg v (nodeIn v n (rig n kvs))] : List Int)).take (2 * (i + 1)) := by
        match i, hi, ens with
        | 0, hi, ens =>
          refine ⟨0, onL n, least, (Option.some.inj hi).symm, fun e _ => ?_, g.left, by omega, by rw [ens]; rfl⟩
          unfold onL
          by_cases z : e.1 / 2 ^ n % 2 = 0
          · rw [decide_eq_true z, decide_eq_true (congrArg V.int z)]
          · rw [decide_eq_false z, decide_eq_false fun y => z (V.int.inj y)]
        | 1, hi, ens =>
          refine ⟨1, fun e => !onL n e, least + 2 ^ n, (Option.some.inj hi).symm, fun e _ => ?_, g.right, by omega, by rw [ens]; rfl⟩
          show _ = !onL n e
          unfold onL
          by_cases z : e.1 / 2 ^ n % 2 = 0
          · rw [decide_eq_true z, decide_eq_false fun y => (side01 n e.1).mp (V.int.inj y) z]
            rfl
          · rw [decide_eq_false z, decide_eq_true (congrArg V.int ((side01 n e.1).mpr z))]
            rfl
        | i + 2, hi, _ => cases hi
      refine lcd (K := K) (p := p) (kvs := kvs) f rfl (sm _ _ hp) g.nd g.len (fun _ => rfl) (fun _ => rfl) (fun _ => rfl) (fun e he H3 R _ hR => ?_) (fun H3 D ps s3 hD pr => ?_)
      · exact ⟨_, rfl, _, rfl, n, e.1, d, rfl, (by omega), _, rfl, rfl, f e, congrArg V.bl (hf e he), hR⟩
      refine ⟨D, ps, _, rfl, SqL.of hD, pr, fun dd ndd => ?_⟩
      have hmg : mergeK [] ((kvs.filter f).map toK) = (kvs.filter f).map toK := merge_nd (kvs.filter f) [] gf.nd
      rw [hmg]
      have s4 := same_new ndd (dk (kvs.filter f))
      have s04 := (sm.trans s3).trans s4
      refine ⟨_, rfl, _, rfl, _, rfl, _, _, rfl, rfl, n, rfl, dd, v, d + 1, low, kvs.filter f, rfl, (by omega), wo, upd_same, gf, hlf, (by omega), fun H4 u s5 hin => ?_⟩
      have okn := node_ok gf (by omega) hlf wo.1 wo.2
      obtain ⟨a, b, rfl, h1, h2⟩ := hin
      refine ⟨a, _, rfl, h1, rfl, _, _, rfl, _, _, rfl, rfl, ?_⟩
      refine ⟨_, rfl, _, rfl, dd, _, rfl, s5 _ _ upd_same, _, rfl, _, rfl, _, rfl, b, v, _, _, rfl, wo, h2, okn.len, (fun z hz => (okn.nn z hz).2), fun H5 s6 => ⟨(by show 2 ≤ sizeLine; decide), fun p1 n1 => ?_⟩⟩
      have s7 := same_new n1 (.lst [V.int (((kvs.filter f).map toK).length : Int), V.int (dig v (nodeIn v n (kvs.filter f)).1 (nodeIn v n (kvs.filter f)).2)])
      have s37 := (((s3.trans s4).trans s5).trans s6).trans s7
      have hnl : ns.length ≤ 4 := by
        rw [ens, List.length_take]
        exact Nat.min_le_right _ _
      refine ⟨l, p1, _, _, rfl, rfl, s37 _ _ hln, upd_same, (by rw [List.length_map]; exact Nat.le_of_lt (small1000 (Nat.le_trans (Nat.add_le_add_right hnl 2) (by decide)))), fun p3 n3 => ?_⟩
      have s8 := same_new n3 (.lst (ns.map V.int ++ [V.int (((kvs.filter f).map toK).length : Int), V.int (dig v (nodeIn v n (kvs.filter f)).1 (nodeIn v n (kvs.filter f)).2)]))
      refine ⟨p3, _, _, _, _, _, ns ++ [((kvs.filter f).length : Int), dg v (nodeIn v n (kvs.filter f))], rfl, sm.trans (s37.trans s8), (s37.trans s8) _ _ hsl, ?_, eres⟩
      rw [upd_same, List.map_append, List.length_map]
      rfl
    · rintro σ H2 ⟨l, v3, v5, v6, v7, v8, ns, rfl, sm, hsl, hln, ens⟩
      refine ⟨_, rfl, l, _, rfl, .inl (SqL.of hln), fun H3 b s3 hb => ⟨(by show 2 ≤ sizeLine; decide), fun a na => ?_⟩⟩
      have s4 := same_new na (.tup [V.int 3, V.ref b])
      refine q _ _ ((sm.trans s3).trans s4) ⟨a, b, ?_, SqT.of ?_, ?_⟩
      · rfl
      · rw [upd_same, node_big hk]
      · rw [node_big hk]
        have e4 : ns = [((lef n kvs).length : Int), dg v (nodeIn v n (lef n kvs)), ((rig n kvs).length : Int), dg v (nodeIn v n (rig n kvs))] := ens
        rw [← e4]
        exact s4.tup hb
theorem all_lNode {f : Addr} {fd : FuncData} (F : Fun K "_law_node" "_law_node" sLNode f fd) (b : Binds K fd ["_law_width", "_law_pairs_here", "_law_depth"] []) (m : mg "_law_node" = some (.ref f)) (T : Txt K mg CH CR CT) (cS : C8.Cal P w K mg base 1 "_law_side" spBit [])
    (cD : C8.Cal P w K mg base 1 "_law_digest" (spLDig K) []) : ∀ n : Nat, C8.Cal P w K mg base (n + 2) "_law_node" (spLNode K n) []
  | 0 => ⟨f, fd, _, [], ok_lNode 0 F T cS cD ⟨f, fd, _, [], never_ok (fun vs H Q E z => by obtain ⟨m, e, _⟩ := z; cases e), m, F.kp, b, .nil⟩, m, F.kp, b, .nil⟩
  | n + 1 => by
    obtain ⟨f', fd', ps, ds, ok, m', k, b', v'⟩ := all_lNode F b m T cS cD n
    exact ⟨f, fd, _, [], ok_lNode (n + 1) F T cS cD ⟨f', fd', ps, ds, ok.imp fun vs H Q E z => by
      obtain ⟨m, e, z⟩ := z
      obtain rfl : n = m := Nat.succ.inj e
      exact z, m', k, b', v'⟩, m, F.kp, b, .nil⟩
theorem scOfNode : FnScope ["_law_width", "_law_pairs_here", "_law_depth", "_law_tag", "_law_numbers"] ["_law_width", "_law_pairs_here", "_law_depth"] (defScope sOfNode) := ⟨rfl, rfl, rfl, by decide +kernel, rfl, by decide +kernel, by decide +kernel⟩
theorem ok_ofNode {f : Addr} {fd : FuncData} (F : Fun K "_law_of_node" "_law_of_node" sOfNode f fd) (T : Txt K mg CH CR CT) (cN : C8.Cal P w K mg base 34 "_law_node" (spLNode K 32) []) (cD : C8.Cal P w K mg base 1 "_law_digest" (spLDig K) []) :
    FnOk P w K mg base CX0 35 f fd ["_law_width", "_law_pairs_here", "_law_depth"] spOfNode := by
  refine F.ok scOfNode (fun vs H Q E h => ?_) (fun cdv A outer s H vs Q E hr h => ?_)
  · obtain ⟨p, v, kvs, rfl, _⟩ := h
    rfl
  obtain ⟨p, v, kvs, rfl, wo, hp, g, q⟩ := h
  refine ⟨_, (pss_cons ((ps_asg ((C8.pe_c cN hr (by first | exact Nat.le_refl _ | decide | omega) (by rfl) (pa_cons (pv 0) (pa_cons (pv 1) (pa_cons (pv 2) pa_nil))))) (pg_tup rfl (pgs_cons ((pg_name (i := 3) scOfNode.nd rfl (Or.inl rfl))) (pgs_cons ((pg_name (i := 4) scOfNode.nd rfl (Or.inl rfl))) pgs_nil))))) (pss_one ((ps_ret ((C8.pe_c cD hr (by first | exact Nat.le_refl _ | decide | omega) (by rfl) (pa_cons (pv 0) (pa_cons (pv 3) (pa_cons (pv 4) pa_nil))))))))), ?_⟩
  have ok := node_ok g (by decide) (by decide) wo.1 wo.2
  refine ⟨_, rfl, _, rfl, _, rfl, p, v, 0, 0, kvs, rfl, rfl, wo, hp, g, by decide, by decide, fun H1 u s1 hi => ?_⟩
  obtain ⟨a, b, rfl, h1, h2⟩ := hi
  refine ⟨a, _, rfl, h1, rfl, _, _, rfl, _, _, rfl, rfl, ?_⟩
  exact ⟨_, rfl, _, rfl, _, rfl, b, v, _, _, rfl, wo, h2, ok.len, (fun x hx => (ok.nn x hx).2), fun H2 s2 => q H2 (s1.trans s2)⟩
end
end Of

set_option Elab.async false
set_option linter.all false
set_option maxRecDepth 100000
set_option maxHeartbeats 4000000
namespace Of
open PySem L2
/-- a list of pairs of inputs -/
def Prs (K : PySem.W.Frag) (H : Hp) (vs : List V) (ps : List (In × In)) : Prop := Paired (fun x (pr : In × In) => ∃ q y z, x = V.ref q ∧ SqT K H q [y, z] ∧ InAt K H y pr.1 ∧ InAt K H z pr.2) vs ps
theorem Prs.mono {K : PySem.W.Frag} {H H' : Hp} {vs : List V} {ps : List (In × In)} (h : Prs K H vs ps) (e : Same H H') : Prs K H' vs ps := Paired.mapP h fun _ _ ⟨q, y, z, e1, h1, h2, h3⟩ => ⟨q, y, z, e1, e.tup h1, h2.mono e, h3.mono e⟩
theorem Prs.one {K : PySem.W.Frag} {H : Hp} {q : Addr} {y z : V} {a b : In} (h : SqT K H q [y, z]) (h1 : InAt K H y a) (h2 : InAt K H z b) : Prs K H [.ref q] [(a, b)] := .cons ⟨q, y, z, rfl, h, h1, h2⟩ .nil
theorem paired_app {α β : Type} {F : α → β → Prop} : ∀ {l l' : List α} {m m' : List β}, Paired F l m → Paired F l' m' → Paired F (l ++ l') (m ++ m')
  | _, _, _, _, .nil, h => h
  | _, _, _, _, .cons r t, h => .cons r (paired_app t h)
theorem due_emp {v : Int} {n : Nat} {kvs : Pairs} : due v n kvs .emp = [(nodeIn v n kvs, T.inp v .emp)] := by cases n <;> rfl
theorem due_hid {v c d : Int} {n : Nat} {kvs : Pairs} : due v n kvs (.hid c d) = [] := by cases n <;> rfl
theorem due_leaf {v k z : Int} {n : Nat} {kvs : Pairs} : due v n kvs (.leaf k z) = [(nodeIn v n kvs, T.inp v (.leaf k z))] := by cases n <;> rfl
theorem due_len {v : Int} : ∀ (t : T) (n : Nat) (kvs : Pairs), (due v n kvs t).length ≤ t.words.length := by
  intro t
  induction t with
  | hid c d => intro n kvs; rw [due_hid]; exact Nat.zero_le _
  | emp => intro n kvs; rw [due_emp]; exact Nat.le_refl _
  | leaf k z => intro n kvs; rw [due_leaf]; exact (by decide : 1 ≤ 3)
  | inn l r ihl ihr =>
    intro n kvs
    cases n with
    | zero => exact Nat.succ_le_succ (Nat.zero_le _)
    | succ n =>
      have a := ihl n (lef n kvs)
      have b := ihr n (rig n kvs)
      show ((nodeIn v (n + 1) kvs, T.inp v (.inn l r)) :: (due v n (lef n kvs) l ++ due v n (rig n kvs) r)).length ≤ (2 :: (l.words ++ r.words)).length
      rw [List.length_cons, List.length_cons, List.length_append, List.length_append]
      omega
/-- dict(ps), with the written part told by name (within a comprehension) -/
def rDictP (K : PySem.W.Frag) : List V → Hp → VK → Prop := fun xs H Q => ∃ (a : Addr) (ps : List Addr) (kvs : List (Key × V)), xs = [.ref a] ∧ SqL K H a (ps.map V.ref) ∧ Paired (fun p kv => SqT K H p [kV kv.1, kv.2]) ps kvs ∧ ∀ p, H p = none → Q (.ref p) (upd H p (.dK (mergeK [] kvs)))
theorem call_dictPK {X : Cx} {K : PySem.W.Frag} (hK : X.K = K) (hc : X.calm = true) : CallR X (.type "dict") (rDictP K) := by
  subst hK
  exact call_dictP hc
def lcScope : Stmt → Scope
  | .Assign _ (.ListComp _ _ sc _) _ => sc
  | _ => { kind := .function, names := [], isGenerator := false, isCoroutine := false }
def spTold (K : PySem.W.Frag) (n : Nat) : Sp := fun vs H Q _ => ∃ (wl p : Addr) (v d least low high : Int) (k : Nat) (kvs : Pairs) (ws r : List Int) (t : T), vs = [.int v, .ref wl, .int (k : Int), .ref p, .int d] ∧ d = 32 - (n : Int) ∧ Wok v ∧ SqL K H wl (ws.map V.int) ∧ Wd ws ∧ H p = some (dk kvs) ∧
  Good n least kvs ∧ least + 2 ^ n ≤ 2 ^ 32 ∧ n ≤ 32 ∧ T.Ok v low high n least t ∧ ws.drop k = t.words ++ r ∧
  ∀ (H' : Hp) (a b l : Addr) (vs' : List V) (k' : Nat), Same H H' → H' a = some (.tup [.int (k' : Int), .ref b, .ref l]) → SqT K H' b [.int t.cnt, .int (t.dgt v)] → H' l = some (.lst vs') → Prs K H' vs' (due v n kvs t) → ws.drop k' = r → Q (.ref a) H'
def spTold1 (K : PySem.W.Frag) (n : Nat) : Sp := fun vs H Q E => ∃ m, n = m + 1 ∧ spTold K m vs H Q E
section
variable {P : Program} {w : World} {K : PySem.W.Frag} {mg : Str → Option Value} {base : Heap} {CH CR CT : Addr}
abbrev nTold : List Str := ["_law_width", "_law_words", "_law_at", "_law_pairs_here", "_law_depth", "_law_kind", "_law_true", "_law_numbers", "_law_parts", "_law_after", "_law_left", "_law_first", "_law_right", "_law_second", "_law_one", "_law_side_here", "_law_key_here"]
abbrev scopeParts : Scope := lcScope ((defBody sTold).getD 4 (.Pass ⟨0, 0, 0, 0⟩))
theorem scTold : FnScope nTold ["_law_width", "_law_words", "_law_at", "_law_pairs_here", "_law_depth"] (defScope sTold) := ⟨rfl, rfl, rfl, by decide +kernel, rfl, by decide +kernel, by decide +kernel⟩
theorem ok_told {f : Addr} {fd : FuncData} (n : Nat) (F : Fun K "_law_told" "_law_told" sTold f fd) (T : Txt K mg CH CR CT) (cS : C8.Cal P w K mg base 1 "_law_side" spBit []) (cD : C8.Cal P w K mg base 1 "_law_digest" (spLDig K) [])
    (cN : C8.Cal P w K mg base (n + 2) "_law_node" (spLNode K n) []) (cT : C8.Cal P w K mg base (n + 2) "_law_told" (spTold1 K n) []) :
    FnOk P w K mg base CX0 (n + 3) f fd ["_law_width", "_law_words", "_law_at", "_law_pairs_here", "_law_depth"] (spTold K n) := by
  refine F.ok scTold (fun vs H Q E h => ?_) (fun cdv A outer s H vs Q E hr h => ?_)
  · obtain ⟨wl, p, v, d, least, low, high, k, kvs, ws, r, t, rfl, _⟩ := h
    rfl
  obtain ⟨wl, p, v, d, least, low, high, k, kvs, ws, r, t, rfl, hd, wo, hW, wd, hp, g, hl, hn, ok, hw, q⟩ := h
  have hu := hu_of hr
  refine ⟨_, (pss_cons ((ps_set (i := 5) scTold.nd rfl (Or.inl rfl) ((pe_ix ix_list (pv 1) (pv 2) (fun _ _ => rfl))))) (pss_cons ((ps_if ((pt_cmpR op_eq (pv 5) (pe_int) (nomark _))) (pss_one ((ps_ret ((pe_tup (pa_cons ((pe_op op_add (pv 2) (pe_int))) (pa_cons ((pe_callTy call_tuple_any (by rfl) T.tuple (by decide +kernel) (pa_cons (pe_slice sl_list (pv 1) (po_some (pe_op op_add (pv 2) (pe_int))) (po_some (pe_op op_add (pv 2) (pe_int)))) pa_nil))) (pa_cons ((pe_lst pa_nil)) pa_nil)))))))) pss_nil)) (pss_cons ((ps_set (i := 6) scTold.nd rfl (Or.inl rfl) ((C8.pe_c cN hr (by first | exact Nat.le_refl _ | decide | omega) (by rfl) (pa_cons (pv 0) (pa_cons (pv 3) (pa_cons (pv 4) pa_nil))))))) (pss_cons ((ps_if ((pt_cmpR op_lt (pv 5) (pe_int) (nomark _))) (pss_cons ((ps_set (i := 7) scTold.nd rfl (Or.inl rfl) ((pe_callTy call_tuple_any (by rfl) T.tuple (by decide +kernel) (pa_cons (pe_slice sl_list (pv 1) (po_some (pe_op op_add (pv 2) (pe_int))) (po_some (pe_op op_add ((pe_op op_add (pv 2) (pe_int))) ((pe_op op_mul (pe_int) (pv 5)))))) pa_nil))))) (pss_one ((ps_ret ((pe_tup (pa_cons ((pe_op op_add ((pe_op op_add (pv 2) (pe_int))) ((pe_op op_mul (pe_int) (pv 5))))) (pa_cons ((pe_tup (pa_cons (pv 5) (pa_cons ((C8.pe_c cD hr (by first | exact Nat.le_refl _ | decide | omega) (by rfl) (pa_cons (pv 0) (pa_cons (pe_int) (pa_cons (pv 7) pa_nil))))) pa_nil)))) (pa_cons ((pe_lst (pa_cons ((pe_tup (pa_cons (pv 6) (pa_cons ((pe_tup (pa_cons (pe_int) (pa_cons (pv 7) pa_nil)))) pa_nil)))) pa_nil))) pa_nil))))))))) pss_nil)) (pss_cons (ps_setLc (i := 8) (own := [("_law_side_here", 15)]) (g := gName 15) (tt := tYes) rfl scTold.nd rfl rfl (sw_true rfl rfl rfl (by decide +kernel)) (pi_list (pe_lst (pa_cons (pe_int) (pa_cons (pe_int) pa_nil)))) (blkOk_by (N := nTold) (sc := defScope sTold) (by decide +kernel)) (fun _ _ _ _ _ => (pg_name (i := 15) scTold.nd rfl (Or.inr rfl))) (fun _ _ _ _ _ => pts_nil)
      (fun _ _ _ _ _ => (pe_callTy (T := "dict") (r := rDictP K) (call_dictPK rfl rfl) (by rfl) T.dict (by decide +kernel) (pa_cons (pe_lock (pe_lc (own := [("_law_key_here", 16)]) (g := gName 16) rfl scTold.nd (pi_keys (pv 3)) (blkOk_by (N := nTold) (sc := relS scopeParts (defScope sTold)) (by decide +kernel)) (fun _ _ _ _ _ => (pg_name (i := 16) scTold.nd rfl (Or.inl rfl)))
        (fun _ _ _ _ _ => pts_one (pt_cmpR op_eq ((C8.pe_c cS hr (by first | exact Nat.le_refl _ | decide | omega) (by rfl) (pa_cons (pv 16) (pa_cons (pv 4) pa_nil)))) (pv 15) (nomark _))) (fun _ _ _ _ _ => (pe_tup (pa_cons (pv 16) (pa_cons (pe_dget hu (pv 3) (pv 16) (fun _ _ => rfl)) pa_nil)))))) pa_nil)))) (pss_cons ((ps_asg ((C8.pe_c cT hr (by first | exact Nat.le_refl _ | decide | omega) (by rfl) (pa_cons (pv 0) (pa_cons (pv 1) (pa_cons ((pe_op op_add (pv 2) (pe_int))) (pa_cons ((pe_ix ix_list (pv 8) (pe_int) (fun _ _ => rfl))) (pa_cons ((pe_op op_add (pv 4) (pe_int))) pa_nil))))))) (pg_tup rfl (pgs_cons ((pg_name (i := 9) scTold.nd rfl (Or.inl rfl))) (pgs_cons ((pg_name (i := 10) scTold.nd rfl (Or.inl rfl))) (pgs_cons ((pg_name (i := 11) scTold.nd rfl (Or.inl rfl))) pgs_nil)))))) (pss_cons ((ps_asg ((C8.pe_c cT hr (by first | exact Nat.le_refl _ | decide | omega) (by rfl) (pa_cons (pv 0) (pa_cons (pv 1) (pa_cons (pv 9) (pa_cons ((pe_ix ix_list (pv 8) (pe_int) (fun _ _ => rfl))) (pa_cons ((pe_op op_add (pv 4) (pe_int))) pa_nil))))))) (pg_tup rfl (pgs_cons ((pg_name (i := 9) scTold.nd rfl (Or.inl rfl))) (pgs_cons ((pg_name (i := 12) scTold.nd rfl (Or.inl rfl))) (pgs_cons ((pg_name (i := 13) scTold.nd rfl (Or.inl rfl))) pgs_nil)))))) (pss_cons ((ps_set (i := 14) scTold.nd rfl (Or.inl rfl) ((pe_tup (pa_cons (pe_int) (pa_cons ((pe_op op_catT (pv 10) (pv 12))) pa_nil)))))) (pss_one ((ps_ret ((pe_tup (pa_cons (pv 9) (pa_cons ((pe_tup (pa_cons ((pe_op op_add ((pe_ix ix_tup (pv 10) (pe_int) (fun _ _ => rfl))) ((pe_ix ix_tup (pv 12) (pe_int) (fun _ _ => rfl))))) (pa_cons ((C8.pe_c cD hr (by first | exact Nat.le_refl _ | decide | omega) (by rfl) (pa_cons (pv 0) (pa_cons (pe_int) (pa_cons ((pe_ix ix_tup (pv 14) (pe_int) (fun _ _ => rfl))) pa_nil))))) pa_nil)))) (pa_cons ((pe_op op_cat ((pe_op op_cat ((pe_lst (pa_cons ((pe_tup (pa_cons (pv 6) (pa_cons (pv 14) pa_nil)))) pa_nil))) (pv 11))) (pv 13))) pa_nil)))))))))))))))), ?_⟩
  have two : ∀ {x y : Int}, x = y → decide (V.int x = V.int y) = true := fun e => decide_eq_true (congrArg V.int e)
  have two0 : ∀ {x y : Int}, ¬ x = y → decide (V.int x = V.int y) = false := fun e => decide_eq_false fun z => e (V.int.inj z)
  obtain ⟨x, r', hcons⟩ : ∃ x r', ws.drop k = x :: r' := by
    rw [hw]
    cases t <;> exact ⟨_, _, rfl⟩
  have hlen : (ws.map V.int).length = ws.length := List.length_map _
  have hwl := wd.len
  have hk : k < ws.length := by
    have := congrArg List.length hcons
    rw [List.length_drop, List.length_cons] at this
    omega
  have htail : ws.drop (k + 1) = r' := by rw [← List.tail_drop, hcons]; rfl
  have hx : (ws.map V.int)[k]? = some (.int x) := by
    have e : ws[k]? = some x := by
      have := congrArg List.head? hcons
      rw [List.head?_drop] at this
      exact this
    rw [List.getElem?_map, e]
    rfl
  refine ⟨_, rfl, _, rfl, wl, _, _, _, rfl, rfl, hW, atI_nat hx, ?_⟩
  have kinds : (∃ (m : Nat) (ns : List Int), x = (m : Int) ∧ m ≤ 1 ∧ r' = ns ++ r ∧ ns.length = 2 * m ∧ due v n kvs t = [(nodeIn v n kvs, ((2, ns) : In))] ∧ t.cnt = (m : Int) ∧ t.dgt v = dig v 2 ns) ∨ (∃ c dd, t = .hid c dd) ∨ ∃ l u, t = .inn l u := by
    cases t with
    | hid c dd => exact .inr (.inl ⟨c, dd, rfl⟩)
    | inn l u => exact .inr (.inr ⟨l, u, rfl⟩)
    | emp =>
      rw [hw] at hcons
      injection hcons with a b
      exact .inl ⟨0, [], a.symm, by decide, b.symm, rfl, due_emp, rfl, rfl⟩
    | leaf y z =>
      rw [hw] at hcons
      injection hcons with a b
      exact .inl ⟨1, [y, z], a.symm, by decide, b.symm, rfl, due_leaf, rfl, rfl⟩
  rcases kinds with ⟨m, ns, rfl, hm, rfl, hns, edue, ecnt, edgt⟩ | ⟨c, dd, rfl⟩ | ⟨l, u, rfl⟩
  · -- one leaf, or none
    have hl3 : k + 1 + 2 * m ≤ ws.length := by
      have := congrArg List.length htail
      rw [List.length_drop, List.length_append] at this
      omega
    have b70 : ∀ z ∈ ns, z < 2 ^ 100 := fun z hz => by
      have e70 : (2 : Int) ^ 70 < 2 ^ 100 := by decide
      have := (wd.wd z (List.mem_of_mem_drop (show z ∈ ws.drop (k + 1) by rw [htail]; exact List.mem_append_left _ hz))).2
      omega
    refine ⟨_, rfl, rfl, false, congrArg V.bl (two0 (by omega)), iteF ?_⟩
    refine ⟨_, rfl, _, rfl, _, rfl, p, v, d, least, kvs, rfl, hd, wo, hp, g, hl, hn, fun H1 tv s1 htv => ?_⟩
    refine ⟨_, rfl, _, _, rfl, rfl, true, congrArg V.bl (decide_eq_true (by omega)), iteT ?_⟩
    refine ⟨_, rfl, _, rfl, _, _, rfl, rfl, _, rfl, _, rfl, _, _, rfl, rfl, _, rfl, _, _, rfl, rfl, .inl ⟨by omega, by omega⟩, _, _, rfl, rfl, _, rfl, wl, _, rfl, (s1.seq hW), fun p1 n1 => ?_⟩
    have s2 := same_new n1 (.lst (cutV (ws.map V.int) (some ((k : Int) + 1)) (some ((k : Int) + 1 + 2 * (m : Int)))))
    refine ⟨p1, _, rfl, .inl (SqL.of upd_same), fun H2 b s3 hb => ?_⟩
    rw [cut_nat (k := k + 1) (m := 2 * m) (by omega) (by omega) (by omega), ← List.map_drop, htail, ← List.map_take, ← hns, List.take_left] at hb
    refine ⟨_, rfl, _, _, rfl, rfl, _, rfl, _, _, rfl, rfl, .inl ⟨by omega, by omega⟩, _, _, rfl, rfl, ?_⟩
    refine ⟨_, rfl, _, rfl, _, rfl, b, v, 2, ns, rfl, wo, hb, (by omega), b70, fun H3 s4 => ⟨(by show 2 ≤ sizeLine; decide), fun p2 n2 => ?_⟩⟩
    refine ⟨_, rfl, _, rfl, (by show 2 ≤ sizeLine; decide), fun p3 n3 => ⟨(by show 2 ≤ sizeLine; decide), fun p4 n4 => ⟨(by show 1 ≤ sizeLine; decide), fun p5 n5 => ⟨(by show 3 ≤ sizeLine; decide), fun p6 n6 => ?_⟩⟩⟩⟩
    have s5 := same_new n2 (.tup [V.int (m : Int), V.int (dig v 2 ns)])
    have s6 := same_new n3 (.tup [V.int 2, V.ref b])
    have s7 := same_new n4 (.tup [tv, V.ref p3])
    have s8 := same_new n5 (.lst [V.ref p4])
    have s9 := same_new n6 (.tup [V.int ((k : Int) + 1 + 2 * (m : Int)), V.ref p2, V.ref p5])
    have s79 := (s7.trans s8).trans s9
    have s49 := ((s4.trans s5).trans s6).trans s79
    have s19 := ((s2.trans s3).trans s49)
    refine q _ p6 p2 p5 [V.ref p4] (k + 1 + 2 * m) (s1.trans s19) ?_ ?_ (s9 _ _ upd_same) ?_ ?_
    · rw [upd_same]
      rfl
    · rw [ecnt, edgt]
      exact SqT.of ((s6.trans s79) _ _ upd_same)
    · rw [edue]
      exact Prs.one (SqT.of ((s8.trans s9) _ _ upd_same)) (htv.mono s19) ⟨p3, b, rfl, SqT.of (s79 _ _ upd_same), s49.tup hb⟩
    · have z : ws.drop (k + 1 + 2 * m) = (ws.drop (k + 1)).drop (2 * m) := by rw [List.drop_drop]
      rw [z, htail, ← hns, List.drop_left]
  · have ex : x = 3 ∧ r' = c :: dd :: r := by
      rw [hw] at hcons
      injection hcons with a b
      exact ⟨a.symm, b.symm⟩
    obtain ⟨rfl, rfl⟩ := ex
    have hl3 : k + 1 + 2 ≤ ws.length := by
      have := congrArg List.length hcons
      simp only [List.length_drop, List.length_cons] at this
      omega
    refine ⟨_, rfl, rfl, true, congrArg V.bl (two rfl), iteT ?_⟩
    refine ⟨_, rfl, _, _, rfl, rfl, _, rfl, _, rfl, _, _, rfl, rfl, _, rfl, _, rfl, _, _, rfl, rfl, _, rfl, wl, _, rfl, hW, fun p1 n1 => ?_⟩
    have s1 := same_new n1 (.lst (cutV (ws.map V.int) (some ((k : Int) + 1)) (some ((k : Int) + 3))))
    refine ⟨p1, _, rfl, .inl (SqL.of upd_same), fun H2 b s2 hb => ⟨Nat.zero_le _, fun l nl => ⟨(by show 3 ≤ sizeLine; decide), fun a na => ?_⟩⟩⟩
    rw [cut_nat (k := k + 1) (m := 2) (by omega) (by omega) (by omega), ← List.map_drop, htail] at hb
    have s3 := same_new nl (.lst [])
    have s4 := same_new na (.tup [V.int ((k : Int) + 3), V.ref b, V.ref l])
    refine q _ a b l [] (k + 3) (((s1.trans s2).trans s3).trans s4) upd_same ((s3.trans s4).tup hb) (s4 _ _ upd_same) ?_ ?_
    · rw [due_hid]
      exact .nil
    · have z : ws.drop (k + 3) = (ws.drop (k + 1)).drop 2 := by rw [List.drop_drop]
      rw [z, htail]
      rfl
  · have ex : x = 2 ∧ r' = l.words ++ (u.words ++ r) := by
      rw [hw] at hcons
      injection hcons with a b
      exact ⟨a.symm, b.symm.trans (List.append_assoc l.words u.words r)⟩
    obtain ⟨rfl, rfl⟩ := ex
    refine ⟨_, rfl, rfl, false, congrArg V.bl (two0 (by decide)), iteF ?_⟩
    refine ⟨_, rfl, _, rfl, _, rfl, p, v, d, least, kvs, rfl, hd, wo, hp, g, hl, hn, fun H1 tv s1 htv => ?_⟩
    refine ⟨_, rfl, _, _, rfl, rfl, false, congrArg V.bl (decide_eq_false (by decide)), iteF ?_⟩
    cases n with
    | zero => exact ok.elim
    | succ n =>
      have p2n := pow_pos2 n
      have e3 : (2 : Int) ^ (n + 1) = 2 ^ n * 2 := Int.pow_succ ..
      have wlw : (Of.T.inn l u).words.length ≤ 2000 := by
        have := congrArg List.length hw
        rw [List.length_drop, List.length_append] at this
        omega
      have wlw2 : l.words.length + u.words.length ≤ 2000 := by
        have e : (Of.T.inn l u).words = 2 :: (l.words ++ u.words) := rfl
        rw [e, List.length_cons, List.length_append] at wlw
        omega
      have wb : ∀ z ∈ (Of.T.inn l u).words, z < 2 ^ 70 := fun z hz => (wd.wd z (List.mem_of_mem_drop (by rw [hw]; exact List.mem_append_left _ hz))).2
      have hp1 := s1 _ _ hp
      -- the two halves
      refine ⟨(by show 2 ≤ sizeLine; decide), fun sl nsl => ⟨sl, rfl, ⟨_, SqL.of upd_same⟩, fun D nD => lc_list (K := K) (a := sl) (xs := [V.int 0, V.int 1]) (fun i H2 => Same H1 H2 ∧ H2 sl = some (.lst [V.int 0, V.int 1]) ∧ ∃ ds : List Addr, H2 D = some (.lst (ds.map V.ref)) ∧
        Paired (fun a (x : Pairs) => H2 a = some (dk x)) ds (([lef n kvs, rig n kvs] : List Pairs).take i)) ?_ ?_ ?_ ?_⟩⟩
      · have z1 := same_new nsl (.lst [V.int 0, V.int 1])
        have z2 := same_new nD (.lst [])
        exact ⟨z1.trans z2, z2 _ _ upd_same, [], upd_same, .nil⟩
      · rintro i H2 _ ⟨_, z, _⟩
        exact SqL.of z
      · rintro i x H2 hi ⟨sm, hsl, ds, hD, pr⟩
        obtain ⟨j, f, rfl, hf, hnd, hil, eres⟩ : ∃ (j : Int) (f : Int × Int → Bool), x = .int j ∧ (∀ e ∈ kvs, decide (V.int (e.1 / 2 ^ n % 2) = V.int j) = f e) ∧ ((kvs.filter f).map (·.1)).Nodup ∧ i ≤ 1 ∧
            (([lef n kvs, rig n kvs] : List Pairs).take i) ++ [kvs.filter f] = ([lef n kvs, rig n kvs] : List Pairs).take (i + 1) := by
          match i, hi with
          | 0, hi =>
            refine ⟨0, onL n, (Option.some.inj hi).symm, fun e _ => ?_, g.left.nd, by decide, rfl⟩
            unfold onL
            by_cases z : e.1 / 2 ^ n % 2 = 0
            · rw [decide_eq_true z, decide_eq_true (congrArg V.int z)]
            · rw [decide_eq_false z, decide_eq_false fun y => z (V.int.inj y)]
          | 1, hi =>
            refine ⟨1, fun e => !onL n e, (Option.some.inj hi).symm, fun e _ => ?_, g.right.nd, by decide, rfl⟩
            show _ = !onL n e
            unfold onL
            by_cases z : e.1 / 2 ^ n % 2 = 0
            · rw [decide_eq_true z, decide_eq_false fun y => (side01 n e.1).mp (V.int.inj y) z]
              rfl
            · rw [decide_eq_false z, decide_eq_true (congrArg V.int ((side01 n e.1).mpr z))]
              rfl
          | i + 2, hi => cases hi
        refine ⟨rfl, ?_⟩
        dsimp only [tYes]
        rw [if_pos rfl]
        refine lcd (K := K) (ip := 3) (ik := 16) (vs := [16]) (p := p) (kvs := kvs) f rfl (sm _ _ hp1) g.nd g.len (fun _ => rfl) (fun _ => rfl) (fun _ => rfl) (fun e he H3 R _ hR => ?_) (fun H3 D2 ps s3 hD2 pr2 => ?_)
        · exact ⟨_, rfl, _, rfl, n, e.1, d, rfl, (by omega), _, rfl, rfl, f e, congrArg V.bl (hf e he), hR⟩
        refine ⟨D2, ps, _, rfl, SqL.of hD2, pr2, fun dd ndd => ?_⟩
        have hmg : mergeK [] ((kvs.filter f).map toK) = (kvs.filter f).map toK := merge_nd (kvs.filter f) [] hnd
        rw [hmg]
        have s4 := same_new ndd (dk (kvs.filter f))
        have s34 := s3.trans s4
        have nsD : sl ≠ D := ne_of hsl hD (by intro y; have y := congrArg (fun o => match o with | HO.lst xs => xs | _ => []) y; have y : [V.int 0, V.int 1] = ds.map V.ref := y; cases ds with | nil => cases y | cons a b => cases y)
        refine ⟨_, s34 _ _ hD, (by rw [List.length_map, Paired.length pr, List.length_take]; exact small1000 (by show min i 2 ≤ _; omega)), fun a o e => ?_, ?_, ds ++ [dd], ?_, ?_⟩
        · rw [upd_ne (ne_of_none (same_new nsl (.lst [V.int 0, V.int 1]) _ _ e) nD)]
          exact (sm.trans s34) _ _ e
        · rw [upd_ne nsD]
          exact s34 _ _ hsl
        · rw [upd_same, List.map_append]
          rfl
        · rw [← eres]
          have hdd : (upd H3 dd (dk (kvs.filter f))) dd = some (dk (kvs.filter f)) := upd_same
          refine paired_snoc (Paired.mapP pr fun a kv z => ?_) ?_
          · have z1 := s34 _ _ z
            rw [upd_ne (ne_of z1 (s34 _ _ hD) (by intro y; cases y))]
            exact z1
          · rw [upd_ne (ne_of hdd (s34 _ _ hD) (by intro y; cases y))]
            exact hdd
      · rintro H2 ⟨s2, hsl, ds, hD, pr⟩
        have pr : Paired (fun a (x : Pairs) => H2 a = some (dk x)) ds [lef n kvs, rig n kvs] := pr
        obtain ⟨dl, dr, rfl, hdl, hdr⟩ : ∃ dl dr, ds = [dl, dr] ∧ H2 dl = some (dk (lef n kvs)) ∧ H2 dr = some (dk (rig n kvs)) := by
          cases pr with
          | cons a t => cases t with
            | cons b t => cases t with
              | nil => exact ⟨_, _, rfl, a, b⟩
        have gl := g.left
        have gr := g.right
        refine ⟨_, rfl, _, rfl, _, rfl, _, _, rfl, rfl, _, rfl, D, _, 0, .ref dl, rfl, rfl, SqL.of hD, atI_nat (j := 0) rfl, _, rfl, _, _, rfl, rfl, n, rfl, wl, dl, v, d + 1, least, low, high, k + 1, lef n kvs, ws, u.words ++ r, l, rfl, (by omega), wo, (s1.trans s2).seq hW, wd, hdl, gl, (by omega), (by omega), ok.1, htail, fun H3 a3 b3 l3 vs3 k3 s3 ha3 hb3 hl3 pr3 hk3 => ?_⟩
        refine ⟨a3, _, rfl, SqT.of ha3, rfl, _, _, rfl, _, _, rfl, _, _, rfl, rfl, ?_⟩
        refine ⟨_, rfl, _, rfl, _, rfl, _, rfl, D, _, 1, .ref dr, rfl, rfl, SqL.of (s3 _ _ hD), atI_nat (j := 1) rfl, _, rfl, _, _, rfl, rfl, n, rfl, wl, dr, v, d + 1, least + 2 ^ n, low, high, k3, rig n kvs, ws, r, u, rfl, (by omega), wo, ((s1.trans s2).trans s3).seq hW, wd, s3 _ _ hdr, gr, (by omega), (by omega), ok.2, hk3, fun H4 a4 b4 l4 vs4 k4 s4 ha4 hb4 hl4 pr4 hk4 => ?_⟩
        refine ⟨a4, _, rfl, SqT.of ha4, rfl, _, _, rfl, _, _, rfl, _, _, rfl, rfl, ?_⟩
        -- one = (3, left + right)
        refine ⟨_, rfl, _, rfl, b3, b4, _, _, rfl, rfl, s4.tup hb3, hb4, (by simp), (by show 4 ≤ sizeLine; decide), (fun z => by cases z), fun _ a6 n6 => ⟨(by show 2 ≤ sizeLine; decide), fun a7 n7 => ?_⟩⟩
        have s6 := same_new n6 (.tup ([V.int l.cnt, V.int (l.dgt v)] ++ [V.int u.cnt, V.int (u.dgt v)]))
        have s7 := same_new n7 (.tup [V.int 3, V.ref a6])
        have s67 := s6.trans s7
        have iok := Of.T.inp_ok wo.1 wo.2 (.inn l u) (n + 1) least ok wlw wb g.nn
        refine ⟨_, rfl, _, rfl, b3, _, 0, .int l.cnt, rfl, rfl, (s4.trans s67).tup hb3, atI_nat (j := 0) rfl, _, rfl, b4, _, 0, .int u.cnt, rfl, rfl, s67.tup hb4, atI_nat (j := 0) rfl, _, _, rfl, rfl, ?_⟩
        refine ⟨_, rfl, _, rfl, a7, _, 1, .ref a6, rfl, rfl, SqT.of upd_same, atI_nat (j := 1) rfl, a6, v, 3, [l.cnt, l.dgt v, u.cnt, u.dgt v], rfl, wo, SqT.of (s7 _ _ upd_same), (by show 4 ≤ 4; decide), (fun z hz => (iok.nn z hz).2), fun H7 s8 => ⟨(by show 2 ≤ sizeLine; decide), fun e1 ne1 => ?_⟩⟩
        have s9 := same_new ne1 (.tup [V.int (l.cnt + u.cnt), V.int (dig v 3 [l.cnt, l.dgt v, u.cnt, u.dgt v])])
        have v3 : vs3.length ≤ 2000 := by
          rw [Paired.length pr3]
          exact Nat.le_trans (due_len l n _) (by omega)
        have v34 : vs3.length + vs4.length ≤ 2000 := by
          rw [Paired.length pr3, Paired.length pr4]
          exact Nat.le_trans (Nat.add_le_add (due_len l n _) (due_len u n _)) wlw2
        refine ⟨_, rfl, _, rfl, (by show 2 ≤ sizeLine; decide), fun e2 ne2 => ⟨(by show 1 ≤ sizeLine; decide), fun e3 ne3 => ?_⟩⟩
        have s10 := same_new ne2 (.tup [tv, V.ref a7])
        have s11 := same_new ne3 (.lst [V.ref e2])
        have s411 := (s67.trans s8).trans ((s9.trans s10).trans s11)
        refine ⟨_, rfl, e3, l3, _, _, rfl, rfl, upd_same, (s4.trans s411) _ _ hl3, (Nat.le_of_lt (small1000' (by show 1 + vs3.length ≤ _; omega))), fun e4 ne4 => ?_⟩
        have s12 := same_new ne4 (.lst ([V.ref e2] ++ vs3))
        refine ⟨_, rfl, e4, l4, _, _, rfl, rfl, upd_same, (s411.trans s12) _ _ hl4, (Nat.le_of_lt (small1000' (by rw [List.length_append, List.length_singleton]; omega))), fun e5 ne5 => ⟨(by show 3 ≤ sizeLine; decide), fun e6 ne6 => ?_⟩⟩
        have s13 := same_new ne5 (.lst ([V.ref e2] ++ vs3 ++ vs4))
        have s14 := same_new ne6 (.tup [V.int (k4 : Int), V.ref e1, V.ref e5])
        have s914 := ((s10.trans s11).trans s12).trans (s13.trans s14)
        have s814 := (s8.trans s9).trans s914
        have s514 := s67.trans s814
        refine q _ e6 e1 e5 ([V.ref e2] ++ vs3 ++ vs4) k4 (((s1.trans s2).trans s3).trans (s4.trans s514)) upd_same (SqT.of (s914 _ _ upd_same)) (s14 _ _ upd_same) ?_ hk4
        show Prs K _ ([V.ref e2] ++ vs3 ++ vs4) (([(nodeIn v (n + 1) kvs, Of.T.inp v (.inn l u))] : List (In × In)) ++ (due v n (lef n kvs) l ++ due v n (rig n kvs) u))
        rw [← List.append_assoc]
        exact paired_app (paired_app (Prs.one (SqT.of ((s11.trans (s12.trans (s13.trans s14))) _ _ upd_same)) (htv.mono (((s2.trans s3).trans s4).trans s514)) ⟨a7, a6, rfl, SqT.of (s814 _ _ upd_same), SqT.of ((s7.trans s814) _ _ upd_same)⟩) (pr3.mono (s4.trans s514))) (pr4.mono s514)
theorem all_told {f : Addr} {fd : FuncData} (F : Fun K "_law_told" "_law_told" sTold f fd) (b : Binds K fd ["_law_width", "_law_words", "_law_at", "_law_pairs_here", "_law_depth"] []) (m : mg "_law_told" = some (.ref f)) (T : Txt K mg CH CR CT) (cS : C8.Cal P w K mg base 1 "_law_side" spBit [])
    (cD : C8.Cal P w K mg base 1 "_law_digest" (spLDig K) []) (cN : ∀ n, C8.Cal P w K mg base (n + 2) "_law_node" (spLNode K n) []) : ∀ n : Nat, C8.Cal P w K mg base (n + 3) "_law_told" (spTold K n) []
  | 0 => ⟨f, fd, _, [], ok_told 0 F T cS cD (cN 0) ⟨f, fd, _, [], never_ok (fun vs H Q E z => by obtain ⟨m, e, _⟩ := z; cases e), m, F.kp, b, .nil⟩, m, F.kp, b, .nil⟩
  | n + 1 => by
    obtain ⟨f', fd', ps, ds, ok, m', k, b', v'⟩ := all_told F b m T cS cD cN n
    exact ⟨f, fd, _, [], ok_told (n + 1) F T cS cD (cN (n + 1)) ⟨f', fd', ps, ds, ok.imp fun vs H Q E z => by
      obtain ⟨m, e, z⟩ := z
      obtain rfl : n = m := Nat.succ.inj e
      exact z, m', k, b', v'⟩, m, F.kp, b, .nil⟩
end
end Of

set_option Elab.async false
set_option linter.all false
set_option maxRecDepth 100000
set_option maxHeartbeats 4000000
namespace Of
open PySem L2
def spDue (K : PySem.W.Frag) : Sp := fun vs H Q _ => ∃ (wl p : Addr) (v low high : Int) (kvs : Pairs) (t : T), vs = [.int v, .ref wl, .ref p] ∧ Wok v ∧ SqL K H wl (t.words.map V.int) ∧ Wd t.words ∧ H p = some (dk kvs) ∧ Good 32 0 kvs ∧ T.Ok v low high 32 0 t ∧
  ∀ H' u, Same H H' → ResAt K H' u ((due v 32 kvs t).find? differ) → Q u H'
theorem prs_get {K : PySem.W.Frag} {H : Hp} : ∀ {vs : List V} {ps : List (In × In)} {i : Nat} {x : V}, Prs K H vs ps → vs[i]? = some x → ∃ c, ps[i]? = some c ∧ ∃ q y z, x = V.ref q ∧ SqT K H q [y, z] ∧ InAt K H y c.1 ∧ InAt K H z c.2
  | _, _, 0, _, .cons r _, h => by
    obtain rfl := Option.some.inj h
    exact ⟨_, rfl, r⟩
  | _, _, i + 1, _, .cons _ t, h => prs_get (i := i) t h
section
variable {P : Program} {w : World} {K : PySem.W.Frag} {mg : Str → Option Value} {base : Heap} {CH CR CT : Addr}
theorem scDue : FnScope ["_law_width", "_law_words", "_law_pairs_here", "_law_true", "_law_told_here"] ["_law_width", "_law_words", "_law_pairs_here"] (defScope sDue) := ⟨rfl, rfl, rfl, by decide +kernel, rfl, by decide +kernel, by decide +kernel⟩
theorem ok_due {f : Addr} {fd : FuncData} (F : Fun K "_law_due" "_law_due" sDue f fd) (T : Txt K mg CH CR CT) (cT : C8.Cal P w K mg base 35 "_law_told" (spTold K 32) []) : FnOk P w K mg base CX0 36 f fd ["_law_width", "_law_words", "_law_pairs_here"] (spDue K) := by
  refine F.ok scDue (fun vs H Q E h => ?_) (fun cdv A outer s H vs Q E hr h => ?_)
  · obtain ⟨wl, p, v, low, high, kvs, t, rfl, _⟩ := h
    rfl
  obtain ⟨wl, p, v, low, high, kvs, t, rfl, wo, hW, wd, hp, g, ok, q⟩ := h
  refine ⟨_, (pss_cons ((ps_for PassesOwn.never rfl (pi_list (pe_ix ix_tup ((C8.pe_c cT hr (by first | exact Nat.le_refl _ | decide | omega) (by rfl) (pa_cons (pv 0) (pa_cons (pv 1) (pa_cons (pe_int) (pa_cons (pv 2) (pa_cons (pe_int) pa_nil))))))) (pe_int) (fun _ _ => rfl))) ((pg_tup rfl (pgs_cons ((pg_name (i := 3) scDue.nd rfl (Or.inl rfl))) (pgs_cons ((pg_name (i := 4) scDue.nd rfl (Or.inl rfl))) pgs_nil)))) (pss_one ((ps_if ((pt_cmpR (op_neD hr.units) (pv 3) (pv 4) (nomark _))) (pss_one ((ps_ret ((pe_tup (pa_cons (pe_str) (pa_cons (pv 3) (pa_cons (pv 4) pa_nil)))))))) pss_nil))))) (pss_one ((ps_ret (pe_non))))), ?_⟩
  refine ⟨_, rfl, _, rfl, _, rfl, wl, p, v, 0, 0, low, high, 0, kvs, t.words, [], t, rfl, rfl, wo, hW, wd, hp, g, by decide, by decide, ok, (List.append_nil _).symm, fun H1 a b l vs k s1 ha hb hl pr hk => ?_⟩
  refine ⟨a, _, 2, .ref l, rfl, rfl, SqT.of ha, atI_nat (j := 2) rfl, ?_⟩
  refine ⟨l, rfl, ⟨_, SqL.of hl⟩, for_list (K := K) (a := l) (xs := vs) (fun i σ H2 => ∃ v3 v4 : Option V, σ = [some (.int v), some (.ref wl), some (.ref p), v3, v4] ∧ Same H1 H2 ∧ ((due v 32 kvs t).take i).find? differ = none) ?_ ?_ ?_ ?_⟩
  · exact ⟨none, none, rfl, Same.refl _, rfl⟩
  · rintro i σ H2 _ ⟨_, _, _, sm, _⟩
    exact SqL.of (sm _ _ hl)
  · rintro i x σ H2 hi ⟨v3, v4, rfl, sm, hf⟩
    obtain ⟨c, hc, qa, y, z, rfl, h1, h2, h3⟩ := prs_get pr hi
    have ef : (due v 32 kvs t).take (i + 1) = (due v 32 kvs t).take i ++ [c] := by
      rw [List.take_add_one, hc]
      rfl
    have s0 := s1.trans sm
    have hy := h2.mono sm
    have hz := h3.mono sm
    refine ⟨qa, _, rfl, sm.tup h1, rfl, _, _, rfl, _, _, rfl, rfl, ?_⟩
    by_cases e : c.1 = c.2
    · refine ⟨_, rfl, _, rfl, _, _, hy.dp, hz.dp, in_shaped _, in_shaped _, false, congrArg (fun z => V.bl (!z)) ((in_eqv _ _).trans (decide_eq_true e)), iteF ?_⟩
      refine ⟨_, _, rfl, sm, ?_⟩
      rw [ef, List.find?_append, hf]
      simp [differ, e]
    · refine ⟨_, rfl, _, rfl, _, _, hy.dp, hz.dp, in_shaped _, in_shaped _, true, congrArg (fun z => V.bl (!z)) ((in_eqv _ _).trans (decide_eq_false e)), iteT ?_⟩
      have ff : (due v 32 kvs t).find? differ = some c := by
        rw [← List.take_append_drop (i + 1) (due v 32 kvs t), ef, List.append_assoc, List.find?_append, hf]
        simp [differ, e]
      refine ⟨_, rfl, _, rfl, (by show 3 ≤ sizeLine; decide), fun a3 n3 => ?_⟩
      have s3 := same_new n3 (.tup [V.str "collision", y, z])
      refine q _ _ (s0.trans s3) ?_
      rw [ff]
      exact ⟨a3, y, z, rfl, SqT.of upd_same, hy.mono s3, hz.mono s3⟩
  · rintro σ H2 ⟨v3, v4, rfl, sm, hf⟩
    rw [Paired.length pr, List.take_length] at hf
    refine q _ _ (s1.trans sm) ?_
    rw [hf]
    rfl
end
end Of

set_option Elab.async false
set_option linter.all false
set_option maxRecDepth 100000
set_option maxHeartbeats 4000000
namespace Of
open PySem L2
/-! ### the law's draws -/
/-- the state -/
def Sta (H : Hp) (s : Addr) : Prop := ∃ a b : Int, 0 ≤ a ∧ H s = some (.lst [.int a, .int b])
/-- the script, whatever becomes of the state -/
def Scr (K : PySem.W.Frag) (H : Hp) (s c : Addr) (ns : List Int) : Prop := ∀ H', Kp s H H' → SqL K H' c (ns.map V.int)
theorem Scr.mono {K : PySem.W.Frag} {H H' : Hp} {s c : Addr} {ns : List Int} (h : Scr K H s c ns) (k : Kp s H H') : Scr K H' s c ns := fun H2 k2 => h H2 (k.trans k2)
def spDraw (K : PySem.W.Frag) : Sp := fun vs H Q _ => ∃ (s c : Addr) (size : Int) (ns : List Int), vs = [.ref s, .ref c, .int size] ∧ Sta H s ∧ Scr K H s c ns ∧ ns.length ≤ 63 ∧ 0 < size ∧ size < 2 ^ 100 ∧ ∀ H' d, Kp s H H' → Sta H' s → 0 ≤ d → d < size → Q (.int d) H'
section
variable {P : Program} {w : World} {K : PySem.W.Frag} {mg : Str → Option Value} {base : Heap} {CH CR CT : Addr}
theorem scDraw : FnScope ["_law_state", "_law_script", "_law_size", "_law_cell", "_law_mixed", "_law_digit"] ["_law_state", "_law_script", "_law_size"] (defScope sDraw) := ⟨rfl, rfl, rfl, by decide +kernel, rfl, by decide +kernel, by decide +kernel⟩
theorem ok_draw {f : Addr} {fd : FuncData} (F : Fun K "_law_draw" "_law_draw" sDraw f fd) (T : Txt K mg CH CR CT) : FnOk P w K mg base CX0 1 f fd ["_law_state", "_law_script", "_law_size"] (spDraw K) := by
  refine F.ok scDraw (fun vs H Q E h => ?_) (fun cdv A outer s H vs Q E hr h => ?_)
  · obtain ⟨l, c, size, ns, rfl, _⟩ := h
    rfl
  obtain ⟨l, c, size, ns, rfl, ⟨a, b, ha, hs⟩, hc, hn, h0, h1, q⟩ := h
  refine ⟨_, (pss_cons ((ps_if ((pt_cmpR op_eq ((pe_ix ix_list (pv 0) (pe_int) (fun _ _ => rfl))) (pe_int) (nomark _))) (pss_cons ((ps_set (i := 3) scDraw.nd rfl (Or.inl rfl) (pe_int))) (pss_cons ((ps_if ((pt_cmpR op_gt ((pe_callB call_len_seq (by rfl) T.len PySem.boot_len (pa_cons (pv 1) pa_nil))) (pe_int) (nomark _))) (pss_one ((ps_set (i := 3) scDraw.nd rfl (Or.inl rfl) ((pe_ix ix_list (pv 1) ((pe_op op_mod ((pe_ix ix_list (pv 0) (pe_int) (fun _ _ => rfl))) ((pe_callB call_len_seq (by rfl) T.len PySem.boot_len (pa_cons (pv 1) pa_nil))))) (fun _ _ => rfl)))))) pss_nil)) (pss_cons ((ps_if ((pt_cmpR op_lt (pv 3) (pe_int) (nomark _))) (pss_one ((ps_set (i := 3) scDraw.nd rfl (Or.inl rfl) ((pe_op op_sub (pe_int) ((pe_op op_mul (pe_int) (pv 3)))))))) pss_nil)) (pss_cons ((ps_set (i := 4) scDraw.nd rfl (Or.inl rfl) ((pe_op op_mod ((pe_callTy call_int1 (by rfl) T.int (by decide +kernel) (pa_cons ((pe_op op_mul ((pe_op op_add ((pe_op op_add (pv 3) ((pe_op op_mul ((pe_ix ix_list (pv 0) (pe_int) (fun _ _ => rfl))) (pe_int))))) (pe_int))) (pe_int))) pa_nil))) (pe_int))))) (pss_cons ((ps_asg ((pe_op op_mod ((pe_callTy call_int1 (by rfl) T.int (by decide +kernel) (pa_cons ((pe_op op_add ((pe_op op_mul (pv 4) (pe_int))) ((pe_op op_mul ((pe_ix ix_list (pv 0) (pe_int) (fun _ _ => rfl))) (pe_int))))) pa_nil))) (pe_int))) (pg_sub (pv 0) (pe_int) set_list))) (pss_cons ((ps_if ((PW.pt (pw_and ((pt_cmpR op_ge (pv 3) ((pe_op op_pow (pe_int) (pe_int))) (nomark _))) (pw_and1 ((pt_cmpR op_lt ((pe_ix ix_list (pv 0) (pe_int) (fun _ _ => rfl))) ((pe_callB call_len_seq (by rfl) T.len PySem.boot_len (pa_cons (pv 1) pa_nil))) (nomark _))))))) (pss_one ((ps_asg (pv 3) (pg_sub (pv 0) (pe_int) set_list)))) pss_nil)) (pss_one ((ps_asg ((pe_op op_add ((pe_ix ix_list (pv 0) (pe_int) (fun _ _ => rfl))) (pe_int))) (pg_sub (pv 0) (pe_int) set_list)))))))))) pss_nil)) (pss_cons ((ps_set (i := 5) scDraw.nd rfl (Or.inl rfl) ((pe_op op_mod ((pe_callTy call_int1 (by rfl) T.int (by decide +kernel) (pa_cons ((pe_ix ix_list (pv 0) (pe_int) (fun _ _ => rfl))) pa_nil))) (pv 2))))) (pss_cons ((ps_asg ((pe_op op_fdivW ((pe_ix ix_list (pv 0) (pe_int) (fun _ _ => rfl))) (pv 2))) (pg_sub (pv 0) (pe_int) set_list))) (pss_one ((ps_ret (pv 5))))))), ?_⟩
  have hb : size.natAbs < 2 ^ 100 := by
    have e : (2 : Int) ^ 100 = ((2 ^ 100 : Nat) : Int) := by decide
    omega
  have hcH := hc H (Kp.refl _ _)
  have dv : ∀ z : Int, CDivW z size := fun z => wide_div h0 hb (by decide) (by decide)
  refine ⟨_, rfl, l, _, 1, .int b, rfl, rfl, SqL.of hs, atI_nat (j := 1) rfl, rfl, _, rfl, ite2 (fun _ => ?_) (fun _ => ?_)⟩
  · have cells : ∀ H1 : Hp, H1 = H → 0 < ns.length → ∃ x : Int, atI (ns.map V.int) (a % ((ns.map V.int).length : Int)) = some (.int x) := fun _ _ hp => by
      rw [List.length_map]
      have h2 := Int.emod_nonneg a (show (ns.length : Int) ≠ 0 by omega)
      have h3 := Int.emod_lt_of_pos a (show (0 : Int) < ns.length by omega)
      obtain ⟨j, hj⟩ := Int.eq_ofNat_of_zero_le h2
      rw [hj]
      refine ⟨ns[j]'(by omega), atI_nat ?_⟩
      rw [List.getElem?_map, List.getElem?_eq_getElem (by omega)]
      rfl
    refine ⟨_, rfl, c, _, rfl, .inl hcH, _, _, rfl, rfl, _, rfl, ite2 (fun e => ?big) (fun _ => ?_)⟩
    case' big =>
      have hp : 0 < ns.length := by
        have e := of_decide_eq_true e
        rw [List.length_map] at e
        omega
      obtain ⟨x, hx⟩ := cells H rfl hp
      refine ⟨_, rfl, _, rfl, l, _, 0, .int a, rfl, rfl, SqL.of hs, atI_nat (j := 0) rfl, _, rfl, c, _, rfl, .inl hcH, _, _, rfl, rfl, (by show 0 < ((ns.map V.int).length : Int); rw [List.length_map]; omega), c, _, _, .int x, rfl, rfl, hcH, hx, ?later⟩
    all_goals refine ⟨_, rfl, _, _, rfl, rfl, _, rfl, ite2 (fun _ => ?_) (fun _ => ?_)⟩
    all_goals try refine ⟨_, rfl, _, _, rfl, rfl, .inl ⟨by decide, by decide⟩, _, _, rfl, rfl, ?_⟩
    all_goals
      refine ⟨_, rfl, _, rfl, l, _, 0, .int a, rfl, rfl, SqL.of hs, atI_nat (j := 0) rfl, _, _, rfl, rfl, .inr ⟨by decide, by decide⟩, _, _, rfl, rfl, _, _, rfl, rfl, _, _, rfl, rfl, .inr ⟨by decide, by decide⟩, .inl ⟨_, rfl, _, _, rfl, rfl, (show (0 : Int) < 2147483647 by decide), ?_⟩⟩
      refine ⟨_, rfl, _, _, rfl, rfl, .inr ⟨by decide, by decide⟩, _, rfl, l, _, 0, .int a, rfl, rfl, SqL.of hs, atI_nat (j := 0) rfl, _, _, rfl, rfl, .inr ⟨by decide, by decide⟩, _, _, rfl, rfl, .inl ⟨_, rfl, _, _, rfl, rfl, (show (0 : Int) < 4294967291 by decide), _, rfl, l, _, 1, 1, rfl, rfl, hs, rfl, ?_⟩⟩
      refine ⟨_, rfl, _, _, rfl, rfl, ⟨by decide, by decide, by decide⟩, _, _, rfl, rfl, _, rfl, ite2 (fun _ => ?_) (fun _ => iteF ?_)⟩
      all_goals try refine ⟨_, rfl, l, _, 0, .int a, rfl, rfl, SqL.of upd_same, atI_nat (j := 0) rfl, _, rfl, c, _, rfl, .inl (hc _ ((Kp.refl _ _).upd _)), _, _, rfl, rfl, _, rfl, ite2 (fun _ => ?_) (fun _ => ?_)⟩
      all_goals try refine ⟨_, rfl, _, rfl, l, _, 1, 1, rfl, rfl, upd_same, rfl, ?_⟩
      all_goals
        refine ⟨_, rfl, l, _, 0, .int a, rfl, rfl, SqL.of upd_same, atI_nat (j := 0) rfl, _, _, rfl, rfl, _, rfl, l, _, 0, 0, rfl, rfl, upd_same, rfl, ?_⟩
        refine ⟨_, rfl, l, _, 1, _, rfl, rfl, SqL.of upd_same, atI_nat (j := 1) rfl, .inl ⟨_, rfl, _, rfl, _, _, rfl, rfl, h0, ?_⟩⟩
        refine ⟨_, rfl, l, _, 1, _, rfl, rfl, SqL.of upd_same, atI_nat (j := 1) rfl, _, rfl, _, _, rfl, rfl, dv _, _, rfl, l, _, 1, 1, rfl, rfl, upd_same, rfl, _, rfl, ?_⟩
        exact q _ _ (by repeat first | exact Kp.refl _ _ | refine Kp.upd ?_ _) ⟨a + 1, _, by omega, upd_same⟩ (Int.emod_nonneg _ (by omega)) (Int.emod_lt_of_pos _ h0)
  · refine ⟨_, rfl, l, _, 1, _, rfl, rfl, SqL.of hs, atI_nat (j := 1) rfl, .inl ⟨_, rfl, _, rfl, _, _, rfl, rfl, h0, ?_⟩⟩
    refine ⟨_, rfl, l, _, 1, _, rfl, rfl, SqL.of hs, atI_nat (j := 1) rfl, _, rfl, _, _, rfl, rfl, dv _, _, rfl, l, _, 1, 1, rfl, rfl, hs, rfl, _, rfl, ?_⟩
    exact q _ _ ((Kp.refl _ _).upd _) ⟨a, _, ha, upd_same⟩ (Int.emod_nonneg _ (by omega)) (Int.emod_lt_of_pos _ h0)
end
end Of

set_option Elab.async false
set_option linter.all false
set_option maxRecDepth 100000
set_option maxHeartbeats 4000000
namespace Of
open PySem L2
theorem Sta.ne {H : Hp} {s p : Addr} (h : Sta H s) (n : H p = none) : s ≠ p := by
  obtain ⟨a, b, _, h⟩ := h
  exact ne_of_none h n
theorem Sta.ne' {H : Hp} {s p : Addr} (h : Sta H s) (n : H p = none) : p ≠ s := (h.ne n).symm
theorem Sta.same {H H' : Hp} {s : Addr} (h : Sta H s) (e : Same H H') : Sta H' s := by
  obtain ⟨a, b, h0, h⟩ := h
  exact ⟨a, b, h0, e _ _ h⟩
theorem Sta.upd {H : Hp} {s p : Addr} (h : Sta H s) (n : p ≠ s) (o : HO) : Sta (L2.upd H p o) s := by
  obtain ⟨a, b, h0, h⟩ := h
  exact ⟨a, b, h0, by rw [upd_ne n.symm]; exact h⟩
theorem Kp.free {H H' : Hp} {s p : Addr} (k : Kp s H H') (h : Sta H' s) (n : H' p = none) : H p = none := by
  cases e : H p with
  | none => rfl
  | some o =>
    have z := k p o (h.ne' n) e
    rw [n] at z
    cases z
theorem dk_ne {H : Hp} {s p : Addr} {kvs : Pairs} (h : Sta H s) (hp : H p = some (dk kvs)) : p ≠ s := by
  obtain ⟨a, b, _, h⟩ := h
  exact ne_of hp h (by intro y; cases y)
theorem pow_le2 {m n : Nat} (h : m ≤ n) : (2 : Int) ^ m ≤ 2 ^ n := by
  obtain ⟨k, rfl⟩ := Nat.exists_eq_add_of_le h
  rw [Int.pow_add]
  have a := pow_pos2 m
  have b := pow_pos2 k
  calc (2 : Int) ^ m = 2 ^ m * 1 := (Int.mul_one _).symm
    _ ≤ 2 ^ m * 2 ^ k := Int.mul_le_mul_of_nonneg_left (by omega) (by omega)
theorem at_pick {ns : List Int} {d M : Int} (h0 : 0 ≤ d) (h1 : d < (ns.length : Int)) (hb : ∀ z ∈ ns, 0 ≤ z ∧ z < M) : ∃ x : Int, atI (ns.map V.int) d = some (.int x) ∧ 0 ≤ x ∧ x < M := by
  obtain ⟨j, rfl⟩ := Int.eq_ofNat_of_zero_le h0
  have hj : j < ns.length := by omega
  have hm := hb ns[j] (List.getElem_mem hj)
  refine ⟨ns[j], atI_nat ?_, hm.1, hm.2⟩
  rw [List.getElem?_map, List.getElem?_eq_getElem hj]
  rfl
theorem xor_lt32 {x y : Int} (hx : 0 ≤ x) (hx2 : x < 2 ^ 32) (hy : 0 ≤ y) (hy2 : y < 2 ^ 32) : 0 ≤ Builtin.bitXor x y ∧ Builtin.bitXor x y < 2 ^ 32 := by
  rw [Bits.bitXor_pp hx hy]
  have h1 : x.toNat < 2 ^ 32 := by omega
  have h2 : y.toNat < 2 ^ 32 := by omega
  have h := Nat.xor_lt_two_pow h1 h2
  omega
def spKey (K : PySem.W.Frag) : Sp := fun vs H Q _ => ∃ (s c p : Addr) (ns : List Int) (kvs : Pairs), vs = [.ref s, .ref c, .ref p] ∧ Sta H s ∧ Scr K H s c ns ∧ ns.length ≤ 63 ∧ H p = some (dk kvs) ∧ kvs.length ≤ 8 ∧ (∀ e ∈ kvs, 0 ≤ e.1 ∧ e.1 < 2 ^ 32) ∧
  ∀ H' k, Kp s H H' → Sta H' s → 0 ≤ k → k < 2 ^ 32 → Q (.int k) H'
section
variable {P : Program} {w : World} {K : PySem.W.Frag} {mg : Str → Option Value} {base : Heap} {CH CR CT : Addr}
theorem scKey : FnScope ["_law_state", "_law_script", "_law_pairs_here", "_law_near", "_law_key_here"] ["_law_state", "_law_script", "_law_pairs_here"] (defScope sKey) := ⟨rfl, rfl, rfl, by decide +kernel, rfl, by decide +kernel, by decide +kernel⟩
theorem ok_key {f : Addr} {fd : FuncData} (F : Fun K "_law_key" "_law_key" sKey f fd) (T : Txt K mg CH CR CT) (cD : C8.Cal P w K mg base 1 "_law_draw" (spDraw K) []) : FnOk P w K mg base CX0 2 f fd ["_law_state", "_law_script", "_law_pairs_here"] (spKey K) := by
  refine F.ok scKey (fun vs H Q E h => ?_) (fun cdv A outer s H vs Q E hr h => ?_)
  · obtain ⟨l, c, p, ns, kvs, rfl, _⟩ := h
    rfl
  obtain ⟨l, c, p, ns, kvs, rfl, sta, scr, hn, hp, h8, hk, q⟩ := h
  refine ⟨_, (pss_cons ((ps_set (i := 3) scKey.nd rfl (Or.inl rfl) ((pe_lst (pa_cons (pe_int) (pa_cons (pe_int) (pa_cons (pe_int) (pa_cons (pe_int) (pa_cons ((pe_op op_shl (pe_int) (pe_int))) (pa_cons ((pe_op op_sub ((pe_op op_shl (pe_int) (pe_int))) (pe_int))) (pa_cons ((pe_op op_shl (pe_int) (pe_int))) (pa_cons ((pe_op op_sub ((pe_op op_shl (pe_int) (pe_int))) (pe_int))) pa_nil)))))))))))) (pss_cons ((ps_set (i := 4) scKey.nd rfl (Or.inl rfl) ((pe_ix ix_list ((pe_lst (pa_cons ((pe_ix ix_list (pv 3) ((C8.pe_c cD hr (by first | exact Nat.le_refl _ | decide | omega) (by rfl) (pa_cons (pv 0) (pa_cons (pv 1) (pa_cons (pe_int) pa_nil))))) (fun _ _ => rfl))) (pa_cons ((C8.pe_c cD hr (by first | exact Nat.le_refl _ | decide | omega) (by rfl) (pa_cons (pv 0) (pa_cons (pv 1) (pa_cons ((pe_op op_shl (pe_int) (pe_int))) pa_nil))))) (pa_cons ((pe_op op_shl ((C8.pe_c cD hr (by first | exact Nat.le_refl _ | decide | omega) (by rfl) (pa_cons (pv 0) (pa_cons (pv 1) (pa_cons (pe_int) pa_nil))))) (pe_int))) pa_nil))))) ((C8.pe_c cD hr (by first | exact Nat.le_refl _ | decide | omega) (by rfl) (pa_cons (pv 0) (pa_cons (pv 1) (pa_cons (pe_int) pa_nil))))) (fun _ _ => rfl))))) (pss_cons ((ps_if ((PW.pt (pw_and ((pt_cmpR op_gt ((pe_callB call_lenD (by rfl) T.len PySem.boot_len (pa_cons (pv 2) pa_nil))) (pe_int) (nomark _))) (pw_and1 ((pt_cmpR op_eq ((C8.pe_c cD hr (by first | exact Nat.le_refl _ | decide | omega) (by rfl) (pa_cons (pv 0) (pa_cons (pv 1) (pa_cons (pe_int) pa_nil))))) (pe_int) (nomark _))))))) (pss_one ((ps_set (i := 4) scKey.nd rfl (Or.inl rfl) ((pe_op op_xor ((pe_ix ix_list ((pe_callB (call_sortedDI rfl) (by rfl) T.sorted (by decide +kernel) (pa_cons (pv 2) pa_nil))) ((C8.pe_c cD hr (by first | exact Nat.le_refl _ | decide | omega) (by rfl) (pa_cons (pv 0) (pa_cons (pv 1) (pa_cons ((pe_callB call_lenD (by rfl) T.len PySem.boot_len (pa_cons (pv 2) pa_nil))) pa_nil))))) (fun _ _ => rfl))) ((pe_ix ix_list ((pe_lst (pa_cons (pe_int) (pa_cons (pe_int) (pa_cons (pe_int) (pa_cons ((pe_op op_shl (pe_int) ((C8.pe_c cD hr (by first | exact Nat.le_refl _ | decide | omega) (by rfl) (pa_cons (pv 0) (pa_cons (pv 1) (pa_cons (pe_int) pa_nil))))))) pa_nil)))))) ((C8.pe_c cD hr (by first | exact Nat.le_refl _ | decide | omega) (by rfl) (pa_cons (pv 0) (pa_cons (pv 1) (pa_cons (pe_int) pa_nil))))) (fun _ _ => rfl)))))))) pss_nil)) (pss_one ((ps_ret (pv 4))))))), ?_⟩
  refine ⟨_, _, rfl, rfl, ⟨by decide, by decide, by decide⟩, _, _, rfl, rfl, ⟨by decide, by decide, by decide⟩, _, _, rfl, rfl, _, _, rfl, rfl, ⟨by decide, by decide, by decide⟩, _, _, rfl, rfl, ⟨by decide, by decide, by decide⟩, _, _, rfl, rfl, (by show 8 ≤ sizeLine; decide), fun nl nn => ?_⟩
  -- the draws within
  have s0 := same_new nn (.lst [V.int 0, V.int 1, V.int 2, V.int 3, V.int (1 * 2 ^ (31 : Int).toNat), V.int (1 * 2 ^ (32 : Int).toNat - 1), V.int (1 * 2 ^ (30 : Int).toNat), V.int (1 * 2 ^ (31 : Int).toNat - 1)])
  have h0 : (upd H nl (.lst [V.int 0, V.int 1, V.int 2, V.int 3, V.int (1 * 2 ^ (31 : Int).toNat), V.int (1 * 2 ^ (32 : Int).toNat - 1), V.int (1 * 2 ^ (30 : Int).toNat), V.int (1 * 2 ^ (31 : Int).toNat - 1)])) nl = some (.lst (([0, 1, 2, 3, 1 * 2 ^ (31 : Int).toNat, 1 * 2 ^ (32 : Int).toNat - 1, 1 * 2 ^ (30 : Int).toNat, 1 * 2 ^ (31 : Int).toNat - 1] : List Int).map V.int)) := upd_same
  have sta0 := sta.same s0
  have nnl := sta.ne' nn
  refine ⟨_, rfl, _, rfl, _, rfl, l, c, 8, ns, rfl, sta0, scr.mono s0.kp, hn, by decide, by decide, fun H1 d1 k1 sta1 a1 b1 => ?_⟩
  obtain ⟨x1, hx1, x10, x11⟩ := at_pick (ns := [0, 1, 2, 3, 1 * 2 ^ (31 : Int).toNat, 1 * 2 ^ (32 : Int).toNat - 1, 1 * 2 ^ (30 : Int).toNat, 1 * 2 ^ (31 : Int).toNat - 1]) (M := 2 ^ 32) a1 b1 (by decide +kernel)
  have k01 : Kp l H H1 := s0.kp.trans k1
  refine ⟨nl, _, _, .int x1, rfl, rfl, SqL.of (k1 _ _ nnl h0), hx1, ?_⟩
  refine ⟨_, rfl, _, rfl, _, _, rfl, rfl, ⟨by decide, by decide, by decide⟩, l, c, _, ns, rfl, sta1, scr.mono k01, hn, (by decide), (by decide), fun H2 d2 k2 sta2 a2 b2 => ?_⟩
  have k02 := k01.trans k2
  refine ⟨_, rfl, _, rfl, l, c, 16, ns, rfl, sta2, scr.mono k02, hn, (by decide), (by decide), fun H3 d3 k3 sta3 a3 b3 => ?_⟩
  have k03 := k02.trans k3
  refine ⟨_, _, rfl, rfl, ⟨by decide, by decide, (by have e : (2 : Nat) ^ 64 = 18446744073709551616 := (by decide); omega)⟩, (by show 3 ≤ sizeLine; decide), fun n2 nn2 => ?_⟩
  have s4 := same_new nn2 (.lst [V.int x1, V.int d2, V.int (d3 * 2 ^ (28 : Int).toNat)])
  have k04 := k03.trans s4.kp
  have sta4 := sta3.same s4
  have nn2l := sta3.ne' nn2
  refine ⟨_, rfl, _, rfl, l, c, 3, ns, rfl, sta4, scr.mono k04, hn, (by decide), (by decide), fun H5 d5 k5 sta5 a5 b5 => ?_⟩
  have k05 := k04.trans k5
  have e28 : (2 : Int) ^ (28 : Int).toNat = 268435456 := by decide
  have e32 : (1 : Int) * 2 ^ (32 : Int).toNat = 2 ^ 32 := by decide
  have e32' : (2 : Int) ^ 32 = 4294967296 := by decide
  obtain ⟨x5, hx5, x50, x51⟩ := at_pick (ns := [x1, d2, d3 * 2 ^ (28 : Int).toNat]) (M := 2 ^ 32) a5 b5 (by
    intro z hz
    simp only [List.mem_cons, List.not_mem_nil, or_false] at hz
    rcases hz with rfl | rfl | rfl
    · exact ⟨x10, x11⟩
    · exact ⟨a2, by omega⟩
    · rw [e28]; omega)
  refine ⟨n2, _, _, .int x5, rfl, rfl, SqL.of (k5 _ _ nn2l upd_same), hx5, ?_⟩
  have np := dk_ne sta hp
  have hp5 := k05 _ _ np hp
  have el : ((kvs.map toK).length : Int) = (kvs.length : Int) := by rw [List.length_map]
  refine ⟨_, rfl, p, _, rfl, hp5, _, _, rfl, rfl, _, rfl, ite2 (fun e => ?_) (fun _ => iteF ?_)⟩
  · have hpos : 0 < ((kvs.map toK).length : Int) := of_decide_eq_true e
    refine ⟨_, rfl, _, rfl, l, c, 3, ns, rfl, sta5, scr.mono k05, hn, (by decide), (by decide), fun H6 d6 k6 sta6 a6 b6 => ?_⟩
    have k06 := k05.trans k6
    have hp6 := k06 _ _ np hp
    refine ⟨rfl, _, rfl, ite2 (fun _ => ?_) (fun _ => ?_)⟩
    · refine ⟨_, rfl, p, kvs.map toK, kvs.map (·.1), rfl, .inl hp6, (by rw [List.map_map, List.map_map]; rfl), (by rw [List.length_map]; omega), fun ys n7 perm _ nn7 => ?_⟩
      have s7 := same_new nn7 (.lst (ys.map V.int))
      have k07 := k06.trans s7.kp
      have sta7 := sta6.same s7
      have hp7 := k07 _ _ np hp
      have nn7l := sta6.ne' nn7
      have e100 : (8 : Int) < 2 ^ 100 := by decide
      refine ⟨_, rfl, _, rfl, _, rfl, p, _, rfl, hp7, l, c, _, ns, rfl, sta7, scr.mono k07, hn, hpos, (by omega), fun H8 d8 k8 sta8 a8 b8 => ?_⟩
      have k08 := k07.trans k8
      have ly : ys.length = kvs.length := by rw [perm.length_eq, List.length_map]
      obtain ⟨x8, hx8, x80, x81⟩ := at_pick (ns := ys) (M := 2 ^ 32) a8 (by omega) (by
        intro z hz
        obtain ⟨e, he, rfl⟩ := List.mem_map.mp (perm.mem_iff.mp hz)
        exact hk e he)
      refine ⟨n7, _, _, .int x8, rfl, rfl, SqL.of (k8 _ _ nn7l upd_same), hx8, ?_⟩
      refine ⟨_, rfl, _, rfl, l, c, 32, ns, rfl, sta8, scr.mono k08, hn, (by decide), (by decide), fun H9 d9 k9 sta9 a9 b9 => ?_⟩
      have k09 := k08.trans k9
      refine ⟨_, _, rfl, rfl, ⟨a9, (by omega), (by decide)⟩, (by show 4 ≤ sizeLine; decide), fun nA nnA => ?_⟩
      have sA := same_new nnA (.lst [V.int 0, V.int 0, V.int 1, V.int (1 * 2 ^ d9.toNat)])
      have k0A := k09.trans sA.kp
      have staA := sta9.same sA
      have nnAl := sta9.ne' nnA
      refine ⟨_, rfl, _, rfl, l, c, 4, ns, rfl, staA, scr.mono k0A, hn, (by decide), (by decide), fun HB dB kB staB aB bB => ?_⟩
      have k0B := k0A.trans kB
      obtain ⟨xB, hxB, xB0, xB1⟩ := at_pick (ns := [0, 0, 1, 1 * 2 ^ d9.toNat]) (M := 2 ^ 32) aB bB (by
        intro z hz
        simp only [List.mem_cons, List.not_mem_nil, or_false] at hz
        have hh : (0 : Int) < 2 ^ d9.toNat := pow_pos2 _
        have hh2 : (2 : Int) ^ d9.toNat ≤ 2 ^ 31 := pow_le2 (by omega)
        have e31 : (2 : Int) ^ 31 = 2147483648 := by decide
        rcases hz with rfl | rfl | rfl | rfl <;> omega)
      refine ⟨nA, _, _, .int xB, rfl, rfl, SqL.of (kB _ _ nnAl upd_same), hxB, _, _, rfl, rfl, ?_⟩
      have fin := xor_lt32 x80 x81 xB0 xB1
      exact ⟨_, rfl, q _ _ k0B staB fin.1 fin.2⟩
    · exact ⟨_, rfl, q _ _ k06 sta6 x50 x51⟩
  · exact ⟨_, rfl, q _ _ k05 sta5 x50 x51⟩
end
end Of

set_option Elab.async false
set_option linter.all false
set_option maxRecDepth 100000
set_option maxHeartbeats 4000000
namespace Of
open PySem L2
theorem put_any {kvs : Pairs} (k v : Int) (nd : (kvs.map (·.1)).Nodup) : ∃ kvs' : Pairs, putK (kvs.map toK) (Sum.inl k : Key) (.int v) = kvs'.map toK ∧ (kvs'.map (·.1)).Nodup ∧ kvs'.length ≤ kvs.length + 1 ∧ ∀ e ∈ kvs', (e.1 = k ∧ e.2 = v) ∨ e ∈ kvs := by
  by_cases h : k ∈ kvs.map (·.1)
  · refine ⟨kvs.map fun p => if p.1 = k then (p.1, v) else p, ?_, ?_, ?_, ?_⟩
    · unfold putK
      rw [if_pos, List.map_map, List.map_map]
      · refine List.map_congr_left fun p _ => ?_
        show (if (Sum.inl p.1 : Key) = Sum.inl k then ((Sum.inl p.1 : Key), V.int v) else toK p) = toK (if p.1 = k then (p.1, v) else p)
        by_cases e : p.1 = k
        · rw [if_pos (congrArg Sum.inl e), if_pos e]
          rfl
        · rw [if_neg (fun z => e (Sum.inl.inj z)), if_neg e]
      · obtain ⟨p, hp, e⟩ := List.mem_map.mp h
        rw [List.any_eq_true]
        exact ⟨toK p, List.mem_map.mpr ⟨p, hp, rfl⟩, decide_eq_true (congrArg Sum.inl e)⟩
    · rw [List.map_map]
      have e : (Prod.fst ∘ fun p : Int × Int => if p.1 = k then (p.1, v) else p) = Prod.fst := by
        funext p
        show (if p.1 = k then (p.1, v) else p).1 = p.1
        split <;> rfl
      rw [e]
      exact nd
    · rw [List.length_map]
      omega
    · intro e he
      obtain ⟨p, hp, rfl⟩ := List.mem_map.mp he
      by_cases z : p.1 = k
      · rw [if_pos z]
        exact .inl ⟨z, rfl⟩
      · rw [if_neg z]
        exact .inr hp
  · refine ⟨kvs ++ [(k, v)], put_new (p := (k, v)) h, ?_, ?_, ?_⟩
    · rw [List.map_append]
      refine List.nodup_append.mpr ⟨nd, by simp, fun a ha b hb => ?_⟩
      simp only [List.map_cons, List.map_nil, List.mem_singleton] at hb
      rintro rfl
      exact h (hb ▸ ha)
    · rw [List.length_append]
      exact Nat.le_refl _
    · intro e he
      rcases List.mem_append.mp he with he | he
      · exact .inr he
      · rw [List.mem_singleton.mp he]
        exact .inl ⟨rfl, rfl⟩
def spPairs (K : PySem.W.Frag) : Sp := fun vs H Q _ => ∃ (s c : Addr) (ns : List Int), vs = [.ref s, .ref c, .int 8] ∧ Sta H s ∧ Scr K H s c ns ∧ ns.length ≤ 63 ∧
  ∀ H' p kvs, Kp s H H' → Sta H' s → H p = none → H' p = some (dk kvs) → Good 32 0 kvs → Q (.ref p) H'
section
variable {P : Program} {w : World} {K : PySem.W.Frag} {mg : Str → Option Value} {base : Heap} {CH CR CT : Addr}
theorem scPairs : FnScope ["_law_state", "_law_script", "_law_most", "_law_pairs_here", "_law_k"] ["_law_state", "_law_script", "_law_most"] (defScope sPairs) := ⟨rfl, rfl, rfl, by decide +kernel, rfl, by decide +kernel, by decide +kernel⟩
theorem ok_pairs {f : Addr} {fd : FuncData} (F : Fun K "_law_pairs" "_law_pairs" sPairs f fd) (T : Txt K mg CH CR CT) (cD : C8.Cal P w K mg base 1 "_law_draw" (spDraw K) []) (cK : C8.Cal P w K mg base 2 "_law_key" (spKey K) []) :
    FnOk P w K mg base CX0 3 f fd ["_law_state", "_law_script", "_law_most"] (spPairs K) := by
  refine F.ok scPairs (fun vs H Q E h => ?_) (fun cdv A outer s H vs Q E hr h => ?_)
  · obtain ⟨l, c, ns, rfl, _⟩ := h
    rfl
  obtain ⟨l, c, ns, rfl, sta, scr, hn, q⟩ := h
  have hu := hu_of hr
  refine ⟨_, (pss_cons ((ps_set (i := 3) scPairs.nd rfl (Or.inl rfl) (pe_dnewK))) (pss_cons ((ps_for PassesOwn.never rfl (pi_range1 (by rfl) T.range (pa_cons ((C8.pe_c cD hr (by first | exact Nat.le_refl _ | decide | omega) (by rfl) (pa_cons (pv 0) (pa_cons (pv 1) (pa_cons ((pe_op op_add (pv 2) (pe_int))) pa_nil))))) pa_nil)) ((pg_name (i := 4) scPairs.nd rfl (Or.inl rfl))) (pss_one (ps_dput hu (pv 3) ((C8.pe_c cK hr (by first | exact Nat.le_refl _ | decide | omega) (by rfl) (pa_cons (pv 0) (pa_cons (pv 1) (pa_cons (pv 3) pa_nil))))) ((pe_ix ix_list ((pe_lst (pa_cons ((C8.pe_c cD hr (by first | exact Nat.le_refl _ | decide | omega) (by rfl) (pa_cons (pv 0) (pa_cons (pv 1) (pa_cons (pe_int) pa_nil))))) (pa_cons ((C8.pe_c cD hr (by first | exact Nat.le_refl _ | decide | omega) (by rfl) (pa_cons (pv 0) (pa_cons (pv 1) (pa_cons ((pe_op op_shl (pe_int) (pe_int))) pa_nil))))) pa_nil)))) ((C8.pe_c cD hr (by first | exact Nat.le_refl _ | decide | omega) (by rfl) (pa_cons (pv 0) (pa_cons (pv 1) (pa_cons (pe_int) pa_nil))))) (fun _ _ => rfl))) rfl)))) (pss_one ((ps_ret (pv 3)))))), ?_⟩
  intro p np
  have s0 := same_new np (.dK [])
  have sta0 := sta.same s0
  have npl := sta.ne' np
  refine ⟨_, rfl, _, rfl, _, rfl, _, _, rfl, rfl, l, c, 9, ns, rfl, sta0, scr.mono s0.kp, hn, by decide, by decide, fun H1 d k1 sta1 a1 b1 => ?_⟩
  refine ⟨d, rfl, by omega, by omega, for_range (fun i σ H2 => ∃ (v4 : Option V) (kvs : Pairs), σ = [some (.ref l), some (.ref c), some (.int 8), some (.ref p), v4] ∧ Kp l H H2 ∧ Sta H2 l ∧ H2 p = some (dk kvs) ∧ (kvs.map (·.1)).Nodup ∧ kvs.length ≤ i ∧
    ∀ e ∈ kvs, 0 ≤ e.1 ∧ e.1 < 2 ^ 32 ∧ 0 ≤ e.2 ∧ e.2 < 2 ^ 70) ?_ ?_ ?_⟩
  · exact ⟨none, [], rfl, s0.kp.trans k1, sta1, k1 _ _ npl upd_same, List.nodup_nil, Nat.zero_le _, fun e he => absurd he (by simp)⟩
  · rintro i σ H2 hi ⟨v4, kvs, rfl, k02, sta2, hp, nd, hl, hb⟩
    refine ⟨_, rfl, _, rfl, l, c, 9, ns, rfl, sta2, scr.mono k02, hn, by decide, by decide, fun H3 d3 k3 sta3 a3 b3 => ?_⟩
    have k03 := k02.trans k3
    refine ⟨_, rfl, _, rfl, _, _, rfl, rfl, ⟨by decide, by decide, by decide⟩, l, c, _, ns, rfl, sta3, scr.mono k03, hn, (by decide), (by decide), fun H4 d4 k4 sta4 a4 b4 => ⟨(by show 2 ≤ sizeLine; decide), fun n5 nn5 => ?_⟩⟩
    have k04 := k03.trans k4
    have s5 := same_new nn5 (.lst [V.int d3, V.int d4])
    have k05 := k04.trans s5.kp
    have sta5 := sta4.same s5
    refine ⟨_, rfl, _, rfl, l, c, 2, ns, rfl, sta5, scr.mono k05, hn, (by decide), (by decide), fun H6 d6 k6 sta6 a6 b6 => ?_⟩
    have k06 := k05.trans k6
    have e70 : (1 : Int) * 2 ^ (70 : Int).toNat = 2 ^ 70 := by decide
    have e70' : (9 : Int) < 2 ^ 70 := by decide
    obtain ⟨x6, hx6, x60, x61⟩ := at_pick (ns := [d3, d4]) (M := 2 ^ 70) a6 b6 (by
      intro z hz
      simp only [List.mem_cons, List.not_mem_nil, or_false] at hz
      rcases hz with rfl | rfl <;> omega)
    refine ⟨n5, _, _, .int x6, rfl, rfl, SqL.of (k6 _ _ (sta4.ne' nn5) upd_same), hx6, ?_⟩
    have hp6 : H6 p = some (dk kvs) := (((k3.trans k4).trans s5.kp).trans k6) _ _ npl hp
    refine ⟨_, rfl, _, rfl, _, rfl, _, rfl, l, c, p, ns, kvs, rfl, sta6, scr.mono k06, hn, hp6, (by omega), (fun e he => ⟨(hb e he).1, (hb e he).2.1⟩), fun H7 key k7 sta7 a7 b7 => ?_⟩
    have hp7 := k7 _ _ npl hp6
    refine ⟨p, _, rfl, DPut.k (k := Sum.inl key) hp7 (by rw [List.length_map]; exact small1000 (by omega)), ?_⟩
    obtain ⟨kvs', e1, e2, e3, e4⟩ := put_any key x6 nd
    refine ⟨_, kvs', rfl, ?_, sta7.upd npl _, ?_, e2, (by omega), fun e he => ?_⟩
    · intro b o hb2 eb
      rw [upd_ne (ne_of_none eb np)]
      exact (k06.trans k7) b o hb2 eb
    · rw [upd_same, e1]
      rfl
    · rcases e4 e he with ⟨z1, z2⟩ | z
      · rw [z1, z2]
        exact ⟨a7, b7, x60, x61⟩
      · exact hb e z
  · rintro σ H2 ⟨v4, kvs, rfl, k02, sta2, hp, nd, hl, hb⟩
    refine ⟨_, rfl, q _ p kvs k02 sta2 np hp ⟨by decide, by decide, fun e he => ?_, nd, fun e he => (hb e he).2.2, by omega⟩⟩
    have z := hb e he
    rw [Int.zero_add]
    exact ⟨z.1, z.2.1⟩
end
end Of

set_option Elab.async false
set_option linter.all false
set_option maxRecDepth 100000
set_option maxHeartbeats 4000000
namespace Of
open PySem L2
theorem cut_from {ys : List Int} {j : Nat} {lo : Int} (e : lo = (j : Int)) : cutV (ys.map V.int) (some lo) none = (ys.drop j).map V.int := by
  subst e
  unfold cutV
  rw [HT.sIx_none, HT.sIx_nat, List.map_drop, List.length_map]
  by_cases h : j ≤ ys.length
  · rw [Nat.min_eq_left h]
    refine List.take_of_length_le ?_
    rw [List.length_drop, List.length_map]
    exact Nat.le_refl _
  · rw [Nat.min_eq_right (by omega), Nat.sub_self, List.take_zero]
    exact (List.drop_eq_nil_of_le (by rw [List.length_map]; omega)).symm
theorem cut_upto {ys : List Int} {j : Nat} {hi : Int} (e : hi = (j : Int)) (h : j ≤ ys.length) : cutV (ys.map V.int) none (some hi) = (ys.take j).map V.int := by
  subst e
  rw [cut_to (by rw [List.length_map]; exact h), List.map_take]
/-- what a forger has in hand -/
structure Fg (ws : List Int) (m : Nat) : Prop where
  len : ws.length ≤ m
  ne : 0 < ws.length
  wd : ∀ x ∈ ws, 0 ≤ x ∧ x < 2 ^ 70
theorem Fg.cut {ws mid : List Int} {m a j : Nat} (h : Fg ws m) (ha : a < ws.length) (hj : a < j) (h3 : mid.length ≤ 3) (h0 : 0 < mid.length) (hm : ∀ x ∈ mid, 0 ≤ x ∧ x < 2 ^ 70) : Fg (ws.take a ++ mid ++ ws.drop j) (m + 2) := by
  have h1 := h.len
  refine ⟨?_, ?_, fun x hx => ?_⟩
  · rw [List.length_append, List.length_append, List.length_take, List.length_drop]
    omega
  · rw [List.length_append, List.length_append]
    omega
  · rcases List.mem_append.mp hx with hx | hx
    · rcases List.mem_append.mp hx with hx | hx
      · exact h.wd x (List.mem_of_mem_take hx)
      · exact hm x hx
    · exact h.wd x (List.mem_of_mem_drop hx)
theorem Fg.set {ws : List Int} {m a : Nat} {x : Int} (h : Fg ws m) (hx : 0 ≤ x ∧ x < 2 ^ 70) : Fg (ws.set a x) m := by
  refine ⟨by rw [List.length_set]; exact h.len, by rw [List.length_set]; exact h.ne, fun y hy => ?_⟩
  rcases List.mem_or_eq_of_mem_set hy with z | z
  · exact h.wd y z
  · rw [z]
    exact hx
theorem Fg.mono {ws : List Int} {m n : Nat} (h : Fg ws m) (hmn : m ≤ n) : Fg ws n := ⟨Nat.le_trans h.len hmn, h.ne, h.wd⟩
def spForged (K : PySem.W.Frag) : Sp := fun vs H Q _ => ∃ (s c pr : Addr) (v : Int) (ns ws : List Int), vs = [.ref s, .ref c, .int v, .ref pr] ∧ Wok v ∧ Sta H s ∧ Scr K H s c ns ∧ ns.length ≤ 63 ∧ SqL K H pr (ws.map V.int) ∧ Fg ws 1900 ∧
  ∀ H' l ws', Kp s H H' → Sta H' s → H l = none → H' l = some (.lst (ws'.map V.int)) → Fg ws' 2000 → Q (.ref l) H'
section
variable {P : Program} {w : World} {K : PySem.W.Frag} {mg : Str → Option Value} {base : Heap} {CH CR CT : Addr}
theorem scForged : FnScope ["_law_state", "_law_script", "_law_width", "_law_proof", "_law_found", "_law_turn", "_law_at", "_law_kind"] ["_law_state", "_law_script", "_law_width", "_law_proof"] (defScope sForged) := ⟨rfl, rfl, rfl, by decide +kernel, rfl, by decide +kernel, by decide +kernel⟩
theorem ok_forged {f : Addr} {fd : FuncData} (F : Fun K "_law_forged" "_law_forged" sForged f fd) (T : Txt K mg CH CR CT) (cD : C8.Cal P w K mg base 1 "_law_draw" (spDraw K) []) :
    FnOk P w K mg base CX0 2 f fd ["_law_state", "_law_script", "_law_width", "_law_proof"] (spForged K) := by
  refine F.ok scForged (fun vs H Q E h => ?_) (fun cdv A outer s H vs Q E hr h => ?_)
  · obtain ⟨l, c, pr, v, ns, ws, rfl, _⟩ := h
    rfl
  obtain ⟨l, c, pr, v, ns, ws, rfl, wo, sta, scr, hn, hpr, fg, q⟩ := h
  refine ⟨_, (pss_cons ((ps_set (i := 4) scForged.nd rfl (Or.inl rfl) ((pe_callTy call_list_of (by rfl) T.list (by decide +kernel) (pa_cons (pv 3) pa_nil))))) (pss_cons ((ps_for PassesOwn.never rfl (pi_range1 (by rfl) T.range (pa_cons ((pe_op op_add (pe_int) ((C8.pe_c cD hr (by first | exact Nat.le_refl _ | decide | omega) (by rfl) (pa_cons (pv 0) (pa_cons (pv 1) (pa_cons (pe_int) pa_nil))))))) pa_nil)) ((pg_name (i := 5) scForged.nd rfl (Or.inl rfl))) (pss_cons ((ps_set (i := 6) scForged.nd rfl (Or.inl rfl) ((C8.pe_c cD hr (by first | exact Nat.le_refl _ | decide | omega) (by rfl) (pa_cons (pv 0) (pa_cons (pv 1) (pa_cons ((pe_callB call_len_seq (by rfl) T.len PySem.boot_len (pa_cons (pv 4) pa_nil))) pa_nil))))))) (pss_cons ((ps_set (i := 7) scForged.nd rfl (Or.inl rfl) ((C8.pe_c cD hr (by first | exact Nat.le_refl _ | decide | omega) (by rfl) (pa_cons (pv 0) (pa_cons (pv 1) (pa_cons (pe_int) pa_nil))))))) (pss_one ((ps_if ((pt_cmpR op_lt (pv 7) (pe_int) (nomark _))) (pss_one ((ps_asg ((pe_ix ix_list ((pe_lst (pa_cons ((C8.pe_c cD hr (by first | exact Nat.le_refl _ | decide | omega) (by rfl) (pa_cons (pv 0) (pa_cons (pv 1) (pa_cons (pe_int) pa_nil))))) (pa_cons ((C8.pe_c cD hr (by first | exact Nat.le_refl _ | decide | omega) (by rfl) (pa_cons (pv 0) (pa_cons (pv 1) (pa_cons ((pe_op op_shl (pe_int) (pv 2))) pa_nil))))) pa_nil)))) (pv 7) (fun _ _ => rfl))) (pg_sub (pv 4) (pv 6) set_list)))) (pss_one ((ps_if ((pt_cmpR op_eq (pv 7) (pe_int) (nomark _))) (pss_one ((ps_set (i := 4) scForged.nd rfl (Or.inl rfl) ((pe_op op_cat ((pe_op op_cat (pe_slice sl_list (pv 4) po_none (po_some (pv 6))) ((pe_lst (pa_cons (pe_int) (pa_cons ((C8.pe_c cD hr (by first | exact Nat.le_refl _ | decide | omega) (by rfl) (pa_cons (pv 0) (pa_cons (pv 1) (pa_cons ((pe_op op_shl (pe_int) (pe_int))) pa_nil))))) (pa_cons (pe_int) pa_nil))))))) (pe_slice sl_list (pv 4) (po_some (pe_op op_add (pv 6) (pe_int))) po_none)))))) (pss_one ((ps_if ((pt_cmpR op_eq (pv 7) (pe_int) (nomark _))) (pss_one ((ps_set (i := 4) scForged.nd rfl (Or.inl rfl) ((pe_op op_cat ((pe_op op_cat (pe_slice sl_list (pv 4) po_none (po_some (pv 6))) ((pe_lst (pa_cons (pe_int) pa_nil))))) (pe_slice sl_list (pv 4) (po_some (pe_op op_add ((pe_op op_add (pv 6) (pe_int))) ((C8.pe_c cD hr (by first | exact Nat.le_refl _ | decide | omega) (by rfl) (pa_cons (pv 0) (pa_cons (pv 1) (pa_cons (pe_int) pa_nil))))))) po_none)))))) (pss_one ((ps_set (i := 4) scForged.nd rfl (Or.inl rfl) ((pe_op op_cat ((pe_op op_cat (pe_slice sl_list (pv 4) po_none (po_some (pv 6))) ((pe_lst (pa_cons (pe_int) (pa_cons ((C8.pe_c cD hr (by first | exact Nat.le_refl _ | decide | omega) (by rfl) (pa_cons (pv 0) (pa_cons (pv 1) (pa_cons (pe_int) pa_nil))))) (pa_cons ((C8.pe_c cD hr (by first | exact Nat.le_refl _ | decide | omega) (by rfl) (pa_cons (pv 0) (pa_cons (pv 1) (pa_cons ((pe_op op_shl (pe_int) (pv 2))) pa_nil))))) pa_nil))))))) (pe_slice sl_list (pv 4) (po_some (pe_op op_add (pv 6) (pe_int))) po_none))))))))))))))))))) (pss_one ((ps_ret (pv 4)))))), ?_⟩
  refine ⟨_, rfl, pr, _, rfl, .inl hpr, fun l0 nl0 => ?_⟩
  have s0 := same_new nl0 (.lst (ws.map V.int))
  have sta0 := sta.same s0
  refine ⟨_, rfl, _, rfl, l, c, 2, ns, rfl, sta0, scr.mono s0.kp, hn, by decide, by decide, fun H1 d k1 sta1 a1 b1 => ?_⟩
  refine ⟨_, _, rfl, rfl, 1 + d, rfl, by omega, by omega, for_range (fun i σ H2 => ∃ (l4 : Addr) (v5 v6 v7 : Option V) (ws' : List Int), σ = [some (.ref l), some (.ref c), some (.int v), some (.ref pr), some (.ref l4), v5, v6, v7] ∧ Kp l H H2 ∧ Sta H2 l ∧ H l4 = none ∧ H2 l4 = some (.lst (ws'.map V.int)) ∧ Fg ws' (1900 + 2 * i)) ?_ ?_ ?_⟩
  · exact ⟨l0, none, none, none, ws, rfl, s0.kp.trans k1, sta1, nl0, k1 _ _ (sta.ne' nl0) upd_same, fg⟩
  · rintro i σ H2 hi ⟨l4, v5, v6, v7, ws', rfl, k02, sta2, nl4, hl4, fg2⟩
    have hi2 : i < 2 := by omega
    have n4l := sta.ne' nl4
    have el : ((ws'.map V.int).length : Int) = (ws'.length : Int) := by rw [List.length_map]
    have lle := fg2.len
    have lne := fg2.ne
    have e70 : (2 : Int) ^ 32 < 2 ^ 70 := by decide
    have e8 : (1 : Int) * 2 ^ v.toNat ≤ 256 := by
      have z := pow_le2 (show v.toNat ≤ 8 by have := wo.2; omega)
      have e : (2 : Int) ^ 8 = 256 := by decide
      omega
    have e80 : (0 : Int) < 1 * 2 ^ v.toNat := by
      have z := pow_pos2 v.toNat
      omega
    have e256 : (256 : Int) < 2 ^ 70 := by decide
    have e1000 : (2 : Int) ^ 70 < 2 ^ 100 := by decide
    have wv : CPow 1 v := ⟨wo.1, (by have := wo.2; omega), (by decide)⟩
    refine ⟨_, rfl, _, rfl, _, rfl, l4, _, rfl, .inl (SqL.of hl4), l, c, _, ns, rfl, sta2, scr.mono k02, hn, (by omega), (by omega), fun H3 at' k3 sta3 a3 b3 => ?_⟩
    have k03 := k02.trans k3
    obtain ⟨at', rfl⟩ := Int.eq_ofNat_of_zero_le a3
    have hat : at' < ws'.length := by omega
    refine ⟨_, rfl, _, rfl, l, c, 5, ns, rfl, sta3, scr.mono k03, hn, (by decide), (by decide), fun H4 kd k4 sta4 a4 b4 => ?_⟩
    have k04 := k03.trans k4
    have hl4' : H4 l4 = some (.lst (ws'.map V.int)) := (k3.trans k4) _ _ n4l hl4
    have lb1 : ∀ k : Nat, k ≤ 3 → ((ws'.take at').map V.int).length + k ≤ sizeLine := fun k hk => by
      refine Nat.le_of_lt (small1000' ?_)
      rw [List.length_map, List.length_take]
      omega
    have lb2 : ∀ (mid : List Int) (j : Nat), mid.length ≤ 3 → ((ws'.take at').map V.int ++ mid.map V.int).length + ((ws'.drop j).map V.int).length ≤ sizeLine := fun mid j hm => by
      refine Nat.le_of_lt (small1000' ?_)
      rw [List.length_append, List.length_map, List.length_map, List.length_map, List.length_take, List.length_drop]
      omega
    have fin : ∀ (HA : Hp) (nA : Addr) (mid : List Int) (j : Nat), Kp l H HA → Sta HA l → HA nA = none → mid.length ≤ 3 → 0 < mid.length → at' < j → (∀ x ∈ mid, 0 ≤ x ∧ x < 2 ^ 70) → ∃ (l4 : Addr) (v5 v6 v7 : Option V) (ws'' : List Int), [some (V.ref l), some (.ref c), some (.int v), some (.ref pr), some (.ref nA), some (V.int (0 + (i : Int))), some (V.int (at' : Int)), some (V.int kd)] = [some (.ref l), some (.ref c), some (.int v), some (.ref pr), some (.ref l4), v5, v6, v7] ∧
        Kp l H (upd HA nA (.lst ((ws'.take at').map V.int ++ mid.map V.int ++ (ws'.drop j).map V.int))) ∧ Sta (upd HA nA (.lst ((ws'.take at').map V.int ++ mid.map V.int ++ (ws'.drop j).map V.int))) l ∧ H l4 = none ∧
        (upd HA nA (.lst ((ws'.take at').map V.int ++ mid.map V.int ++ (ws'.drop j).map V.int))) l4 = some (.lst (ws''.map V.int)) ∧ Fg ws'' (1900 + 2 * (i + 1)) := by
      intro HA nA mid j kA staA nnA h3 h0 hj hm
      have sA := same_new nnA (.lst ((ws'.take at').map V.int ++ mid.map V.int ++ (ws'.drop j).map V.int))
      refine ⟨nA, _, _, _, ws'.take at' ++ mid ++ ws'.drop j, rfl, kA.trans sA.kp, staA.same sA, kA.free staA nnA, ?_, (fg2.cut hat hj h3 h0 hm).mono (by omega)⟩
      rw [upd_same, List.map_append, List.map_append]
    refine ⟨_, rfl, _, _, rfl, rfl, _, rfl, ite2 (fun e => ?_) (fun e => ?_)⟩
    · have hk2 : kd < 2 := of_decide_eq_true e
      refine ⟨_, rfl, _, rfl, l, c, 4, ns, rfl, sta4, scr.mono k04, hn, (by decide), (by decide), fun H5 d5 k5 sta5 a5 b5 => ?_⟩
      have k05 := k04.trans k5
      refine ⟨_, rfl, _, rfl, _, rfl, _, _, rfl, rfl, wv, l, c, _, ns, rfl, sta5, scr.mono k05, hn, e80, (by omega), fun H6 d6 k6 sta6 a6 b6 => ⟨(by show 2 ≤ sizeLine; decide), fun n7 nn7 => ?_⟩⟩
      have k06 := k05.trans k6
      have s7 := same_new nn7 (.lst [V.int d5, V.int d6])
      obtain ⟨x, hx, x0, x1⟩ := at_pick (ns := [d5, d6]) (M := 2 ^ 70) a4 hk2 (by
        intro z hz
        simp only [List.mem_cons, List.not_mem_nil, or_false] at hz
        rcases hz with rfl | rfl <;> omega)
      refine ⟨_, rfl, n7, _, _, .int x, rfl, rfl, SqL.of upd_same, hx, ?_⟩
      have hl7 := s7 _ _ ((k5.trans k6) _ _ n4l hl4')
      refine ⟨_, rfl, _, rfl, l4, _, _, at', rfl, rfl, hl7, ixN_nat (by rw [List.length_map]; exact hat), ?_⟩
      refine ⟨l4, _, _, _, ws'.set at' x, rfl, ?_, (sta6.same s7).upd n4l _, nl4, ?_, (fg2.set ⟨x0, x1⟩).mono (by omega)⟩
      · intro b o hb eb
        rw [upd_ne (ne_of_none eb nl4)]
        exact (k06.trans s7.kp) b o hb eb
      · rw [upd_same, List.map_set]
    · refine ⟨_, rfl, rfl, _, rfl, ite2 (fun e => ?_) (fun e => ?_)⟩
      · refine ⟨_, rfl, _, rfl, _, rfl, l4, _, rfl, SqL.of hl4', fun n5 nn5 => ?_⟩
        have s5 := same_new nn5 (.lst (cutV (ws'.map V.int) none (some (at' : Int))))
        have h5 : (upd H4 n5 (.lst (cutV (ws'.map V.int) none (some (at' : Int))))) n5 = some (.lst ((ws'.take at').map V.int)) := by rw [upd_same, cut_upto rfl (by omega)]
        have k05 := k04.trans s5.kp
        refine ⟨_, rfl, _, rfl, _, _, rfl, rfl, ⟨by decide, by decide, by decide⟩, l, c, _, ns, rfl, sta4.same s5, scr.mono k05, hn, (by decide), (by decide), fun H6 d6 k6 sta6 a6 b6 => ⟨(by show 3 ≤ sizeLine; decide), fun n7 nn7 => ?_⟩⟩
        have e32 : (1 : Int) * 2 ^ (32 : Int).toNat = 2 ^ 32 := by decide
        have s7 := same_new nn7 (.lst [V.int 1, V.int d6, V.int 5])
        have k07 := (k05.trans k6).trans s7.kp
        have hl7 := s7 _ _ (k6 _ _ n4l (s5 _ _ hl4'))
        refine ⟨n5, n7, _, _, rfl, rfl, s7 _ _ (k6 _ _ (sta4.ne' nn5) h5), upd_same, lb1 3 (by decide), fun n8 nn8 => ?_⟩
        have s8 := same_new nn8 (.lst ((ws'.take at').map V.int ++ [V.int 1, V.int d6, V.int 5]))
        refine ⟨_, rfl, _, rfl, _, _, rfl, rfl, _, rfl, l4, _, rfl, SqL.of (s8 _ _ hl7), fun n9 nn9 => ?_⟩
        have s9 := same_new nn9 (.lst (cutV (ws'.map V.int) (some ((at' : Int) + 1)) none))
        have h9 : (upd (upd (upd H6 n7 (.lst [V.int 1, V.int d6, V.int 5])) n8 (.lst ((ws'.take at').map V.int ++ [V.int 1, V.int d6, V.int 5]))) n9 (.lst (cutV (ws'.map V.int) (some ((at' : Int) + 1)) none))) n9 = some (.lst ((ws'.drop (at' + 1)).map V.int)) := by rw [upd_same, cut_from (lo := (at' : Int) + 1) (j := at' + 1) (by omega)]
        refine ⟨n8, n9, _, _, rfl, rfl, s9 _ _ upd_same, h9, lb2 [1, d6, 5] _ (by show 3 ≤ 3; decide), fun nA nnA => ?_⟩
        have s79 := (s7.trans s8).trans s9
        exact fin _ nA [1, d6, 5] (at' + 1) (k07.trans (s8.trans s9).kp) (sta6.same s79) nnA (by show 3 ≤ 3; decide) (by show 0 < 3; decide) (by omega) (by
          intro z hz
          simp only [List.mem_cons, List.not_mem_nil, or_false] at hz
          rcases hz with rfl | rfl | rfl <;> omega)
      · refine ⟨_, rfl, rfl, _, rfl, ite2 (fun e => ?_) (fun e => ?_)⟩
        · refine ⟨_, rfl, _, rfl, _, rfl, l4, _, rfl, SqL.of hl4', fun n5 nn5 => ?_⟩
          have s5 := same_new nn5 (.lst (cutV (ws'.map V.int) none (some (at' : Int))))
          have h5 : (upd H4 n5 (.lst (cutV (ws'.map V.int) none (some (at' : Int))))) n5 = some (.lst ((ws'.take at').map V.int)) := by rw [upd_same, cut_upto rfl (by omega)]
          refine ⟨(by show 1 ≤ sizeLine; decide), fun n7 nn7 => ?_⟩
          have s7 := same_new nn7 (.lst [V.int 0])
          refine ⟨n5, n7, _, _, rfl, rfl, s7 _ _ h5, upd_same, lb1 1 (by decide), fun n8 nn8 => ?_⟩
          have s8 := same_new nn8 (.lst ((ws'.take at').map V.int ++ [V.int 0]))
          have s58 := (s5.trans s7).trans s8
          have sta8 := sta4.same s58
          have k08 := k04.trans s58.kp
          have n8l := (sta4.same (s5.trans s7)).ne' nn8
          refine ⟨_, rfl, _, rfl, _, _, rfl, rfl, _, rfl, _, rfl, l, c, 3, ns, rfl, sta8, scr.mono k08, hn, (by decide), (by decide), fun H9 d9 k9 sta9 a9 b9 => ?_⟩
          obtain ⟨d9, rfl⟩ := Int.eq_ofNat_of_zero_le a9
          refine ⟨_, _, rfl, rfl, _, rfl, l4, _, rfl, SqL.of (k9 _ _ n4l (s58 _ _ hl4')), fun nB nnB => ?_⟩
          have sB := same_new nnB (.lst (cutV (ws'.map V.int) (some ((at' : Int) + 1 + (d9 : Int))) none))
          have hB : (upd H9 nB (.lst (cutV (ws'.map V.int) (some ((at' : Int) + 1 + (d9 : Int))) none))) nB = some (.lst ((ws'.drop (at' + 1 + d9)).map V.int)) := by rw [upd_same, cut_from (j := at' + 1 + d9) (by omega)]
          refine ⟨n8, nB, _, _, rfl, rfl, sB _ _ (k9 _ _ n8l upd_same), hB, lb2 [0] _ (by decide), fun nA nnA => ?_⟩
          exact fin _ nA [0] (at' + 1 + d9) ((k08.trans k9).trans sB.kp) (sta9.same sB) nnA (by decide) (by decide) (by omega) (by
            intro z hz
            rw [List.mem_singleton.mp hz]
            exact ⟨Int.le_refl _, by decide⟩)
        · refine ⟨_, rfl, _, rfl, _, rfl, l4, _, rfl, SqL.of hl4', fun n5 nn5 => ?_⟩
          have s5 := same_new nn5 (.lst (cutV (ws'.map V.int) none (some (at' : Int))))
          have h5 : (upd H4 n5 (.lst (cutV (ws'.map V.int) none (some (at' : Int))))) n5 = some (.lst ((ws'.take at').map V.int)) := by rw [upd_same, cut_upto rfl (by omega)]
          have k05 := k04.trans s5.kp
          refine ⟨_, rfl, _, rfl, l, c, 4, ns, rfl, sta4.same s5, scr.mono k05, hn, (by decide), (by decide), fun Hx dx kx stax ax bx => ?_⟩
          have k0x := k05.trans kx
          refine ⟨_, rfl, _, rfl, _, rfl, _, _, rfl, rfl, wv, l, c, _, ns, rfl, stax, scr.mono k0x, hn, e80, (by omega), fun H6 d6 k6 sta6 a6 b6 => ⟨(by show 3 ≤ sizeLine; decide), fun n7 nn7 => ?_⟩⟩
          have s7 := same_new nn7 (.lst [V.int 3, V.int dx, V.int d6])
          have k07 := (k0x.trans k6).trans s7.kp
          have hl7 := s7 _ _ ((kx.trans k6) _ _ n4l (s5 _ _ hl4'))
          refine ⟨n5, n7, _, _, rfl, rfl, s7 _ _ ((kx.trans k6) _ _ (sta4.ne' nn5) h5), upd_same, lb1 3 (by decide), fun n8 nn8 => ?_⟩
          have s8 := same_new nn8 (.lst ((ws'.take at').map V.int ++ [V.int 3, V.int dx, V.int d6]))
          refine ⟨_, rfl, _, rfl, _, _, rfl, rfl, _, rfl, l4, _, rfl, SqL.of (s8 _ _ hl7), fun n9 nn9 => ?_⟩
          have s9 := same_new nn9 (.lst (cutV (ws'.map V.int) (some ((at' : Int) + 3)) none))
          have h9 : (upd (upd (upd H6 n7 (.lst [V.int 3, V.int dx, V.int d6])) n8 (.lst ((ws'.take at').map V.int ++ [V.int 3, V.int dx, V.int d6]))) n9 (.lst (cutV (ws'.map V.int) (some ((at' : Int) + 3)) none))) n9 = some (.lst ((ws'.drop (at' + 3)).map V.int)) := by rw [upd_same, cut_from (lo := (at' : Int) + 3) (j := at' + 3) (by omega)]
          refine ⟨n8, n9, _, _, rfl, rfl, s9 _ _ upd_same, h9, lb2 [3, dx, d6] _ (by show 3 ≤ 3; decide), fun nA nnA => ?_⟩
          have s79 := (s7.trans s8).trans s9
          exact fin _ nA [3, dx, d6] (at' + 3) (k07.trans (s8.trans s9).kp) (sta6.same s79) nnA (by show 3 ≤ 3; decide) (by show 0 < 3; decide) (by omega) (by
            intro z hz
            simp only [List.mem_cons, List.not_mem_nil, or_false] at hz
            rcases hz with rfl | rfl | rfl <;> omega)
  · rintro σ H2 ⟨l4, v5, v6, v7, ws', rfl, k02, sta2, nl4, hl4, fg2⟩
    exact ⟨_, rfl, q _ l4 ws' k02 sta2 nl4 hl4 (fg2.mono (by omega))⟩
end
end Of

set_option Elab.async false
set_option linter.all false
set_option maxRecDepth 100000
set_option maxHeartbeats 4000000
namespace Of
open PySem L2
theorem ix_listK {X : Cx} {K : PySem.W.Frag} (hK : X.K = K) : IxR X (rIxL K) := by
  subst hK
  exact ix_list
/-- the script, in a heap with a new state -/
theorem scr_new {K : PySem.W.Frag} {H : Hp} {s c : Addr} {ns : List Int} {o : HO} (h : SqL K H c (ns.map V.int)) (n : H s = none) : Scr K (L2.upd H s o) s c ns := by
  intro H' k
  have up : ∀ u, H c = some u → H' c = some u := fun u e => k c u (ne_of_none e n) (by rw [upd_ne (ne_of_none e n)]; exact e)
  rcases h with (h | ⟨o, h⟩) | h
  · exact .inl (.inl (up _ h))
  · exact .inl (.inr ⟨o, up _ h⟩)
  · exact .inr h
def inR (lo hi : Int) (e : Int × Int) : Bool := decide (lo ≤ e.1) && decide (e.1 ≤ hi)
theorem in_iff {lo hi : Int} {e : Int × Int} : inR lo hi e = true ↔ lo ≤ e.1 ∧ e.1 ≤ hi := by
  unfold inR
  rw [Bool.and_eq_true, decide_eq_true_iff, decide_eq_true_iff]
theorem acc_true {v lo hi : Int} {kvs : Pairs} (wo : Wok v) (g : Good 32 0 kvs) : accT v lo hi (dg v (nodeIn v 32 kvs)) (trueT v lo hi 32 0 kvs).words = some (trueT v lo hi 32 0 kvs) :=
  acc_of (true_ok wo.1 wo.2 32 0 kvs g) (true_cnt 32 0 kvs g).2
theorem brk_some {v lo hi : Int} {kvs : Pairs} {ws : List Int} {t : T} (h : accT v lo hi (dg v (nodeIn v 32 kvs)) ws = some t) : brk v lo hi kvs ws = fw v 32 kvs t := by
  unfold brk
  rw [h]
theorem brk_none {v lo hi : Int} {kvs : Pairs} {ws : List Int} (h : accT v lo hi (dg v (nodeIn v 32 kvs)) ws = none) : brk v lo hi kvs ws = none := by
  unfold brk
  rw [h]
theorem fg_true {v lo hi : Int} {kvs : Pairs} (wo : Wok v) (g : Good 32 0 kvs) : Fg (trueT v lo hi 32 0 kvs).words 1900 := by
  obtain ⟨a, b⟩ := true_words (w := v) (low := lo) (high := hi) wo.1 wo.2 32 0 kvs (by decide) g
  refine ⟨?_, ?_, b⟩
  · have := g.len
    omega
  · generalize trueT v lo hi 32 0 kvs = t
    cases t <;> exact Nat.succ_pos _
theorem Fg.wok {ws : List Int} {m : Nat} (h : Fg ws m) (hm : m ≤ 2000) : Wd ws := ⟨Nat.le_trans h.len hm, h.wd⟩
/-- with no break the entries are those of the range -/
theorem same_ents {v lo hi : Int} {kvs : Pairs} {t : T} (g : Good 32 0 kvs) (ok : T.Ok v lo hi 32 0 t) (h : fw v 32 kvs t = none) :
    (t.ents lo hi).length = (kvs.filter (inR lo hi)).length ∧ ∀ p ∈ t.ents lo hi, valV ((kvs.filter (inR lo hi)).map toK) (Sum.inl p.1 : Key) = some (.int p.2) := by
  have hm : ∀ p, p ∈ t.ents lo hi ↔ p ∈ kvs.filter (inR lo hi) := fun p => by
    rw [fw_none t 32 0 kvs g ok h p, List.mem_filter, in_iff]
  have n1 := nodup_of_keys (ents_nd t 32 0 ok)
  have n2k := nodup_filter (f := inR lo hi) g.nd
  have n2 := nodup_of_keys n2k
  refine ⟨Nat.le_antisymm (len_sub _ _ n1 fun x hx => (hm x).mp hx) (len_sub _ _ n2 fun x hx => (hm x).mpr hx), fun p hp => ?_⟩
  exact val_some n2k ((hm p).mp hp)
theorem ite_thru {c A B F : Prop} [Decidable c] (fin : F) (h1 : c → F → A) (h2 : ¬ c → F → B) : if c then A else B := by
  by_cases h : c
  · rw [if_pos h]
    exact h1 h fin
  · rw [if_neg h]
    exact h2 h fin
theorem two_sorted {ys : List Int} {a b M : Int} (perm : ys.Perm [a, b]) (pw : ys.Pairwise (· ≤ ·)) (ha : 0 ≤ a ∧ a < M) (hb : 0 ≤ b ∧ b < M) : ∃ lo hi, ys = [lo, hi] ∧ 0 ≤ lo ∧ hi < M := by
  have hl : ys.length = 2 := perm.length_eq
  match ys, hl with
  | [lo, hi], _ =>
    refine ⟨lo, hi, rfl, ?_, ?_⟩
    · have m : lo ∈ [a, b] := perm.mem_iff.mp (List.mem_cons_self ..)
      simp only [List.mem_cons, List.not_mem_nil, or_false] at m
      rcases m with rfl | rfl <;> omega
    · have m : hi ∈ [a, b] := perm.mem_iff.mp (List.mem_cons_of_mem _ (List.mem_cons_self ..))
      simp only [List.mem_cons, List.not_mem_nil, or_false] at m
      rcases m with rfl | rfl <;> omega
def spLaw (K : PySem.W.Frag) : Sp := fun vs H Q _ => ∃ (a : Addr) (ns : List Int), vs = [.ref a] ∧ SqL K H a (ns.map V.int) ∧ ns.length ≤ 63 ∧ ∀ H', Q (.bl true) H'
section
variable {P : Program} {w : World} {K : PySem.W.Frag} {mg : Str → Option Value} {base : Heap} {CH CR CT : Addr}
abbrev nLaw : List Str := ["_law_script", "_law_state", "_law_width", "_law_hasher", "_law_pairs_here", "_law_root", "_law_turn", "_law_keys", "_law_entries", "_law_proof", "_law_shown", "_law_due_here", "_law_one", "_law_other", "_law_most", "_law_key_here"]
theorem scLaw : FnScope nLaw ["_law_script"] (defScope sLaw) := ⟨rfl, rfl, rfl, by decide +kernel, rfl, by decide +kernel, by decide +kernel⟩
theorem ok_law {f : Addr} {fd : FuncData} (F : Fun K "law" "law" sLaw f fd) (T : Txt K mg CH CR CT) (cD : C8.Cal P w K mg base 1 "_law_draw" (spDraw K) []) (cK : C8.Cal P w K mg base 2 "_law_key" (spKey K) []) (cP : C8.Cal P w K mg base 3 "_law_pairs" (spPairs K) [])
    (cO : C8.Cal P w K mg base 35 "_law_of_node" spOfNode []) (cR : C8.Cal P w K mg base 102 "range_proof" (spProof CH) []) (cF : C8.Cal P w K mg base 2 "_law_forged" (spForged K) []) (cC : C8.Cal P w K mg base 37 "range_check" (spCheck K CH) []) (cU : C8.Cal P w K mg base 36 "_law_due" (spDue K) [])
    (cB : C8.Cal P w K mg base 101 "range_break" (spBreak K CH) []) (cL : C8.Cal P w K mg base 1 "_law_digest" (spLDig K) []) (cI : C8.Cal P w K mg base 3 "is_collision" (spIsColl K CH) []) (cH : C8.Mak P w K mg base 1 "Hasher" CH (spHashI CH) []) :
    FnOk P w K mg base CX0 103 f fd ["_law_script"] (spLaw K) := by
  refine F.ok scLaw (fun vs H Q E h => ?_) (fun cdv A outer s H vs Q E hr h => ?_)
  · obtain ⟨a, ns, rfl, _⟩ := h
    rfl
  obtain ⟨c, ns, rfl, hS, hn, q⟩ := h
  have hu := hu_of hr
  have hu1 := Nat.lt_of_le_of_lt (Nat.le_add_right _ 64) hr.units
  refine ⟨_, (pss_cons ((ps_set (i := 1) scLaw.nd rfl (Or.inl rfl) ((pe_lst (pa_cons (pe_int) (pa_cons (pe_int) pa_nil)))))) (pss_cons ((ps_set (i := 2) scLaw.nd rfl (Or.inl rfl) ((pe_ix ix_list ((pe_lst (pa_cons (pe_int) (pa_cons (pe_int) (pa_cons (pe_int) (pa_cons (pe_int) (pa_cons (pe_int) pa_nil))))))) ((C8.pe_c cD hr (by first | exact Nat.le_refl _ | decide | omega) (by rfl) (pa_cons (pv 1) (pa_cons (pv 0) (pa_cons (pe_int) pa_nil))))) (fun _ _ => rfl))))) (pss_cons ((ps_set (i := 3) scLaw.nd rfl (Or.inl rfl) ((C8.pe_mk cH hr (by first | exact Nat.le_refl _ | decide | omega) (by rfl) (pa_cons (pv 2) pa_nil))))) (pss_cons ((ps_set (i := 4) scLaw.nd rfl (Or.inr rfl) ((C8.pe_c cP hr (by first | exact Nat.le_refl _ | decide | omega) (by rfl) (pa_cons (pv 1) (pa_cons (pv 0) (pa_cons (pe_int) pa_nil))))))) (pss_cons ((ps_set (i := 5) scLaw.nd rfl (Or.inl rfl) ((C8.pe_c cO hr (by first | exact Nat.le_refl _ | decide | omega) (by rfl) (pa_cons (pv 2) (pa_cons (pv 4) (pa_cons (pe_int) pa_nil))))))) (pss_cons ((ps_for PassesOwn.never rfl (pi_range1 (by rfl) T.range (pa_cons (pe_int) pa_nil)) ((pg_name (i := 6) scLaw.nd rfl (Or.inl rfl))) (pss_cons ((ps_set (i := 7) scLaw.nd rfl (Or.inr rfl) ((pe_callB cr_sorted (by rfl) T.sorted (by decide +kernel) (pa_cons ((pe_lst (pa_cons ((C8.pe_c cK hr (by first | exact Nat.le_refl _ | decide | omega) (by rfl) (pa_cons (pv 1) (pa_cons (pv 0) (pa_cons (pv 4) pa_nil))))) (pa_cons ((C8.pe_c cK hr (by first | exact Nat.le_refl _ | decide | omega) (by rfl) (pa_cons (pv 1) (pa_cons (pv 0) (pa_cons (pv 4) pa_nil))))) pa_nil)))) pa_nil))))) (pss_cons ((ps_set (i := 8) scLaw.nd rfl (Or.inl rfl) ((pe_callTy (call_dictP rfl) (by rfl) T.dict (by decide +kernel) (pa_cons (pe_lock (pe_lc (own := [("_law_key_here", 15)]) (g := gName 15) rfl scLaw.nd (pi_keys (pv 4)) (blkOk_by (N := nLaw) (sc := defScope sLaw) (by decide +kernel)) (fun _ _ _ _ _ => (pg_name (i := 15) scLaw.nd rfl (Or.inl rfl)))
        (fun _ _ _ _ _ => pts_one (pt_chain op_le op_le (pe_ix (r := rIxL K) (ix_listK rfl) (pv 7) (pe_int) (fun _ _ => rfl)) (pv 15) (pe_ix (r := rIxL K) (ix_listK rfl) (pv 7) (pe_int) (fun _ _ => rfl)))) (fun _ _ _ _ _ => (pe_tup (pa_cons (pv 15) (pa_cons (pe_dget hu (pv 4) (pv 15) (fun _ _ => rfl)) pa_nil)))))) pa_nil))))) (pss_cons ((ps_set (i := 9) scLaw.nd rfl (Or.inl rfl) ((pe_callTy call_list_of (by rfl) T.list (by decide +kernel) (pa_cons ((C8.pe_c cR hr (by first | exact Nat.le_refl _ | decide | omega) (by rfl) (pa_cons (pv 3) (pa_cons (pv 4) (pa_cons ((pe_ix ix_list (pv 7) (pe_int) (fun _ _ => rfl))) (pa_cons ((pe_ix ix_list (pv 7) (pe_int) (fun _ _ => rfl))) pa_nil)))))) pa_nil))))) (pss_cons ((ps_if ((pt_cmpR op_gt (pv 6) (pe_int) (nomark _))) (pss_one ((ps_set (i := 9) scLaw.nd rfl (Or.inl rfl) ((C8.pe_c cF hr (by first | exact Nat.le_refl _ | decide | omega) (by rfl) (pa_cons (pv 1) (pa_cons (pv 0) (pa_cons (pv 2) (pa_cons (pv 9) pa_nil))))))))) pss_nil)) (pss_cons ((ps_set (i := 10) scLaw.nd rfl (Or.inl rfl) ((C8.pe_c cC hr (by first | exact Nat.le_refl _ | decide | omega) (by rfl) (pa_cons (pv 3) (pa_cons (pv 5) (pa_cons ((pe_ix ix_list (pv 7) (pe_int) (fun _ _ => rfl))) (pa_cons ((pe_ix ix_list (pv 7) (pe_int) (fun _ _ => rfl))) (pa_cons (pv 9) pa_nil))))))))) (pss_cons ((ps_set (i := 11) scLaw.nd rfl (Or.inl rfl) (pe_non))) (pss_cons ((ps_if ((pt_cmpR op_notN (pv 10) (pe_non) (nomark _))) (pss_one ((ps_set (i := 11) scLaw.nd rfl (Or.inl rfl) ((C8.pe_c cU hr (by first | exact Nat.le_refl _ | decide | omega) (by rfl) (pa_cons (pv 2) (pa_cons (pv 9) (pa_cons (pv 4) pa_nil)))))))) pss_nil)) (pss_cons ((ps_if ((PW.pt (pw_or ((pt_cmpR (op_neD hr.units) ((C8.pe_c cB hr (by first | exact Nat.le_refl _ | decide | omega) (by rfl) (pa_cons (pv 3) (pa_cons (pv 4) (pa_cons ((pe_ix ix_list (pv 7) (pe_int) (fun _ _ => rfl))) (pa_cons ((pe_ix ix_list (pv 7) (pe_int) (fun _ _ => rfl))) (pa_cons (pv 9) pa_nil))))))) (pv 11) (nomark _))) (pw_or1 ((PW.pt (pw_and ((pt_cmpR op_eq (pv 6) (pe_int) (nomark _))) (pw_and1 ((PW.pt (pw_or ((pt_cmpR op_notN (pv 11) (pe_non) (nomark _))) (pw_or1 ((pt_cmpR (op_neDG hu1) (pv 10) (pv 8) (nomark _))))))))))))))) (pss_one ((ps_ret (pe_bl)))) pss_nil)) (pss_cons ((ps_if ((PW.pt (pw_and ((pt_cmpR op_notN (pv 10) (pe_non) (nomark _))) (pw_and ((pt_cmpR (op_neDG hu1) (pv 10) (pv 8) (nomark _))) (pw_and1 ((pt_cmpR op_isN (pv 11) (pe_non) (nomark _)))))))) (pss_one ((ps_ret (pe_bl)))) pss_nil)) (pss_one ((ps_if ((pt_cmpR op_notN (pv 11) (pe_non) (nomark _))) (pss_cons ((ps_asg (pe_slice sl_any (pv 11) (po_some pe_int) po_none) (pg_tup rfl (pgs_cons ((pg_name (i := 12) scLaw.nd rfl (Or.inl rfl))) (pgs_cons ((pg_name (i := 13) scLaw.nd rfl (Or.inl rfl))) pgs_nil))))) (pss_one ((ps_if ((PW.pt (pw_or ((pt_cmpR op_ne ((C8.pe_c cL hr (by first | exact Nat.le_refl _ | decide | omega) (by rfl) (pa_cons (pv 2) (pa_cons ((pe_ix ix_tup (pv 12) (pe_int) (fun _ _ => rfl))) (pa_cons ((pe_ix ix_tup (pv 12) (pe_int) (fun _ _ => rfl))) pa_nil))))) ((C8.pe_c cL hr (by first | exact Nat.le_refl _ | decide | omega) (by rfl) (pa_cons (pv 2) (pa_cons ((pe_ix ix_tup (pv 13) (pe_int) (fun _ _ => rfl))) (pa_cons ((pe_ix ix_tup (pv 13) (pe_int) (fun _ _ => rfl))) pa_nil))))) (nomark _))) (pw_or1 ((pt_not (pt_val (C8.pe_c cI hr (by first | exact Nat.le_refl _ | decide | omega) (by rfl) (pa_cons (pv 3) (pa_cons (pv 11) pa_nil)))))))))) (pss_one ((ps_ret (pe_bl)))) pss_nil)))) pss_nil)))))))))))))) (pss_cons ((ps_set (i := 14) scLaw.nd rfl (Or.inl rfl) ((pe_op op_sub ((pe_op op_shl (pe_int) (pe_int))) (pe_int))))) (pss_one ((ps_ret ((pe_cmpR op_isN ((C8.pe_c cB hr (by first | exact Nat.le_refl _ | decide | omega) (by rfl) (pa_cons (pv 3) (pa_cons (pv 4) (pa_cons (pe_int) (pa_cons (pv 14) (pa_cons ((C8.pe_c cR hr (by first | exact Nat.le_refl _ | decide | omega) (by rfl) (pa_cons (pv 3) (pa_cons (pv 4) (pa_cons (pe_int) (pa_cons (pv 14) pa_nil)))))) pa_nil))))))) (pe_non) (nomark _))))))))))))), ?_⟩
  have two0 : ∀ {x y : Int}, ¬ x = y → decide (V.int x = V.int y) = false := fun e => decide_eq_false fun z => e (V.int.inj z)
  -- state = [0, 0]; width
  refine ⟨(by show 2 ≤ sizeLine; decide), fun st nst => ⟨(by show 5 ≤ sizeLine; decide), fun wl nwl => ?_⟩⟩
  have sta1 : Sta (upd H st (.lst [V.int 0, V.int 0])) st := ⟨0, 0, Int.le_refl 0, upd_same⟩
  have scr1 : Scr K (upd H st (.lst [V.int 0, V.int 0])) st c ns := scr_new hS nst
  have s2 := same_new nwl (.lst [V.int 4, V.int 4, V.int 5, V.int 6, V.int 8])
  have sta2 := sta1.same s2
  have scr2 := scr1.mono s2.kp
  refine ⟨_, rfl, _, rfl, st, c, 5, ns, rfl, sta2, scr2, hn, by decide, by decide, fun H3 d k3 sta3 a3 b3 => ?_⟩
  have scr3 := scr2.mono k3
  obtain ⟨v, hv, v0, v1⟩ := at_pick (ns := [4, 4, 5, 6, 8]) (M := 9) a3 b3 (by decide)
  have wo : Wok v := ⟨v0, by omega⟩
  refine ⟨wl, _, _, .int v, rfl, rfl, SqL.of (k3 _ _ (sta1.ne' nwl) upd_same), hv, ?_⟩
  -- hasher, pairs, root
  refine ⟨_, rfl, fun x dx nx ndx nex => ⟨x, dx, v, rfl, upd_same, rfl, ?_⟩⟩
  have s34 : Same H3 (upd (upd (upd H3 dx (.own x)) x (.ins CH dx [])) x (.ins CH dx (hsF v))) := ((same_new ndx _).mut nx).mut nx
  have hx4 : (upd (upd (upd H3 dx (.own x)) x (.ins CH dx [])) x (.ins CH dx (hsF v))) x = some (.ins CH dx (hsF v)) := upd_same
  have nxs := sta3.ne' nx
  generalize upd (upd (upd H3 dx (.own x)) x (.ins CH dx [])) x (.ins CH dx (hsF v)) = H4 at s34 hx4 ⊢
  have sta4 := sta3.same s34
  have scr4 := scr3.mono s34.kp
  refine ⟨_, rfl, _, rfl, st, c, ns, rfl, sta4, scr4, hn, fun H5 p kvs k5 sta5 np hp g => ?_⟩
  have nps := sta4.ne' np
  have scr5 := scr4.mono k5
  have hx5 := k5 _ _ nxs hx4
  refine ⟨_, rfl, _, rfl, p, v, kvs, rfl, wo, hp, g, fun H6 s6 => ?_⟩
  have sta6 := sta5.same s6
  have scr6 := scr5.mono s6.kp
  have hx6 := s6 _ _ hx5
  have hp6 := s6 _ _ hp
  clear hp hx5 hx4
  have kb : ∀ e ∈ kvs, 0 ≤ e.1 ∧ e.1 < 2 ^ 32 := fun e he => by
    have z := g.wi e he
    rw [Int.zero_add] at z
    exact z
  refine ⟨30, rfl, by decide, by decide, for_range (fun i σ H7 => ∃ v6 v7 v8 v9 v10 v11 v12 v13 v15 : Option V, σ = [some (.ref c), some (.ref st), some (.int v), some (.ref x), some (.ref p), some (.int (dg v (nodeIn v 32 kvs))), v6, v7, v8, v9, v10, v11, v12, v13, none, v15] ∧ Kp st H6 H7 ∧ Sta H7 st) ?_ ?_ ?_⟩
  · exact ⟨none, none, none, none, none, none, none, none, none, rfl, Kp.refl _ _, sta6⟩
  · rintro i σ H7 hi ⟨v6, v7, v8, v9, v10, v11, v12, v13, v15, rfl, k67, sta7⟩
    -- keys = sorted([.., ..])
    have hp7 := k67 _ _ nps hp6
    refine ⟨_, rfl, _, rfl, _, rfl, st, c, p, ns, kvs, rfl, sta7, scr6.mono k67, hn, hp7, g.len, kb, fun H8 ka k8 sta8 ka0 ka1 => ?_⟩
    have k68 := k67.trans k8
    refine ⟨_, rfl, _, rfl, _, rfl, st, c, p, ns, kvs, rfl, sta8, scr6.mono k68, hn, k68 _ _ nps hp6, g.len, kb, fun H9 kc k9 sta9 kc0 kc1 => ⟨(by show 2 ≤ sizeLine; decide), fun n1 nn1 => ?_⟩⟩
    have k69 := k68.trans k9
    refine ⟨n1, [ka, kc], rfl, SqL.of upd_same, (by show 2 < 64; decide), fun ys kl perm pw nkl => ?_⟩
    obtain ⟨lo, hi', rfl, lo0, hi1⟩ := two_sorted perm pw ⟨ka0, ka1⟩ ⟨kc0, kc1⟩
    have sA := (same_new nn1 (.lst [V.int ka, V.int kc])).trans (same_new nkl (.lst (([lo, hi'] : List Int).map V.int)))
    have hklA : (upd (upd H9 n1 (.lst [V.int ka, V.int kc])) kl (.lst (([lo, hi'] : List Int).map V.int))) kl = some (.lst [V.int lo, V.int hi']) := upd_same
    have nkls := (sta9.same (same_new nn1 (.lst [V.int ka, V.int kc]))).ne' nkl
    generalize upd (upd H9 n1 (.lst [V.int ka, V.int kc])) kl (.lst (([lo, hi'] : List Int).map V.int)) = HA at sA hklA ⊢
    have staA := sta9.same sA
    have k6A := k69.trans sA.kp
    have hpA := k6A _ _ nps hp6
    have hxA := k6A _ _ nxs hx6
    have nklp : kl ≠ p := ne_of hklA hpA (by intro y; cases y)
    -- entries
    refine lcd (K := K) (ip := 4) (ik := 15) (vs := [15]) (p := p) (kvs := kvs) (inR lo hi') rfl hpA g.nd g.len (fun _ => rfl) (fun _ => rfl) (fun _ => rfl) (fun e he HB R keep hR => ?_) (fun HB D ps sB hD pr => ?_)
    · have hklB := keep _ _ nklp hklA
      refine ⟨_, rfl, kl, _, 0, .int lo, rfl, rfl, SqL.of hklB, atI_nat (j := 0) rfl, _, rfl, _, _, rfl, rfl, _, rfl, ite2 (fun c => ?_) (fun c => ?_)⟩
      · refine ⟨_, rfl, kl, _, 1, .int hi', rfl, rfl, SqL.of hklB, atI_nat (j := 1) rfl, _, _, rfl, rfl, _, rfl, ?_⟩
        have ef : inR lo hi' e = decide (e.1 ≤ hi') := by
          unfold inR
          rw [c, Bool.true_and]
        rw [ef] at hR
        exact hR
      · have ef : inR lo hi' e = false := by
          unfold inR
          rw [Bool.eq_false_iff.mpr c, Bool.false_and]
        rw [ef] at hR
        exact ⟨false, rfl, hR⟩
    refine ⟨D, ps, _, rfl, SqL.of hD, pr, fun en nen => ?_⟩
    have hmg : mergeK [] ((kvs.filter (inR lo hi')).map toK) = (kvs.filter (inR lo hi')).map toK := merge_nd (kvs.filter (inR lo hi')) [] (nodup_filter g.nd)
    rw [hmg]
    have sBC := sB.trans (same_new nen (.dK ((kvs.filter (inR lo hi')).map toK)))
    have henC : (upd HB en (.dK ((kvs.filter (inR lo hi')).map toK))) en = some (dk (kvs.filter (inR lo hi'))) := upd_same
    have nens := (staA.same sB).ne' nen
    generalize upd HB en (.dK ((kvs.filter (inR lo hi')).map toK)) = HC at sBC henC ⊢
    have staC := staA.same sBC
    have k6C := k6A.trans sBC.kp
    have hpC := sBC _ _ hpA
    have hxC := sBC _ _ hxA
    have hklC := sBC _ _ hklA
    -- proof = list(range_proof(..))
    refine ⟨_, rfl, _, rfl, _, rfl, kl, _, 0, .int lo, rfl, rfl, SqL.of hklC, atI_nat (j := 0) rfl, _, rfl, kl, _, 1, .int hi', rfl, rfl, SqL.of hklC, atI_nat (j := 1) rfl, x, p, v, lo, hi', kvs, rfl, ⟨dx, hxC⟩, wo, hpC, g, fun HD pt sD hpt => ?_⟩
    refine ⟨pt, _, rfl, .inr (SqT.of hpt), fun l0 nl0 => ?_⟩
    have sE := sD.trans (same_new nl0 (.lst ((trueT v lo hi' 32 0 kvs).words.map V.int)))
    have hl0 : (upd HD l0 (.lst ((trueT v lo hi' 32 0 kvs).words.map V.int))) l0 = some (.lst ((trueT v lo hi' 32 0 kvs).words.map V.int)) := upd_same
    have nl0s := (staC.same sD).ne' nl0
    generalize upd HD l0 (.lst ((trueT v lo hi' 32 0 kvs).words.map V.int)) = HE at sE hl0 ⊢
    have staE := staC.same sE
    have k6E := k6C.trans sE.kp
    have fgt := fg_true (lo := lo) (hi := hi') wo g
    have hklE := sE _ _ hklC
    have henE := sE _ _ henC
    refine ⟨_, rfl, _, _, rfl, rfl, _, rfl, ite2 (fun c0 => ?big) (fun c0 => ?small)⟩
    case' big =>
      refine ⟨_, rfl, _, rfl, _, rfl, _, rfl, st, c, l0, v, ns, _, rfl, wo, staE, scr6.mono k6E, hn, SqL.of hl0, fgt, fun HF l9 ws kEF staF nl9 hl9 fg => ?_⟩
      have wd := fg.wok (Nat.le_refl _)
      have hz : i = 0 → ws = (trueT v lo hi' 32 0 kvs).words := fun e => by
        have c0 : (0 : Int) < 0 + (i : Int) := of_decide_eq_true c0
        omega
    case' small =>
      have kEF : Kp st HE HE := Kp.refl _ _
      obtain ⟨ws, ews⟩ : ∃ ws : List Int, ws = (trueT v lo hi' 32 0 kvs).words := ⟨_, rfl⟩
      rw [← ews] at hl0 fgt
      have hl9 := hl0
      have staF := staE
      have wd := fgt.wok (by decide)
      have hz : i = 0 → ws = (trueT v lo hi' 32 0 kvs).words := fun _ => ews
    all_goals
      have k6F := k6E.trans kEF
      have hpF := k6F _ _ nps hp6
      have hxF := k6F _ _ nxs hx6
      have hklF := kEF _ _ nkls hklE
      have henF := kEF _ _ nens henE
      refine ⟨_, rfl, _, rfl, _, rfl, kl, _, 0, .int lo, rfl, rfl, SqL.of hklF, atI_nat (j := 0) rfl, _, rfl, kl, _, 1, .int hi', rfl, rfl, SqL.of hklF, atI_nat (j := 1) rfl, _, rfl, x, _, v, _, lo, hi', _, rfl, ⟨dx, hxF⟩, wo, .inl (SqL.of hl9), wd, fun hacc HG sG => ?_, fun t hacc HG sd sG nsd hsd => ?_⟩
      · -- not accepted
        have hi0 : i ≠ 0 := fun e => by
          rw [hz e, acc_true wo g] at hacc
          cases hacc
        have hpG := sG _ _ hpF
        have hxG := sG _ _ hxF
        have hklG := sG _ _ hklF
        refine ⟨_, rfl, rfl, false, rfl, iteF ?_⟩
        refine ⟨_, rfl, _, rfl, _, rfl, kl, _, 0, .int lo, rfl, rfl, SqL.of hklG, atI_nat (j := 0) rfl, _, rfl, kl, _, 1, .int hi', rfl, rfl, SqL.of hklG, atI_nat (j := 1) rfl, _, rfl, x, p, _, v, lo, hi', kvs, ws, rfl, ⟨dx, hxG⟩, wo, hpG, g, .inl (SqL.of (sG _ _ hl9)), wd, fun HI u sI hu => ?_⟩
        rw [brk_none hacc] at hu
        refine ⟨_, rfl, _, _, hu.dp, (ResAt.dp (o := none) rfl), res_shaped _, res_shaped _, false, congrArg (fun z => V.bl (!z)) (res_eqv none), iteF ?_⟩
        refine ⟨_, rfl, rfl, false, congrArg V.bl (two0 (by omega)), iteF (iteF ?_)⟩
        refine ⟨_, rfl, rfl, false, rfl, iteF (iteF ?_)⟩
        refine ⟨_, rfl, rfl, false, rfl, iteF ?_⟩
        exact ⟨_, _, _, _, _, _, _, _, _, rfl, k6F.trans (sG.trans sI).kp, staF.same (sG.trans sI)⟩
      · -- accepted
        obtain ⟨ok, ew, ed⟩ := acc_some hacc
        have hft : i = 0 → fw v 32 kvs t = none := fun e => by
          rw [hz e, acc_true wo g] at hacc
          rw [← Option.some.inj hacc]
          exact fw_true 32 0 kvs g
        have hpG := sG _ _ hpF
        have hxG := sG _ _ hxF
        have hklG := sG _ _ hklF
        have hl9G := sG _ _ hl9
        rw [ew] at hl9G wd
        refine ⟨_, rfl, rfl, true, rfl, iteT ?_⟩
        refine ⟨_, rfl, _, rfl, _, rfl, _, p, v, lo, hi', kvs, t, rfl, wo, SqL.of hl9G, wd, hpG, g, ok, fun HI du sI hdu => ?_⟩
        rw [← fw_due] at hdu
        refine ⟨_, rfl, _, rfl, _, rfl, kl, _, 0, .int lo, rfl, rfl, SqL.of (sI _ _ hklG), atI_nat (j := 0) rfl, _, rfl, kl, _, 1, .int hi', rfl, rfl, SqL.of (sI _ _ hklG), atI_nat (j := 1) rfl, _, rfl, x, p, _, v, lo, hi', kvs, t.words, rfl, ⟨dx, sI _ _ hxG⟩, wo, sI _ _ hpG, g, .inl (SqL.of (sI _ _ hl9G)), wd, fun HJ u sJ hu => ?_⟩
        rw [ew] at hacc
        rw [brk_some hacc] at hu
        have hdJ := hdu.mono sJ
        have hsdJ := (sI.trans sJ) _ _ hsd
        have henJ := (sG.trans (sI.trans sJ)) _ _ henF
        have hxJ := (sI.trans sJ) _ _ hxG
        have k6J := k6F.trans (sG.trans (sI.trans sJ)).kp
        have staJ := staF.same (sG.trans (sI.trans sJ))
        refine ⟨_, rfl, _, _, hu.dp, hdJ.dp, res_shaped _, res_shaped _, false, congrArg (fun z => V.bl (!z)) (res_eqv _), iteF ?_⟩
        clear hu
        cases hf : fw v 32 kvs t with
        | none =>
          have hents := same_ents g ok hf
          rw [hf] at hdJ
          have ed0 : du = V.non := hdJ
          subst ed0
          refine ⟨_, rfl, rfl, _, rfl, ite_thru ?_ (fun _ fin => ⟨_, rfl, rfl, false, rfl, iteF ⟨_, rfl, _, rfl, _, _, _, _, rfl, rfl, hsdJ, henJ, fun c hc => ⟨c, rfl, by rw [hc hents]; exact fin⟩⟩⟩) (fun _ fin => fin)⟩
          refine iteF ?_
          refine ⟨_, rfl, rfl, true, rfl, iteT ⟨_, rfl, _, rfl, _, _, _, _, rfl, rfl, hsdJ, henJ, fun c hc => ⟨c, rfl, ?_⟩⟩⟩
          rw [hc hents]
          refine iteF (iteF ?_)
          refine ⟨_, rfl, rfl, false, rfl, iteF ?_⟩
          exact ⟨_, _, _, _, _, _, _, _, _, rfl, k6J, staJ⟩
        | some ab =>
          obtain ⟨ia, ib⟩ := ab
          have hi0 : i ≠ 0 := fun e => by
            rw [hft e] at hf
            cases hf
          obtain ⟨hne, hdg, oka, okb⟩ := fw_hit wo.1 wo.2 t 32 0 kvs ia ib (by decide) (by decide) g ok wd.len (fun z hz => (wd.wd z hz).2) ed hf
          rw [hf] at hdJ
          obtain ⟨r, xa, xb, rfl, hrr, hxa, hxb⟩ := hdJ
          refine ⟨_, rfl, rfl, false, congrArg V.bl (two0 (by omega)), iteF (iteF ?_)⟩
          refine ⟨_, rfl, rfl, true, rfl, iteT ⟨_, rfl, _, rfl, _, _, _, _, rfl, rfl, hsdJ, henJ, fun c _ => ⟨c, rfl, ite_thru ?_ (fun _ fin => ⟨_, rfl, rfl, false, rfl, fin⟩) (fun _ fin => fin)⟩⟩⟩
          refine iteF ?_
          refine ⟨_, rfl, rfl, true, rfl, iteT ?_⟩
          refine ⟨_, rfl, 1, rfl, r, _, rfl, hrr, fun HK a4 s4 h4 => ?_⟩
          have h4 : SqT K HK a4 [xa, xb] := h4
          refine ⟨a4, _, rfl, h4, rfl, _, _, rfl, _, _, rfl, rfl, ?_⟩
          have hxaK := hxa.mono s4
          have hxbK := hxb.mono s4
          obtain ⟨a1, a2, rfl, ha1, ha2⟩ := id hxaK
          obtain ⟨b1, b2, rfl, hb1, hb2⟩ := id hxbK
          refine ⟨_, rfl, _, rfl, a1, _, 0, .int ia.1, rfl, rfl, ha1, atI_nat (j := 0) rfl, _, rfl, a1, _, 1, .ref a2, rfl, rfl, ha1, atI_nat (j := 1) rfl, a2, v, ia.1, ia.2, rfl, wo, ha2, oka.len, (fun z hz => (oka.nn z hz).2), fun HL sL => ?_⟩
          refine ⟨_, rfl, _, rfl, b1, _, 0, .int ib.1, rfl, rfl, sL.tup hb1, atI_nat (j := 0) rfl, _, rfl, b1, _, 1, .ref b2, rfl, rfl, sL.tup hb1, atI_nat (j := 1) rfl, b2, v, ib.1, ib.2, rfl, wo, sL.tup hb2, okb.len, (fun z hz => (okb.nn z hz).2), fun HM sM => ?_⟩
          refine ⟨rfl, false, congrArg (fun z => V.bl (!z)) (decide_eq_true (congrArg V.int hdg)), iteF ?_⟩
          have s4M := s4.trans (sL.trans sM)
          refine ⟨_, rfl, _, rfl, x, _, v, ia, ib, rfl, ⟨dx, s4M _ _ hxJ⟩, wo, ⟨r, _, _, rfl, s4M.tup hrr, hxa.mono s4M, hxb.mono s4M⟩, oka, okb, hne, hdg, fun HN sN => ⟨_, rfl, iteF ?_⟩⟩
          have s4N := s4M.trans sN
          exact ⟨_, _, _, _, _, _, _, _, _, rfl, k6J.trans s4N.kp, staJ.same s4N⟩
  · rintro σ H7 ⟨v6, v7, v8, v9, v10, v11, v12, v13, v15, rfl, k67, sta7⟩
    have hp7 := k67 _ _ nps hp6
    have hx7 := k67 _ _ nxs hx6
    refine ⟨_, _, rfl, rfl, ⟨by decide, by decide, by decide⟩, _, _, rfl, rfl, ?_⟩
    refine ⟨_, rfl, _, rfl, _, rfl, _, rfl, _, rfl, _, rfl, x, p, v, 0, _, kvs, rfl, ⟨dx, hx7⟩, wo, hp7, g, fun H8 a s8 ha => ?_⟩
    refine ⟨x, p, a, v, 0, _, kvs, _, rfl, ⟨dx, s8 _ _ hx7⟩, wo, s8 _ _ hp7, g, .inr (SqT.of ha), (fg_true wo g).wok (by decide), fun H9 u s9 hu => ?_⟩
    rw [brk_some (acc_true wo g), fw_true 32 0 kvs g] at hu
    have hu : u = V.non := hu
    subst hu
    exact ⟨rfl, q H9⟩
end
end Of

set_option Elab.async false
set_option linter.all false
set_option maxRecDepth 100000
set_option maxHeartbeats 8000000
namespace Of
open PySem L2
/-! ### the end: what the top has left -/
section
variable {K : PySem.W.Frag}
theorem gotLimbs {f : Addr} {od an : Option Addr} {sl : Array (Option Value)} {oc kV dc pm cd ct : Value} (l : K.lookup f = some ⟨oc, od, .func (PySem.W.fnOf "limbs_of" "limbs_of" (defArgs sLimbs) (defBody sLimbs) (defScope sLimbs) .none kV dc pm an cd ct), sl⟩) (c : PySem.W.codeIn K cd "limbs_of" = true) (k : PySem.W.keepIn K (.ref f) = true) :
    ∃ fd : FuncData, Fun K "limbs_of" "limbs_of" sLimbs f fd ∧ Binds K fd ["numbers"] [] :=
  ⟨_, fun_mk (st := sLimbs) l c k, (fun_mk (st := sLimbs) l c k).binds (ps := ["numbers"]) fun _ _ _ _ _ _ us hl => match us, hl with | [_], _ => rfl⟩
theorem gotColl {f : Addr} {od an : Option Addr} {sl : Array (Option Value)} {oc kV dc pm cd ct : Value} (l : K.lookup f = some ⟨oc, od, .func (PySem.W.fnOf "collision" "collision" (defArgs sColl) (defBody sColl) (defScope sColl) .none kV dc pm an cd ct), sl⟩) (c : PySem.W.codeIn K cd "collision" = true) (k : PySem.W.keepIn K (.ref f) = true) :
    ∃ fd : FuncData, Fun K "collision" "collision" sColl f fd ∧ Binds K fd ["first", "second"] [] :=
  ⟨_, fun_mk (st := sColl) l c k, (fun_mk (st := sColl) l c k).binds (ps := ["first", "second"]) fun _ _ _ _ _ _ us hl => match us, hl with | [_, _], _ => rfl⟩
theorem gotIsInp {f : Addr} {od an : Option Addr} {sl : Array (Option Value)} {oc kV dc pm cd ct : Value} (l : K.lookup f = some ⟨oc, od, .func (PySem.W.fnOf "is_input" "is_input" (defArgs sIsInp) (defBody sIsInp) (defScope sIsInp) .none kV dc pm an cd ct), sl⟩) (c : PySem.W.codeIn K cd "is_input" = true) (k : PySem.W.keepIn K (.ref f) = true) :
    ∃ fd : FuncData, Fun K "is_input" "is_input" sIsInp f fd ∧ Binds K fd ["answer"] [] :=
  ⟨_, fun_mk (st := sIsInp) l c k, (fun_mk (st := sIsInp) l c k).binds (ps := ["answer"]) fun _ _ _ _ _ _ us hl => match us, hl with | [_], _ => rfl⟩
theorem gotIsColl {f : Addr} {od an : Option Addr} {sl : Array (Option Value)} {oc kV dc pm cd ct : Value} (l : K.lookup f = some ⟨oc, od, .func (PySem.W.fnOf "is_collision" "is_collision" (defArgs sIsColl) (defBody sIsColl) (defScope sIsColl) .none kV dc pm an cd ct), sl⟩) (c : PySem.W.codeIn K cd "is_collision" = true) (k : PySem.W.keepIn K (.ref f) = true) :
    ∃ fd : FuncData, Fun K "is_collision" "is_collision" sIsColl f fd ∧ Binds K fd ["hasher", "answer"] [] :=
  ⟨_, fun_mk (st := sIsColl) l c k, (fun_mk (st := sIsColl) l c k).binds (ps := ["hasher", "answer"]) fun _ _ _ _ _ _ us hl => match us, hl with | [_, _], _ => rfl⟩
theorem gotBit {f : Addr} {od an : Option Addr} {sl : Array (Option Value)} {oc kV dc pm cd ct : Value} (l : K.lookup f = some ⟨oc, od, .func (PySem.W.fnOf "bit_of" "bit_of" (defArgs sBit) (defBody sBit) (defScope sBit) .none kV dc pm an cd ct), sl⟩) (c : PySem.W.codeIn K cd "bit_of" = true) (k : PySem.W.keepIn K (.ref f) = true) :
    ∃ fd : FuncData, Fun K "bit_of" "bit_of" sBit f fd ∧ Binds K fd ["key", "depth"] [] :=
  ⟨_, fun_mk (st := sBit) l c k, (fun_mk (st := sBit) l c k).binds (ps := ["key", "depth"]) fun _ _ _ _ _ _ us hl => match us, hl with | [_, _], _ => rfl⟩
theorem gotParted {f : Addr} {od an : Option Addr} {sl : Array (Option Value)} {oc kV dc pm cd ct : Value} (l : K.lookup f = some ⟨oc, od, .func (PySem.W.fnOf "parted" "parted" (defArgs sParted) (defBody sParted) (defScope sParted) .none kV dc pm an cd ct), sl⟩) (c : PySem.W.codeIn K cd "parted" = true) (k : PySem.W.keepIn K (.ref f) = true) :
    ∃ fd : FuncData, Fun K "parted" "parted" sParted f fd ∧ Binds K fd ["pairs", "depth"] [] :=
  ⟨_, fun_mk (st := sParted) l c k, (fun_mk (st := sParted) l c k).binds (ps := ["pairs", "depth"]) fun _ _ _ _ _ _ us hl => match us, hl with | [_, _], _ => rfl⟩
theorem gotNodeIn {f : Addr} {od an : Option Addr} {sl : Array (Option Value)} {oc kV dc pm cd ct : Value} (l : K.lookup f = some ⟨oc, od, .func (PySem.W.fnOf "node_input" "node_input" (defArgs sNodeIn) (defBody sNodeIn) (defScope sNodeIn) .none kV dc pm an cd ct), sl⟩) (c : PySem.W.codeIn K cd "node_input" = true) (k : PySem.W.keepIn K (.ref f) = true) :
    ∃ fd : FuncData, Fun K "node_input" "node_input" sNodeIn f fd ∧ Binds K fd ["hasher", "pairs", "depth"] [] :=
  ⟨_, fun_mk (st := sNodeIn) l c k, (fun_mk (st := sNodeIn) l c k).binds (ps := ["hasher", "pairs", "depth"]) fun _ _ _ _ _ _ us hl => match us, hl with | [_, _, _], _ => rfl⟩
theorem gotNodeDg {f : Addr} {od an : Option Addr} {sl : Array (Option Value)} {oc kV dc pm cd ct : Value} (l : K.lookup f = some ⟨oc, od, .func (PySem.W.fnOf "node_digest" "node_digest" (defArgs sNodeDg) (defBody sNodeDg) (defScope sNodeDg) .none kV dc pm an cd ct), sl⟩) (c : PySem.W.codeIn K cd "node_digest" = true) (k : PySem.W.keepIn K (.ref f) = true) :
    ∃ fd : FuncData, Fun K "node_digest" "node_digest" sNodeDg f fd ∧ Binds K fd ["hasher", "pairs", "depth"] [] :=
  ⟨_, fun_mk (st := sNodeDg) l c k, (fun_mk (st := sNodeDg) l c k).binds (ps := ["hasher", "pairs", "depth"]) fun _ _ _ _ _ _ us hl => match us, hl with | [_, _, _], _ => rfl⟩
theorem gotRoot {f : Addr} {od an : Option Addr} {sl : Array (Option Value)} {oc kV dc pm cd ct : Value} (l : K.lookup f = some ⟨oc, od, .func (PySem.W.fnOf "map_root" "map_root" (defArgs sRoot) (defBody sRoot) (defScope sRoot) .none kV dc pm an cd ct), sl⟩) (c : PySem.W.codeIn K cd "map_root" = true) (k : PySem.W.keepIn K (.ref f) = true) :
    ∃ fd : FuncData, Fun K "map_root" "map_root" sRoot f fd ∧ Binds K fd ["hasher", "pairs"] [] :=
  ⟨_, fun_mk (st := sRoot) l c k, (fun_mk (st := sRoot) l c k).binds (ps := ["hasher", "pairs"]) fun _ _ _ _ _ _ us hl => match us, hl with | [_, _], _ => rfl⟩
theorem gotWords {f : Addr} {od an : Option Addr} {sl : Array (Option Value)} {oc kV dc pm cd ct : Value} (l : K.lookup f = some ⟨oc, od, .func (PySem.W.fnOf "range_words" "range_words" (defArgs sWords) (defBody sWords) (defScope sWords) .none kV dc pm an cd ct), sl⟩) (c : PySem.W.codeIn K cd "range_words" = true) (k : PySem.W.keepIn K (.ref f) = true) :
    ∃ fd : FuncData, Fun K "range_words" "range_words" sWords f fd ∧ Binds K fd ["hasher", "pairs", "depth", "low", "high", "least"] [] :=
  ⟨_, fun_mk (st := sWords) l c k, (fun_mk (st := sWords) l c k).binds (ps := ["hasher", "pairs", "depth", "low", "high", "least"]) fun _ _ _ _ _ _ us hl => match us, hl with | [_, _, _, _, _, _], _ => rfl⟩
theorem gotProof {f : Addr} {od an : Option Addr} {sl : Array (Option Value)} {oc kV dc pm cd ct : Value} (l : K.lookup f = some ⟨oc, od, .func (PySem.W.fnOf "range_proof" "range_proof" (defArgs sProof) (defBody sProof) (defScope sProof) .none kV dc pm an cd ct), sl⟩) (c : PySem.W.codeIn K cd "range_proof" = true) (k : PySem.W.keepIn K (.ref f) = true) :
    ∃ fd : FuncData, Fun K "range_proof" "range_proof" sProof f fd ∧ Binds K fd ["hasher", "pairs", "low", "high"] [] :=
  ⟨_, fun_mk (st := sProof) l c k, (fun_mk (st := sProof) l c k).binds (ps := ["hasher", "pairs", "low", "high"]) fun _ _ _ _ _ _ us hl => match us, hl with | [_, _, _, _], _ => rfl⟩
theorem gotCheck {f : Addr} {od an : Option Addr} {sl : Array (Option Value)} {oc kV dc pm cd ct : Value} (l : K.lookup f = some ⟨oc, od, .func (PySem.W.fnOf "range_check" "range_check" (defArgs sCheck) (defBody sCheck) (defScope sCheck) .none kV dc pm an cd ct), sl⟩) (c : PySem.W.codeIn K cd "range_check" = true) (k : PySem.W.keepIn K (.ref f) = true) :
    ∃ fd : FuncData, Fun K "range_check" "range_check" sCheck f fd ∧ Binds K fd ["hasher", "root", "low", "high", "proof"] [] :=
  ⟨_, fun_mk (st := sCheck) l c k, (fun_mk (st := sCheck) l c k).binds (ps := ["hasher", "root", "low", "high", "proof"]) fun _ _ _ _ _ _ us hl => match us, hl with | [_, _, _, _, _], _ => rfl⟩
theorem gotWrong {f : Addr} {od an : Option Addr} {sl : Array (Option Value)} {oc kV dc pm cd ct : Value} (l : K.lookup f = some ⟨oc, od, .func (PySem.W.fnOf "first_wrong" "first_wrong" (defArgs sWrong) (defBody sWrong) (defScope sWrong) .none kV dc pm an cd ct), sl⟩) (c : PySem.W.codeIn K cd "first_wrong" = true) (k : PySem.W.keepIn K (.ref f) = true) :
    ∃ fd : FuncData, Fun K "first_wrong" "first_wrong" sWrong f fd ∧ Binds K fd ["hasher", "pairs", "depth", "told"] [] :=
  ⟨_, fun_mk (st := sWrong) l c k, (fun_mk (st := sWrong) l c k).binds (ps := ["hasher", "pairs", "depth", "told"]) fun _ _ _ _ _ _ us hl => match us, hl with | [_, _, _, _], _ => rfl⟩
theorem gotBreak {f : Addr} {od an : Option Addr} {sl : Array (Option Value)} {oc kV dc pm cd ct : Value} (l : K.lookup f = some ⟨oc, od, .func (PySem.W.fnOf "range_break" "range_break" (defArgs sBreak) (defBody sBreak) (defScope sBreak) .none kV dc pm an cd ct), sl⟩) (c : PySem.W.codeIn K cd "range_break" = true) (k : PySem.W.keepIn K (.ref f) = true) :
    ∃ fd : FuncData, Fun K "range_break" "range_break" sBreak f fd ∧ Binds K fd ["hasher", "pairs", "low", "high", "proof"] [] :=
  ⟨_, fun_mk (st := sBreak) l c k, (fun_mk (st := sBreak) l c k).binds (ps := ["hasher", "pairs", "low", "high", "proof"]) fun _ _ _ _ _ _ us hl => match us, hl with | [_, _, _, _, _], _ => rfl⟩
theorem gotDraw {f : Addr} {od an : Option Addr} {sl : Array (Option Value)} {oc kV dc pm cd ct : Value} (l : K.lookup f = some ⟨oc, od, .func (PySem.W.fnOf "_law_draw" "_law_draw" (defArgs sDraw) (defBody sDraw) (defScope sDraw) .none kV dc pm an cd ct), sl⟩) (c : PySem.W.codeIn K cd "_law_draw" = true) (k : PySem.W.keepIn K (.ref f) = true) :
    ∃ fd : FuncData, Fun K "_law_draw" "_law_draw" sDraw f fd ∧ Binds K fd ["_law_state", "_law_script", "_law_size"] [] :=
  ⟨_, fun_mk (st := sDraw) l c k, (fun_mk (st := sDraw) l c k).binds (ps := ["_law_state", "_law_script", "_law_size"]) fun _ _ _ _ _ _ us hl => match us, hl with | [_, _, _], _ => rfl⟩
theorem gotLDig {f : Addr} {od an : Option Addr} {sl : Array (Option Value)} {oc kV dc pm cd ct : Value} (l : K.lookup f = some ⟨oc, od, .func (PySem.W.fnOf "_law_digest" "_law_digest" (defArgs sLDig) (defBody sLDig) (defScope sLDig) .none kV dc pm an cd ct), sl⟩) (c : PySem.W.codeIn K cd "_law_digest" = true) (k : PySem.W.keepIn K (.ref f) = true) :
    ∃ fd : FuncData, Fun K "_law_digest" "_law_digest" sLDig f fd ∧ Binds K fd ["_law_width", "_law_tag", "_law_numbers"] [] :=
  ⟨_, fun_mk (st := sLDig) l c k, (fun_mk (st := sLDig) l c k).binds (ps := ["_law_width", "_law_tag", "_law_numbers"]) fun _ _ _ _ _ _ us hl => match us, hl with | [_, _, _], _ => rfl⟩
theorem gotSide {f : Addr} {od an : Option Addr} {sl : Array (Option Value)} {oc kV dc pm cd ct : Value} (l : K.lookup f = some ⟨oc, od, .func (PySem.W.fnOf "_law_side" "_law_side" (defArgs sSide) (defBody sSide) (defScope sSide) .none kV dc pm an cd ct), sl⟩) (c : PySem.W.codeIn K cd "_law_side" = true) (k : PySem.W.keepIn K (.ref f) = true) :
    ∃ fd : FuncData, Fun K "_law_side" "_law_side" sSide f fd ∧ Binds K fd ["_law_key_here", "_law_depth"] [] :=
  ⟨_, fun_mk (st := sSide) l c k, (fun_mk (st := sSide) l c k).binds (ps := ["_law_key_here", "_law_depth"]) fun _ _ _ _ _ _ us hl => match us, hl with | [_, _], _ => rfl⟩
theorem gotLNode {f : Addr} {od an : Option Addr} {sl : Array (Option Value)} {oc kV dc pm cd ct : Value} (l : K.lookup f = some ⟨oc, od, .func (PySem.W.fnOf "_law_node" "_law_node" (defArgs sLNode) (defBody sLNode) (defScope sLNode) .none kV dc pm an cd ct), sl⟩) (c : PySem.W.codeIn K cd "_law_node" = true) (k : PySem.W.keepIn K (.ref f) = true) :
    ∃ fd : FuncData, Fun K "_law_node" "_law_node" sLNode f fd ∧ Binds K fd ["_law_width", "_law_pairs_here", "_law_depth"] [] :=
  ⟨_, fun_mk (st := sLNode) l c k, (fun_mk (st := sLNode) l c k).binds (ps := ["_law_width", "_law_pairs_here", "_law_depth"]) fun _ _ _ _ _ _ us hl => match us, hl with | [_, _, _], _ => rfl⟩
theorem gotOfNode {f : Addr} {od an : Option Addr} {sl : Array (Option Value)} {oc kV dc pm cd ct : Value} (l : K.lookup f = some ⟨oc, od, .func (PySem.W.fnOf "_law_of_node" "_law_of_node" (defArgs sOfNode) (defBody sOfNode) (defScope sOfNode) .none kV dc pm an cd ct), sl⟩) (c : PySem.W.codeIn K cd "_law_of_node" = true) (k : PySem.W.keepIn K (.ref f) = true) :
    ∃ fd : FuncData, Fun K "_law_of_node" "_law_of_node" sOfNode f fd ∧ Binds K fd ["_law_width", "_law_pairs_here", "_law_depth"] [] :=
  ⟨_, fun_mk (st := sOfNode) l c k, (fun_mk (st := sOfNode) l c k).binds (ps := ["_law_width", "_law_pairs_here", "_law_depth"]) fun _ _ _ _ _ _ us hl => match us, hl with | [_, _, _], _ => rfl⟩
theorem gotKey {f : Addr} {od an : Option Addr} {sl : Array (Option Value)} {oc kV dc pm cd ct : Value} (l : K.lookup f = some ⟨oc, od, .func (PySem.W.fnOf "_law_key" "_law_key" (defArgs sKey) (defBody sKey) (defScope sKey) .none kV dc pm an cd ct), sl⟩) (c : PySem.W.codeIn K cd "_law_key" = true) (k : PySem.W.keepIn K (.ref f) = true) :
    ∃ fd : FuncData, Fun K "_law_key" "_law_key" sKey f fd ∧ Binds K fd ["_law_state", "_law_script", "_law_pairs_here"] [] :=
  ⟨_, fun_mk (st := sKey) l c k, (fun_mk (st := sKey) l c k).binds (ps := ["_law_state", "_law_script", "_law_pairs_here"]) fun _ _ _ _ _ _ us hl => match us, hl with | [_, _, _], _ => rfl⟩
theorem gotPairs {f : Addr} {od an : Option Addr} {sl : Array (Option Value)} {oc kV dc pm cd ct : Value} (l : K.lookup f = some ⟨oc, od, .func (PySem.W.fnOf "_law_pairs" "_law_pairs" (defArgs sPairs) (defBody sPairs) (defScope sPairs) .none kV dc pm an cd ct), sl⟩) (c : PySem.W.codeIn K cd "_law_pairs" = true) (k : PySem.W.keepIn K (.ref f) = true) :
    ∃ fd : FuncData, Fun K "_law_pairs" "_law_pairs" sPairs f fd ∧ Binds K fd ["_law_state", "_law_script", "_law_most"] [] :=
  ⟨_, fun_mk (st := sPairs) l c k, (fun_mk (st := sPairs) l c k).binds (ps := ["_law_state", "_law_script", "_law_most"]) fun _ _ _ _ _ _ us hl => match us, hl with | [_, _, _], _ => rfl⟩
theorem gotTold {f : Addr} {od an : Option Addr} {sl : Array (Option Value)} {oc kV dc pm cd ct : Value} (l : K.lookup f = some ⟨oc, od, .func (PySem.W.fnOf "_law_told" "_law_told" (defArgs sTold) (defBody sTold) (defScope sTold) .none kV dc pm an cd ct), sl⟩) (c : PySem.W.codeIn K cd "_law_told" = true) (k : PySem.W.keepIn K (.ref f) = true) :
    ∃ fd : FuncData, Fun K "_law_told" "_law_told" sTold f fd ∧ Binds K fd ["_law_width", "_law_words", "_law_at", "_law_pairs_here", "_law_depth"] [] :=
  ⟨_, fun_mk (st := sTold) l c k, (fun_mk (st := sTold) l c k).binds (ps := ["_law_width", "_law_words", "_law_at", "_law_pairs_here", "_law_depth"]) fun _ _ _ _ _ _ us hl => match us, hl with | [_, _, _, _, _], _ => rfl⟩
theorem gotDue {f : Addr} {od an : Option Addr} {sl : Array (Option Value)} {oc kV dc pm cd ct : Value} (l : K.lookup f = some ⟨oc, od, .func (PySem.W.fnOf "_law_due" "_law_due" (defArgs sDue) (defBody sDue) (defScope sDue) .none kV dc pm an cd ct), sl⟩) (c : PySem.W.codeIn K cd "_law_due" = true) (k : PySem.W.keepIn K (.ref f) = true) :
    ∃ fd : FuncData, Fun K "_law_due" "_law_due" sDue f fd ∧ Binds K fd ["_law_width", "_law_words", "_law_pairs_here"] [] :=
  ⟨_, fun_mk (st := sDue) l c k, (fun_mk (st := sDue) l c k).binds (ps := ["_law_width", "_law_words", "_law_pairs_here"]) fun _ _ _ _ _ _ us hl => match us, hl with | [_, _, _], _ => rfl⟩
theorem gotForged {f : Addr} {od an : Option Addr} {sl : Array (Option Value)} {oc kV dc pm cd ct : Value} (l : K.lookup f = some ⟨oc, od, .func (PySem.W.fnOf "_law_forged" "_law_forged" (defArgs sForged) (defBody sForged) (defScope sForged) .none kV dc pm an cd ct), sl⟩) (c : PySem.W.codeIn K cd "_law_forged" = true) (k : PySem.W.keepIn K (.ref f) = true) :
    ∃ fd : FuncData, Fun K "_law_forged" "_law_forged" sForged f fd ∧ Binds K fd ["_law_state", "_law_script", "_law_width", "_law_proof"] [] :=
  ⟨_, fun_mk (st := sForged) l c k, (fun_mk (st := sForged) l c k).binds (ps := ["_law_state", "_law_script", "_law_width", "_law_proof"]) fun _ _ _ _ _ _ us hl => match us, hl with | [_, _, _, _], _ => rfl⟩
theorem gotHashI {f : Addr} {od an : Option Addr} {sl : Array (Option Value)} {oc kV dc pm cd ct : Value} (l : K.lookup f = some ⟨oc, od, .func (PySem.W.fnOf "__init__" "Hasher.__init__" (defArgs sHashI) (defBody sHashI) (defScope sHashI) .none kV dc pm an cd ct), sl⟩) (c : PySem.W.codeIn K cd "Hasher.__init__" = true) (k : PySem.W.keepIn K (.ref f) = true) :
    ∃ fd : FuncData, Fun K "__init__" "Hasher.__init__" sHashI f fd ∧ Binds K fd ["self", "width"] [] :=
  ⟨_, fun_mk (st := sHashI) l c k, (fun_mk (st := sHashI) l c k).binds (ps := ["self", "width"]) fun _ _ _ _ _ _ us hl => match us, hl with | [_, _], _ => rfl⟩
theorem gotDigest {f : Addr} {od an : Option Addr} {sl : Array (Option Value)} {oc kV dc pm cd ct : Value} (l : K.lookup f = some ⟨oc, od, .func (PySem.W.fnOf "digest" "Hasher.digest" (defArgs sDigest) (defBody sDigest) (defScope sDigest) .none kV dc pm an cd ct), sl⟩) (c : PySem.W.codeIn K cd "Hasher.digest" = true) (k : PySem.W.keepIn K (.ref f) = true) :
    ∃ fd : FuncData, Fun K "digest" "Hasher.digest" sDigest f fd ∧ Binds K fd ["self", "tag", "numbers"] [] :=
  ⟨_, fun_mk (st := sDigest) l c k, (fun_mk (st := sDigest) l c k).binds (ps := ["self", "tag", "numbers"]) fun _ _ _ _ _ _ us hl => match us, hl with | [_, _, _], _ => rfl⟩
theorem gotIsDig {f : Addr} {od an : Option Addr} {sl : Array (Option Value)} {oc kV dc pm cd ct : Value} (l : K.lookup f = some ⟨oc, od, .func (PySem.W.fnOf "is_digest" "Hasher.is_digest" (defArgs sIsDig) (defBody sIsDig) (defScope sIsDig) .none kV dc pm an cd ct), sl⟩) (c : PySem.W.codeIn K cd "Hasher.is_digest" = true) (k : PySem.W.keepIn K (.ref f) = true) :
    ∃ fd : FuncData, Fun K "is_digest" "Hasher.is_digest" sIsDig f fd ∧ Binds K fd ["self", "number"] [] :=
  ⟨_, fun_mk (st := sIsDig) l c k, (fun_mk (st := sIsDig) l c k).binds (ps := ["self", "number"]) fun _ _ _ _ _ _ us hl => match us, hl with | [_, _], _ => rfl⟩
theorem gotReadI {f : Addr} {od an : Option Addr} {sl : Array (Option Value)} {oc kV dc pm cd ct : Value} (l : K.lookup f = some ⟨oc, od, .func (PySem.W.fnOf "__init__" "RangeReader.__init__" (defArgs sReadI) (defBody sReadI) (defScope sReadI) .none kV dc pm an cd ct), sl⟩) (c : PySem.W.codeIn K cd "RangeReader.__init__" = true) (k : PySem.W.keepIn K (.ref f) = true) :
    ∃ fd : FuncData, Fun K "__init__" "RangeReader.__init__" sReadI f fd ∧ Binds K fd ["self", "hasher", "proof", "low", "high"] [] :=
  ⟨_, fun_mk (st := sReadI) l c k, (fun_mk (st := sReadI) l c k).binds (ps := ["self", "hasher", "proof", "low", "high"]) fun _ _ _ _ _ _ us hl => match us, hl with | [_, _, _, _, _], _ => rfl⟩
theorem gotTake {f : Addr} {od an : Option Addr} {sl : Array (Option Value)} {oc kV dc pm cd ct : Value} (l : K.lookup f = some ⟨oc, od, .func (PySem.W.fnOf "take" "RangeReader.take" (defArgs sTake) (defBody sTake) (defScope sTake) .none kV dc pm an cd ct), sl⟩) (c : PySem.W.codeIn K cd "RangeReader.take" = true) (k : PySem.W.keepIn K (.ref f) = true) :
    ∃ fd : FuncData, Fun K "take" "RangeReader.take" sTake f fd ∧ Binds K fd ["self"] [] :=
  ⟨_, fun_mk (st := sTake) l c k, (fun_mk (st := sTake) l c k).binds (ps := ["self"]) fun _ _ _ _ _ _ us hl => match us, hl with | [_], _ => rfl⟩
theorem gotHidden {f : Addr} {od an : Option Addr} {sl : Array (Option Value)} {oc kV dc pm cd ct : Value} (l : K.lookup f = some ⟨oc, od, .func (PySem.W.fnOf "hidden" "RangeReader.hidden" (defArgs sHidden) (defBody sHidden) (defScope sHidden) .none kV dc pm an cd ct), sl⟩) (c : PySem.W.codeIn K cd "RangeReader.hidden" = true) (k : PySem.W.keepIn K (.ref f) = true) :
    ∃ fd : FuncData, Fun K "hidden" "RangeReader.hidden" sHidden f fd ∧ Binds K fd ["self", "least", "most"] [] :=
  ⟨_, fun_mk (st := sHidden) l c k, (fun_mk (st := sHidden) l c k).binds (ps := ["self", "least", "most"]) fun _ _ _ _ _ _ us hl => match us, hl with | [_, _, _], _ => rfl⟩
theorem gotLeaf {f : Addr} {od an : Option Addr} {sl : Array (Option Value)} {oc kV dc pm cd ct : Value} (l : K.lookup f = some ⟨oc, od, .func (PySem.W.fnOf "leaf" "RangeReader.leaf" (defArgs sLeaf) (defBody sLeaf) (defScope sLeaf) .none kV dc pm an cd ct), sl⟩) (c : PySem.W.codeIn K cd "RangeReader.leaf" = true) (k : PySem.W.keepIn K (.ref f) = true) :
    ∃ fd : FuncData, Fun K "leaf" "RangeReader.leaf" sLeaf f fd ∧ Binds K fd ["self", "least", "most"] [] :=
  ⟨_, fun_mk (st := sLeaf) l c k, (fun_mk (st := sLeaf) l c k).binds (ps := ["self", "least", "most"]) fun _ _ _ _ _ _ us hl => match us, hl with | [_, _, _], _ => rfl⟩
theorem gotNode {f : Addr} {od an : Option Addr} {sl : Array (Option Value)} {oc kV dc pm cd ct : Value} (l : K.lookup f = some ⟨oc, od, .func (PySem.W.fnOf "node" "RangeReader.node" (defArgs sNode) (defBody sNode) (defScope sNode) .none kV dc pm an cd ct), sl⟩) (c : PySem.W.codeIn K cd "RangeReader.node" = true) (k : PySem.W.keepIn K (.ref f) = true) :
    ∃ fd : FuncData, Fun K "node" "RangeReader.node" sNode f fd ∧ Binds K fd ["self", "depth", "least"] [] :=
  ⟨_, fun_mk (st := sNode) l c k, (fun_mk (st := sNode) l c k).binds (ps := ["self", "depth", "least"]) fun _ _ _ _ _ _ us hl => match us, hl with | [_, _, _], _ => rfl⟩
theorem gotToldI {f : Addr} {od an : Option Addr} {sl : Array (Option Value)} {oc kV dc pm cd ct : Value} (l : K.lookup f = some ⟨oc, od, .func (PySem.W.fnOf "__init__" "Told.__init__" (defArgs sToldI) (defBody sToldI) (defScope sToldI) .none kV dc pm an cd ct), sl⟩) (c : PySem.W.codeIn K cd "Told.__init__" = true) (k : PySem.W.keepIn K (.ref f) = true) :
    ∃ fd : FuncData, Fun K "__init__" "Told.__init__" sToldI f fd ∧ Binds K fd ["self", "hasher", "proof"] [] :=
  ⟨_, fun_mk (st := sToldI) l c k, (fun_mk (st := sToldI) l c k).binds (ps := ["self", "hasher", "proof"]) fun _ _ _ _ _ _ us hl => match us, hl with | [_, _, _], _ => rfl⟩
theorem gotSome {f : Addr} {od an : Option Addr} {sl : Array (Option Value)} {oc kV dc pm cd ct : Value} (l : K.lookup f = some ⟨oc, od, .func (PySem.W.fnOf "some" "Told.some" (defArgs sSome) (defBody sSome) (defScope sSome) .none kV dc pm an cd ct), sl⟩) (c : PySem.W.codeIn K cd "Told.some" = true) (k : PySem.W.keepIn K (.ref f) = true) :
    ∃ fd : FuncData, Fun K "some" "Told.some" sSome f fd ∧ Binds K fd ["self", "count"] [] :=
  ⟨_, fun_mk (st := sSome) l c k, (fun_mk (st := sSome) l c k).binds (ps := ["self", "count"]) fun _ _ _ _ _ _ us hl => match us, hl with | [_, _], _ => rfl⟩
theorem gotTNode {f : Addr} {od an : Option Addr} {sl : Array (Option Value)} {oc kV dc pm cd ct : Value} (l : K.lookup f = some ⟨oc, od, .func (PySem.W.fnOf "node" "Told.node" (defArgs sTNode) (defBody sTNode) (defScope sTNode) .none kV dc pm an cd ct), sl⟩) (c : PySem.W.codeIn K cd "Told.node" = true) (k : PySem.W.keepIn K (.ref f) = true) :
    ∃ fd : FuncData, Fun K "node" "Told.node" sTNode f fd ∧ Binds K fd ["self"] [] :=
  ⟨_, fun_mk (st := sTNode) l c k, (fun_mk (st := sTNode) l c k).binds (ps := ["self"]) fun _ _ _ _ _ _ us hl => match us, hl with | [_], _ => rfl⟩
end
theorem all_mk {l : PySem.W.OpenLaw} {w : World} {K : PySem.W.Frag} {h : Heap} {mg : Str → Option Value} {fa CH CR CT fLimbs fColl fIsInp fIsColl fBit fParted fNodeIn fNodeDg fRoot fWords fProof fCheck fWrong fBreak fDraw fLDig fSide fLNode fOfNode fKey fPairs fTold fDue fForged mHashI mDigest mIsDig mReadI mTake mHidden mLeaf mNode mToldI mSome mTNode fLaw : Addr} {tMASK tFIRST tSECOND tONE tOTHER tLIMB tWHOLE tLEAF tINNER tKEY_BITS tEMPTY_WORD tLEAF_WORD tINNER_WORD tHIDDEN_WORD : Tok} {od an : Option Addr} {sl : Array (Option Value)} {oc kV dc pm cd ct : Value} (X : K.In h) (G : h.Ns mainGlobals mg) (hfa : mg "law" = some (.ref fa))
    (aH : PySem.W.nsIn K mainGlobals "Hasher" = some (some (.ref CH)))
    (aR : PySem.W.nsIn K mainGlobals "RangeReader" = some (some (.ref CR)))
    (aT : PySem.W.nsIn K mainGlobals "Told" = some (some (.ref CT)))
    (aLimbs : PySem.W.nsIn K mainGlobals "limbs_of" = some (some (.ref fLimbs)))
    (gLimbs : ∃ fd : FuncData, Fun K "limbs_of" "limbs_of" sLimbs fLimbs fd ∧ Binds K fd ["numbers"] [])
    (aColl : PySem.W.nsIn K mainGlobals "collision" = some (some (.ref fColl)))
    (gColl : ∃ fd : FuncData, Fun K "collision" "collision" sColl fColl fd ∧ Binds K fd ["first", "second"] [])
    (aIsInp : PySem.W.nsIn K mainGlobals "is_input" = some (some (.ref fIsInp)))
    (gIsInp : ∃ fd : FuncData, Fun K "is_input" "is_input" sIsInp fIsInp fd ∧ Binds K fd ["answer"] [])
    (aIsColl : PySem.W.nsIn K mainGlobals "is_collision" = some (some (.ref fIsColl)))
    (gIsColl : ∃ fd : FuncData, Fun K "is_collision" "is_collision" sIsColl fIsColl fd ∧ Binds K fd ["hasher", "answer"] [])
    (aBit : PySem.W.nsIn K mainGlobals "bit_of" = some (some (.ref fBit)))
    (gBit : ∃ fd : FuncData, Fun K "bit_of" "bit_of" sBit fBit fd ∧ Binds K fd ["key", "depth"] [])
    (aParted : PySem.W.nsIn K mainGlobals "parted" = some (some (.ref fParted)))
    (gParted : ∃ fd : FuncData, Fun K "parted" "parted" sParted fParted fd ∧ Binds K fd ["pairs", "depth"] [])
    (aNodeIn : PySem.W.nsIn K mainGlobals "node_input" = some (some (.ref fNodeIn)))
    (gNodeIn : ∃ fd : FuncData, Fun K "node_input" "node_input" sNodeIn fNodeIn fd ∧ Binds K fd ["hasher", "pairs", "depth"] [])
    (aNodeDg : PySem.W.nsIn K mainGlobals "node_digest" = some (some (.ref fNodeDg)))
    (gNodeDg : ∃ fd : FuncData, Fun K "node_digest" "node_digest" sNodeDg fNodeDg fd ∧ Binds K fd ["hasher", "pairs", "depth"] [])
    (aRoot : PySem.W.nsIn K mainGlobals "map_root" = some (some (.ref fRoot)))
    (gRoot : ∃ fd : FuncData, Fun K "map_root" "map_root" sRoot fRoot fd ∧ Binds K fd ["hasher", "pairs"] [])
    (aWords : PySem.W.nsIn K mainGlobals "range_words" = some (some (.ref fWords)))
    (gWords : ∃ fd : FuncData, Fun K "range_words" "range_words" sWords fWords fd ∧ Binds K fd ["hasher", "pairs", "depth", "low", "high", "least"] [])
    (aProof : PySem.W.nsIn K mainGlobals "range_proof" = some (some (.ref fProof)))
    (gProof : ∃ fd : FuncData, Fun K "range_proof" "range_proof" sProof fProof fd ∧ Binds K fd ["hasher", "pairs", "low", "high"] [])
    (aCheck : PySem.W.nsIn K mainGlobals "range_check" = some (some (.ref fCheck)))
    (gCheck : ∃ fd : FuncData, Fun K "range_check" "range_check" sCheck fCheck fd ∧ Binds K fd ["hasher", "root", "low", "high", "proof"] [])
    (aWrong : PySem.W.nsIn K mainGlobals "first_wrong" = some (some (.ref fWrong)))
    (gWrong : ∃ fd : FuncData, Fun K "first_wrong" "first_wrong" sWrong fWrong fd ∧ Binds K fd ["hasher", "pairs", "depth", "told"] [])
    (aBreak : PySem.W.nsIn K mainGlobals "range_break" = some (some (.ref fBreak)))
    (gBreak : ∃ fd : FuncData, Fun K "range_break" "range_break" sBreak fBreak fd ∧ Binds K fd ["hasher", "pairs", "low", "high", "proof"] [])
    (aDraw : PySem.W.nsIn K mainGlobals "_law_draw" = some (some (.ref fDraw)))
    (gDraw : ∃ fd : FuncData, Fun K "_law_draw" "_law_draw" sDraw fDraw fd ∧ Binds K fd ["_law_state", "_law_script", "_law_size"] [])
    (aLDig : PySem.W.nsIn K mainGlobals "_law_digest" = some (some (.ref fLDig)))
    (gLDig : ∃ fd : FuncData, Fun K "_law_digest" "_law_digest" sLDig fLDig fd ∧ Binds K fd ["_law_width", "_law_tag", "_law_numbers"] [])
    (aSide : PySem.W.nsIn K mainGlobals "_law_side" = some (some (.ref fSide)))
    (gSide : ∃ fd : FuncData, Fun K "_law_side" "_law_side" sSide fSide fd ∧ Binds K fd ["_law_key_here", "_law_depth"] [])
    (aLNode : PySem.W.nsIn K mainGlobals "_law_node" = some (some (.ref fLNode)))
    (gLNode : ∃ fd : FuncData, Fun K "_law_node" "_law_node" sLNode fLNode fd ∧ Binds K fd ["_law_width", "_law_pairs_here", "_law_depth"] [])
    (aOfNode : PySem.W.nsIn K mainGlobals "_law_of_node" = some (some (.ref fOfNode)))
    (gOfNode : ∃ fd : FuncData, Fun K "_law_of_node" "_law_of_node" sOfNode fOfNode fd ∧ Binds K fd ["_law_width", "_law_pairs_here", "_law_depth"] [])
    (aKey : PySem.W.nsIn K mainGlobals "_law_key" = some (some (.ref fKey)))
    (gKey : ∃ fd : FuncData, Fun K "_law_key" "_law_key" sKey fKey fd ∧ Binds K fd ["_law_state", "_law_script", "_law_pairs_here"] [])
    (aPairs : PySem.W.nsIn K mainGlobals "_law_pairs" = some (some (.ref fPairs)))
    (gPairs : ∃ fd : FuncData, Fun K "_law_pairs" "_law_pairs" sPairs fPairs fd ∧ Binds K fd ["_law_state", "_law_script", "_law_most"] [])
    (aTold : PySem.W.nsIn K mainGlobals "_law_told" = some (some (.ref fTold)))
    (gTold : ∃ fd : FuncData, Fun K "_law_told" "_law_told" sTold fTold fd ∧ Binds K fd ["_law_width", "_law_words", "_law_at", "_law_pairs_here", "_law_depth"] [])
    (aDue : PySem.W.nsIn K mainGlobals "_law_due" = some (some (.ref fDue)))
    (gDue : ∃ fd : FuncData, Fun K "_law_due" "_law_due" sDue fDue fd ∧ Binds K fd ["_law_width", "_law_words", "_law_pairs_here"] [])
    (aForged : PySem.W.nsIn K mainGlobals "_law_forged" = some (some (.ref fForged)))
    (gForged : ∃ fd : FuncData, Fun K "_law_forged" "_law_forged" sForged fForged fd ∧ Binds K fd ["_law_state", "_law_script", "_law_width", "_law_proof"] [])
    (aHashI : PySem.W.findIn K (.ref CH) "__init__" = some (some (.ref mHashI)))
    (iHashI : PySem.W.isFn K (.ref mHashI) = true)
    (gHashI : ∃ fd : FuncData, Fun K "__init__" "Hasher.__init__" sHashI mHashI fd ∧ Binds K fd ["self", "width"] [])
    (aDigest : PySem.W.findIn K (.ref CH) "digest" = some (some (.ref mDigest)))
    (iDigest : PySem.W.isFn K (.ref mDigest) = true)
    (gDigest : ∃ fd : FuncData, Fun K "digest" "Hasher.digest" sDigest mDigest fd ∧ Binds K fd ["self", "tag", "numbers"] [])
    (aIsDig : PySem.W.findIn K (.ref CH) "is_digest" = some (some (.ref mIsDig)))
    (iIsDig : PySem.W.isFn K (.ref mIsDig) = true)
    (gIsDig : ∃ fd : FuncData, Fun K "is_digest" "Hasher.is_digest" sIsDig mIsDig fd ∧ Binds K fd ["self", "number"] [])
    (aReadI : PySem.W.findIn K (.ref CR) "__init__" = some (some (.ref mReadI)))
    (iReadI : PySem.W.isFn K (.ref mReadI) = true)
    (gReadI : ∃ fd : FuncData, Fun K "__init__" "RangeReader.__init__" sReadI mReadI fd ∧ Binds K fd ["self", "hasher", "proof", "low", "high"] [])
    (aTake : PySem.W.findIn K (.ref CR) "take" = some (some (.ref mTake)))
    (iTake : PySem.W.isFn K (.ref mTake) = true)
    (gTake : ∃ fd : FuncData, Fun K "take" "RangeReader.take" sTake mTake fd ∧ Binds K fd ["self"] [])
    (aHidden : PySem.W.findIn K (.ref CR) "hidden" = some (some (.ref mHidden)))
    (iHidden : PySem.W.isFn K (.ref mHidden) = true)
    (gHidden : ∃ fd : FuncData, Fun K "hidden" "RangeReader.hidden" sHidden mHidden fd ∧ Binds K fd ["self", "least", "most"] [])
    (aLeaf : PySem.W.findIn K (.ref CR) "leaf" = some (some (.ref mLeaf)))
    (iLeaf : PySem.W.isFn K (.ref mLeaf) = true)
    (gLeaf : ∃ fd : FuncData, Fun K "leaf" "RangeReader.leaf" sLeaf mLeaf fd ∧ Binds K fd ["self", "least", "most"] [])
    (aNode : PySem.W.findIn K (.ref CR) "node" = some (some (.ref mNode)))
    (iNode : PySem.W.isFn K (.ref mNode) = true)
    (gNode : ∃ fd : FuncData, Fun K "node" "RangeReader.node" sNode mNode fd ∧ Binds K fd ["self", "depth", "least"] [])
    (aToldI : PySem.W.findIn K (.ref CT) "__init__" = some (some (.ref mToldI)))
    (iToldI : PySem.W.isFn K (.ref mToldI) = true)
    (gToldI : ∃ fd : FuncData, Fun K "__init__" "Told.__init__" sToldI mToldI fd ∧ Binds K fd ["self", "hasher", "proof"] [])
    (aSome : PySem.W.findIn K (.ref CT) "some" = some (some (.ref mSome)))
    (iSome : PySem.W.isFn K (.ref mSome) = true)
    (gSome : ∃ fd : FuncData, Fun K "some" "Told.some" sSome mSome fd ∧ Binds K fd ["self", "count"] [])
    (aTNode : PySem.W.findIn K (.ref CT) "node" = some (some (.ref mTNode)))
    (iTNode : PySem.W.isFn K (.ref mTNode) = true)
    (gTNode : ∃ fd : FuncData, Fun K "node" "Told.node" sTNode mTNode fd ∧ Binds K fd ["self"] [])
    (pgH : PySem.W.plainGet K CH Str.empty = true)
    (hdH : PySem.W.hasDictIn K CH = true)
    (poH : PySem.W.plainOver K CH = true)
    (saH : PySem.W.findIn K (.ref CH) "__setattr__" = some (some (.builtin "object.__setattr__")))
    (mkH : PySem.W.makesIn K CH = true)
    (kcH : PySem.W.keepIn K (.ref CH) = true)
    (pgR : PySem.W.plainGet K CR Str.empty = true)
    (hdR : PySem.W.hasDictIn K CR = true)
    (poR : PySem.W.plainOver K CR = true)
    (saR : PySem.W.findIn K (.ref CR) "__setattr__" = some (some (.builtin "object.__setattr__")))
    (mkR : PySem.W.makesIn K CR = true)
    (kcR : PySem.W.keepIn K (.ref CR) = true)
    (pgT : PySem.W.plainGet K CT Str.empty = true)
    (hdT : PySem.W.hasDictIn K CT = true)
    (poT : PySem.W.plainOver K CT = true)
    (saT : PySem.W.findIn K (.ref CT) "__setattr__" = some (some (.builtin "object.__setattr__")))
    (mkT : PySem.W.makesIn K CT = true)
    (kcT : PySem.W.keepIn K (.ref CT) = true)
    (nhW : PySem.W.findIn K (.ref CH) "width" = some none)
    (nrH : PySem.W.findIn K (.ref CR) "hasher" = some none)
    (nrP : PySem.W.findIn K (.ref CR) "proof" = some none)
    (nrL : PySem.W.findIn K (.ref CR) "low" = some none)
    (nrG : PySem.W.findIn K (.ref CR) "high" = some none)
    (nrA : PySem.W.findIn K (.ref CR) "at" = some none)
    (nrF : PySem.W.findIn K (.ref CR) "found" = some none)
    (nrB : PySem.W.findIn K (.ref CR) "broken" = some none)
    (ntH : PySem.W.findIn K (.ref CT) "hasher" = some none)
    (ntP : PySem.W.findIn K (.ref CT) "proof" = some none)
    (ntA : PySem.W.findIn K (.ref CT) "at" = some none)
    (vMASK : PySem.W.nsIn K mainGlobals "MASK" = some (some (.int 18446744073709551615 tMASK)))
    (vFIRST : PySem.W.nsIn K mainGlobals "FIRST" = some (some (.int 7263541890216354987 tFIRST)))
    (vSECOND : PySem.W.nsIn K mainGlobals "SECOND" = some (some (.int 12985647301928374651 tSECOND)))
    (vONE : PySem.W.nsIn K mainGlobals "ONE" = some (some (.int 15241578750190521011 tONE)))
    (vOTHER : PySem.W.nsIn K mainGlobals "OTHER" = some (some (.int 9764318250173649287 tOTHER)))
    (vLIMB : PySem.W.nsIn K mainGlobals "LIMB" = some (some (.int 4294967295 tLIMB)))
    (vWHOLE : PySem.W.nsIn K mainGlobals "WHOLE" = some (some (.int 128 tWHOLE)))
    (vLEAF : PySem.W.nsIn K mainGlobals "LEAF" = some (some (.int 2 tLEAF)))
    (vINNER : PySem.W.nsIn K mainGlobals "INNER" = some (some (.int 3 tINNER)))
    (vKEY_BITS : PySem.W.nsIn K mainGlobals "KEY_BITS" = some (some (.int 32 tKEY_BITS)))
    (vEMPTY_WORD : PySem.W.nsIn K mainGlobals "EMPTY_WORD" = some (some (.int 0 tEMPTY_WORD)))
    (vLEAF_WORD : PySem.W.nsIn K mainGlobals "LEAF_WORD" = some (some (.int 1 tLEAF_WORD)))
    (vINNER_WORD : PySem.W.nsIn K mainGlobals "INNER_WORD" = some (some (.int 2 tINNER_WORD)))
    (vHIDDEN_WORD : PySem.W.nsIn K mainGlobals "HIDDEN_WORD" = some (some (.int 3 tHIDDEN_WORD)))
    (zlen : PySem.W.nsIn K mainGlobals "len" = some none)
    (zmin : PySem.W.nsIn K mainGlobals "min" = some none)
    (zall : PySem.W.nsIn K mainGlobals "all" = some none)
    (ztuple : PySem.W.nsIn K mainGlobals "tuple" = some none)
    (zlist : PySem.W.nsIn K mainGlobals "list" = some none)
    (zdict : PySem.W.nsIn K mainGlobals "dict" = some none)
    (zint : PySem.W.nsIn K mainGlobals "int" = some none)
    (zrange : PySem.W.nsIn K mainGlobals "range" = some none)
    (zsorted : PySem.W.nsIn K mainGlobals "sorted" = some none)
    (aLaw : PySem.W.nsIn K mainGlobals "law" = some (some (.ref fLaw)))
    (lLaw : K.lookup fLaw = some ⟨oc, od, .func (PySem.W.fnOf "law" "law" (defArgs sLaw) (defBody sLaw) (defScope sLaw) .none kV dc pm an cd ct), sl⟩)
    (cLaw : PySem.W.codeIn K cd "law" = true)
    (kLaw : PySem.W.keepIn K (.ref fLaw) = true)
    : ∃ fd : FuncData, (∀ (s : Shared) (v : Value), BindsTo s fd ⟨[v], []⟩ [("_law_script", v)]) ∧ ∀ base : Heap, K.In base → base.Ns mainGlobals mg → FnOk l.prog w K mg base CX0 103 fa fd ["_law_script"] (spLaw K) := by
  have e := hfa.symm.trans (PySem.W.mg_of X G aLaw)
  cases e
  have gl : ∀ {x : Str} {i : Int} {t : Tok}, PySem.W.nsIn K mainGlobals x = some (some (.int i t)) → Glob mg x (.int i) := fun z => ⟨_, PySem.W.mg_of X G z, _, rfl⟩
  have T : Txt K mg CH CR CT := ⟨⟨pgH, hdH, poH, saH⟩, ⟨pgR, hdR, poR, saR⟩, ⟨pgT, hdT, poT, saT⟩, nhW, nrH, nrP, nrL, nrG, nrA, nrF, nrB, ntH, ntP, ntA, gl vMASK, gl vFIRST, gl vSECOND, gl vONE, gl vOTHER, gl vLIMB, gl vWHOLE, gl vLEAF, gl vINNER, gl vKEY_BITS, gl vEMPTY_WORD, gl vLEAF_WORD, gl vINNER_WORD, gl vHIDDEN_WORD, PySem.W.mg_of X G aH, PySem.W.mg_of X G aR, PySem.W.mg_of X G aT, PySem.W.mg_none_of X G zlen, PySem.W.mg_none_of X G zmin, PySem.W.mg_none_of X G zall, PySem.W.mg_none_of X G ztuple, PySem.W.mg_none_of X G zlist, PySem.W.mg_none_of X G zdict, PySem.W.mg_none_of X G zint, PySem.W.mg_none_of X G zrange, PySem.W.mg_none_of X G zsorted⟩
  obtain ⟨dLimbs, FLimbs, bLimbs⟩ := gLimbs
  obtain ⟨dColl, FColl, bColl⟩ := gColl
  obtain ⟨dIsInp, FIsInp, bIsInp⟩ := gIsInp
  obtain ⟨dIsColl, FIsColl, bIsColl⟩ := gIsColl
  obtain ⟨dBit, FBit, bBit⟩ := gBit
  obtain ⟨dParted, FParted, bParted⟩ := gParted
  obtain ⟨dNodeIn, FNodeIn, bNodeIn⟩ := gNodeIn
  obtain ⟨dNodeDg, FNodeDg, bNodeDg⟩ := gNodeDg
  obtain ⟨dRoot, FRoot, bRoot⟩ := gRoot
  obtain ⟨dWords, FWords, bWords⟩ := gWords
  obtain ⟨dProof, FProof, bProof⟩ := gProof
  obtain ⟨dCheck, FCheck, bCheck⟩ := gCheck
  obtain ⟨dWrong, FWrong, bWrong⟩ := gWrong
  obtain ⟨dBreak, FBreak, bBreak⟩ := gBreak
  obtain ⟨dDraw, FDraw, bDraw⟩ := gDraw
  obtain ⟨dLDig, FLDig, bLDig⟩ := gLDig
  obtain ⟨dSide, FSide, bSide⟩ := gSide
  obtain ⟨dLNode, FLNode, bLNode⟩ := gLNode
  obtain ⟨dOfNode, FOfNode, bOfNode⟩ := gOfNode
  obtain ⟨dKey, FKey, bKey⟩ := gKey
  obtain ⟨dPairs, FPairs, bPairs⟩ := gPairs
  obtain ⟨dTold, FTold, bTold⟩ := gTold
  obtain ⟨dDue, FDue, bDue⟩ := gDue
  obtain ⟨dForged, FForged, bForged⟩ := gForged
  obtain ⟨dHashI, FHashI, bHashI⟩ := gHashI
  obtain ⟨dDigest, FDigest, bDigest⟩ := gDigest
  obtain ⟨dIsDig, FIsDig, bIsDig⟩ := gIsDig
  obtain ⟨dReadI, FReadI, bReadI⟩ := gReadI
  obtain ⟨dTake, FTake, bTake⟩ := gTake
  obtain ⟨dHidden, FHidden, bHidden⟩ := gHidden
  obtain ⟨dLeaf, FLeaf, bLeaf⟩ := gLeaf
  obtain ⟨dNode, FNode, bNode⟩ := gNode
  obtain ⟨dToldI, FToldI, bToldI⟩ := gToldI
  obtain ⟨dSome, FSome, bSome⟩ := gSome
  obtain ⟨dTNode, FTNode, bTNode⟩ := gTNode
  have FLaw := fun_mk (st := sLaw) lLaw cLaw kLaw
  refine ⟨PySem.W.fnOf "law" "law" (defArgs sLaw) (defBody sLaw) (defScope sLaw) .none kV dc pm an cd ct, fun s v => .of_eq rfl, fun base _ _ => ?_⟩
  have cLimbs : C8.Cal l.prog w K mg base 1 "limbs_of" (spLimbs K) [] := ⟨fLimbs, dLimbs, _, [], ok_limbs FLimbs T, PySem.W.mg_of X G aLimbs, FLimbs.kp, bLimbs, .nil⟩
  have cHashI : C8.Mak l.prog w K mg base 1 "Hasher" CH (spHashI CH) [] := ⟨mHashI, dHashI, _, [], ⟨mkH, aHashI, iHashI, kcH⟩, ok_hashI FHashI T, PySem.W.mg_of X G aH, bHashI, .nil⟩
  have cIsDig : C8.Met l.prog w K mg base 1 CH "is_digest" (spIsDig CH) [] := ⟨mIsDig, dIsDig, _, [], T.clH, ⟨aIsDig, iIsDig, FIsDig.kp⟩, ok_isDig FIsDig T, bIsDig, .nil⟩
  have cDigest : C8.Met l.prog w K mg base 2 CH "digest" (spDigest K CH) [] := ⟨mDigest, dDigest, _, [], T.clH, ⟨aDigest, iDigest, FDigest.kp⟩, ok_digest FDigest T cLimbs, bDigest, .nil⟩
  have cBit : C8.Cal l.prog w K mg base 1 "bit_of" spBit [] := ⟨fBit, dBit, _, [], ok_bit FBit T, PySem.W.mg_of X G aBit, FBit.kp, bBit, .nil⟩
  have cParted : C8.Cal l.prog w K mg base 2 "parted" spParted [] := ⟨fParted, dParted, _, [], ok_parted FParted T cBit, PySem.W.mg_of X G aParted, FParted.kp, bParted, .nil⟩
  have cNodes := nodes (P := l.prog) (w := w) (base := base) FNodeIn bNodeIn (PySem.W.mg_of X G aNodeIn) FNodeDg bNodeDg (PySem.W.mg_of X G aNodeDg) T cParted cDigest
  have cRoot : C8.Cal l.prog w K mg base 69 "map_root" (spRoot CH) [] := ⟨fRoot, dRoot, _, [], ok_root FRoot T (cNodes 32).2, PySem.W.mg_of X G aRoot, FRoot.kp, bRoot, .nil⟩
  have cWords := all_words (P := l.prog) (w := w) (base := base) FWords bWords (PySem.W.mg_of X G aWords) T cParted (fun n => (cNodes n).2)
  have cProof : C8.Cal l.prog w K mg base 102 "range_proof" (spProof CH) [] := ⟨fProof, dProof, _, [], ok_proof FProof T (cWords 32), PySem.W.mg_of X G aProof, FProof.kp, bProof, .nil⟩
  have cTake : C8.Met l.prog w K mg base 1 CR "take" (spTake K CR) [] := ⟨mTake, dTake, _, [], T.clR, ⟨aTake, iTake, FTake.kp⟩, ok_take FTake T, bTake, .nil⟩
  have cReadI : C8.Mak l.prog w K mg base 1 "RangeReader" CR (spReadI CR) [] := ⟨mReadI, dReadI, _, [], ⟨mkR, aReadI, iReadI, kcR⟩, ok_readI FReadI T, PySem.W.mg_of X G aR, bReadI, .nil⟩
  have cHidden : C8.Met l.prog w K mg base 2 CR "hidden" (spHidden K CH CR) [] := ⟨mHidden, dHidden, _, [], T.clR, ⟨aHidden, iHidden, FHidden.kp⟩, ok_hidden FHidden T cTake cIsDig, bHidden, .nil⟩
  have cLeaf : C8.Met l.prog w K mg base 3 CR "leaf" (spLeaf K CH CR) [] := ⟨mLeaf, dLeaf, _, [], T.clR, ⟨aLeaf, iLeaf, FLeaf.kp⟩, ok_leaf FLeaf T cTake cDigest, bLeaf, .nil⟩
  have cNode := all_rnodes (P := l.prog) (w := w) (base := base) FNode bNode ⟨aNode, iNode, FNode.kp⟩ T cTake cDigest cLeaf cHidden
  have cCheck : C8.Cal l.prog w K mg base 37 "range_check" (spCheck K CH) [] := ⟨fCheck, dCheck, _, [], ok_check FCheck T cReadI (cNode 32), PySem.W.mg_of X G aCheck, FCheck.kp, bCheck, .nil⟩
  have cToldI : C8.Mak l.prog w K mg base 1 "Told" CT (spToldI K CT) [] := ⟨mToldI, dToldI, _, [], ⟨mkT, aToldI, iToldI, kcT⟩, ok_toldI FToldI T, PySem.W.mg_of X G aT, bToldI, .nil⟩
  have cSome : C8.Met l.prog w K mg base 1 CT "some" (spSome K CT) [] := ⟨mSome, dSome, _, [], T.clT, ⟨aSome, iSome, FSome.kp⟩, ok_some FSome T, bSome, .nil⟩
  have cTNode := all_tnodes (P := l.prog) (w := w) (base := base) FTNode bTNode ⟨aTNode, iTNode, FTNode.kp⟩ T cSome cDigest
  have cColl : C8.Cal l.prog w K mg base 1 "collision" (spColl K) [] := ⟨fColl, dColl, _, [], ok_coll FColl T, PySem.W.mg_of X G aColl, FColl.kp, bColl, .nil⟩
  have cIsInp : C8.Cal l.prog w K mg base 1 "is_input" (spIsInp K) [] := ⟨fIsInp, dIsInp, _, [], ok_isInp FIsInp T, PySem.W.mg_of X G aIsInp, FIsInp.kp, bIsInp, .nil⟩
  have cIsColl : C8.Cal l.prog w K mg base 3 "is_collision" (spIsColl K CH) [] := ⟨fIsColl, dIsColl, _, [], ok_isColl FIsColl T cIsInp cDigest, PySem.W.mg_of X G aIsColl, FIsColl.kp, bIsColl, .nil⟩
  have cWrong := all_wrong (P := l.prog) (w := w) (base := base) FWrong bWrong (PySem.W.mg_of X G aWrong) T cParted (fun n => (cNodes n).1) cColl
  have cBreak : C8.Cal l.prog w K mg base 101 "range_break" (spBreak K CH) [] := ⟨fBreak, dBreak, _, [], ok_break FBreak T cCheck cRoot (cWrong 32) cToldI (cTNode 32), PySem.W.mg_of X G aBreak, FBreak.kp, bBreak, .nil⟩
  have cSide : C8.Cal l.prog w K mg base 1 "_law_side" spBit [] := ⟨fSide, dSide, _, [], ok_side FSide T, PySem.W.mg_of X G aSide, FSide.kp, bSide, .nil⟩
  have cLDig : C8.Cal l.prog w K mg base 1 "_law_digest" (spLDig K) [] := ⟨fLDig, dLDig, _, [], ok_lDig FLDig T, PySem.W.mg_of X G aLDig, FLDig.kp, bLDig, .nil⟩
  have cLNode := all_lNode (P := l.prog) (w := w) (base := base) FLNode bLNode (PySem.W.mg_of X G aLNode) T cSide cLDig
  have cOfNode : C8.Cal l.prog w K mg base 35 "_law_of_node" spOfNode [] := ⟨fOfNode, dOfNode, _, [], ok_ofNode FOfNode T (cLNode 32) cLDig, PySem.W.mg_of X G aOfNode, FOfNode.kp, bOfNode, .nil⟩
  have cTold := all_told (P := l.prog) (w := w) (base := base) FTold bTold (PySem.W.mg_of X G aTold) T cSide cLDig cLNode
  have cDue : C8.Cal l.prog w K mg base 36 "_law_due" (spDue K) [] := ⟨fDue, dDue, _, [], ok_due FDue T (cTold 32), PySem.W.mg_of X G aDue, FDue.kp, bDue, .nil⟩
  have cDraw : C8.Cal l.prog w K mg base 1 "_law_draw" (spDraw K) [] := ⟨fDraw, dDraw, _, [], ok_draw FDraw T, PySem.W.mg_of X G aDraw, FDraw.kp, bDraw, .nil⟩
  have cKey : C8.Cal l.prog w K mg base 2 "_law_key" (spKey K) [] := ⟨fKey, dKey, _, [], ok_key FKey T cDraw, PySem.W.mg_of X G aKey, FKey.kp, bKey, .nil⟩
  have cPairs : C8.Cal l.prog w K mg base 3 "_law_pairs" (spPairs K) [] := ⟨fPairs, dPairs, _, [], ok_pairs FPairs T cDraw cKey, PySem.W.mg_of X G aPairs, FPairs.kp, bPairs, .nil⟩
  have cForged : C8.Cal l.prog w K mg base 2 "_law_forged" (spForged K) [] := ⟨fForged, dForged, _, [], ok_forged FForged T cDraw, PySem.W.mg_of X G aForged, FForged.kp, bForged, .nil⟩
  exact ok_law FLaw T cDraw cKey cPairs cOfNode cProof cForged cCheck cDue cBreak cLDig cIsColl cHashI
theorem walk {l : PySem.W.OpenLaw} {q : Program} {loose : List Str} {XP : (Str → Option Value) → Heap → Prop} {YP : World → Heap → Prop} {d : DefRec} {K : Params → PySem.W.Frag} (hn : l.most = some 63) (hdf : d.params.defaults = []) (hY : ∀ (w : World) (h : Heap), YP w h → (K w.params).In h)
    (F : ∀ (w : World) (mg : Str → Option Value) (fa : Addr) (h : Heap), (K w.params).In h → h.Ns mainGlobals mg → mg d.name = some (.ref fa) → ∃ fd : FuncData, (∀ (s : Shared) (u : Value), BindsTo s fd ⟨[u], []⟩ [("_law_script", u)]) ∧ ∀ base : Heap, (K w.params).In base → base.Ns mainGlobals mg → FnOk l.prog w (K w.params) mg base CX0 103 fa fd ["_law_script"] (spLaw (K w.params))) :
    PySem.W.WalkO q loose XP YP l.row.toRowW d [] (fun f vs => PySem.call f vs) :=
  L2.walk_of (n := 63) (k := 103) (x := "_law_script") (CX := fun _ => CX0) (sp := fun w => spLaw (K w.params)) hn (by decide) hdf ⟨rfl, by decide, by decide⟩ hY F (fun _ _ a ns hl _ hS => ⟨a, ns, rfl, hS, hl, fun _ => rfl⟩) fun _ _ _ _ _ z => z
end Of

set_option Elab.async false
set_option linter.all false
set_option maxRecDepth 100000
open PySem PySem.W PyProof.Rows
set_option maxRecDepth 100000 in
set_option maxHeartbeats 0 in
theorem PySem.Challenge.cw_offing_k13_whole_breaks_of_ranges_holds : PySem.Challenge.rw_offing_k13_whole_breaks_of_ranges.Holds := by
  w_on; o_law; k_head; (case hw => w_witness2)
  k_fill
  refine Of.walk (l := PySem.Challenge.rw_offing_k13_whole_breaks_of_ranges) rfl rfl (fun w h Y => PySem.W.kIn_of Y) ?F
  case F =>
    intro w mg fa h KX G hmg
    refine' Of.all_mk KX G hmg ?aH ?aR ?aT ?aLimbs ?gLimbs ?aColl ?gColl ?aIsInp ?gIsInp ?aIsColl ?gIsColl ?aBit ?gBit ?aParted ?gParted ?aNodeIn ?gNodeIn ?aNodeDg ?gNodeDg ?aRoot ?gRoot ?aWords ?gWords ?aProof ?gProof ?aCheck ?gCheck ?aWrong ?gWrong ?aBreak ?gBreak ?aDraw ?gDraw ?aLDig ?gLDig ?aSide ?gSide ?aLNode ?gLNode ?aOfNode ?gOfNode ?aKey ?gKey ?aPairs ?gPairs ?aTold ?gTold ?aDue ?gDue ?aForged ?gForged ?aHashI ?iHashI ?gHashI ?aDigest ?iDigest ?gDigest ?aIsDig ?iIsDig ?gIsDig ?aReadI ?iReadI ?gReadI ?aTake ?iTake ?gTake ?aHidden ?iHidden ?gHidden ?aLeaf ?iLeaf ?gLeaf ?aNode ?iNode ?gNode ?aToldI ?iToldI ?gToldI ?aSome ?iSome ?gSome ?aTNode ?iTNode ?gTNode ?pgH ?hdH ?poH ?saH ?mkH ?kcH ?pgR ?hdR ?poR ?saR ?mkR ?kcR ?pgT ?hdT ?poT ?saT ?mkT ?kcT ?nhW ?nrH ?nrP ?nrL ?nrG ?nrA ?nrF ?nrB ?ntH ?ntP ?ntA ?vMASK ?vFIRST ?vSECOND ?vONE ?vOTHER ?vLIMB ?vWHOLE ?vLEAF ?vINNER ?vKEY_BITS ?vEMPTY_WORD ?vLEAF_WORD ?vINNER_WORD ?vHIDDEN_WORD ?zlen ?zmin ?zall ?ztuple ?zlist ?zdict ?zint ?zrange ?zsorted ?aLaw ?lLaw ?cLaw ?kLaw
    (case aH => k_is)
    (case aR => k_is)
    (case aT => k_is)
    (case aLimbs => k_is)
    (case gLimbs => refine' Of.gotLimbs ?l ?c ?k; (case l => k_is); (case c => k_is); (case k => k_is))
    (case aColl => k_is)
    (case gColl => refine' Of.gotColl ?l ?c ?k; (case l => k_is); (case c => k_is); (case k => k_is))
    (case aIsInp => k_is)
    (case gIsInp => refine' Of.gotIsInp ?l ?c ?k; (case l => k_is); (case c => k_is); (case k => k_is))
    (case aIsColl => k_is)
    (case gIsColl => refine' Of.gotIsColl ?l ?c ?k; (case l => k_is); (case c => k_is); (case k => k_is))
    (case aBit => k_is)
    (case gBit => refine' Of.gotBit ?l ?c ?k; (case l => k_is); (case c => k_is); (case k => k_is))
    (case aParted => k_is)
    (case gParted => refine' Of.gotParted ?l ?c ?k; (case l => k_is); (case c => k_is); (case k => k_is))
    (case aNodeIn => k_is)
    (case gNodeIn => refine' Of.gotNodeIn ?l ?c ?k; (case l => k_is); (case c => k_is); (case k => k_is))
    (case aNodeDg => k_is)
    (case gNodeDg => refine' Of.gotNodeDg ?l ?c ?k; (case l => k_is); (case c => k_is); (case k => k_is))
    (case aRoot => k_is)
    (case gRoot => refine' Of.gotRoot ?l ?c ?k; (case l => k_is); (case c => k_is); (case k => k_is))
    (case aWords => k_is)
    (case gWords => refine' Of.gotWords ?l ?c ?k; (case l => k_is); (case c => k_is); (case k => k_is))
    (case aProof => k_is)
    (case gProof => refine' Of.gotProof ?l ?c ?k; (case l => k_is); (case c => k_is); (case k => k_is))
    (case aCheck => k_is)
    (case gCheck => refine' Of.gotCheck ?l ?c ?k; (case l => k_is); (case c => k_is); (case k => k_is))
    (case aWrong => k_is)
    (case gWrong => refine' Of.gotWrong ?l ?c ?k; (case l => k_is); (case c => k_is); (case k => k_is))
    (case aBreak => k_is)
    (case gBreak => refine' Of.gotBreak ?l ?c ?k; (case l => k_is); (case c => k_is); (case k => k_is))
    (case aDraw => k_is)
    (case gDraw => refine' Of.gotDraw ?l ?c ?k; (case l => k_is); (case c => k_is); (case k => k_is))
    (case aLDig => k_is)
    (case gLDig => refine' Of.gotLDig ?l ?c ?k; (case l => k_is); (case c => k_is); (case k => k_is))
    (case aSide => k_is)
    (case gSide => refine' Of.gotSide ?l ?c ?k; (case l => k_is); (case c => k_is); (case k => k_is))
    (case aLNode => k_is)
    (case gLNode => refine' Of.gotLNode ?l ?c ?k; (case l => k_is); (case c => k_is); (case k => k_is))
    (case aOfNode => k_is)
    (case gOfNode => refine' Of.gotOfNode ?l ?c ?k; (case l => k_is); (case c => k_is); (case k => k_is))
    (case aKey => k_is)
    (case gKey => refine' Of.gotKey ?l ?c ?k; (case l => k_is); (case c => k_is); (case k => k_is))
    (case aPairs => k_is)
    (case gPairs => refine' Of.gotPairs ?l ?c ?k; (case l => k_is); (case c => k_is); (case k => k_is))
    (case aTold => k_is)
    (case gTold => refine' Of.gotTold ?l ?c ?k; (case l => k_is); (case c => k_is); (case k => k_is))
    (case aDue => k_is)
    (case gDue => refine' Of.gotDue ?l ?c ?k; (case l => k_is); (case c => k_is); (case k => k_is))
    (case aForged => k_is)
    (case gForged => refine' Of.gotForged ?l ?c ?k; (case l => k_is); (case c => k_is); (case k => k_is))
    (case aHashI => k_is)
    (case iHashI => k_is)
    (case gHashI => refine' Of.gotHashI ?l ?c ?k; (case l => k_is); (case c => k_is); (case k => k_is))
    (case aDigest => k_is)
    (case iDigest => k_is)
    (case gDigest => refine' Of.gotDigest ?l ?c ?k; (case l => k_is); (case c => k_is); (case k => k_is))
    (case aIsDig => k_is)
    (case iIsDig => k_is)
    (case gIsDig => refine' Of.gotIsDig ?l ?c ?k; (case l => k_is); (case c => k_is); (case k => k_is))
    (case aReadI => k_is)
    (case iReadI => k_is)
    (case gReadI => refine' Of.gotReadI ?l ?c ?k; (case l => k_is); (case c => k_is); (case k => k_is))
    (case aTake => k_is)
    (case iTake => k_is)
    (case gTake => refine' Of.gotTake ?l ?c ?k; (case l => k_is); (case c => k_is); (case k => k_is))
    (case aHidden => k_is)
    (case iHidden => k_is)
    (case gHidden => refine' Of.gotHidden ?l ?c ?k; (case l => k_is); (case c => k_is); (case k => k_is))
    (case aLeaf => k_is)
    (case iLeaf => k_is)
    (case gLeaf => refine' Of.gotLeaf ?l ?c ?k; (case l => k_is); (case c => k_is); (case k => k_is))
    (case aNode => k_is)
    (case iNode => k_is)
    (case gNode => refine' Of.gotNode ?l ?c ?k; (case l => k_is); (case c => k_is); (case k => k_is))
    (case aToldI => k_is)
    (case iToldI => k_is)
    (case gToldI => refine' Of.gotToldI ?l ?c ?k; (case l => k_is); (case c => k_is); (case k => k_is))
    (case aSome => k_is)
    (case iSome => k_is)
    (case gSome => refine' Of.gotSome ?l ?c ?k; (case l => k_is); (case c => k_is); (case k => k_is))
    (case aTNode => k_is)
    (case iTNode => k_is)
    (case gTNode => refine' Of.gotTNode ?l ?c ?k; (case l => k_is); (case c => k_is); (case k => k_is))
    (case pgH => k_is)
    (case hdH => k_is)
    (case poH => k_is)
    (case saH => k_is)
    (case mkH => k_is)
    (case kcH => k_is)
    (case pgR => k_is)
    (case hdR => k_is)
    (case poR => k_is)
    (case saR => k_is)
    (case mkR => k_is)
    (case kcR => k_is)
    (case pgT => k_is)
    (case hdT => k_is)
    (case poT => k_is)
    (case saT => k_is)
    (case mkT => k_is)
    (case kcT => k_is)
    (case nhW => k_is)
    (case nrH => k_is)
    (case nrP => k_is)
    (case nrL => k_is)
    (case nrG => k_is)
    (case nrA => k_is)
    (case nrF => k_is)
    (case nrB => k_is)
    (case ntH => k_is)
    (case ntP => k_is)
    (case ntA => k_is)
    (case vMASK => k_is)
    (case vFIRST => k_is)
    (case vSECOND => k_is)
    (case vONE => k_is)
    (case vOTHER => k_is)
    (case vLIMB => k_is)
    (case vWHOLE => k_is)
    (case vLEAF => k_is)
    (case vINNER => k_is)
    (case vKEY_BITS => k_is)
    (case vEMPTY_WORD => k_is)
    (case vLEAF_WORD => k_is)
    (case vINNER_WORD => k_is)
    (case vHIDDEN_WORD => k_is)
    (case zlen => k_is)
    (case zmin => k_is)
    (case zall => k_is)
    (case ztuple => k_is)
    (case zlist => k_is)
    (case zdict => k_is)
    (case zint => k_is)
    (case zrange => k_is)
    (case zsorted => k_is)
    (case aLaw => k_is)
    (case lLaw => k_is)
    (case cLaw => k_is)
    (case kLaw => k_is)
