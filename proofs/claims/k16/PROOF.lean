import PyProof.Rows.All
import Wide.All
import OpenK.AllK
import Wide.FinOn
import KE.KStateDown
import Lean
import KE.GoesEnum
import PyProof.ReprRoads
import PyProof.ReprReads
import PyProof.EnumMake
import PyProof.ListMulRoad
import PyProof.FactsAll.tuple_2
import HandS.ForMost
import HandS.Walk
import HandS.Wide
import HandS.IsInst
import HandS.TupMul
import HandS.SetFor
import HandS.More
import HandS.Conv
import HandS.Zip
import HandS.Exc
import HandS.Defaults
import HandS.HeadEnd
import HandS.Head0
import HandS.Head1
import HandS.Head2
import HandS.HeadHook1
import HandS.HeadHook2
import HandS.FStrTup
import PySem.Challenge.RW_harmonicdues_k16_whole_greatest_debts_an
set_option Elab.async false
set_option linter.all false
set_option maxRecDepth 100000
set_option maxHeartbeats 0
/-! Plain mathematics: fractions as Rat, sums, sizes, rankings. -/
namespace K16

/-! ### fractions -/
theorem div_num {t b : Int} (hb : 0 < b) : (Rat.divInt t b).num = t / (Int.gcd t b : Int) := by
  rw [Rat.num_divInt, Int.sign_eq_one_of_pos hb, Int.one_mul, Int.gcd_comm]
theorem div_den {t b : Int} (hb : 0 < b) : ((Rat.divInt t b).den : Int) = b / (Int.gcd t b : Int) := by
  rw [Rat.den_divInt, if_neg (by omega), Int.gcd_comm]
  rw [Int.natCast_ediv]
  congr 1
  omega
theorem den_pos (q : Rat) : (0 : Int) < (q.den : Int) := by
  have := q.den_pos
  omega
theorem div_self (q : Rat) : Rat.divInt q.num q.den = q := Rat.num_divInt_den q
theorem plus_eq (a b : Rat) : Rat.divInt (a.num * b.den + b.num * a.den) (a.den * b.den) = a + b := by
  have h1 : ((a.den : Nat) : Int) ≠ 0 := by have := den_pos a; omega
  have h2 : ((b.den : Nat) : Int) ≠ 0 := by have := den_pos b; omega
  rw [← Rat.divInt_add_divInt _ _ h1 h2, div_self, div_self]
theorem times_eq (m : Int) (a : Rat) : Rat.divInt (m * a.num) a.den = (m : Rat) * a := by
  have h1 : ((a.den : Nat) : Int) ≠ 0 := by have := den_pos a; omega
  have e : (m : Rat) = Rat.divInt m 1 := by rw [Rat.divInt_eq_div]; grind
  conv => rhs; rw [← div_self a, e]
  rw [Rat.divInt_mul_divInt, Int.one_mul]
theorem less_iff (a b : Rat) : a.num * (b.den : Int) < b.num * (a.den : Int) ↔ a < b := (Rat.lt_iff a b).symm
theorem gcd_one (q : Rat) : Int.gcd q.num (q.den : Int) = 1 := by
  have := q.reduced
  unfold Nat.Coprime at this
  show Nat.gcd q.num.natAbs (q.den : Int).natAbs = 1
  rw [Int.natAbs_natCast]
  exact this
theorem pair_inj {a b : Rat} (h1 : a.num = b.num) (h2 : a.den = b.den) : a = b := by
  rw [← div_self a, ← div_self b, h1, h2]

/-! ### the greatest common divisor by remainders -/
theorem gcd_turn (a b : Int) : Int.gcd b (a.fmod b) = Int.gcd a b := by
  rw [Int.gcd_comm a b, Int.fmod_def, Int.sub_eq_add_neg, Int.neg_mul_eq_mul_neg]
  exact Int.gcd_add_mul_left_right ..
theorem gcd_end (a : Int) : (Int.gcd a 0 : Int) = (if a < 0 then -a else a) := by
  rw [Int.gcd_zero_right]
  split <;> omega
theorem rem_less {a b : Int} (h : 0 ≤ b) (h0 : b ≠ 0) : 0 ≤ a.fmod b ∧ (a.fmod b).toNat < b.toNat := by
  have h1 : 0 < b := by omega
  have h2 := Int.fmod_nonneg_of_pos a h1
  have h3 := Int.fmod_lt_of_pos a h1
  omega

/-! ### sizes -/
def Sz (n : Nat) (q : Rat) : Prop := q.num.natAbs < 2 ^ n ∧ q.den < 2 ^ n
theorem Sz.mono {m n : Nat} {q : Rat} (h : Sz m q) (hmn : m ≤ n) : Sz n q :=
  ⟨Nat.lt_of_lt_of_le h.1 (Nat.pow_le_pow_right (by decide) hmn), Nat.lt_of_lt_of_le h.2 (Nat.pow_le_pow_right (by decide) hmn)⟩
theorem natAbs_div_le (t : Int) (g : Nat) : (t / (g : Int)).natAbs ≤ t.natAbs := by
  exact Int.natAbs_ediv_le_natAbs t g
theorem Sz.div {n : Nat} {t b : Int} (hb : 0 < b) (h1 : t.natAbs < 2 ^ n) (h2 : b.natAbs < 2 ^ n) : Sz n (Rat.divInt t b) := by
  refine ⟨?_, ?_⟩
  · rw [div_num hb]
    exact Nat.lt_of_le_of_lt (natAbs_div_le _ _) h1
  · have e := div_den (t := t) hb
    have h3 := natAbs_div_le b (Int.gcd t b)
    rw [← e] at h3
    have h4 : ((Rat.divInt t b).den : Int).natAbs = (Rat.divInt t b).den := Int.natAbs_natCast _
    rw [h4] at h3
    omega
theorem mul_abs {i j : Int} {a b : Nat} (ha : i.natAbs < 2 ^ a) (hb : j.natAbs < 2 ^ b) : (i * j).natAbs < 2 ^ (a + b) := by
  rw [Int.natAbs_mul, Nat.pow_add]
  exact Nat.mul_lt_mul'' ha hb
theorem add_abs {i j : Int} {a : Nat} (ha : i.natAbs < 2 ^ a) (hb : j.natAbs < 2 ^ a) : (i + j).natAbs < 2 ^ (a + 1) := by
  have := Int.natAbs_add_le i j
  rw [Nat.pow_succ]
  omega
theorem Sz.den {n : Nat} {q : Rat} (h : Sz n q) : (q.den : Int).natAbs < 2 ^ n := by
  have := h.2
  omega
theorem plus_top {m n : Nat} {a b : Rat} (ha : Sz m a) (hb : Sz n b) : (a.num * b.den + b.num * a.den).natAbs < 2 ^ (m + n + 1) :=
  add_abs (mul_abs ha.1 hb.den) (by rw [Nat.add_comm m n]; exact mul_abs hb.1 ha.den)
theorem plus_bot {m n : Nat} {a b : Rat} (ha : Sz m a) (hb : Sz n b) : ((a.den : Int) * b.den).natAbs < 2 ^ (m + n) := mul_abs ha.den hb.den
theorem den_mul (a b : Rat) : (0 : Int) < (a.den : Int) * b.den := Int.mul_pos (den_pos a) (den_pos b)
theorem Sz.add {m n : Nat} {a b : Rat} (ha : Sz m a) (hb : Sz n b) : Sz (m + n + 1) (a + b) := by
  rw [← plus_eq]
  refine Sz.div (den_mul a b) (plus_top ha hb) (Nat.lt_of_lt_of_le (plus_bot ha hb) (Nat.pow_le_pow_right (by decide) (by omega)))
theorem Sz.neg {n : Nat} {a : Rat} (h : Sz n a) : Sz n (-a) := by
  unfold Sz
  rw [Rat.neg_num, Rat.neg_den, Int.natAbs_neg]
  exact h
theorem Sz.sub {m n : Nat} {a b : Rat} (ha : Sz m a) (hb : Sz n b) : Sz (m + n + 1) (a - b) := by
  rw [Rat.sub_eq_add_neg]
  exact ha.add hb.neg
theorem Sz.zero : Sz 1 0 := ⟨by decide, by decide⟩
theorem Sz.one : Sz 1 1 := ⟨by decide, by decide⟩

/-! ### sums -/
def tot : List Rat → Rat
  | [] => 0
  | x :: r => x + tot r
theorem tot_append : ∀ l m : List Rat, tot (l ++ m) = tot l + tot m
  | [], m => by show tot m = 0 + tot m; grind
  | x :: r, m => by
    show x + tot (r ++ m) = x + tot r + tot m
    rw [tot_append r m]
    grind
theorem tot_one (x : Rat) : tot [x] = x := by show x + 0 = x; grind
theorem take_more {a : Type} {l : List a} {i : Nat} {x : a} (h : l[i]? = some x) : l.take (i + 1) = l.take i ++ [x] := by
  rw [List.take_add_one, h]
  rfl
theorem tot_take {l : List Rat} {i : Nat} {x : Rat} (h : l[i]? = some x) : tot (l.take (i + 1)) = tot (l.take i) + x := by
  rw [take_more h, tot_append, tot_one]
theorem Sz.tot {n : Nat} : ∀ {l : List Rat}, (∀ q ∈ l, Sz n q) → Sz (l.length * (n + 1) + 1) (tot l)
  | [], _ => Sz.zero.mono (by omega)
  | x :: r, h => by
    have h1 := Sz.tot (l := r) fun q hq => h q (List.mem_cons_of_mem _ hq)
    have h2 := h x List.mem_cons_self
    refine (h2.add h1).mono ?_
    rw [List.length_cons, Nat.add_mul]
    omega
theorem Sz.totTake {n m i : Nat} {l : List Rat} (h : ∀ q ∈ l, Sz n q) (hl : l.length ≤ m) : Sz (m * (n + 1) + 1) (K16.tot (l.take i)) := by
  refine (Sz.tot fun q hq => h q (List.mem_of_mem_take hq)).mono ?_
  have : (l.take i).length ≤ m := by rw [List.length_take]; omega
  have := Nat.mul_le_mul_right (n + 1) this
  omega
/-- a sum that is split by places -/
theorem tot_map_add (f g : Nat → Rat) : ∀ l : List Nat, tot (l.map fun i => f i + g i) = tot (l.map f) + tot (l.map g)
  | [] => by show (0 : Rat) = 0 + 0; grind
  | x :: r => by
    show f x + g x + tot (r.map fun i => f i + g i) = f x + tot (r.map f) + (g x + tot (r.map g))
    rw [tot_map_add f g r]
    grind
theorem tot_perm {l m : List Rat} (h : l.Perm m) : tot l = tot m := by
  induction h with
  | nil => rfl
  | cons x _ ih => show x + _ = x + _; rw [ih]
  | swap x y l => show y + (x + tot l) = x + (y + tot l); grind
  | trans _ _ h1 h2 => exact h1.trans h2
end K16
namespace K16
/-! ### rankings -/
/-- i stands ahead of j: a greater debt, or the same and the lesser number -/
def Bf (qs : List Rat) (i j : Nat) : Prop := qs.getD j 0 < qs.getD i 0 ∨ (qs.getD i 0 = qs.getD j 0 ∧ i < j)
structure Ranked (qs : List Rat) (n : Nat) (ns : List Nat) : Prop where
  perm : ns.Perm (List.range n)
  ord : ns.Pairwise (Bf qs)
theorem Bf.asymm {qs : List Rat} {i j : Nat} (h : Bf qs i j) (h' : Bf qs j i) : i = j := by
  unfold Bf at h h'
  rcases h with h | ⟨h, h1⟩ <;> rcases h' with h' | ⟨h', h2⟩
  · exfalso; grind
  · exfalso; grind
  · exfalso; grind
  · omega
theorem Ranked.one {qs : List Rat} {n : Nat} {ns ms : List Nat} (h : Ranked qs n ns) (h' : Ranked qs n ms) : ns = ms :=
  List.Perm.eq_of_pairwise (fun _ _ _ _ => Bf.asymm) h.ord h'.ord (h.perm.trans h'.perm.symm)
theorem Ranked.len {qs : List Rat} {n : Nat} {ns : List Nat} (h : Ranked qs n ns) : ns.length = n := by
  rw [h.perm.length_eq, List.length_range]
theorem Ranked.lt {qs : List Rat} {n : Nat} {ns : List Nat} (h : Ranked qs n ns) {i : Nat} (hi : i ∈ ns) : i < n := by
  have := h.perm.mem_iff.mp hi
  exact List.mem_range.mp this
theorem Ranked.nil (qs : List Rat) : Ranked qs 0 [] := ⟨List.Perm.refl _, List.Pairwise.nil⟩
/-- one more person is put in at the first place whose debt is less -/
theorem Ranked.ins {qs : List Rat} {i k : Nat} {ns : List Nat} (h : Ranked qs i ns) (hk : k ≤ ns.length) (h1 : ∀ m x, m < k → ns[m]? = some x → ¬ qs.getD x 0 < qs.getD i 0) (h2 : ∀ x, ns[k]? = some x → qs.getD x 0 < qs.getD i 0) :
    Ranked qs (i + 1) (ns.take k ++ i :: ns.drop k) := by
  have hs : ns.take k ++ ns.drop k = ns := List.take_append_drop k ns
  have ho := h.ord
  rw [← hs, List.pairwise_append] at ho
  refine ⟨?_, ?_⟩
  · refine (List.perm_middle).trans ?_
    rw [hs, List.range_succ]
    refine (List.Perm.cons i h.perm).trans ?_
    exact (List.perm_append_singleton i (List.range i)).symm
  · rw [List.pairwise_append]
    refine ⟨ho.1, ?_, ?_⟩
    · rw [List.pairwise_cons]
      refine ⟨fun y hy => ?_, ho.2.1⟩
      left
      cases hd : ns.drop k with
      | nil =>
        rw [hd] at hy
        cases hy
      | cons z r =>
        have hz : ns[k]? = some z := by
          have := List.getElem?_drop (xs := ns) (i := k) (j := 0)
          rw [hd] at this
          simpa using this.symm
        have hlt := h2 z hz
        have hp := ho.2.1
        rw [hd] at hp hy
        rcases List.mem_cons.mp hy with e | hy
        · rw [e]; exact hlt
        · have := (List.pairwise_cons.mp hp).1 y hy
          unfold Bf at this
          rcases this with q | ⟨q, _⟩
          · grind
          · rw [← q]; exact hlt
    · intro x hx y hy
      obtain ⟨m, hm⟩ := List.mem_iff_getElem?.mp hx
      rw [List.getElem?_take] at hm
      by_cases hmk : m < k
      · rw [if_pos hmk] at hm
        have hn := h1 m x hmk hm
        rcases List.mem_cons.mp hy with e | hy
        · rw [e]
          have hxi : x < i := h.lt (List.mem_of_getElem? hm)
          unfold Bf
          by_cases q : qs.getD i 0 < qs.getD x 0
          · exact .inl q
          · refine .inr ⟨?_, hxi⟩
            have a1 := Rat.not_lt.mp hn
            have a2 := Rat.not_lt.mp q
            exact Rat.le_antisymm a2 a1
        · exact ho.2.2 x hx y hy
      · rw [if_neg hmk] at hm
        cases hm
/-- the state of the other ranking: what is found, what is left -/
structure Rest (qs : List Rat) (n : Nat) (fs ls : List Nat) : Prop where
  perm : (fs ++ ls).Perm (List.range n)
  ord : fs.Pairwise (Bf qs)
  up : ls.Pairwise (· < ·)
  ahead : ∀ x ∈ fs, ∀ y ∈ ls, Bf qs x y
theorem Rest.start (qs : List Rat) (n : Nat) : Rest qs n [] (List.range n) :=
  ⟨List.Perm.refl _, List.Pairwise.nil, List.pairwise_lt_range, fun _ h => nomatch h⟩
theorem Rest.done {qs : List Rat} {n : Nat} {fs : List Nat} (h : Rest qs n fs []) : Ranked qs n fs :=
  ⟨by simpa using h.perm, h.ord⟩
/-- the best of the first j left ones -/
structure Best (qs : List Rat) (ls : List Nat) (j b : Nat) : Prop where
  mem : b ∈ ls
  seen : ∀ m x, m < j → ls[m]? = some x → x = b ∨ Bf qs b x
  low : ∀ m x, j ≤ m → ls[m]? = some x → b ≤ x
theorem Best.start {qs : List Rat} {ls : List Nat} {b : Nat} (up : ls.Pairwise (· < ·)) (h : ls[0]? = some b) : Best qs ls 0 b := by
  refine ⟨List.mem_of_getElem? h, fun m x hm => absurd hm (Nat.not_lt_zero _), fun m x _ hx => ?_⟩
  by_cases hm : m = 0
  · subst hm
    rw [h] at hx
    cases hx
    exact Nat.le_refl _
  · obtain ⟨l0, e0⟩ := List.getElem?_eq_some_iff.mp h
    obtain ⟨lm, em⟩ := List.getElem?_eq_some_iff.mp hx
    have := List.pairwise_iff_getElem.mp up 0 m l0 lm (by omega)
    omega
theorem Best.turn {qs : List Rat} {ls : List Nat} {j b x : Nat} (up : ls.Pairwise (· < ·)) (h : Best qs ls j b) (hx : ls[j]? = some x) :
    Best qs ls (j + 1) (if qs.getD b 0 < qs.getD x 0 then x else b) := by
  have upg : ∀ m z, j < m → ls[m]? = some z → x < z := fun m z hm hz => by
    obtain ⟨l0, e0⟩ := List.getElem?_eq_some_iff.mp hx
    obtain ⟨lm, em⟩ := List.getElem?_eq_some_iff.mp hz
    have := List.pairwise_iff_getElem.mp up j m l0 lm hm
    omega
  by_cases c : qs.getD b 0 < qs.getD x 0
  · rw [if_pos c]
    refine ⟨List.mem_of_getElem? hx, fun m z hm hz => ?_, fun m z hm hz => Nat.le_of_lt (upg m z hm hz)⟩
    by_cases e : m = j
    · subst e
      rw [hx] at hz
      cases hz
      exact .inl rfl
    · right
      left
      rcases h.seen m z (by omega) hz with q | q
      · rw [q]; exact c
      · unfold Bf at q
        rcases q with q | ⟨q, _⟩
        · grind
        · rw [← q]; exact c
  · rw [if_neg c]
    refine ⟨h.mem, fun m z hm hz => ?_, fun m z hm hz => h.low m z (by omega) hz⟩
    by_cases e : m = j
    · subst e
      rw [hx] at hz
      cases hz
      have hle := h.low m x (Nat.le_refl _) hx
      by_cases e2 : x = b
      · exact .inl e2
      · right
        have a1 := Rat.not_lt.mp c
        by_cases q : qs.getD x 0 < qs.getD b 0
        · exact .inl q
        · exact .inr ⟨Rat.le_antisymm (Rat.not_lt.mp q) a1, by omega⟩
    · exact h.seen m z (by omega) hz
theorem Best.all {qs : List Rat} {ls : List Nat} {b : Nat} (h : Best qs ls ls.length b) : ∀ x ∈ ls, x = b ∨ Bf qs b x := fun x hx => by
  obtain ⟨m, hm⟩ := List.mem_iff_getElem?.mp hx
  exact h.seen m x (List.getElem?_eq_some_iff.mp hm).1 hm
/-- the best one is found and taken away -/
theorem Rest.turn {qs : List Rat} {n : Nat} {fs ls : List Nat} {b k : Nat} (h : Rest qs n fs ls) (hb : Best qs ls ls.length b) (hk : ls[k]? = some b) : Rest qs n (fs ++ [b]) (ls.eraseIdx k) := by
  obtain ⟨hkl, ek⟩ := List.getElem?_eq_some_iff.mp hk
  have sub : (ls.eraseIdx k).Sublist ls := List.eraseIdx_sublist ls k
  have up := h.up
  have hp : ls.Perm (b :: ls.eraseIdx k) := by
    rw [List.eraseIdx_eq_take_drop_succ]
    have e : ls = ls.take k ++ b :: ls.drop (k + 1) := by
      rw [← ek, ← List.drop_eq_getElem_cons hkl]
      exact (List.take_append_drop k ls).symm
    exact (List.Perm.of_eq e).trans List.perm_middle
  have ne : ∀ y ∈ ls.eraseIdx k, y ≠ b := fun y hy e => by
    have nd : ls.Nodup := up.imp fun {a b} (h : a < b) => Nat.ne_of_lt h
    have nd2 := hp.nodup_iff.mp nd
    rw [e] at hy
    exact (List.nodup_cons.mp nd2).1 hy
  refine ⟨?_, ?_, up.sublist sub, ?_⟩
  · rw [List.append_assoc]
    refine (List.Perm.append_left fs ?_).trans h.perm
    exact hp.symm
  · rw [List.pairwise_append]
    refine ⟨h.ord, List.pairwise_singleton _ _, fun x hx y hy => ?_⟩
    rw [List.mem_singleton.mp hy]
    exact h.ahead x hx b hb.mem
  · intro x hx y hy
    have hy2 := sub.subset hy
    rcases List.mem_append.mp hx with hx | hx
    · exact h.ahead x hx y hy2
    · rw [List.mem_singleton.mp hx]
      rcases hb.all y hy2 with q | q
      · exact absurd q (ne y hy)
      · exact q
theorem Rest.len {qs : List Rat} {n : Nat} {fs ls : List Nat} (h : Rest qs n fs ls) : fs.length + ls.length = n := by
  have := h.perm.length_eq
  rw [List.length_append, List.length_range] at this
  exact this
theorem Rest.lt {qs : List Rat} {n : Nat} {fs ls : List Nat} (h : Rest qs n fs ls) {i : Nat} (hi : i ∈ ls) : i < n :=
  List.mem_range.mp (h.perm.mem_iff.mp (List.mem_append_right _ hi))
/-- where the first one like it stands -/
theorem Rest.at {qs : List Rat} {n : Nat} {fs ls : List Nat} {b : Nat} (h : Rest qs n fs ls) (hb : b ∈ ls) : ∃ k : Nat, ls[k]? = some b ∧ ∀ m : Nat, m < k → ls[m]? ≠ some b := by
  obtain ⟨k, hk⟩ := List.mem_iff_getElem?.mp hb
  refine ⟨k, hk, fun m hm e => ?_⟩
  obtain ⟨l0, e0⟩ := List.getElem?_eq_some_iff.mp e
  obtain ⟨lm, em⟩ := List.getElem?_eq_some_iff.mp hk
  have := List.pairwise_iff_getElem.mp h.up m k l0 lm hm
  omega

/-! ### lots -/
structure IsLot (qs : List Rat) (n m : Nat) (l : List Nat) : Prop where
  ex : ∃ ns, Ranked qs n ns ∧ l.Perm (ns.take m)
  up : l.Pairwise (· ≤ ·)
theorem IsLot.one {qs : List Rat} {n m : Nat} {l k : List Nat} (h : IsLot qs n m l) (h' : IsLot qs n m k) : l = k := by
  obtain ⟨ns, r, p⟩ := h.ex
  obtain ⟨ms, r', p'⟩ := h'.ex
  have e := r.one r'
  subst e
  exact List.Perm.eq_of_pairwise (fun _ _ _ _ a b => Nat.le_antisymm a b) h.up h'.up (p.trans p'.symm)
theorem IsLot.lt {qs : List Rat} {n m : Nat} {l : List Nat} (h : IsLot qs n m l) {i : Nat} (hi : i ∈ l) : i < n := by
  obtain ⟨ns, r, p⟩ := h.ex
  exact r.lt (List.mem_of_mem_take (p.mem_iff.mp hi))
theorem IsLot.len {qs : List Rat} {n m : Nat} {l : List Nat} (h : IsLot qs n m l) : l.length ≤ n := by
  obtain ⟨ns, r, p⟩ := h.ex
  rw [p.length_eq, List.length_take, r.len]
  omega
theorem IsLot.all {qs : List Rat} {n : Nat} {l : List Nat} (h : IsLot qs n n l) : l = List.range n := by
  obtain ⟨ns, r, p⟩ := h.ex
  rw [List.take_of_length_le (by rw [r.len]; exact Nat.le_refl _)] at p
  refine List.Perm.eq_of_pairwise (fun _ _ _ _ a b => Nat.le_antisymm a b) h.up ?_ (p.trans r.perm)
  exact List.pairwise_lt_range.imp Nat.le_of_lt
/-- what a lot have together -/
def lotSum (qs : List Rat) (l : List Nat) : Rat := tot (l.map fun i => qs.getD i 0)
theorem lotSum_all (qs : List Rat) : lotSum qs (List.range qs.length) = tot qs := by
  unfold lotSum
  congr 1
  refine List.ext_getElem? fun i => ?_
  rw [List.getElem?_map]
  by_cases h : i < qs.length
  · rw [List.getElem?_range h, List.getElem?_eq_getElem h]
    show some (qs.getD i 0) = some qs[i]
    rw [List.getD_eq_getElem?_getD, List.getElem?_eq_getElem h] <;> rfl
  · rw [List.getElem?_eq_none (by rw [List.length_range]; omega), List.getElem?_eq_none (by omega)]
    rfl
theorem getD_of {qs : List Rat} {i : Nat} {q : Rat} (h : qs[i]? = some q) : qs.getD i 0 = q := by
  rw [List.getD_eq_getElem?_getD, h]
  rfl
/-- ints sorted: the same as numbers -/
theorem sorted_nat {ns : List Nat} {zs : List Int} (hp : zs.Perm (ns.map fun n : Nat => (n : Int))) (hu : zs.Pairwise (· ≤ ·)) : ∃ l : List Nat, zs = l.map (fun n : Nat => (n : Int)) ∧ l.Perm ns ∧ l.Pairwise (· ≤ ·) := by
  have e1 : zs = (zs.map Int.toNat).map (fun n : Nat => (n : Int)) := by
    rw [List.map_map]
    refine (List.map_id zs).symm.trans (List.map_congr_left fun z hz => ?_)
    obtain ⟨n, _, rfl⟩ := List.mem_map.mp (hp.mem_iff.mp hz)
    rfl
  refine ⟨zs.map Int.toNat, e1, ?_, ?_⟩
  · have := hp.map Int.toNat
    rw [List.map_map] at this
    refine this.trans ?_
    have e : (ns.map (Int.toNat ∘ fun n : Nat => (n : Int))) = ns := (List.map_congr_left fun n _ => rfl).trans (List.map_id ns)
    exact List.Perm.of_eq e
  · rw [List.pairwise_map]
    refine hu.imp fun h => ?_
    omega
end K16
namespace K16
/-! ### 1 / k, its sums, what is allowed -/
theorem one_num {k : Int} (h : 0 < k) : (Rat.divInt 1 k).num = 1 := by
  rw [div_num h]
  simp
theorem one_den {k : Int} (h : 0 < k) : ((Rat.divInt 1 k).den : Int) = k := by
  rw [div_den h]
  simp
def hsum (lo : Int) : Nat → Rat
  | 0 => 0
  | n + 1 => hsum lo n + Rat.divInt 1 (lo + n)
theorem Sz.inv {k : Int} (h : 0 < k) (h2 : k < 32) : Sz 5 (Rat.divInt 1 k) := Sz.div h (by decide) (by omega)
theorem Sz.hsum {lo : Int} (h : 0 < lo) : ∀ {n : Nat}, lo + n ≤ 32 → Sz (6 * n + 1) (hsum lo n)
  | 0, _ => Sz.zero
  | n + 1, h2 => by
    have h1 := Sz.hsum h (n := n) (by omega)
    refine (h1.add (Sz.inv (k := lo + n) (by omega) (by omega))).mono (by omega)
theorem inv_pos {k : Int} (h : 0 < k) : 0 < Rat.divInt 1 k := by
  have h1 : (0 : Rat) < Rat.divInt 1 k ↔ _ := Rat.lt_iff 0 (Rat.divInt 1 k)
  rw [h1, one_num h]
  have := den_pos (Rat.divInt 1 k)
  show (0 : Int) * _ < 1 * 1
  omega
theorem hsum_mono {lo : Int} (h : 0 < lo) {m : Nat} : ∀ {n : Nat}, m ≤ n → hsum lo m ≤ hsum lo n
  | 0, hm => by
    have : m = 0 := by omega
    subst this
    exact Rat.le_refl
  | n + 1, hm => by
    by_cases e : m = n + 1
    · subst e
      exact Rat.le_refl
    · have h1 := hsum_mono h (m := m) (n := n) (by omega)
      have h2 := inv_pos (k := lo + n) (by omega)
      show hsum lo m ≤ hsum lo n + Rat.divInt 1 (lo + n)
      grind
theorem hsum_left (lo : Int) : ∀ n : Nat, hsum lo (n + 1) = Rat.divInt 1 lo + hsum (lo + 1) n
  | 0 => by
    show (0 : Rat) + Rat.divInt 1 (lo + (0 : Nat)) = Rat.divInt 1 lo + 0
    rw [show lo + ((0 : Nat) : Int) = lo by omega]
    grind
  | n + 1 => by
    show hsum lo (n + 1) + Rat.divInt 1 (lo + ((n + 1 : Nat) : Int)) = Rat.divInt 1 lo + (hsum (lo + 1) n + Rat.divInt 1 (lo + 1 + (n : Nat)))
    rw [hsum_left lo n, show lo + ((n + 1 : Nat) : Int) = lo + 1 + (n : Nat) by omega]
    grind
def mn (i j : Int) : Int := if j < i then j else i
theorem mn_le (i j : Int) : mn i j ≤ i ∧ mn i j ≤ j ∧ (mn i j = i ∨ mn i j = j) := by
  unfold mn
  split <;> omega
/-- what so many of n are allowed behind b beats -/
def al (n b m : Int) : Rat := (m : Rat) * hsum (m + 1) (mn n (m + b) + 1 - (m + 1)).toNat
theorem al_size {n b m : Int} (h0 : 0 ≤ m) (hm : m ≤ 12) (hn : n ≤ 12) : Sz 80 (hsum (m + 1) (mn n (m + b) + 1 - (m + 1)).toNat) := by
  have := mn_le n (m + b)
  refine (Sz.hsum (lo := m + 1) (by omega) (by omega)).mono (by omega)
theorem cast_mul (m : Int) (p : Rat) : ((m : Int) : Rat) * p = Rat.divInt (m * p.num) p.den := (times_eq m p).symm
theorem Sz.times {m : Int} {p : Rat} {n : Nat} (h : Sz n p) (h0 : 0 ≤ m) (hm : m ≤ 15) : Sz (n + 4) ((m : Rat) * p) := by
  rw [cast_mul]
  refine Sz.div (den_pos p) ?_ ?_
  · have := mul_abs (i := m) (a := 4) (show m.natAbs < 2 ^ 4 by omega) h.1
    rw [Nat.add_comm]
    exact this
  · exact Nat.lt_of_lt_of_le h.den (Nat.pow_le_pow_right (by decide) (by omega))
theorem Sz.al {n b m : Int} (h0 : 0 ≤ m) (hm : m ≤ 12) (hn : n ≤ 12) : Sz 84 (al n b m) := (al_size h0 hm hn).times h0 (by omega)
theorem cast_nonneg {m : Int} (h : 0 ≤ m) : (0 : Rat) ≤ (m : Rat) := by
  have := Rat.intCast_le_intCast (a := 0) (b := m)
  simpa using this.mpr h
theorem al_mono {n b m : Int} (h0 : 0 ≤ m) : ¬ al n (b + 1) m < al n b m := by
  have h1 := mn_le n (m + b)
  have h2 := mn_le n (m + (b + 1))
  have h3 : hsum (m + 1) (mn n (m + b) + 1 - (m + 1)).toNat ≤ hsum (m + 1) (mn n (m + (b + 1)) + 1 - (m + 1)).toNat := hsum_mono (by omega) (by unfold mn; split <;> split <;> omega)
  rw [Rat.not_lt]
  unfold al
  exact Rat.mul_le_mul_of_nonneg_left h3 (cast_nonneg h0)
theorem al_all {n b : Int} (hb : 0 ≤ b) : al n b n = 0 := by
  unfold al
  have : (mn n (n + b) + 1 - (n + 1)).toNat = 0 := by unfold mn; split <;> omega
  rw [this]
  show (n : Rat) * 0 = 0
  grind
theorem al_one (n b : Int) : al n b 1 = hsum 2 (mn n (b + 1) + 1 - 2).toNat := by
  unfold al
  have e : (1 : Int) + b = b + 1 := by omega
  rw [e]
  show ((1 : Int) : Rat) * hsum 2 (mn n (b + 1) + 1 - 2).toNat = _
  have : ((1 : Int) : Rat) = 1 := rfl
  rw [this]
  grind
theorem cast_ne {m : Int} (h : 0 < m) : ((m : Int) : Rat) ≠ 0 := by
  intro e
  have := Rat.intCast_inj (a := m) (b := 0)
  have h2 : m = 0 := this.mp (by simpa using e)
  omega
/-- the step of what is allowed -/
theorem al_step {n b m : Int} (h0 : 0 < m) (hm : m < n) (hb : 0 ≤ b) : al n (b + 1) m = Rat.divInt (m * ((1 : Rat) + al n b (m + 1)).num) ((m + 1) * (((1 : Rat) + al n b (m + 1)).den : Int)) := by
  have e1 : m + (b + 1) = (m + 1) + b := by omega
  have e2 : (mn n (m + (b + 1)) + 1 - (m + 1)).toNat = (mn n (m + 1 + b) + 1 - (m + 1 + 1)).toNat + 1 := by
    rw [e1]
    unfold mn
    split <;> omega
  have e3 : al n (b + 1) m = (m : Rat) * (Rat.divInt 1 (m + 1) + hsum (m + 1 + 1) (mn n (m + 1 + b) + 1 - (m + 1 + 1)).toNat) := by
    unfold al
    rw [e2, hsum_left]
  have e4 : ∀ x : Rat, Rat.divInt (m * x.num) ((m + 1) * (x.den : Int)) = ((m : Int) : Rat) * x / ((m + 1 : Int) : Rat) := fun x => by
    rw [cast_mul, Rat.divInt_eq_div, Rat.divInt_eq_div]
    have n1 : (((m + 1 : Int)) : Rat) ≠ 0 := cast_ne (by omega)
    have n2 : (((x.den : Int)) : Rat) ≠ 0 := cast_ne (den_pos x)
    rw [Rat.intCast_mul (m + 1)]
    grind
  rw [e3, e4]
  have n1 : (((m + 1 : Int)) : Rat) ≠ 0 := cast_ne (by omega)
  have e5 : Rat.divInt 1 (m + 1) = 1 / ((m + 1 : Int) : Rat) := by
    rw [Rat.divInt_eq_div]
    rfl
  have e6 : al n b (m + 1) = ((m + 1 : Int) : Rat) * hsum (m + 1 + 1) (mn n (m + 1 + b) + 1 - (m + 1 + 1)).toNat := rfl
  rw [e5, e6]
  grind
end K16
namespace K16
/-! ### drawn debts -/
theorem div_add {x y b : Int} (hb : 0 < b) : Rat.divInt x b + Rat.divInt y b = Rat.divInt (x + y) b := by
  have n1 : ((b : Int) : Rat) ≠ 0 := cast_ne hb
  rw [Rat.divInt_eq_div, Rat.divInt_eq_div, Rat.divInt_eq_div, Rat.intCast_add]
  grind
theorem div_zero (b : Int) : Rat.divInt 0 b = 0 := by
  rw [Rat.divInt_eq_div]
  have : ((0 : Int) : Rat) = 0 := rfl
  rw [this]
  grind
theorem div_one {b : Int} (hb : 0 < b) : Rat.divInt b b = 1 := by
  have n1 : ((b : Int) : Rat) ≠ 0 := cast_ne hb
  rw [Rat.divInt_eq_div]
  grind
structure Sh (n : Nat) (b : Int) (ts : List Int) : Prop where
  len : ts.length = n
  pos : 1 ≤ b
  small : b ≤ 360
  nn : ∀ x ∈ ts, 0 ≤ x
  sum : ts.sum = b
theorem sum_ge : ∀ {ts : List Int}, (∀ x ∈ ts, 0 ≤ x) → 0 ≤ ts.sum ∧ ∀ x ∈ ts, x ≤ ts.sum
  | [], _ => ⟨by simp, fun x h => by cases h⟩
  | t :: r, h => by
    obtain ⟨h1, h2⟩ := sum_ge (ts := r) fun x hx => h x (List.mem_cons_of_mem _ hx)
    have h3 := h t List.mem_cons_self
    rw [List.sum_cons]
    refine ⟨by omega, fun x hx => ?_⟩
    rcases List.mem_cons.mp hx with e | hx
    · omega
    · have := h2 x hx
      omega
theorem Sh.le {n : Nat} {b : Int} {ts : List Int} (h : Sh n b ts) {x : Int} (hx : x ∈ ts) : 0 ≤ x ∧ x ≤ 360 := by
  have := (sum_ge h.nn).2 x hx
  have := h.nn x hx
  have := h.sum
  have := h.small
  omega
/-- the shares come -/
def grow (qs : List Rat) (b : Int) (ts : List Int) : List Rat := List.zipWith (fun q x => q + Rat.divInt x b) qs ts
theorem grow_len {qs : List Rat} {b : Int} {ts : List Int} (h : qs.length = ts.length) : (grow qs b ts).length = qs.length := by
  unfold grow
  rw [List.length_zipWith]
  omega
theorem grow_get {qs : List Rat} {b : Int} {ts : List Int} {i : Nat} {q : Rat} {x : Int} (h1 : qs[i]? = some q) (h2 : ts[i]? = some x) : (grow qs b ts)[i]? = some (q + Rat.divInt x b) := by
  unfold grow
  rw [List.getElem?_zipWith, h1, h2]
theorem tot_grow {b : Int} (hb : 0 < b) : ∀ {qs : List Rat} {ts : List Int}, qs.length = ts.length → tot (grow qs b ts) = tot qs + Rat.divInt ts.sum b
  | [], [], _ => by
    show (0 : Rat) = 0 + Rat.divInt 0 b
    rw [div_zero]
    grind
  | [], _ :: _, h => by cases h
  | _ :: _, [], h => by cases h
  | q :: r, t :: u, h => by
    have ih := tot_grow hb (qs := r) (ts := u) (Nat.succ.inj h)
    show q + Rat.divInt t b + tot (grow r b u) = q + tot r + Rat.divInt (t :: u).sum b
    rw [ih, List.sum_cons, ← div_add hb]
    grind
theorem grow_size {qs : List Rat} {b : Int} {ts : List Int} {k : Nat} (hb : 1 ≤ b) (hb2 : b ≤ 360) (h : ∀ q ∈ qs, Sz k q) (h2 : ∀ x ∈ ts, 0 ≤ x ∧ x ≤ 360) : ∀ q ∈ grow qs b ts, Sz (k + 10) q := fun q hq => by
  obtain ⟨i, hi⟩ := List.mem_iff_getElem?.mp hq
  unfold grow at hi
  rw [List.getElem?_zipWith] at hi
  cases e1 : qs[i]? with
  | none => rw [e1] at hi; cases hi
  | some p =>
    cases e2 : ts[i]? with
    | none => rw [e1, e2] at hi; cases hi
    | some x =>
      rw [e1, e2] at hi
      cases hi
      have hx := h2 x (List.mem_of_getElem? e2)
      refine ((h p (List.mem_of_getElem? e1)).add (Sz.div (n := 9) (by omega) ?_ ?_)).mono (by omega)
      · show x.natAbs < 512
        omega
      · show b.natAbs < 512
        omega
/-- one debt is changed -/
def chg (qs : List Rat) (p : Nat) (c : Rat) : List Rat := qs.modify p (· + c)
theorem chg_len (qs : List Rat) (p : Nat) (c : Rat) : (chg qs p c).length = qs.length := List.length_modify ..
theorem chg_get {qs : List Rat} {i p : Nat} {c q : Rat} (h : qs[i]? = some q) : (chg qs p c)[i]? = some (if i = p then q + c else q) := by
  unfold chg
  rw [List.getElem?_modify, h]
  by_cases e : p = i
  · rw [if_pos e.symm]
    simp [e]
  · rw [if_neg (Ne.symm e)]
    simp [e]
theorem tot_chg (c : Rat) : ∀ {qs : List Rat} {p : Nat}, p < qs.length → tot (chg qs p c) = tot qs + c
  | [], p, h => by cases h
  | q :: r, 0, _ => by
    show q + c + tot r = q + tot r + c
    grind
  | q :: r, p + 1, h => by
    have ih := tot_chg c (qs := r) (p := p) (Nat.lt_of_succ_lt_succ h)
    show q + tot (chg r p c) = q + tot r + c
    rw [ih]
    grind
theorem chg_size {qs : List Rat} {p k m : Nat} {c : Rat} (h : ∀ q ∈ qs, Sz k q) (hc : Sz m c) : ∀ q ∈ chg qs p c, Sz (k + m + 1) q := fun q hq => by
  obtain ⟨i, hi⟩ := List.mem_iff_getElem?.mp hq
  have hl : i < qs.length := by
    have := (List.getElem?_eq_some_iff.mp hi).1
    rw [chg_len] at this
    exact this
  have e := chg_get (p := p) (c := c) (List.getElem?_eq_getElem hl)
  rw [hi] at e
  have h1 := h _ (List.getElem_mem hl)
  have e2 := Option.some.inj e
  rw [e2]
  split
  · exact h1.add hc
  · exact h1.mono (by omega)
/-- how often each one stands in a group, together -/
theorem sum_append' (l m : List Int) : (l ++ m).sum = l.sum + m.sum := by
  induction l with
  | nil => simp
  | cons x r ih =>
    rw [List.cons_append, List.sum_cons, List.sum_cons, ih]
    omega
theorem sum_map_add {a : Type} (f g : a → Int) : ∀ l : List a, (l.map fun x => f x + g x).sum = (l.map f).sum + (l.map g).sum
  | [] => rfl
  | x :: r => by
    have := sum_map_add f g r
    simp only [List.map_cons, List.sum_cons, this]
    omega
theorem sum_zero {a : Type} {f : a → Int} : ∀ {l : List a}, (∀ x ∈ l, f x = 0) → (l.map f).sum = 0
  | [], _ => rfl
  | x :: r, h => by
    rw [List.map_cons, List.sum_cons, h x List.mem_cons_self, sum_zero fun y hy => h y (List.mem_cons_of_mem _ hy)]
    rfl
theorem sum_is (x : Int) : ∀ n : Nat, 0 ≤ x → x < n → ((List.range n).map fun p : Nat => if (p : Int) = x then (1 : Int) else 0).sum = 1
  | 0, _, h => by omega
  | n + 1, h0, h => by
    rw [List.range_succ, List.map_append, sum_append']
    by_cases e : (n : Int) = x
    · rw [sum_zero fun p hp => if_neg (by have := List.mem_range.mp hp; omega)]
      show 0 + ((if (n : Int) = x then (1 : Int) else 0) + 0) = 1
      rw [if_pos e]
      rfl
    · rw [sum_is x n h0 (by omega)]
      show 1 + ((if (n : Int) = x then (1 : Int) else 0) + 0) = 1
      rw [if_neg e]
      rfl
theorem sum_count {n : Nat} : ∀ {g : List Int}, (∀ x ∈ g, 0 ≤ x ∧ x < (n : Int)) → ((List.range n).map fun p : Nat => ((g.count (p : Int) : Nat) : Int)).sum = g.length
  | [], _ => by
    rw [sum_zero fun p _ => by simp]
    rfl
  | x :: r, h => by
    have ih := sum_count (n := n) (g := r) fun y hy => h y (List.mem_cons_of_mem _ hy)
    obtain ⟨h0, h1⟩ := h x List.mem_cons_self
    have e : ((List.range n).map fun p : Nat => (((x :: r).count (p : Int) : Nat) : Int)) = (List.range n).map fun p : Nat => ((r.count (p : Int) : Nat) : Int) + (if (p : Int) = x then (1 : Int) else 0) := by
      refine List.map_congr_left fun p _ => ?_
      rw [List.count_cons]
      by_cases q : x = (p : Int)
      · rw [if_pos q.symm]
        simp [q]
      · rw [if_neg (Ne.symm q)]
        simp [q]
    rw [e, sum_map_add, ih, sum_is x n h0 h1, List.length_cons]
    omega
/-- whether each one stands in a group -/
def ind (n : Nat) (g : List Int) : List Int := (List.range n).map fun p : Nat => if (p : Int) ∈ g then (1 : Int) else 0
theorem sum_ind {n : Nat} {g : List Int} (hg : ∀ x ∈ g, 0 ≤ x ∧ x < (n : Int)) (nd : g.Nodup) : (ind n g).sum = g.length := by
  rw [← sum_count hg]
  unfold ind
  congr 1
  refine List.map_congr_left fun p _ => ?_
  rw [List.Nodup.count nd]
  split <;> rfl
theorem Sh.ind {n : Nat} {g : List Int} (hn : n ≤ 12) (hg : ∀ x ∈ g, 0 ≤ x ∧ x < (n : Int)) (nd : g.Nodup) (h0 : 0 < g.length) (hl : g.length ≤ 12) : Sh n g.length (ind n g) := by
  refine ⟨by simp [K16.ind], by omega, by omega, fun x hx => ?_, sum_ind hg nd⟩
  obtain ⟨p, _, rfl⟩ := List.mem_map.mp hx
  show 0 ≤ (if _ then _ else _ : Int)
  split <;> decide
def cnt (n : Nat) (g : List Int) : List Int := (List.range n).map fun p : Nat => ((g.count (p : Int) : Nat) : Int)
theorem Sh.cnt {n : Nat} {g : List Int} (hg : ∀ x ∈ g, 0 ≤ x ∧ x < (n : Int)) (h0 : 0 < g.length) (hl : g.length ≤ 300) : Sh n g.length (cnt n g) := by
  refine ⟨by simp [K16.cnt], by omega, by omega, fun x hx => ?_, sum_count hg⟩
  obtain ⟨p, _, rfl⟩ := List.mem_map.mp hx
  show (0 : Int) ≤ ((_ : Nat) : Int)
  omega
theorem sum_rep : ∀ n : Nat, (List.replicate n (0 : Int)).sum = 0
  | 0 => rfl
  | n + 1 => by
    rw [List.replicate_succ, List.sum_cons, sum_rep n]
    rfl
theorem sum_set' : ∀ {l : List Int} {j : Nat} {z y : Int}, l[j]? = some z → (l.set j y).sum = l.sum - z + y
  | [], j, z, y, h => by simp at h
  | a :: r, 0, z, y, h => by
    have e : a = z := Option.some.inj h
    subst e
    show (y :: r).sum = (a :: r).sum - a + y
    rw [List.sum_cons, List.sum_cons]
    omega
  | a :: r, j + 1, z, y, h => by
    have ih := sum_set' (l := r) (j := j) (z := z) (y := y) h
    show (a :: r.set j y).sum = (a :: r).sum - z + y
    rw [List.sum_cons, List.sum_cons, ih]
    omega
/-- fractions of one bottom -/
def frs (b : Int) (ts : List Int) : List Rat := ts.map fun x => Rat.divInt x b
theorem tot_frs {b : Int} (hb : 0 < b) : ∀ ts : List Int, tot (frs b ts) = Rat.divInt ts.sum b
  | [] => (div_zero b).symm
  | t :: r => by
    show Rat.divInt t b + tot (frs b r) = Rat.divInt (t :: r).sum b
    rw [tot_frs hb r, List.sum_cons, ← div_add hb]
theorem frs_size {b : Int} {ts : List Int} {k : Nat} (hb : 0 < b) (hk : b.natAbs < 2 ^ k) (h : ∀ x ∈ ts, x.natAbs < 2 ^ k) : ∀ q ∈ frs b ts, Sz k q := fun q hq => by
  obtain ⟨x, hx, rfl⟩ := List.mem_map.mp hq
  exact Sz.div hb (h x hx) hk
theorem sum_abs {b : Nat} : ∀ {ts : List Int}, (∀ x ∈ ts, x.natAbs ≤ b) → ts.sum.natAbs ≤ ts.length * b
  | [], _ => by simp
  | t :: r, h => by
    have h1 := sum_abs (ts := r) fun x hx => h x (List.mem_cons_of_mem _ hx)
    have h2 := h t List.mem_cons_self
    rw [List.sum_cons, List.length_cons, Nat.add_mul]
    omega
theorem sum_ins (ts : List Int) (k : Nat) (x : Int) : (ts.take k ++ x :: ts.drop k).sum = ts.sum + x := by
  rw [sum_append', List.sum_cons]
  have : ts.sum = (ts.take k).sum + (ts.drop k).sum := by rw [← sum_append', List.take_append_drop]
  omega
theorem tot_rep : ∀ n : Nat, tot (List.replicate n 0) = 0
  | 0 => rfl
  | n + 1 => by
    show (0 : Rat) + tot (List.replicate n 0) = 0
    rw [tot_rep n]
    grind
end K16
/-! Own rules: enumerate of a tuple, tuple * 1, repr of data, calls that know that no repr is under way. -/
namespace K16
open PySem PySem.Spec PyProof.Rows L2

/-! ### enumerate(t), t a tuple -/
theorem enum_new_tup (t : Addr) (its : Array Value) :
    Meets (Builtin.«enumerate.__new__» ⟨[.type "enumerate", .ref t], []⟩) (fun _ Rs st => st.heap.IsTuple t its ∧
      Rs (.ok (.ret (.ref (st.heap.push ⟨.type "tuple_iterator", none, .fields #[.ref t, .int 0 0], #[]⟩).objs.size)))
        { st with heap := (st.heap.push ⟨.type "tuple_iterator", none, .fields #[.ref t, .int 0 0], #[]⟩).push ⟨.type "enumerate", none, .fields #[.none, .bool false, .ref st.heap.objs.size, rawInt 0, .none, .none], #[]⟩ }) :=
  .of_wp fun prog w A Rs st hh => by
    obtain ⟨hp, g, d, tk, os⟩ := st
    obtain ⟨ht, hh⟩ := hh
    have hsub := sub_enumerate
    have go : ∀ {B : Around} {E : Value → Shared → Prop} {Q : Value → Shared → Prop}, Q (.ref hp.objs.size) ⟨hp.push ⟨.type "tuple_iterator", none, .fields #[.ref t, .int 0 0], #[]⟩, g, d, tk, os⟩ →
        wpAny (model prog w) B (pyIter (.ref t)) Q E ⟨hp, g, d, tk, os⟩ := fun q => wpAny_pyIter_tuple ht q
    wp_walk using go
    refine wpAny_stack_any fun sk => wpAny_pure ?_
    split
    · rename_i c _ _ _ _ _
      cases (c == Value.type "enumerate")
      · wp_walk using go
        exact ⟨_, rfl, hh⟩
      · wp_walk using go
        exact ⟨_, rfl, hh⟩
    · wp_walk using go
      exact ⟨_, rfl, hh⟩
theorem call_enum_tup {prog : Program} {w : World} {A : Around} {E : Value → Shared → Prop} {st : Shared} {t : Addr} {its : Array Value} {Q : Value → Shared → Prop} (ht : st.heap.IsTuple t its)
    (hQ : ∀ hn, IsEnum hn (st.heap.objs.size + 1) st.heap.objs.size 0 .none → hn.IsTupleIter st.heap.objs.size t 0 → (∀ b o, st.heap.get? b = some o → hn.get? b = some o) → Q (.ref (st.heap.objs.size + 1)) { st with heap := hn }) :
    wpAny (model prog w) A (call (.type "enumerate") [.ref t]) Q E st := by
  refine callType_new F.called_enumerate (by decide) (F.typeCall_enumerate_1 _) (F.newCall_enumerate_1 _) (fun obj => F.args_object_init_2 obj _) F.entry_enumerate_new (enum_new_tup t its) ⟨ht, ?_⟩
  have ez : (st.heap.push ⟨.type "tuple_iterator", none, .fields #[.ref t, .int 0 0], #[]⟩).objs.size = st.heap.objs.size + 1 := Heap.size_push ..
  have ge : ((st.heap.push ⟨.type "tuple_iterator", none, .fields #[.ref t, .int 0 0], #[]⟩).push ⟨.type "enumerate", none, .fields #[.none, .bool false, .ref st.heap.objs.size, rawInt 0, .none, .none], #[]⟩).get? (st.heap.objs.size + 1) =
      some ⟨.type "enumerate", none, .fields #[.none, .bool false, .ref st.heap.objs.size, rawInt 0, .none, .none], #[]⟩ := by
    rw [← ez]
    exact Heap.get?_push_size _ rfl
  rw [ez]
  exact ⟨⟨_, ge, rfl⟩, hQ _ ge ⟨_, Heap.get?_push_of_some _ (Heap.get?_push_size _ rfl), rfl, rfl⟩ fun b o e => Heap.get?_push_of_some _ (Heap.get?_push_of_some _ e)⟩
/-- the items of the tuple at t, each in a new pair with its place -/
def ItET (K : PySem.W.Frag) (t : Addr) : It where
  go := fun i H => ∃ (xs : List V) (x : V), SqT K H t xs ∧ xs[i]? = some x
  yld := fun i H v H' => ∃ p x, v = .ref p ∧ H p = none ∧ H' = upd H p (.tup [.int (i : Nat), x]) ∧ ∀ xs, SqT K H t xs → xs[i]? = some x
  stop := fun i H => ∃ xs : List V, SqT K H t xs ∧ xs.length = i
theorem turn_enum_tup {P : Program} {w : World} {K : PySem.W.Frag} {es : List Expr} {kk : Nat} {ps : Pos} (t e it : Addr) :
    Turn P w K (.Tuple es kk ps) (ItET K t) [e, it] e (fun i h => (∃ old, IsEnum h e it ((i : Nat) : Int) old) ∧ h.IsTupleIter it t i ∧ e ≠ it) where
  mem := by simp
  obj := by
    rintro i h ⟨⟨old, he⟩, ⟨o, ho, hc, hd⟩, _⟩ b hb
    rcases (show b = e ∨ b = it by simpa using hb) with z | z
    · subst z
      exact ⟨_, he, fun v q => nomatch q⟩
    · subst z
      exact ⟨o, ho, fun v q => by rw [hd] at q; cases q⟩
  keep := by
    rintro i h h' ⟨⟨old, he⟩, hi, hne⟩ k
    exact ⟨⟨old, k e (by simp) _ he⟩, hi.at fun o q => k it (by simp) o q, hne⟩
  item := by
    intro X hP hw hK hc i pins s σ H E I hf st hg
    subst hP hw hK
    obtain ⟨⟨old, he⟩, hit, hne⟩ := st
    obtain ⟨xs, x, hq, hx⟩ := hg
    obtain ⟨its, rv, pt, hz⟩ := I.tuple hq
    obtain ⟨u, hu, ru⟩ := rv.get hx
    have hT : s.heap.IsTuple t its.toArray := pt
    have net : e ≠ t := fun z => by
      obtain ⟨o, ho, hcl, _⟩ := pt
      rw [← z, he] at ho
      cases ho
      exact absurd (Value.type.inj hcl) (by decide)
    have nit : t ≠ it := fun z => by
      obtain ⟨o, ho, hcl, _⟩ := pt
      obtain ⟨o2, ho2, hcl2, _⟩ := hit
      rw [z, ho2] at ho
      cases ho
      rw [hcl2] at hcl
      exact absurd (Value.type.inj hcl) (by decide)
    have hel : e < s.heap.objs.size := Heap.lt_size he
    have hil : it < s.heap.objs.size := by
      obtain ⟨_, q, _⟩ := hit
      exact Heap.lt_size q
    have lenu : i < its.toArray.size := by
      have := (List.getElem?_eq_some_iff.mp hu).1
      simpa using this
    refine wpAny_pyNext_enum_itemC (Draws.tuple (A := X.A.in1) (I.ok.hd hc) it t nit its.toArray) he ⟨hit, hT⟩ lenu hne (by simp [hne, net]) fun y h' tk hy ho hst hT1 hsz hk => ?_
    have ey : y = u := by
      have q1 : its.toArray[i]? = some u := by simpa using hu
      rw [q1] at hy
      exact (Option.some.inj hy).symm
    subst ey
    refine ⟨_, rfl, wpAny_letOwnedTupleGo_enum (s := { s with heap := h', toks := tk + 1 }) ho fun h2 he2 sb => ?_⟩
    have gT : h2.get? s.heap.objs.size = some { cls := .type "tuple", data := .seq #[.int i tk, y] } := (sb.2 _ (Nat.ne_of_gt hel)).trans hT1
    have new : ObjOk X.prog X.w (upd H s.heap.objs.size (.tup [.int (i : Nat), x])) h2 s.heap.objs.size (.tup [.int (i : Nat), x]) :=
      ⟨by show 2 ≤ sizeLine; decide, [.int i tk, y], .cons ⟨_, rfl⟩ (.cons ru .nil), ⟨_, gT, rfl, _, rfl⟩⟩
    have I1 : Inv X pins σ (upd H s.heap.objs.size (.tup [.int (i : Nat), x])) { s with heap := h2, toks := tk + 1 } :=
      I.turnedNew (ch := [e, it]) (fun b ob hb q => by
        have n1 : b ≠ e := fun z => hb (by simp [z])
        have n2 : b ≠ it := fun z => hb (by simp [z])
        exact (sb.2 b n1).trans (hk b ob n1 n2 q)) hf (Nat.le_refl _) new
    refine ⟨.ref s.heap.objs.size, _, I1, rfl, ⟨_, x, rfl, I.hok.fresh (Nat.le_refl _), rfl, fun ys hy => by rw [I.tuple_inj hy hq]; exact hx⟩, ⟨⟨y, ?_⟩, hst.1.at fun o q => (sb.2 it (Ne.symm hne)).trans q, hne⟩, fun b hb => ?_⟩
    · rw [show ((i + 1 : Nat) : Int) = (i : Int) + 1 by omega]
      exact he2
    · have hb' : b < s.heap.objs.size := by
        rcases (show b = e ∨ b = it by simpa using hb) with z | z
        · rw [z]; exact hel
        · rw [z]; exact hil
      rw [upd_ne (Nat.ne_of_lt hb')]
      exact (hf b hb).1
  done := by
    intro X hP hw hK hc i pins s σ H E I hf st hg
    subst hP hw hK
    obtain ⟨⟨old, he⟩, hit, hne⟩ := st
    obtain ⟨xs, hq, hx⟩ := hg
    obtain ⟨its, rv, pt, hz⟩ := I.tuple hq
    have hT : s.heap.IsTuple t its.toArray := pt
    have nit : t ≠ it := fun z => by
      obtain ⟨o, ho, hcl, _⟩ := pt
      obtain ⟨o2, ho2, hcl2, _⟩ := hit
      rw [z, ho2] at ho
      cases ho
      rw [hcl2] at hcl
      exact absurd (Value.type.inj hcl) (by decide)
    obtain ⟨f0, f1, f2, f3, f4, f5⟩ := hf it (by simp)
    have hl := rv.length
    have en : its.toArray.size = i := by
      rw [List.size_toArray]
      omega
    refine wpAny_pyNext_enum_endD (Draws.tuple (A := X.A.in1) (I.ok.hd hc) it t nit its.toArray) he ⟨by rw [en]; exact hit, hT⟩ fun h' eb => ⟨rfl, I.turned (t' := s.toks) (fun b o hb q => eb b o hb q) f0 f1 f3 f4 f5⟩
  self := fun A i s Q E st h => st.1.elim fun _ he => wpAny_pyIter_enum he h
def iET (K : PySem.W.Frag) (ta : TA) : TI := fun σ H Rd => ta σ H fun vs H1 => ∃ a xs, vs = [.ref a] ∧ SqT K H1 a xs ∧ Rd (ItET K a) H1
theorem pi_enumT {X : Cx} {e : Expr} {ta : TA} {p pos ps : Pos} {es : List Expr} {kk : Nat} (hg : Gl X "enumerate") (hm : X.mg "enumerate" = none) (ha : PA X [e] ta) (h1 : starEach [e] X.env = [(false, eval e X.env)] := by rfl) :
    PI X (.Tuple es kk ps) (.Call (.Name "enumerate" p) [e] [] pos) (iET X.K ta) := by
  refine ⟨fun pins s σ H Rd I h => Call_ (ld_blt I hg hm boot_enumerate (PyProof.Rows.callWith_type1 (thn (ha.run pos pins s σ H _ I h) fun us st r => ?_) h1 rfl))⟩
  obtain ⟨vs, H1, I1, r1, a, xs, rfl, hq, q⟩ := r
  cases r1 with
  | cons r0 rr =>
    cases rr
    cases r0
    obtain ⟨its, rv, pt, hz⟩ := I1.tuple hq
    refine call_enum_tup (its := its.toArray) pt fun hn he hit hk => wpAny_pyIter_enum he ?_
    refine ⟨st.heap.objs.size + 1, [st.heap.objs.size + 1, st.heap.objs.size], _, _, H1, rfl, I1.kept (t' := st.toks) hk, turn_enum_tup a (st.heap.objs.size + 1) st.heap.objs.size, ⟨⟨.none, he⟩, hit, Nat.succ_ne_self _⟩, fun b hb => ?_, q⟩
    have le : st.heap.objs.size ≤ b := by
      rcases (show b = st.heap.objs.size + 1 ∨ b = st.heap.objs.size by simpa using hb) with z | z
      · rw [z]; exact Nat.le_succ _
      · rw [z]; exact Nat.le_refl _
    exact I1.fpOk le (I1.hok.fresh le)
theorem walk_enumT {K : PySem.W.Frag} {a : Addr} {xs : List V} : Walk (ItET K a) xs.length (fun H => SqT K H a xs) (YPair (fun i => some (.int (i : Nat))) (fun i => xs[i]?)) where
  goes := fun i _ hi q => ⟨xs, xs[i], q, List.getElem?_eq_getElem hi⟩
  stops := fun _ q => ⟨xs, q, rfl⟩
  yields := by
    rintro i H v H' _ q ⟨p, x, h1, h2, h3, h4⟩
    exact ⟨p, .int (i : Nat), x, h1, h2, h3, rfl, h4 xs q⟩
theorem walk_zipT {K : PySem.W.Frag} {a b : Addr} {xs ys : List V} (hl : xs.length = ys.length) : Walk (RZ.ItzT K a b) xs.length (fun H => SqT K H a xs ∧ SqT K H b ys) (YPair (fun i => xs[i]?) (fun i => ys[i]?)) where
  goes := fun i _ hi q => ⟨xs, ys, xs[i], ys[i]'(by omega), q.1, q.2, List.getElem?_eq_getElem hi, List.getElem?_eq_getElem (by omega)⟩
  stops := fun _ q => ⟨xs, ys, q.1, q.2, .inl (Nat.le_refl _)⟩
  yields := by
    rintro i H v H' _ q ⟨p, x, y, h1, h2, h3, h4, h5⟩
    exact ⟨p, x, y, h1, h2, h3, h4 xs q.1, h5 ys q.2⟩

/-! ### t * k, also by 1 (the same tuple) -/
theorem tup_mul1 (l : Addr) (its : Array Value) (n : Nat) (dd : Option Addr) (sl : Array (Option Value)) (u : Tok) :
    Meets (Builtin.«tuple.__mul__» ⟨[.ref l, .int 1 u], []⟩) (fun _ Rs st => st.heap.get? l = some ⟨.type "tuple", dd, .seq its n, sl⟩ ∧ Rs (.ok (.ret (.ref l))) st) :=
  .of_wp fun prog w A Rs st hh => by
    obtain ⟨hp, g, d, tk, os⟩ := st
    obtain ⟨hl, hh⟩ := hh
    have f1 := AutoSeq1.idx_int
    have c1 : (its.isEmpty || (1 : Int) == 1) = true := by simp
    wp_walk using wpAny_loadPart' hl
    exact ⟨_, rfl, hh⟩
def rRepA (K : PySem.W.Frag) : R2 := fun x y H Q => ∃ l k xs, x = .ref l ∧ y = .int k ∧ SqT K H l xs ∧ xs ≠ [] ∧ 1 ≤ k ∧ k ≤ 1000 ∧ xs.length ≤ 1000 ∧ (k = 1 → Q (.ref l) H) ∧ (2 ≤ k → ∀ p, H p = none → Q (.ref p) (upd H p (.tup (List.replicate k.toNat xs).flatten)))
theorem op_repA {X : Cx} : OpR X (binaryOp .Mult) (rRepA X.K) := by
  intro pins s σ H x y v u Q I rx ry h
  obtain ⟨l, k, xs, rfl, rfl, hT, hne, h1, h2, hz, q1, q2⟩ := h
  by_cases e : k = 1
  · subst e
    cases rx
    obtain ⟨t, rfl⟩ := ry
    obtain ⟨its, r, ⟨⟨cls, dd, data, sl⟩, ho, hc, n, hd⟩, hs⟩ := I.tuple hT
    simp only at hc hd
    subst hc hd
    refine wpAny_binaryOp_repeat_ref (T := "tuple") (U := "int") (by decide) ⟨_, ho, rfl⟩ (fun st => typeIs_int st 1 t) noFill_tuple_mul F.fills_int_mul F.slot_int_rmul repeat_tuple F.slot_int_index.lookup
      (call_meets F.slot_int_rmul (typeIs_int s 1 t) F.entry_int_rmul (F.args_int_rmul_2 _ _) (int_rmul_tuple 1 t l its.toArray n dd sl)
        ⟨ho, rfl, ⟨_, ho, rfl⟩, call_meets F.slot_tuple_mul ⟨_, ho, rfl⟩ F.entry_tuple_mul (F.args_tuple_mul_2 _ _) (tup_mul1 l its.toArray n dd sl t) ⟨ho, ?_⟩⟩)
    exact ⟨.ref l, H, I, rfl, q1 rfl⟩
  · exact op_repT pins s σ H _ _ v u Q I rx ry ⟨l, k, xs, rfl, rfl, hT, hne, by omega, h2, hz, q2 (by omega)⟩

/-! ### repr(t) of data -/
def rReprD (K : PySem.W.Frag) : List V → Hp → VK → Prop := fun vs H Q => ∃ (a : Addr) (d : PyData), vs = [.ref a] ∧ Dp K H (.ref a) d ∧ d.showable = true ∧ d.hasDict = false ∧ d.depth ≤ 60 ∧ d.shown.length ≤ sizeLine ∧ Q (.str d.shown) H
theorem call_reprD {X : Cx} (hg : X.A.guards = some []) (hu : X.A.units + 64 < cLine) : CallR X (.builtin "repr") (rReprD X.K) := by
  intro pins s σ H vs us Q I r h
  obtain ⟨a, d, rfl, hd, h1, h2, h3, h4, q⟩ := h
  obtain ⟨u, rfl, ru⟩ := vals1 r
  cases ru
  obtain ⟨as, hr⟩ := Dp.reads I d (.ref a) (.ref a) hd rfl
  refine repr_of_reads' hr h1 (PyData.noDict_hsm h2) hg (by omega) (fun _ _ e => e) (fun hn t tk hk => ?_) h4
  exact ⟨.str d.shown, H, I.kept (t' := tk) hk, ⟨t, rfl⟩, q⟩
end K16
/-! A def's promise where the caller knows that no repr is under way (the guards are told), and the law's end over it. -/
namespace K16
open PySem PySem.Spec PyProof.Rows L2
structure FnG (P : Program) (w : World) (K : PySem.W.Frag) (mg : Str → Option Value) (base : Heap) (k : Nat) (f : Addr) (fd : FuncData) (ps : List Str) (sp : Sp) : Prop where
  len : ∀ vs H Q, sp vs H Q E0 → vs.length = ps.length
  run : ∀ (A : Around) (out : List Env) (st : Shared) (H : Hp) (args : Args) (us : List Value) (vs : List V) (Q : VK), A.guards = some [] → Room k A → Env0 P w K mg base A out st H → BindsTo st fd args (ps.zip us) → Vals vs us →
    sp vs H Q E0 → codeAny (model P w) A (.call (.ref f) args) (CR CX0 out P w H st Q E0) st
section
variable {P : Program} {w : World} {K : PySem.W.Frag} {mg : Str → Option Value} {base : Heap} {x qual : Str} {params : Arguments} {body : List Stmt} {scope : Scope} {f : Addr} {fd : FuncData} {N ps : List Str} {k : Nat} {sp : Sp}
/-- by its body -/
theorem fnG_of (F : FunD K x qual params body scope [] [] f fd) (S : FnScope N ps scope) (len : ∀ vs H Q, sp vs H Q E0 → vs.length = ps.length)
    (hB : ∀ (cdv : Value) (A : Around) (out : List Env) (st : Shared) (H : Hp) (vs : List V) (Q : VK), A.guards = some [] → Room k (A.deeper (envOfC qual scope st.heap.objs.size f cdv)) → sp vs H Q E0 →
      ∃ t, PSs (cxOf CX0 P w K mg base N qual scope f cdv A out st H E0) body t ∧ t { nx := fun _ H' => Q .non H', rt := Q } (start N vs) H) : FnG P w K mg base (k + 1) f fd ps sp where
  len := len
  run := by
    intro A out st H args us vs Q hgd hr e0 hb rv hsp
    obtain ⟨oc, od, dV, kV, doc, pm, an, cdv, ct, osl, rfl, lk, hcd, _, _⟩ := F.ex
    have kept : ∀ b o, base.get? b = some o → st.heap.get? b = some o := fun b o e => (e0.bs b o e).1
    have KX : K.In st.heap := e0.mod.kin.keeps kept
    have lim : st.heap.NoLimit := e0.mod.nolimit.keeps kept
    refine codeAny_call_function hr.depth (KX _ _ lk) rfl S.co S.gen rfl (PySem.W.codeRec_of KX hcd) (hb _ _ _ _ ?_)
    refine wpAny_newFunctionEnv_cells S.kind (fun q hq => ?_) fun env he s1 y => ?_
    · obtain ⟨n, v⟩ := q
      rcases S.par n (List.of_mem_zip hq).1 with z | z
      · exact .inl z
      · exact .inr ⟨z, PySem.W.cellsFrom_some _ _ _ (.inl z)⟩
    · subst he
      refine ⟨lim.keeps y.toInCall.keep, codeAny_func ?_⟩
      obtain ⟨t, ht, hq⟩ := hB cdv A out st H vs Q hgd (hr.deeper _) hsp
      have I := inv_start (CX := CX0) (E := E0) S hr.hd e0 (len _ _ _ hsp) rv y
      refine wpAny_mono (ht.run [] s1 (start N vs) H _ I hq) (fun fl s2 hs => ?_) fun _ _ hs => hs
      cases fl with
      | ret u =>
        obtain ⟨v, σ', H', J, ru, q⟩ := hs
        exact ⟨v, H', J.os, J.bare, J.base, J.hok, ru, q⟩
      | next =>
        obtain ⟨σ', H', J, q⟩ := hs
        exact ⟨V.non, H', J.os, J.bare, J.base, J.hok, rfl, q⟩
      | brk => exact hs.elim fun _ z => z.elim fun _ z => z.2.elim
      | cont => exact hs.elim fun _ z => z.elim fun _ z => z.2.elim
end
/-- g(e, ..) of such a def -/
theorem pe_callG {X : Cx} {k : Nat} {f : Addr} {fd : FuncData} {ps : List Str} {sp : Sp} {x : Str} {p pos : Pos} {e : Expr} {es : List Expr} {t : TA} (F : FnG X.prog X.w X.K X.mg X.base k f fd ps sp) (hgd : X.A.guards = some []) (hr : Room k X.A) (hg : Gl X x)
    (hm : X.mg x = some (.ref f)) (hk : PySem.W.keepIn X.K (.ref f) = true) (hb : Binds X.K fd ps []) (ha : PA X (e :: es) t) (hdb : (x == ("__debug__" : Str)) = false := by decide)
    (h1 : starEach (e :: es) X.env = (false, eval e X.env) :: starEach es X.env := by rfl) (h2 : (backTo pos (starEach es X.env)).any (·.1) = false := by rfl) : PE X (.Call (.Name x p) (e :: es) [] pos) (tCall sp [] E0 t) := by
  refine ⟨fun pins s σ H Q I h => wpAny_Call_Name_kw (ld_glob I hg hm ?_ hdb)⟩
  refine PySem.W.callWith_K (h₀ := X.base) I.ok.mod.kin hk (thn (ha.run pos pins s σ H _ I h) fun us s1 c => ?_) h1 h2
  obtain ⟨vs, H1, I1, rv, q⟩ := c
  refine ⟨I1.kIn, ?_⟩
  rw [List.append_nil] at q
  have bb := hb s1 us I1.kIn (by rw [List.append_nil, ← rv.length]; exact F.len _ _ _ q)
  rw [List.append_nil] at bb
  refine wpAny_call (codeAny_mono (F.run X.A X.stack s1 H1 ⟨us, []⟩ us vs Q hgd hr I1.env0 bb rv q) fun r s2 hq => ?_)
  cases r with
  | error e => exact False.elim hq
  | ok fl =>
    cases fl with
    | ret u => exact I1.after hq
    | next => exact False.elim hq
    | brk => exact False.elim hq
    | cont => exact False.elim hq
/-- the law's call, from its guarded promise -/
theorem law_callG {P : Program} {w : World} {K : PySem.W.Frag} {mg mb : Str → Option Value} {k : Nat} {fa a : Addr} {fd : FuncData} {x : Str} {sp : Sp} {st : Shared} {vs : List Value} {ns : List Int}
    (KX : K.In st.heap) (hns : st.heap.Ns mainGlobals mg) (hb : st.heap.Ns builtinsNs mb) (hbb : ∀ x : Str, x ≠ "__name__" → mb x = bootBuiltins x) (hlim : st.heap.NoLimit) (hg : st.gens = #[])
    (ha : st.heap.get? a = some { cls := .type "list", data := .seq vs.toArray }) (hi : IntsAre vs ns) (hl : ns.length ≤ sizeLine) (hr : Room k callerA) (F : ∀ base : Heap, K.In base → base.Ns mainGlobals mg → FnG P w K mg base k fa fd [x] sp)
    (hbind : ∀ (s : Shared) (u : Value), BindsTo s fd ⟨[u], []⟩ [(x, u)]) (hsp : ∀ H : Hp, SqL K H a (ns.map V.int) → sp [.ref a] H (fun v _ => v = .bl true) E0) :
    codeAny (model P w) callerA (.call (.ref fa) ⟨[.ref a], []⟩) (fun r s' => r = .ok (.ret (.bool true)) ∧ OldK st.heap s'.heap ∧ s'.os = st.os ∧ AllBare s'.gens) st := by
  have rv := vals_ints hi
  have len := hi.length
  let ob : Obj := { cls := .type "list", data := .seq vs.toArray }
  let H : Hp := fun b => if b = a ∧ K.lookup a = none then some (.frz ob (.lst (ns.map V.int))) else none
  have Hcase : ∀ b u, H b = some u → b = a ∧ K.lookup a = none ∧ u = .frz ob (.lst (ns.map V.int)) := fun b u e => by
    by_cases c : b = a ∧ K.lookup a = none
    · have e2 : H b = some (.frz ob (.lst (ns.map V.int))) := if_pos c
      rw [e2] at e
      exact ⟨c.1, c.2, (Option.some.inj e).symm⟩
    · have e2 : H b = none := if_neg c
      rw [e2] at e
      cases e
  have Hnot : ∀ b, b ≠ a → H b = none := fun b hb => if_neg fun c => hb c.1
  have hok : HOk P w H st.heap := fun b u e => by
    obtain ⟨rfl, _, rfl⟩ := Hcase b u e
    exact ⟨ha, by rw [List.length_map]; exact hl, vs, _, rv, ha⟩
  have hS : SqL K H a (ns.map V.int) := by
    cases q : K.lookup a with
    | none => exact .inl (.inr ⟨ob, if_pos ⟨rfl, q⟩⟩)
    | some o =>
      have e := KX a o q
      rw [ha] at e
      cases e
      exact .inr ⟨_, vs.toArray, _, q, rfl, rfl, rfl, by rw [List.size_toArray, len]; exact hl, by simpa using rv⟩
  have dic : ∀ {b : Addr} {m : Str → Option Value}, st.heap.Ns b m → (hidT st.heap H).Ns b m := by
    rintro b m ⟨o, es, ep, e, d, r⟩
    refine ⟨o, es, ep, hidT_get e (Hnot b fun z => ?_), d, r⟩
    rw [z, ha] at e
    cases e
    exact nomatch (show Data.seq vs.toArray _ = Data.dict es ep from d)
  have KB : K.In (hidT st.heap H) := fun b o e => hidT_get (KX b o e) (by
    cases q : H b with
    | none => rfl
    | some u =>
      obtain ⟨z, y, _⟩ := Hcase b u q
      rw [z, y] at e
      cases e)
  obtain ⟨mc, l1, l2⟩ := hlim
  have e0 : Env0 P w K mg (hidT st.heap H) callerA [] st H :=
    ⟨rfl, ⟨KB, dic hns, ⟨mb, dic hb, hbb⟩, ⟨mc, dic l1, l2⟩⟩, fun b o e => of_hidT e, Nat.le_of_eq (hidT_size _ _), trivial, fun b z => absurd (show b ∈ ([] : List Addr) from z) (by simp), hok, .of_eq hg⟩
  refine codeAny_mono ((F _ KB (dic hns)).run callerA [] st H ⟨[.ref a], []⟩ [.ref a] [.ref a] _ rfl hr e0 (hbind st (.ref a)) (.cons rfl .nil) (hsp H hS)) fun r s' h => ?_
  cases r with
  | error e => exact False.elim h
  | ok fl =>
    cases fl with
    | next => exact False.elim h
    | brk => exact False.elim h
    | cont => exact False.elim h
    | ret u =>
      obtain ⟨v, H', os, bare, un, hok', ru, q⟩ := h
      obtain rfl : v = V.bl true := q
      obtain rfl : u = Value.bool true := ru
      refine ⟨rfl, OldK.of_keep fun b o e => ?_, os, bare⟩
      cases c : H b with
      | none => exact un.keep b o e c (by intro z; exact absurd (show b ∈ ([] : List Addr) from z) (by simp)) (by simp)
      | some u2 =>
        obtain ⟨z, y, rfl⟩ := Hcase b u2 c
        obtain ⟨e1, _⟩ := hok b _ c
        obtain ⟨e2, _⟩ := hok' b _ (un.frzs b ob _ c)
        rw [e] at e1
        cases e1
        exact e2
theorem walk_ofG {l : PySem.W.OpenLaw} {n k : Nat} {q : Program} {loose : List Str} {XP : (Str → Option Value) → Heap → Prop} {YP : World → Heap → Prop} {d : DefRec} {x : Str} (hn : l.most = some n) (hn2 : n ≤ sizeLine) (hdf : d.params.defaults = []) (hr : Room k callerA)
    (F : ∀ (w : World) (mg : Str → Option Value) (fa : Addr) (h : Heap), YP w h → h.Ns mainGlobals mg → mg d.name = some (.ref fa) → ∃ (K : PySem.W.Frag) (fd : FuncData) (sp : Sp), K.In h ∧ (∀ (s : Shared) (u : Value), BindsTo s fd ⟨[u], []⟩ [(x, u)]) ∧
      (∀ (H : Hp) (a : Addr) (ns : List Int), ns.length ≤ n → SqL K H a (ns.map V.int) → sp [.ref a] H (fun v _ => v = .bl true) E0) ∧ ∀ base : Heap, K.In base → base.Ns mainGlobals mg → FnG l.prog w K mg base k fa fd [x] sp) :
    PySem.W.WalkO q loose XP YP l.row.toRowW d [] (fun f vs => PySem.call f vs) := by
  refine Att.attach_call hn hdf fun w s0 s1 mg mb fa o pm cd doc a vs ns G Y ho hd hcd hmg hobj hints hlen hg => ?_
  obtain ⟨K, fd, sp, KX, hb, hsp, hF⟩ := F w mg fa _ Y G.T.g hmg
  exact law_callG KX G.T.g G.T.b G.T.builtins G.T.nolimit hg hobj hints (Nat.le_trans hlen hn2) hr hF hb fun H hS => hsp H a ns hlen hS
end K16
namespace K16
open PySem PySem.Spec PyProof.Rows L2
/-! ### the text by places -/
def top (i : Nat) : Stmt := PySem.Challenge.pw_harmonicdues_k16_whole_greatest_debts_an.main.body.getD i (.Pass ⟨0, 0, 0, 0⟩)
abbrev s_is_integer : Stmt := top 1
abbrev s_is_within : Stmt := top 2
abbrev s_is_pair : Stmt := top 3
abbrev s_divisor : Stmt := top 11
abbrev s_lowest : Stmt := top 12
abbrev s_plus : Stmt := top 13
abbrev s_times : Stmt := top 14
abbrev s_is_less : Stmt := top 15
abbrev s_total : Stmt := top 16
abbrev s_is_fraction : Stmt := top 17
abbrev s_check_people : Stmt := top 20
abbrev s_harmonic : Stmt := top 23
abbrev s_check_beats : Stmt := top 24
abbrev s_most : Stmt := top 25
abbrev s_are_debts : Stmt := top 27
abbrev s_check_debts : Stmt := top 28
abbrev s_check_many : Stmt := top 29
abbrev s_by_debts : Stmt := top 30
abbrev s_lot_of : Stmt := top 31
abbrev s_sum_of : Stmt := top 32
abbrev s_greatest : Stmt := top 33
abbrev s_allowed_to : Stmt := top 34
abbrev s_allowed : Stmt := top 35
abbrev s_law_tape : Stmt := top 37
abbrev s_law_pick : Stmt := top 38
abbrev s_law_any : Stmt := top 39
abbrev s_law_same : Stmt := top 40
abbrev s_law_divisor : Stmt := top 41
abbrev s_law_frac : Stmt := top 42
abbrev s_law_plus : Stmt := top 43
abbrev s_law_minus : Stmt := top 44
abbrev s_law_is_below : Stmt := top 45
abbrev s_law_sum : Stmt := top 46
abbrev s_law_shares : Stmt := top 47
abbrev s_law_row : Stmt := top 48
abbrev s_law_grown : Stmt := top 49
abbrev s_law_paid : Stmt := top 50
abbrev s_law_greatest : Stmt := top 51
abbrev s_law_ranked : Stmt := top 52
abbrev s_law_lot : Stmt := top 53
abbrev s_law_allowed : Stmt := top 54
abbrev s_law_debts : Stmt := top 55
abbrev s_law_allowed_right : Stmt := top 56
abbrev s_law : Stmt := top 57
end K16
namespace K16
open PySem PySem.Spec PyProof.Rows L2
/-! ### heaps -/
theorem seqT {K : PySem.W.Frag} {H H' : Hp} {a : Addr} {xs : List V} (e : Same H H') (h : SqT K H a xs) : SqT K H' a xs := by
  rcases h with (h | ⟨o, h⟩) | h
  · exact .inl (.inl (e _ _ h))
  · exact .inl (.inr ⟨o, e _ _ h⟩)
  · exact .inr h
theorem same_new {H : Hp} {p : Addr} {o : HO} (h : H p = none) : Same H (upd H p o) := fun b x e => by
  rw [upd_ne (ne_of_none e h)]
  exact e
/-- a list of one's own (new behind H0) is written -/
theorem same_own {H0 H : Hp} {p : Addr} {o : HO} (s : Same H0 H) (h : H0 p = none) : Same H0 (upd H p o) := fun b x e => by
  rw [upd_ne (ne_of_none e h)]
  exact s b x e
/-- tuples stand as they stood -/
def TK (K : PySem.W.Frag) (H H' : Hp) : Prop := ∀ a xs, SqT K H a xs → SqT K H' a xs
theorem tk_same {K : PySem.W.Frag} {H H' : Hp} (e : Same H H') : TK K H H' := fun _ _ => seqT e
theorem TK.refl (K : PySem.W.Frag) (H : Hp) : TK K H H := fun _ _ h => h
theorem TK.trans {K : PySem.W.Frag} {H H1 H2 : Hp} (a : TK K H H1) (b : TK K H1 H2) : TK K H H2 := fun c xs h => b c xs (a c xs h)
theorem tk_lst {K : PySem.W.Frag} {H : Hp} {p : Addr} {l : List V} {o : HO} (h : H p = some (.lst l)) : TK K H (upd H p o) := fun a xs q => by
  rcases q with (q | ⟨ob, q⟩) | q
  · have n : a ≠ p := ne_of q h (by intro z; cases z)
    exact .inl (.inl (by rw [upd_ne n]; exact q))
  · have n : a ≠ p := ne_of q h (by intro z; cases z)
    exact .inl (.inr ⟨ob, by rw [upd_ne n]; exact q⟩)
  · exact .inr q
/-- all but the list at t stand as they stood -/
def Keep (t : Addr) (H H' : Hp) : Prop := ∀ b o, H b = some o → b ≠ t → H' b = some o
theorem Keep.refl (t : Addr) (H : Hp) : Keep t H H := fun _ _ h _ => h
theorem Keep.trans {t : Addr} {H H1 H2 : Hp} (a : Keep t H H1) (b : Keep t H1 H2) : Keep t H H2 := fun c o h n => b c o (a c o h n) n
theorem Keep.of {t : Addr} {H H' : Hp} (s : Same H H') : Keep t H H' := fun c o h _ => s c o h
theorem Keep.own {t : Addr} {H0 H : Hp} {p : Addr} {o : HO} (s : Keep t H0 H) (h : H0 p = none) : Keep t H0 (upd H p o) := fun b x e n => by
  rw [upd_ne (ne_of_none e h)]
  exact s b x e n
theorem Keep.self {t : Addr} {H0 H : Hp} {o : HO} (s : Keep t H0 H) : Keep t H0 (upd H t o) := fun b x e n => by
  rw [upd_ne n]
  exact s b x e n
theorem Keep.free {t : Addr} {H H' : Hp} (e : Keep t H H') {p : Addr} (n : p ≠ t) (h : H' p = none) : H p = none := by
  cases q : H p with
  | none => rfl
  | some o =>
    rw [e p o q n] at h
    cases h
theorem Keep.lst {t : Addr} {H H' : Hp} {p : Addr} {l : List V} (e : Keep t H H') (h : H p = some (.lst l)) (n : p ≠ t) : H' p = some (.lst l) := e p _ h n
theorem tk_keep {K : PySem.W.Frag} {t : Addr} {H H' : Hp} {l : List V} (e : Keep t H H') (h : H t = some (.lst l)) : TK K H H' := fun a xs q => by
  rcases q with (q | ⟨ob, q⟩) | q
  · exact .inl (.inl (e _ _ q (ne_of q h (by intro z; cases z))))
  · exact .inl (.inr ⟨ob, e _ _ q (ne_of q h (by intro z; cases z))⟩)
  · exact .inr q
/-! ### data in the heap -/
def FrAt (K : PySem.W.Frag) (H : Hp) (a : Addr) (q : Rat) : Prop := SqT K H a [.int q.num, .int (q.den : Int)]
structure FrAll (K : PySem.W.Frag) (H : Hp) (as : List Addr) (qs : List Rat) : Prop where
  len : as.length = qs.length
  get : ∀ (i : Nat) (a : Addr) (q : Rat), as[i]? = some a → qs[i]? = some q → FrAt K H a q
def refs (as : List Addr) : List V := as.map V.ref
theorem refs_len (as : List Addr) : (refs as).length = as.length := List.length_map ..
theorem refs_get {as : List Addr} {i : Nat} {v : V} (h : (refs as)[i]? = some v) : ∃ a, as[i]? = some a ∧ v = .ref a := by
  unfold refs at h
  rw [List.getElem?_map] at h
  cases e : as[i]? with
  | none => rw [e] at h; cases h
  | some a => rw [e] at h; exact ⟨a, rfl, (Option.some.inj h).symm⟩
theorem refs_snoc (as : List Addr) (a : Addr) : refs as ++ [.ref a] = refs (as ++ [a]) := by
  unfold refs
  rw [List.map_append]
  rfl
def iv (ns : List Int) : List V := ns.map V.int
theorem iv_len (ns : List Int) : (iv ns).length = ns.length := List.length_map ..
theorem iv_get {ns : List Int} {i : Nat} {v : V} (h : (iv ns)[i]? = some v) : ∃ n, ns[i]? = some n ∧ v = .int n := by
  unfold iv at h
  rw [List.getElem?_map] at h
  cases e : ns[i]? with
  | none => rw [e] at h; cases h
  | some a => rw [e] at h; exact ⟨a, rfl, (Option.some.inj h).symm⟩
theorem get_iv {ns : List Int} {i : Nat} {n : Int} (h : ns[i]? = some n) : (iv ns)[i]? = some (.int n) := by
  unfold iv
  rw [List.getElem?_map, h]
  rfl
theorem iv_snoc (ns : List Int) (n : Int) : iv ns ++ [.int n] = iv (ns ++ [n]) := by
  unfold iv
  rw [List.map_append]
  rfl
/-- numbers as iv -/
def cs (ns : List Nat) : List Int := ns.map fun n : Nat => (n : Int)
theorem cs_len (ns : List Nat) : (cs ns).length = ns.length := List.length_map ..
theorem cs_get {ns : List Nat} {i : Nat} {n : Int} (h : (cs ns)[i]? = some n) : ∃ m : Nat, ns[i]? = some m ∧ n = (m : Int) := by
  unfold cs at h
  rw [List.getElem?_map] at h
  cases e : ns[i]? with
  | none => rw [e] at h; cases h
  | some a => rw [e] at h; exact ⟨a, rfl, (Option.some.inj h).symm⟩
theorem get_cs {ns : List Nat} {i : Nat} {n : Nat} (h : ns[i]? = some n) : (cs ns)[i]? = some (n : Int) := by
  unfold cs
  rw [List.getElem?_map, h]
  rfl
def DbAt (K : PySem.W.Frag) (H : Hp) (a : Addr) (qs : List Rat) : Prop := ∃ as, SqT K H a (refs as) ∧ FrAll K H as qs
/-- a list of fractions that grows -/
def LsAt (K : PySem.W.Frag) (H : Hp) (d : Addr) (qs : List Rat) : Prop := ∃ as, H d = some (.lst (refs as)) ∧ FrAll K H as qs
section
variable {K : PySem.W.Frag} {H H' : Hp}
theorem FrAt.tk (k : TK K H H') {a : Addr} {q : Rat} (h : FrAt K H a q) : FrAt K H' a q := k _ _ h
theorem FrAll.tk (k : TK K H H') {as : List Addr} {qs : List Rat} (h : FrAll K H as qs) : FrAll K H' as qs := ⟨h.len, fun i a q e1 e2 => (h.get i a q e1 e2).tk k⟩
theorem DbAt.tk (k : TK K H H') {a : Addr} {qs : List Rat} (h : DbAt K H a qs) : DbAt K H' a qs := h.elim fun as h => ⟨as, k _ _ h.1, h.2.tk k⟩
theorem FrAll.nil : FrAll K H [] [] := ⟨rfl, fun i a q e => by simp at e⟩
theorem FrAll.snoc {as : List Addr} {qs : List Rat} {a : Addr} {q : Rat} (h : FrAll K H as qs) (g : FrAt K H a q) : FrAll K H (as ++ [a]) (qs ++ [q]) := by
  refine ⟨by rw [List.length_append, List.length_append, h.len]; rfl, fun i b r e1 e2 => ?_⟩
  by_cases hi : i < as.length
  · rw [List.getElem?_append_left hi] at e1
    rw [List.getElem?_append_left (by rw [← h.len]; exact hi)] at e2
    exact h.get i b r e1 e2
  · rw [List.getElem?_append_right (by omega)] at e1
    rw [List.getElem?_append_right (by rw [← h.len]; omega), ← h.len] at e2
    cases hk : i - as.length with
    | zero =>
      rw [hk] at e1 e2
      cases e1
      cases e2
      exact g
    | succ k =>
      rw [hk] at e1
      simp at e1
theorem FrAll.at_ {as : List Addr} {qs : List Rat} (h : FrAll K H as qs) {i : Nat} {a : Addr} (e : as[i]? = some a) : ∃ q, qs[i]? = some q ∧ FrAt K H a q := by
  obtain ⟨hi, _⟩ := List.getElem?_eq_some_iff.mp e
  have hq : i < qs.length := by rw [← h.len]; exact hi
  exact ⟨qs[i], List.getElem?_eq_getElem hq, h.get i a _ e (List.getElem?_eq_getElem hq)⟩
theorem FrAll.of_ {as : List Addr} {qs : List Rat} (h : FrAll K H as qs) {i : Nat} {q : Rat} (e : qs[i]? = some q) : ∃ a, as[i]? = some a ∧ FrAt K H a q := by
  obtain ⟨hi, _⟩ := List.getElem?_eq_some_iff.mp e
  have hq : i < as.length := by rw [h.len]; exact hi
  exact ⟨as[i], List.getElem?_eq_getElem hq, h.get i _ q (List.getElem?_eq_getElem hq) e⟩
/-- one more is appended -/
theorem LsAt.snoc {d r : Addr} {qs : List Rat} {q : Rat} {acc : List V} (h : LsAt K H d qs) (ha : H d = some (.lst acc)) (g : FrAt K H r q) : LsAt K (upd H d (.lst (acc ++ [.ref r]))) d (qs ++ [q]) := by
  obtain ⟨as, e, f⟩ := h
  rw [e] at ha
  cases ha
  have k : TK K H (upd H d (.lst (refs as ++ [.ref r]))) := tk_lst e
  exact ⟨as ++ [r], by rw [upd_same, refs_snoc], (f.tk k).snoc (g.tk k)⟩
theorem LsAt.lst {d : Addr} {qs : List Rat} (h : LsAt K H d qs) : ∃ acc, H d = some (.lst acc) ∧ acc.length = qs.length := by
  obtain ⟨as, e, f⟩ := h
  exact ⟨_, e, by rw [refs_len, f.len]⟩
theorem LsAt.same {d : Addr} {qs : List Rat} (s : Same H H') (h : LsAt K H d qs) : LsAt K H' d qs := h.elim fun as h => ⟨as, s _ _ h.1, h.2.tk (tk_same s)⟩
theorem LsAt.new {d : Addr} : LsAt K (upd H d (.lst [])) d [] := ⟨[], upd_same, .nil⟩
/-- a tuple's type -/
theorem tup_ty {a : Addr} {xs : List V} (h : SqT K H a xs) : TyX K H (.ref a) (.type "tuple") := by
  rcases h with (h | ⟨o, h⟩) | h
  · exact .base (.tup h)
  · exact .fTuple h
  · obtain ⟨o, its, n, h1, h2, _⟩ := h
    exact .kTuple h1 h2
end
/-! ### a def by its name -/
structure Dn (P : Program) (w : World) (K : PySem.W.Frag) (mg : Str → Option Value) (base : Heap) (k : Nat) (x : Str) (ps : List Str) (sp : Sp) : Prop where
  ex : ∃ (f : Addr) (fd : FuncData), FnOk P w K mg base CX0 k f fd ps sp ∧ mg x = some (.ref f) ∧ PySem.W.keepIn K (.ref f) = true ∧ Binds K fd ps []
theorem Dn.mono {P : Program} {w : World} {K : PySem.W.Frag} {mg : Str → Option Value} {base : Heap} {j k : Nat} {x : Str} {ps : List Str} {sp : Sp} (D : Dn P w K mg base j x ps sp) (h : j ≤ k) : Dn P w K mg base k x ps sp :=
  D.ex.elim fun f D => D.elim fun fd D => ⟨f, fd, D.1.mono h, D.2⟩
theorem pe_dn {X : Cx} {k : Nat} {x : Str} {ps : List Str} {sp : Sp} {p pos : Pos} {e : Expr} {es : List Expr} {t : TA} (D : Dn X.prog X.w X.K X.mg X.base k x ps sp) (hr : Room k X.A) (ha : PA X (e :: es) t) (hg : Gl X x := by rfl)
    (hdb : (x == ("__debug__" : Str)) = false := by decide) (h1 : starEach (e :: es) X.env = (false, eval e X.env) :: starEach es X.env := by rfl) (h2 : (backTo pos (starEach es X.env)).any (·.1) = false := by rfl) :
    PE X (.Call (.Name x p) (e :: es) [] pos) (tCall sp [] E0 t) := by
  obtain ⟨f, fd, F, hm, hk, hb⟩ := D.ex
  exact pe_call F hr hg hm hk hb .nil pass0 ha hdb h1 h2
/-- where a def of the text stands -/
structure Def (K : PySem.W.Frag) (mg : Str → Option Value) (x : Str) (s : Stmt) : Prop where
  ex : ∃ (f : Addr) (fd : FuncData), FunD K x x (defArgs s) (defBody s) (defScope s) [] [] f fd ∧ mg x = some (.ref f)
theorem Dn.mk' {P : Program} {w : World} {K : PySem.W.Frag} {mg : Str → Option Value} {base : Heap} {k : Nat} {x : Str} {s : Stmt} {N ps : List Str} {sp : Sp} (F : Def K mg x s) (S : FnScope N ps (defScope s))
    (hb : ∀ (kV doc pm : Value) (an : Option Addr) (cdv ct : Value) (us : List Value), us.length = ps.length → bindArgs (PySem.W.fnOf x x (defArgs s) (defBody s) (defScope s) .none kV doc pm an cdv ct) ⟨us, []⟩ = pure (ps.zip us))
    (len : ∀ vs H Q E, sp vs H Q E → vs.length = ps.length)
    (hB : ∀ (f : Addr) (cdv : Value) (A : Around) (out : List Env) (st : Shared) (H : Hp) (vs : List V) (Q : VK) (E : XK), Room k (A.deeper (envOfC x (defScope s) st.heap.objs.size f cdv)) → sp vs H Q E →
      ∃ t, PSs (cxOf CX0 P w K mg base N x (defScope s) f cdv A out st H E).nox (defBody s) t ∧ t { nx := fun _ H' => Q .non H', rt := Q } (start N vs) H) : Dn P w K mg base (k + 1) x ps sp := by
  obtain ⟨f, fd, F, hm⟩ := F.ex
  exact ⟨f, fd, F.ok S len fun cdv A out st H vs Q E hr h => (hB f cdv A out st H vs Q E hr h).elim fun t c => ⟨t, c.1.nox, c.2⟩, hm, F.kp, F.bindsN hb⟩
/-- what the module's other names hold -/
structure Txt (K : PySem.W.Frag) (mg : Str → Option Value) : Prop where
  abs : mg "abs" = none
  all : mg "all" = none
  bool : mg "bool" = none
  enumerate : mg "enumerate" = none
  int : mg "int" = none
  isinstance : mg "isinstance" = none
  len : mg "len" = none
  list : mg "list" = none
  min : mg "min" = none
  range : mg "range" = none
  repr : mg "repr" = none
  sorted : mg "sorted" = none
  sum : mg "sum" = none
  tuple : mg "tuple" = none
  zip : mg "zip" = none
  people : ∃ t, mg "MOST_PEOPLE" = some (.int 12 t)
  beats : ∃ t, mg "MOST_BEATS" = some (.int 1000000000 t)
  nought : ∃ a, mg "NOUGHT" = some (.ref a) ∧ ∀ H, FrAt K H a 0
end K16
namespace K16
open PySem PySem.Spec PyProof.Rows L2
/-! ### small readings -/
theorem bl_eq {Q : VK} {b c : Bool} {H : Hp} (e : b = c) (k : Q (.bl c) H) : Q (.bl b) H := by
  rw [e]
  exact k
theorem int_eq {Q : VK} {b c : Int} {H : Hp} (e : b = c) (k : Q (.int c) H) : Q (.int b) H := by
  rw [e]
  exact k
section
variable {K : PySem.W.Frag} {H : Hp} {Q : VK} {a : Addr} {q : Rat}
theorem rd0 (h : FrAt K H a q) (k : Q (.int q.num) H) : rIxT K (.ref a) (.int 0) H Q := ⟨a, _, 0, _, rfl, rfl, h, rfl, k⟩
theorem rd1 (h : FrAt K H a q) (k : Q (.int (q.den : Int)) H) : rIxT K (.ref a) (.int 1) H Q := ⟨a, _, 1, _, rfl, rfl, h, rfl, k⟩
theorem Sz.pos {n : Nat} {q : Rat} (h : Sz n q) : 0 < n := by
  have h1 := h.2
  have h2 := q.den_pos
  cases n with
  | zero => omega
  | succ n => exact Nat.succ_pos n
theorem mw {i j : Int} {m n : Nat} (h1 : i.natAbs < 2 ^ m) (h2 : j.natAbs < 2 ^ n) (p1 : 0 < m) (p2 : 0 < n) (l1 : m ≤ 9000) (l2 : n ≤ 9000) : CMulW i j := wide_mul h1 h2 p1 p2 (by omega)
theorem gcd_pos {t b : Int} (hb : 0 < b) : (0 : Int) < (Int.gcd t b : Int) := by
  have : 0 < Int.gcd t b := Int.gcd_pos_of_ne_zero_right t (by omega)
  omega
theorem gcd_small {t b : Int} {n : Nat} (hb : 0 < b) (h : b.natAbs < 2 ^ n) : ((Int.gcd t b : Nat) : Int).natAbs < 2 ^ n := by
  have h1 : Int.gcd t b ∣ b.natAbs := Int.gcd_dvd_natAbs_right t b
  have h2 := Nat.le_of_dvd (by omega) h1
  rw [Int.natAbs_natCast]
  omega
end
section
variable {P : Program} {w : World} {K : PySem.W.Frag} {mg : Str → Option Value} {base : Heap}
/-! ### is_integer, is_within, is_pair -/
def spInteger : Sp := fun vs H Q _ => ∃ i : Int, vs = [.int i] ∧ Q (.bl true) H
theorem sc_integer : FnScope ["thing"] ["thing"] (defScope s_is_integer) := ⟨rfl, rfl, rfl, by decide +kernel, rfl, by decide +kernel, by decide +kernel⟩
theorem ok_integer (F : Def K mg "is_integer" s_is_integer) (T : Txt K mg) : Dn P w K mg base 1 "is_integer" ["thing"] spInteger := by
  refine Dn.mk' F sc_integer (fun _ _ _ _ _ _ us hl => match us, hl with | [_], _ => rfl) (fun vs H Q E h => by obtain ⟨_, rfl, _⟩ := h; rfl) (fun f cdv A out st H vs Q E hr h => ?_)
  obtain ⟨i, rfl, k⟩ := h
  refine ⟨_, pss_one (ps_ret (pe_and (pe_callB call_isi (by rfl) T.isinstance boot_isinstance (pa_cons (pv 0) (pa_cons (pe_bltn (v := .ty "int") (by rfl) T.int (by decide +kernel) rfl) pa_nil)))
    (pe_one (pe_not (pe_callB call_isi (by rfl) T.isinstance boot_isinstance (pa_cons (pv 0) (pa_cons (pe_bltn (v := .ty "bool") (by rfl) T.bool (by decide +kernel) rfl) pa_nil))))))), ?_⟩
  refine ⟨_, rfl, _, _, _, _, true, rfl, .ty "int", .base (.int i), kit_ty (by decide +kernel), true, rfl, iteT ?_⟩
  exact ⟨_, rfl, _, _, _, _, false, rfl, .ty "bool", .base (.int i), kit_ty (by decide +kernel), false, rfl, k⟩
def spWithin : Sp := fun vs H Q _ => ∃ i lo hi : Int, vs = [.int i, .int lo, .int hi] ∧ lo ≤ i ∧ i ≤ hi ∧ Q (.bl true) H
theorem sc_within : FnScope ["thing", "low", "high"] ["thing", "low", "high"] (defScope s_is_within) := ⟨rfl, rfl, rfl, by decide +kernel, rfl, by decide +kernel, by decide +kernel⟩
theorem ok_within (F : Def K mg "is_within" s_is_within) (D : Dn P w K mg base 1 "is_integer" ["thing"] spInteger) : Dn P w K mg base 2 "is_within" ["thing", "low", "high"] spWithin := by
  refine Dn.mk' F sc_within (fun _ _ _ _ _ _ us hl => match us, hl with | [_, _, _], _ => rfl) (fun vs H Q E h => by obtain ⟨_, _, _, rfl, _⟩ := h; rfl) (fun f cdv A out st H vs Q E hr h => ?_)
  obtain ⟨i, lo, hi, rfl, h1, h2, k⟩ := h
  refine ⟨_, pss_one (ps_ret (pe_and (pe_dn D hr (pa_cons (pv 0) pa_nil)) (pe_one (pe_chain op_le op_le (pv 1) (pv 0) (pv 2))))), ?_⟩
  refine ⟨_, rfl, i, rfl, true, rfl, iteT ?_⟩
  refine ⟨_, rfl, _, rfl, lo, i, rfl, rfl, true, congrArg V.bl (decide_eq_true h1), iteT ?_⟩
  exact ⟨_, rfl, i, hi, rfl, rfl, bl_eq (decide_eq_true h2) k⟩
def spPair (K : PySem.W.Frag) : Sp := fun vs H Q _ => ∃ a x y, vs = [.ref a] ∧ SqT K H a [x, y] ∧ Q (.bl true) H
theorem sc_pair : FnScope ["thing"] ["thing"] (defScope s_is_pair) := ⟨rfl, rfl, rfl, by decide +kernel, rfl, by decide +kernel, by decide +kernel⟩
theorem ok_pair (F : Def K mg "is_pair" s_is_pair) (T : Txt K mg) : Dn P w K mg base 1 "is_pair" ["thing"] (spPair K) := by
  refine Dn.mk' F sc_pair (fun _ _ _ _ _ _ us hl => match us, hl with | [_], _ => rfl) (fun vs H Q E h => by obtain ⟨_, _, _, rfl, _⟩ := h; rfl) (fun f cdv A out st H vs Q E hr h => ?_)
  obtain ⟨a, x, y, rfl, h1, k⟩ := h
  refine ⟨_, pss_one (ps_ret (pe_and (pe_callB call_isi (by rfl) T.isinstance boot_isinstance (pa_cons (pv 0) (pa_cons (pe_bltn (v := .ty "tuple") (by rfl) T.tuple (by decide +kernel) rfl) pa_nil)))
    (pe_one (pe_cmpR op_eq (pe_callB call_len_seq (by rfl) T.len PySem.boot_len (pa_cons (pv 0) pa_nil)) pe_int (nomark _))))), ?_⟩
  refine ⟨_, rfl, _, _, _, _, true, rfl, .ty "tuple", tup_ty h1, kit_ty (by decide +kernel), true, rfl, iteT ?_⟩
  exact ⟨_, rfl, a, [x, y], rfl, .inr h1, rfl, k⟩
/-! ### divisor, lowest -/
def spDivisor : Sp := fun vs H Q _ => ∃ a b : Int, vs = [.int a, .int b] ∧ 0 ≤ b ∧ Q (.int (Int.gcd a b : Int)) H
theorem sc_divisor : FnScope ["one", "other"] ["one", "other"] (defScope s_divisor) := ⟨rfl, rfl, rfl, by decide +kernel, rfl, by decide +kernel, by decide +kernel⟩
theorem ok_divisor (F : Def K mg "divisor" s_divisor) (T : Txt K mg) : Dn P w K mg base 1 "divisor" ["one", "other"] spDivisor := by
  refine Dn.mk' F sc_divisor (fun _ _ _ _ _ _ us hl => match us, hl with | [_, _], _ => rfl) (fun vs H Q E h => by obtain ⟨_, _, rfl, _⟩ := h; rfl) (fun f cdv A out st H vs Q E hr h => ?_)
  obtain ⟨a, b, rfl, h0, k⟩ := h
  refine ⟨_, pss_cons (ps_while PassesOwn.never (pt_cmpR op_ne (pv 1) pe_int (nomark _)) (pss_one (ps_par (i := 0) (j := 1) rfl sc_divisor.nd rfl rfl (by decide) rfl rfl (pa_cons (pv 1) (pa_cons (pe_op op_modN (pv 0) (pv 1)) pa_nil)) (by rfl))))
    (pss_one (ps_ret (pe_callB call_abs (by rfl) T.abs (by decide +kernel) (pa_cons (pv 0) pa_nil)))), ?_⟩
  refine ⟨fun m σ H' => ∃ x y : Int, σ = [some (.int x), some (.int y)] ∧ H' = H ∧ 0 ≤ y ∧ m = y.toNat ∧ Int.gcd x y = Int.gcd a b, ⟨_, a, b, rfl, rfl, h0, rfl, rfl⟩, ?_⟩
  rintro m σ H' ⟨x, y, rfl, rfl, hy, rfl, hg⟩
  refine ⟨_, rfl, rfl, _, rfl, ?_⟩
  by_cases c : y = 0
  · subst c
    refine iteF ?_
    refine ⟨_, rfl, x, rfl, ?_⟩
    rw [← gcd_end, hg]
    exact k
  · have e : (!decide (V.int y = V.int 0)) = true := by
      rw [decide_eq_false (fun z => c (V.int.inj z))]
      rfl
    rw [e]
    refine iteT ⟨fun σ' H2 => ∃ x' y' : Int, σ' = [some (.int x'), some (.int y')] ∧ H2 = H' ∧ 0 ≤ y' ∧ y'.toNat < y.toNat ∧ Int.gcd x' y' = Int.gcd a b, ?_, ?_⟩
    · rintro σ' H2 ⟨x', y', e1, e2, e3, e4, e5⟩
      exact ⟨_, e4, x', y', e1, e2, e3, rfl, e5⟩
    · obtain ⟨r1, r2⟩ := rem_less (a := x) hy c
      exact ⟨_, rfl, _, rfl, _, rfl, x, y, rfl, rfl, c, _, _, rfl, y, x.fmod y, rfl, rfl, r1, r2, (gcd_turn x y).trans hg⟩
def spLowest (K : PySem.W.Frag) : Sp := fun vs H Q _ => ∃ (t b : Int) (n : Nat), vs = [.int t, .int b] ∧ 0 < b ∧ n ≤ 9000 ∧ 0 < n ∧ b.natAbs < 2 ^ n ∧ ∀ H' r, Same H H' → FrAt K H' r (Rat.divInt t b) → Q (.ref r) H'
theorem sc_lowest : FnScope ["top", "bottom", "by"] ["top", "bottom"] (defScope s_lowest) := ⟨rfl, rfl, rfl, by decide +kernel, rfl, by decide +kernel, by decide +kernel⟩
theorem ok_lowest (F : Def K mg "lowest" s_lowest) (D : Dn P w K mg base 1 "divisor" ["one", "other"] spDivisor) : Dn P w K mg base 2 "lowest" ["top", "bottom"] (spLowest K) := by
  refine Dn.mk' F sc_lowest (fun _ _ _ _ _ _ us hl => match us, hl with | [_, _], _ => rfl) (fun vs H Q E h => by obtain ⟨_, _, _, rfl, _⟩ := h; rfl) (fun f cdv A out st H vs Q E hr h => ?_)
  obtain ⟨t, b, n, rfl, hb, hn, hn0, h1, k⟩ := h
  refine ⟨_, pss_cons (ps_set (i := 2) sc_lowest.nd rfl (.inl rfl) (pe_dn D hr (pa_cons (pv 0) (pa_cons (pv 1) pa_nil))))
    (pss_one (ps_ret (pe_tup (pa_cons (pe_op op_fdivW (pv 0) (pv 2)) (pa_cons (pe_op op_fdivW (pv 1) (pv 2)) pa_nil))))), ?_⟩
  have w1 : CDivW t (Int.gcd t b : Int) := wide_div (gcd_pos hb) (gcd_small hb h1) hn0 hn
  refine ⟨_, rfl, _, rfl, t, b, rfl, Int.le_of_lt hb, ?_⟩
  refine ⟨_, rfl, _, rfl, _, _, rfl, rfl, w1, _, rfl, _, rfl, _, _, rfl, rfl, w1, (by show 2 ≤ sizeLine; decide), fun p hp => ?_⟩
  refine k _ p (same_new hp) ?_
  unfold FrAt
  rw [div_num hb, div_den hb]
  exact SqT.of upd_same
end
end K16
namespace K16
open PySem PySem.Spec PyProof.Rows L2
section
variable {P : Program} {w : World} {K : PySem.W.Frag} {mg : Str → Option Value} {base : Heap}
/-! ### plus, times, is_less -/
def spPlus (K : PySem.W.Frag) : Sp := fun vs H Q _ => ∃ (a b : Addr) (p q : Rat) (m n : Nat), vs = [.ref a, .ref b] ∧ FrAt K H a p ∧ FrAt K H b q ∧ Sz m p ∧ Sz n q ∧ m ≤ 4000 ∧ n ≤ 4000 ∧ ∀ H' r, Same H H' → FrAt K H' r (p + q) → Q (.ref r) H'
theorem sc_plus : FnScope ["one", "other"] ["one", "other"] (defScope s_plus) := ⟨rfl, rfl, rfl, by decide +kernel, rfl, by decide +kernel, by decide +kernel⟩
theorem ok_plus (F : Def K mg "plus" s_plus) (D : Dn P w K mg base 2 "lowest" ["top", "bottom"] (spLowest K)) : Dn P w K mg base 3 "plus" ["one", "other"] (spPlus K) := by
  refine Dn.mk' F sc_plus (fun _ _ _ _ _ _ us hl => match us, hl with | [_, _], _ => rfl) (fun vs H Q E h => by obtain ⟨_, _, _, _, _, _, rfl, _⟩ := h; rfl) (fun f cdv A out st H vs Q E hr h => ?_)
  obtain ⟨a, b, p, q, m, n, rfl, ha, hb, sp, sq, hm, hn, k⟩ := h
  refine ⟨_, pss_one (ps_ret (pe_dn D hr (pa_cons (pe_op op_add (pe_op op_mulW (pe_ix ix_tup (pv 0) pe_int (fun _ _ => rfl)) (pe_ix ix_tup (pv 1) pe_int (fun _ _ => rfl)))
    (pe_op op_mulW (pe_ix ix_tup (pv 1) pe_int (fun _ _ => rfl)) (pe_ix ix_tup (pv 0) pe_int (fun _ _ => rfl)))) (pa_cons (pe_op op_mulW (pe_ix ix_tup (pv 0) pe_int (fun _ _ => rfl)) (pe_ix ix_tup (pv 1) pe_int (fun _ _ => rfl))) pa_nil)))), ?_⟩
  have pm := sp.pos
  have pn := sq.pos
  refine ⟨_, rfl, a, _, 0, _, rfl, rfl, ha, rfl, _, rfl, b, _, 1, _, rfl, rfl, hb, rfl, _, _, rfl, rfl, mw sp.1 sq.den pm pn (by omega) (by omega), ?_⟩
  refine ⟨_, rfl, b, _, 0, _, rfl, rfl, hb, rfl, _, rfl, a, _, 1, _, rfl, rfl, ha, rfl, _, _, rfl, rfl, mw sq.1 sp.den pn pm (by omega) (by omega), ?_⟩
  refine ⟨_, _, rfl, rfl, ?_⟩
  refine ⟨_, rfl, a, _, 1, _, rfl, rfl, ha, rfl, _, rfl, b, _, 1, _, rfl, rfl, hb, rfl, _, _, rfl, rfl, mw sp.den sq.den pm pn (by omega) (by omega), ?_⟩
  exact ⟨_, _, m + n, rfl, den_mul p q, by omega, by omega, plus_bot sp sq, fun H' r s g => k H' r s (by rw [← plus_eq p q]; exact g)⟩
def spTimes (K : PySem.W.Frag) : Sp := fun vs H Q _ => ∃ (a : Addr) (m : Int) (p : Rat) (n : Nat), vs = [.int m, .ref a] ∧ FrAt K H a p ∧ Sz n p ∧ n ≤ 4000 ∧ 0 ≤ m ∧ m ≤ 100 ∧ ∀ H' r, Same H H' → FrAt K H' r ((m : Rat) * p) → Q (.ref r) H'
theorem sc_times : FnScope ["many", "one"] ["many", "one"] (defScope s_times) := ⟨rfl, rfl, rfl, by decide +kernel, rfl, by decide +kernel, by decide +kernel⟩
theorem ok_times (F : Def K mg "times" s_times) (D : Dn P w K mg base 2 "lowest" ["top", "bottom"] (spLowest K)) : Dn P w K mg base 3 "times" ["many", "one"] (spTimes K) := by
  refine Dn.mk' F sc_times (fun _ _ _ _ _ _ us hl => match us, hl with | [_, _], _ => rfl) (fun vs H Q E h => by obtain ⟨_, _, _, _, rfl, _⟩ := h; rfl) (fun f cdv A out st H vs Q E hr h => ?_)
  obtain ⟨a, m, p, n, rfl, ha, sp, hn, h0, h1, k⟩ := h
  refine ⟨_, pss_one (ps_ret (pe_dn D hr (pa_cons (pe_op op_mul (pv 0) (pe_ix ix_tup (pv 1) pe_int (fun _ _ => rfl))) (pa_cons (pe_ix ix_tup (pv 1) pe_int (fun _ _ => rfl)) pa_nil)))), ?_⟩
  refine ⟨_, rfl, _, rfl, a, _, 0, _, rfl, rfl, ha, rfl, _, _, rfl, rfl, .inl ⟨by omega, by omega⟩, ?_⟩
  refine ⟨_, rfl, a, _, 1, _, rfl, rfl, ha, rfl, ?_⟩
  exact ⟨_, _, n, rfl, den_pos p, by omega, sp.pos, sp.den, fun H' r s g => k H' r s (by rw [← times_eq m p]; exact g)⟩
def spLess (K : PySem.W.Frag) : Sp := fun vs H Q _ => ∃ (a b : Addr) (p q : Rat) (m n : Nat), vs = [.ref a, .ref b] ∧ FrAt K H a p ∧ FrAt K H b q ∧ Sz m p ∧ Sz n q ∧ m ≤ 4000 ∧ n ≤ 4000 ∧ Q (.bl (decide (p < q))) H
theorem sc_is_less : FnScope ["one", "other"] ["one", "other"] (defScope s_is_less) := ⟨rfl, rfl, rfl, by decide +kernel, rfl, by decide +kernel, by decide +kernel⟩
theorem less_bl (p q : Rat) : decide (p.num * (q.den : Int) < q.num * (p.den : Int)) = decide (p < q) := decide_eq_decide.mpr (less_iff p q)
theorem ok_is_less (F : Def K mg "is_less" s_is_less) : Dn P w K mg base 1 "is_less" ["one", "other"] (spLess K) := by
  refine Dn.mk' F sc_is_less (fun _ _ _ _ _ _ us hl => match us, hl with | [_, _], _ => rfl) (fun vs H Q E h => by obtain ⟨_, _, _, _, _, _, rfl, _⟩ := h; rfl) (fun f cdv A out st H vs Q E hr h => ?_)
  obtain ⟨a, b, p, q, m, n, rfl, ha, hb, sp, sq, hm, hn, k⟩ := h
  refine ⟨_, pss_one (ps_ret (pe_cmpR op_lt (pe_op op_mulW (pe_ix ix_tup (pv 0) pe_int (fun _ _ => rfl)) (pe_ix ix_tup (pv 1) pe_int (fun _ _ => rfl)))
    (pe_op op_mulW (pe_ix ix_tup (pv 1) pe_int (fun _ _ => rfl)) (pe_ix ix_tup (pv 0) pe_int (fun _ _ => rfl))) (nomark _))), ?_⟩
  have pm := sp.pos
  have pn := sq.pos
  refine ⟨_, rfl, a, _, 0, _, rfl, rfl, ha, rfl, _, rfl, b, _, 1, _, rfl, rfl, hb, rfl, _, _, rfl, rfl, mw sp.1 sq.den pm pn (by omega) (by omega), ?_⟩
  refine ⟨_, rfl, b, _, 0, _, rfl, rfl, hb, rfl, _, rfl, a, _, 1, _, rfl, rfl, ha, rfl, _, _, rfl, rfl, mw sq.1 sp.den pn pm (by omega) (by omega), ?_⟩
  exact ⟨_, _, rfl, rfl, bl_eq (less_bl p q) k⟩
/-! ### total -/
def spTotal (K : PySem.W.Frag) : Sp := fun vs H Q _ => ∃ (a : Addr) (as : List Addr) (qs : List Rat) (n : Nat), vs = [.ref a] ∧ (SqT K H a (refs as) ∨ SqL K H a (refs as)) ∧ FrAll K H as qs ∧ (∀ q ∈ qs, Sz n q) ∧ qs.length ≤ 12 ∧ n ≤ 300 ∧ ∀ H' r, Same H H' → FrAt K H' r (tot qs) → Q (.ref r) H'
theorem sc_total : FnScope ["some", "found", "one"] ["some"] (defScope s_total) := ⟨rfl, rfl, rfl, by decide +kernel, rfl, by decide +kernel, by decide +kernel⟩
theorem tot_size {qs : List Rat} {n i : Nat} (h : ∀ q ∈ qs, Sz n q) (hl : qs.length ≤ 12) (hn : n ≤ 300) : Sz 3700 (tot (qs.take i)) := by
  refine (Sz.totTake (i := i) h hl).mono ?_
  omega
def TotInv (K : PySem.W.Frag) (a : Addr) (qs : List Rat) (H : Hp) : Nat → L2.St → Hp → Prop := fun i σ H' => ∃ (r : Addr) (y : Option V), σ = [some (.ref a), some (.ref r), y] ∧ Same H H' ∧ FrAt K H' r (tot (qs.take i))
theorem ok_total (F : Def K mg "total" s_total) (T : Txt K mg) (D : Dn P w K mg base 3 "plus" ["one", "other"] (spPlus K)) : Dn P w K mg base 4 "total" ["some"] (spTotal K) := by
  refine Dn.mk' F sc_total (fun _ _ _ _ _ _ us hl => match us, hl with | [_], _ => rfl) (fun vs H Q E h => by obtain ⟨_, _, _, _, rfl, _⟩ := h; rfl) (fun f cdv A out st H vs Q E hr h => ?_)
  obtain ⟨a, as, qs, n, rfl, hS, hF, hz, hl, hn, k⟩ := h
  obtain ⟨na, gN, hN⟩ := T.nought
  have turn : ∀ (i : Nat) (x : V) (σ : L2.St) (H' : Hp), (refs as)[i]? = some x → TotInv K a qs H i σ H' → tAsg (tCall (spPlus K) [] E0 (tCons (tVar 1) (tCons (tVar 2) tNil))) (gName 1) ⟨TotInv K a qs H (i + 1), Q, TotInv K a qs H (i + 1), TotInv K a qs H (i + 1)⟩ (σ.set 2 (some x)) H' := by
    rintro i x σ H' hx ⟨r, y, rfl, s1, hr1⟩
    obtain ⟨b, hb, rfl⟩ := refs_get hx
    obtain ⟨q, hq, hf⟩ := hF.at_ hb
    refine ⟨_, rfl, _, rfl, r, b, _, q, 3700, n, rfl, hr1, hf.tk (tk_same s1), tot_size hz hl hn, hz q (List.mem_of_getElem? hq), by omega, by omega, fun H2 r2 s2 g => ?_⟩
    exact ⟨r2, some (.ref b), rfl, s1.trans s2, by rw [tot_take hq]; exact g⟩
  have fin : ∀ (σ : L2.St) (H' : Hp), TotInv K a qs H (refs as).length σ H' → tRet (tVar 1) ⟨fun _ H' => Q .non H', Q, fun _ _ => False, fun _ _ => False⟩ σ H' := by
    rintro σ H' ⟨r, y, rfl, s1, hr1⟩
    rw [refs_len, hF.len, List.take_length] at hr1
    exact ⟨_, rfl, k H' r s1 hr1⟩
  have start : TotInv K a qs H 0 [some (.ref a), some (.ref na), none] H := ⟨na, none, rfl, Same.refl H, hN H⟩
  rcases hS with hS | hS
  · refine ⟨_, pss_cons (ps_set (i := 1) sc_total.nd rfl (.inl rfl) (pe_glob (v := .ref na) rfl gN rfl)) (pss_cons (ps_for PassesOwn.never rfl (pi_tup (pv 0)) (pg_name (i := 2) sc_total.nd rfl (.inl rfl))
      (pss_one (ps_set (i := 1) sc_total.nd rfl (.inl rfl) (pe_dn D hr (pa_cons (pv 1) (pa_cons (pv 2) pa_nil)))))) (pss_one (ps_ret (pv 1)))), ?_⟩
    exact ⟨_, rfl, a, rfl, ⟨_, hS⟩, for_tup (TotInv K a qs H) start (fun i σ H' _ ⟨_, _, _, s1, _⟩ => seqT s1 hS) turn fin⟩
  · refine ⟨_, pss_cons (ps_set (i := 1) sc_total.nd rfl (.inl rfl) (pe_glob (v := .ref na) rfl gN rfl)) (pss_cons (ps_for PassesOwn.never rfl (pi_list (pv 0)) (pg_name (i := 2) sc_total.nd rfl (.inl rfl))
      (pss_one (ps_set (i := 1) sc_total.nd rfl (.inl rfl) (pe_dn D hr (pa_cons (pv 1) (pa_cons (pv 2) pa_nil)))))) (pss_one (ps_ret (pv 1)))), ?_⟩
    exact ⟨_, rfl, a, rfl, ⟨_, hS⟩, for_list (TotInv K a qs H) start (fun i σ H' _ ⟨_, _, _, s1, _⟩ => s1.seq hS) turn fin⟩
end
end K16
namespace K16
open PySem PySem.Spec PyProof.Rows L2
section
variable {P : Program} {w : World} {K : PySem.W.Frag} {mg : Str → Option Value} {base : Heap}
/-! ### is_fraction -/
def spFraction (K : PySem.W.Frag) : Sp := fun vs H Q _ => ∃ (a : Addr) (q : Rat), vs = [.ref a] ∧ FrAt K H a q ∧ Q (.bl true) H
theorem sc_is_fraction : FnScope ["thing"] ["thing"] (defScope s_is_fraction) := ⟨rfl, rfl, rfl, by decide +kernel, rfl, by decide +kernel, by decide +kernel⟩
theorem ok_is_fraction (F : Def K mg "is_fraction" s_is_fraction) (D1 : Dn P w K mg base 1 "is_pair" ["thing"] (spPair K)) (D2 : Dn P w K mg base 1 "is_integer" ["thing"] spInteger) (D3 : Dn P w K mg base 1 "divisor" ["one", "other"] spDivisor) : Dn P w K mg base 2 "is_fraction" ["thing"] (spFraction K) := by
  refine Dn.mk' F sc_is_fraction (fun _ _ _ _ _ _ us hl => match us, hl with | [_], _ => rfl) (fun vs H Q E h => by obtain ⟨_, _, rfl, _⟩ := h; rfl) (fun f cdv A out st H vs Q E hr h => ?_)
  obtain ⟨a, q, rfl, ha, k⟩ := h
  refine ⟨_, pss_cons (ps_if (PW.pt (pw_or (pt_not (pt_val (pe_dn D1 hr (pa_cons (pv 0) pa_nil)))) (pw_or (pt_not (pt_val (pe_dn D2 hr (pa_cons (pe_ix ix_tup (pv 0) pe_int (fun _ _ => rfl)) pa_nil))))
    (pw_or (pt_not (pt_val (pe_dn D2 hr (pa_cons (pe_ix ix_tup (pv 0) pe_int (fun _ _ => rfl)) pa_nil)))) (pw_or1 (pt_cmpR op_lt (pe_ix ix_tup (pv 0) pe_int (fun _ _ => rfl)) pe_int (nomark _))))))) (pss_one (ps_ret pe_bl)) pss_nil)
    (pss_one (ps_ret (pe_cmpR op_eq (pe_dn D3 hr (pa_cons (pe_ix ix_tup (pv 0) pe_int (fun _ _ => rfl)) (pa_cons (pe_ix ix_tup (pv 0) pe_int (fun _ _ => rfl)) pa_nil))) pe_int (nomark _)))), ?_⟩
  refine ⟨_, rfl, a, _, _, rfl, ha, true, rfl, iteF ?_⟩
  refine ⟨_, rfl, a, _, 0, _, rfl, rfl, ha, rfl, _, rfl, true, rfl, iteF ?_⟩
  refine ⟨_, rfl, a, _, 1, _, rfl, rfl, ha, rfl, _, rfl, true, rfl, iteF ?_⟩
  refine ⟨_, rfl, a, _, 1, _, rfl, rfl, ha, rfl, _, _, rfl, rfl, false, congrArg V.bl (decide_eq_false (by have := den_pos q; omega)), iteF ?_⟩
  refine ⟨_, rfl, a, _, 0, _, rfl, rfl, ha, rfl, _, rfl, a, _, 1, _, rfl, rfl, ha, rfl, _, _, rfl, Int.le_of_lt (den_pos q), rfl, bl_eq (decide_eq_true ?_) k⟩
  rw [gcd_one]
  rfl
/-! ### checks -/
def spPeople : Sp := fun vs H Q _ => ∃ n : Int, vs = [.int n] ∧ 1 ≤ n ∧ n ≤ 12 ∧ Q .non H
theorem sc_check_people : FnScope ["n"] ["n"] (defScope s_check_people) := ⟨rfl, rfl, rfl, by decide +kernel, rfl, by decide +kernel, by decide +kernel⟩
theorem ok_check_people (F : Def K mg "check_people" s_check_people) (T : Txt K mg) (D : Dn P w K mg base 2 "is_within" ["thing", "low", "high"] spWithin) : Dn P w K mg base 3 "check_people" ["n"] spPeople := by
  refine Dn.mk' F sc_check_people (fun _ _ _ _ _ _ us hl => match us, hl with | [_], _ => rfl) (fun vs H Q E h => by obtain ⟨_, rfl, _⟩ := h; rfl) (fun f cdv A out st H vs Q E hr h => ?_)
  obtain ⟨n, rfl, h1, h2, k⟩ := h
  obtain ⟨t, gP⟩ := T.people
  refine ⟨_, pss_one (ps_if (pt_not (pt_val (pe_dn D hr (pa_cons (pv 0) (pa_cons pe_int (pa_cons (pe_glob (v := .int 12) rfl gP ⟨_, rfl⟩) pa_nil)))))) pss_never pss_nil), ?_⟩
  exact ⟨_, rfl, n, 1, 12, rfl, h1, h2, true, rfl, iteF k⟩
def spBeats : Sp := fun vs H Q _ => ∃ n : Int, vs = [.int n] ∧ 0 ≤ n ∧ n ≤ 1000000000 ∧ Q .non H
theorem sc_check_beats : FnScope ["beats"] ["beats"] (defScope s_check_beats) := ⟨rfl, rfl, rfl, by decide +kernel, rfl, by decide +kernel, by decide +kernel⟩
theorem ok_check_beats (F : Def K mg "check_beats" s_check_beats) (T : Txt K mg) (D : Dn P w K mg base 2 "is_within" ["thing", "low", "high"] spWithin) : Dn P w K mg base 3 "check_beats" ["beats"] spBeats := by
  refine Dn.mk' F sc_check_beats (fun _ _ _ _ _ _ us hl => match us, hl with | [_], _ => rfl) (fun vs H Q E h => by obtain ⟨_, rfl, _⟩ := h; rfl) (fun f cdv A out st H vs Q E hr h => ?_)
  obtain ⟨n, rfl, h1, h2, k⟩ := h
  obtain ⟨t, gP⟩ := T.beats
  refine ⟨_, pss_one (ps_if (pt_not (pt_val (pe_dn D hr (pa_cons (pv 0) (pa_cons pe_int (pa_cons (pe_glob (v := .int 1000000000) rfl gP ⟨_, rfl⟩) pa_nil)))))) pss_never pss_nil), ?_⟩
  exact ⟨_, rfl, n, 0, 1000000000, rfl, h1, h2, true, rfl, iteF k⟩
def spMany : Sp := fun vs H Q _ => ∃ n m : Int, vs = [.int n, .int m] ∧ 1 ≤ m ∧ m ≤ n ∧ Q .non H
theorem sc_check_many : FnScope ["n", "many"] ["n", "many"] (defScope s_check_many) := ⟨rfl, rfl, rfl, by decide +kernel, rfl, by decide +kernel, by decide +kernel⟩
theorem ok_check_many (F : Def K mg "check_many" s_check_many) (D : Dn P w K mg base 2 "is_within" ["thing", "low", "high"] spWithin) : Dn P w K mg base 3 "check_many" ["n", "many"] spMany := by
  refine Dn.mk' F sc_check_many (fun _ _ _ _ _ _ us hl => match us, hl with | [_, _], _ => rfl) (fun vs H Q E h => by obtain ⟨_, _, rfl, _⟩ := h; rfl) (fun f cdv A out st H vs Q E hr h => ?_)
  obtain ⟨n, m, rfl, h1, h2, k⟩ := h
  refine ⟨_, pss_one (ps_if (pt_not (pt_val (pe_dn D hr (pa_cons (pv 1) (pa_cons pe_int (pa_cons (pv 0) pa_nil)))))) pss_never pss_nil), ?_⟩
  exact ⟨_, rfl, _, rfl, m, 1, n, rfl, h1, h2, true, rfl, iteF k⟩
/-! ### harmonic, most, allowed -/
def spHarmonic (K : PySem.W.Frag) : Sp := fun vs H Q _ => ∃ lo hi : Int, vs = [.int lo, .int hi] ∧ 1 ≤ lo ∧ lo ≤ 20 ∧ 0 ≤ hi ∧ hi ≤ 20 ∧ ∀ H' r, Same H H' → FrAt K H' r (hsum lo (hi + 1 - lo).toNat) → Q (.ref r) H'
theorem sc_harmonic : FnScope ["low", "high", "found", "k"] ["low", "high"] (defScope s_harmonic) := ⟨rfl, rfl, rfl, by decide +kernel, rfl, by decide +kernel, by decide +kernel⟩
theorem inv_at {H : Hp} {p : Addr} {k : Int} (h : 0 < k) : FrAt K (upd H p (.tup [.int 1, .int k])) p (Rat.divInt 1 k) := by
  unfold FrAt
  rw [one_num h, one_den h]
  exact SqT.of upd_same
theorem ok_harmonic (F : Def K mg "harmonic" s_harmonic) (T : Txt K mg) (D : Dn P w K mg base 3 "plus" ["one", "other"] (spPlus K)) : Dn P w K mg base 4 "harmonic" ["low", "high"] (spHarmonic K) := by
  refine Dn.mk' F sc_harmonic (fun _ _ _ _ _ _ us hl => match us, hl with | [_, _], _ => rfl) (fun vs H Q E h => by obtain ⟨_, _, rfl, _⟩ := h; rfl) (fun f cdv A out st H vs Q E hr h => ?_)
  obtain ⟨lo, hi, rfl, h1, h2, h3, h4, k⟩ := h
  obtain ⟨na, gN, hN⟩ := T.nought
  refine ⟨_, pss_cons (ps_set (i := 2) sc_harmonic.nd rfl (.inl rfl) (pe_glob (v := .ref na) rfl gN rfl)) (pss_cons (ps_for PassesOwn.never rfl (pi_range2 (by rfl) T.range (pa_cons (pv 0) (pa_cons (pe_op op_add (pv 1) pe_int) pa_nil))) (pg_name (i := 3) sc_harmonic.nd rfl (.inl rfl))
    (pss_one (ps_set (i := 2) sc_harmonic.nd rfl (.inl rfl) (pe_dn D hr (pa_cons (pv 2) (pa_cons (pe_tup (pa_cons pe_int (pa_cons (pv 3) pa_nil))) pa_nil)))))) (pss_one (ps_ret (pv 2)))), ?_⟩
  refine ⟨_, rfl, _, rfl, hi, 1, rfl, rfl, lo, hi + 1, rfl, ⟨by omega, by omega, by omega, by omega⟩, for_range (lo := lo) (n := (hi + 1 - lo).toNat)
    (fun i σ H' => ∃ (r : Addr) (y : Option V), σ = [some (.int lo), some (.int hi), some (.ref r), y] ∧ Same H H' ∧ FrAt K H' r (hsum lo i)) ⟨na, none, rfl, Same.refl H, hN H⟩ ?_ ?_⟩
  · rintro i σ H' hi' ⟨r, y, rfl, s1, hr1⟩
    refine ⟨_, rfl, _, rfl, (by show 2 ≤ sizeLine; decide), fun p hp => ?_⟩
    have s2 : Same H' (upd H' p (.tup [.int 1, .int (lo + i)])) := same_new hp
    refine ⟨r, p, _, _, 6 * i + 1, 5, rfl, hr1.tk (tk_same s2), inv_at (by omega), Sz.hsum (by omega) (by omega), Sz.inv (by omega) (by omega), by omega, by omega, fun H2 r2 s3 g => ?_⟩
    exact ⟨r2, _, rfl, (s1.trans s2).trans s3, g⟩
  · rintro σ H' ⟨r, y, rfl, s1, hr1⟩
    exact ⟨_, rfl, k H' r s1 hr1⟩
def spMost (K : PySem.W.Frag) : Sp := fun vs H Q _ => ∃ n b : Int, vs = [.int n, .int b] ∧ 1 ≤ n ∧ n ≤ 12 ∧ 0 ≤ b ∧ b ≤ 1000000000 ∧ ∀ H' r, Same H H' → FrAt K H' r (hsum 2 (mn n (b + 1) + 1 - 2).toNat) → Q (.ref r) H'
theorem sc_most : FnScope ["n", "beats"] ["n", "beats"] (defScope s_most) := ⟨rfl, rfl, rfl, by decide +kernel, rfl, by decide +kernel, by decide +kernel⟩
theorem ok_most (F : Def K mg "most" s_most) (T : Txt K mg) (D1 : Dn P w K mg base 3 "check_people" ["n"] spPeople) (D2 : Dn P w K mg base 3 "check_beats" ["beats"] spBeats) (D3 : Dn P w K mg base 4 "harmonic" ["low", "high"] (spHarmonic K)) : Dn P w K mg base 5 "most" ["n", "beats"] (spMost K) := by
  refine Dn.mk' F sc_most (fun _ _ _ _ _ _ us hl => match us, hl with | [_, _], _ => rfl) (fun vs H Q E h => by obtain ⟨_, _, rfl, _⟩ := h; rfl) (fun f cdv A out st H vs Q E hr h => ?_)
  obtain ⟨n, b, rfl, h1, h2, h3, h4, k⟩ := h
  have hr3 : Room 3 _ := hr.mono (by decide)
  refine ⟨_, pss_cons (ps_expr (pe_dn D1 hr3 (pa_cons (pv 0) pa_nil))) (pss_cons (ps_expr (pe_dn D2 hr3 (pa_cons (pv 1) pa_nil)))
    (pss_one (ps_ret (pe_dn D3 hr (pa_cons pe_int (pa_cons (pe_callB (call_min2 rfl) (by rfl) T.min (by decide +kernel) (pa_cons (pv 0) (pa_cons (pe_op op_add (pv 1) pe_int) pa_nil))) pa_nil)))))), ?_⟩
  refine ⟨_, rfl, n, rfl, h1, h2, _, rfl, b, rfl, h3, h4, ?_⟩
  have hm := mn_le n (b + 1)
  exact ⟨_, rfl, _, rfl, b, 1, rfl, rfl, n, b + 1, rfl, 2, mn n (b + 1), rfl, by omega, by omega, by omega, by omega, k⟩
def spAllowed (K : PySem.W.Frag) : Sp := fun vs H Q _ => ∃ n b m : Int, vs = [.int n, .int b, .int m] ∧ n ≤ 12 ∧ 0 ≤ b ∧ b ≤ 1000000000 ∧ 1 ≤ m ∧ m ≤ n ∧ ∀ H' r, Same H H' → FrAt K H' r (al n b m) → Q (.ref r) H'
theorem sc_allowed_to : FnScope ["n", "beats", "many"] ["n", "beats", "many"] (defScope s_allowed_to) := ⟨rfl, rfl, rfl, by decide +kernel, rfl, by decide +kernel, by decide +kernel⟩
theorem ok_allowed_to (F : Def K mg "allowed_to" s_allowed_to) (T : Txt K mg) (D1 : Dn P w K mg base 4 "harmonic" ["low", "high"] (spHarmonic K)) (D2 : Dn P w K mg base 3 "times" ["many", "one"] (spTimes K)) : Dn P w K mg base 5 "allowed_to" ["n", "beats", "many"] (spAllowed K) := by
  refine Dn.mk' F sc_allowed_to (fun _ _ _ _ _ _ us hl => match us, hl with | [_, _, _], _ => rfl) (fun vs H Q E h => by obtain ⟨_, _, _, rfl, _⟩ := h; rfl) (fun f cdv A out st H vs Q E hr h => ?_)
  obtain ⟨n, b, m, rfl, h1, h2, h3, h4, h5, k⟩ := h
  have hr3 : Room 3 _ := hr.mono (by decide)
  refine ⟨_, pss_one (ps_ret (pe_dn D2 hr3 (pa_cons (pv 2) (pa_cons (pe_dn D1 hr (pa_cons (pe_op op_add (pv 2) pe_int) (pa_cons (pe_callB (call_min2 rfl) (by rfl) T.min (by decide +kernel) (pa_cons (pv 0) (pa_cons (pe_op op_add (pv 2) (pv 1)) pa_nil))) pa_nil))) pa_nil)))), ?_⟩
  have hm := mn_le n (m + b)
  refine ⟨_, rfl, _, rfl, m, 1, rfl, rfl, _, rfl, _, rfl, _, rfl, m, b, rfl, rfl, n, m + b, rfl, m + 1, mn n (m + b), rfl, by omega, by omega, by omega, by omega, fun H1 r1 s1 g1 => ?_⟩
  exact ⟨r1, m, _, 80, rfl, g1, al_size (by omega) (by omega) h1, by omega, by omega, by omega, fun H2 r2 s2 g2 => k H2 r2 (s1.trans s2) g2⟩
theorem sc_allowed : FnScope ["n", "beats", "many"] ["n", "beats", "many"] (defScope s_allowed) := ⟨rfl, rfl, rfl, by decide +kernel, rfl, by decide +kernel, by decide +kernel⟩
theorem ok_allowed (F : Def K mg "allowed" s_allowed) (D1 : Dn P w K mg base 3 "check_people" ["n"] spPeople) (D2 : Dn P w K mg base 3 "check_beats" ["beats"] spBeats) (D3 : Dn P w K mg base 3 "check_many" ["n", "many"] spMany)
    (D4 : Dn P w K mg base 5 "allowed_to" ["n", "beats", "many"] (spAllowed K)) : Dn P w K mg base 6 "allowed" ["n", "beats", "many"] (spAllowed K) := by
  refine Dn.mk' F sc_allowed (fun _ _ _ _ _ _ us hl => match us, hl with | [_, _, _], _ => rfl) (fun vs H Q E h => by obtain ⟨_, _, _, rfl, _⟩ := h; rfl) (fun f cdv A out st H vs Q E hr h => ?_)
  obtain ⟨n, b, m, rfl, h1, h2, h3, h4, h5, k⟩ := h
  have hr3 : Room 3 _ := hr.mono (by decide)
  refine ⟨_, pss_cons (ps_expr (pe_dn D1 hr3 (pa_cons (pv 0) pa_nil))) (pss_cons (ps_expr (pe_dn D2 hr3 (pa_cons (pv 1) pa_nil))) (pss_cons (ps_expr (pe_dn D3 hr3 (pa_cons (pv 0) (pa_cons (pv 2) pa_nil))))
    (pss_one (ps_ret (pe_dn D4 hr (pa_cons (pv 0) (pa_cons (pv 1) (pa_cons (pv 2) pa_nil)))))))), ?_⟩
  exact ⟨_, rfl, n, rfl, by omega, h1, _, rfl, b, rfl, h2, h3, _, rfl, _, rfl, n, m, rfl, h4, h5, _, rfl, _, rfl, _, rfl, n, b, m, rfl, h1, h2, h3, h4, h5, k⟩
end
end K16
namespace K16
open PySem PySem.Spec PyProof.Rows L2
/-! ### fractions as data -/
def frd (q : Rat) : PyData := .tuple [.int q.num, .int (q.den : Int)]
theorem dp_fr {K : PySem.W.Frag} {H : Hp} {a : Addr} {q : Rat} (h : FrAt K H a q) : Dp K H (.ref a) (frd q) := .tup h (.cons (.int _) (.cons (.int _) .nil))
theorem frd_shaped (q : Rat) : SeqAt.shaped (frd q) = true := rfl
theorem frd_eqv (q : Rat) : PyData.eqv (frd q) (frd q) = true := SeqAt.eqv_refl _ rfl
theorem cut_take (xs : List V) (m : Nat) : cutV xs none (some (m : Int)) = xs.take m := by
  unfold cutV
  rw [HT.sIx_none, HT.sIx_nat, List.drop_zero, Nat.sub_zero]
  by_cases h : m ≤ xs.length
  · rw [Nat.min_eq_left h]
  · rw [Nat.min_eq_right (by omega), List.take_length, List.take_of_length_le (by omega)]
theorem iv_take (ns : List Int) (m : Nat) : (iv ns).take m = iv (ns.take m) := by
  unfold iv
  rw [List.map_take]
theorem cs_take (ns : List Nat) (m : Nat) : (cs ns).take m = cs (ns.take m) := by
  unfold cs
  rw [List.map_take]
theorem small12 {n : Nat} (h : n ≤ 12) : n < sizeLine := Nat.lt_of_le_of_lt h (by decide)
section
variable {P : Program} {w : World} {K : PySem.W.Frag} {mg : Str → Option Value} {base : Heap}
/-! ### are_debts, check_debts -/
def DebtsOk (K : PySem.W.Frag) (H : Hp) (a : Addr) (qs : List Rat) (n : Int) : Prop := DbAt K H a qs ∧ (qs.length : Int) = n ∧ n ≤ 12 ∧ 1 ≤ n ∧ (∀ q ∈ qs, Sz 300 q) ∧ tot qs = 0
def spDebts (K : PySem.W.Frag) (v : V) : Sp := fun vs H Q _ => ∃ (n : Int) (a : Addr) (qs : List Rat), vs = [.int n, .ref a] ∧ DebtsOk K H a qs n ∧ ∀ H', Same H H' → Q v H'
theorem sc_are_debts : FnScope ["n", "thing", "one"] ["n", "thing"] (defScope s_are_debts) := ⟨rfl, rfl, rfl, by decide +kernel, rfl, by decide +kernel, by decide +kernel⟩
theorem ok_are_debts (F : Def K mg "are_debts" s_are_debts) (T : Txt K mg) (D1 : Dn P w K mg base 2 "is_fraction" ["thing"] (spFraction K)) (D2 : Dn P w K mg base 4 "total" ["some"] (spTotal K)) : Dn P w K mg base 5 "are_debts" ["n", "thing"] (spDebts K (.bl true)) := by
  refine Dn.mk' F sc_are_debts (fun _ _ _ _ _ _ us hl => match us, hl with | [_, _], _ => rfl) (fun vs H Q E h => by obtain ⟨_, _, _, rfl, _⟩ := h; rfl) (fun f cdv A out st H vs Q E hr h => ?_)
  obtain ⟨n, a, qs, rfl, ⟨⟨as, hT, hF⟩, hn, h12, h1, hz, h0⟩, k⟩ := h
  obtain ⟨na, gN, hN⟩ := T.nought
  have hr2 : Room 2 _ := hr.mono (by decide)
  refine ⟨_, pss_cons (ps_if (PW.pt (pw_or (pt_not (pt_val (pe_callB call_isi (by rfl) T.isinstance boot_isinstance (pa_cons (pv 1) (pa_cons (pe_bltn (v := .ty "tuple") (by rfl) T.tuple (by decide +kernel) rfl) pa_nil)))))
    (pw_or (pt_cmpR op_ne (pe_callB call_len_seq (by rfl) T.len PySem.boot_len (pa_cons (pv 1) pa_nil)) (pv 0) (nomark _))
    (pw_or1 (pt_not (pt_val (pe_callB (cr_all rfl) (by rfl) T.all (by decide +kernel) (pa_cons (pe_lc (own := [("one", 2)]) (g := gName 2) (tt := tYes) (by rfl) sc_are_debts.nd (pi_tup (pv 1))
      (blkOk_by (own := [("one", 2)]) (N := ["n", "thing", "one"]) (sc := defScope s_are_debts) (by decide +kernel)) (fun _ _ _ _ _ => pg_name (i := 2) sc_are_debts.nd rfl (Or.inl rfl)) (fun _ _ _ _ _ => pts_nil) (fun _ _ _ _ _ => pe_dn D1 hr2 (pa_cons (pv 2) pa_nil))) pa_nil)))))))) (pss_one (ps_ret pe_bl)) pss_nil)
    (pss_one (ps_ret (pe_cmpR (op_eqD hr.units) (pe_dn D2 hr (pa_cons (pv 1) pa_nil)) (pe_glob (v := .ref na) rfl gN rfl) (nomark _)))), ?_⟩
  refine ⟨_, rfl, _, _, _, _, true, rfl, .ty "tuple", tup_ty hT, kit_ty (by decide +kernel), true, rfl, iteF ?_⟩
  refine ⟨_, rfl, a, refs as, rfl, .inr hT, _, rfl, rfl, false, congrArg V.bl ?_, iteF ?_⟩
  · have e : decide (V.int ((refs as).length : Int) = V.int n) = true := decide_eq_true (by rw [refs_len, hF.len, hn])
    show (!decide (V.int ((refs as).length : Int) = V.int n)) = false
    rw [e]
    rfl
  refine ⟨_, rfl, a, rfl, ⟨_, hT⟩, fun D hD => lc_it walk_tup (fun i H' => Same H H' ∧ H' D = some (.lst ((List.replicate i true).map V.bl))) ⟨same_new hD, upd_same⟩ (fun i H' _ p => seqT p.1 hT) ?_ ?_⟩
  · rintro i x H' H2 hi ⟨s1, e1⟩ ⟨rfl, hx⟩
    obtain ⟨b, hb, rfl⟩ := refs_get hx
    obtain ⟨q, hq, hf⟩ := hF.at_ hb
    rw [refs_len, hF.len] at hi
    refine ⟨rfl, ?_⟩
    refine ⟨_, rfl, b, q, rfl, hf.tk (tk_same s1), _, e1, ?_, same_own s1 hD, ?_⟩
    · rw [List.length_map, List.length_replicate]
      exact small12 (by omega)
    · rw [upd_same, List.replicate_succ', List.map_append]
      rfl
  · rintro H' ⟨s1, e1⟩
    refine ⟨D, List.replicate (refs as).length true, rfl, SqL.of e1, true, congrArg V.bl ?_, iteF ?_⟩
    · rw [List.all_replicate]
      simp
    · refine ⟨_, rfl, a, as, qs, 300, rfl, .inl (seqT s1 hT), hF.tk (tk_same s1), hz, by omega, by omega, fun H2 r s2 g => ?_⟩
      rw [h0] at g
      exact ⟨frd 0, frd 0, dp_fr g, dp_fr (hN H2), frd_shaped 0, frd_shaped 0, bl_eq (frd_eqv 0) (k H2 (s1.trans s2))⟩
theorem sc_check_debts : FnScope ["n", "debts"] ["n", "debts"] (defScope s_check_debts) := ⟨rfl, rfl, rfl, by decide +kernel, rfl, by decide +kernel, by decide +kernel⟩
theorem ok_check_debts (F : Def K mg "check_debts" s_check_debts) (D1 : Dn P w K mg base 3 "check_people" ["n"] spPeople) (D2 : Dn P w K mg base 5 "are_debts" ["n", "thing"] (spDebts K (.bl true))) : Dn P w K mg base 6 "check_debts" ["n", "debts"] (spDebts K .non) := by
  refine Dn.mk' F sc_check_debts (fun _ _ _ _ _ _ us hl => match us, hl with | [_, _], _ => rfl) (fun vs H Q E h => by obtain ⟨_, _, _, rfl, _⟩ := h; rfl) (fun f cdv A out st H vs Q E hr h => ?_)
  obtain ⟨n, a, qs, rfl, hd, k⟩ := h
  have hr3 : Room 3 _ := hr.mono (by decide)
  refine ⟨_, pss_cons (ps_expr (pe_dn D1 hr3 (pa_cons (pv 0) pa_nil))) (pss_one (ps_if (pt_not (pt_val (pe_dn D2 hr (pa_cons (pv 0) (pa_cons (pv 1) pa_nil))))) pss_never pss_nil)), ?_⟩
  exact ⟨_, rfl, n, rfl, hd.2.2.2.1, hd.2.2.1, _, rfl, _, rfl, n, a, qs, rfl, hd, fun H' s1 => ⟨true, rfl, iteF (k H' s1)⟩⟩
/-! ### by_debts -/
def spBy (K : PySem.W.Frag) : Sp := fun vs H Q _ => ∃ (a : Addr) (qs : List Rat), vs = [.ref a] ∧ DbAt K H a qs ∧ (∀ q ∈ qs, Sz 300 q) ∧ qs.length ≤ 12 ∧ ∀ H' d ns, Same H H' → H' d = some (.lst (iv (cs ns))) → Ranked qs qs.length ns → Q (.ref d) H'
theorem sc_by_debts : FnScope ["debts", "found", "person", "debt", "at"] ["debts"] (defScope s_by_debts) := ⟨rfl, rfl, rfl, by decide +kernel, rfl, by decide +kernel, by decide +kernel⟩
theorem ok_by_debts (F : Def K mg "by_debts" s_by_debts) (T : Txt K mg) (D : Dn P w K mg base 1 "is_less" ["one", "other"] (spLess K)) : Dn P w K mg base 2 "by_debts" ["debts"] (spBy K) := by
  refine Dn.mk' F sc_by_debts (fun _ _ _ _ _ _ us hl => match us, hl with | [_], _ => rfl) (fun vs H Q E h => by obtain ⟨_, _, rfl, _⟩ := h; rfl) (fun f cdv A out st H vs Q E hr h => ?_)
  obtain ⟨a, qs, rfl, ⟨as, hT, hF⟩, hz, h12, k⟩ := h
  refine ⟨_, pss_cons (ps_set (i := 1) sc_by_debts.nd rfl (.inl rfl) (pe_lst pa_nil)) (pss_cons (ps_for PassesOwn.never rfl (pi_enumT (by rfl) T.enumerate (pa_cons (pv 0) pa_nil))
      (pg_tup rfl (pgs_cons (pg_name (i := 2) sc_by_debts.nd rfl (.inl rfl)) (pgs_cons (pg_name (i := 3) sc_by_debts.nd rfl (.inl rfl)) pgs_nil)))
      (pss_cons (ps_set (i := 4) sc_by_debts.nd rfl (.inl rfl) pe_int)
      (pss_cons (ps_while PassesOwn.never (PW.pt (pw_and (pt_cmpR op_lt (pv 4) (pe_callB call_len_seq (by rfl) T.len PySem.boot_len (pa_cons (pv 1) pa_nil)) (nomark _))
          (pw_and1 (pt_not (pt_val (pe_dn D hr (pa_cons (pe_ix ix_tup (pv 0) (pe_ix ix_list (pv 1) (pv 4) (fun _ _ => rfl)) (fun _ _ => rfl)) (pa_cons (pv 3) pa_nil))))))))
        (pss_one (ps_aug (i := 4) sc_by_debts.nd rfl (.inl rfl) pe_int ip_add)))
      (pss_one (ps_expr (pe_bm PySem.F.plainAttrs_list PySem.F.slot_list_insert PySem.F.type_list_insert mt_insert (pv 1) (pa_cons (pv 4) (pa_cons (pv 2) pa_nil))))))))
    (pss_one (ps_ret (pv 1)))), ?_⟩
  refine ⟨Nat.zero_le _, fun d nd => ?_⟩
  refine ⟨_, rfl, a, refs as, rfl, seqT (same_new nd) hT, for_it walk_enumT (fun i σ H' => ∃ (ns : List Nat) (y2 y3 y4 : Option V), σ = [some (.ref a), some (.ref d), y2, y3, y4] ∧ Same H H' ∧ H' d = some (.lst (iv (cs ns))) ∧ Ranked qs i ns)
    ⟨[], none, none, none, rfl, same_new nd, upd_same, Ranked.nil qs⟩ (fun i σ H' _ ⟨_, _, _, _, _, s1, _⟩ => seqT s1 hT) ?_ ?_⟩
  · rintro i v σ H' H2 hi ⟨ns, y2, y3, y4, rfl, s1, e1, hR⟩ ⟨p, x, y, rfl, np, rfl, hx, hy⟩
    cases Option.some.inj hx
    obtain ⟨b, hb, rfl⟩ := refs_get hy
    obtain ⟨q, hq, hf⟩ := hF.at_ hb
    have hi12 : i < 12 := by
      rw [refs_len, hF.len] at hi
      omega
    have ndp : d ≠ p := ne_of_none e1 np
    have s2 : Same H (upd H' p (.tup [.int (i : Nat), .ref b])) := s1.trans (same_new np)
    have e2 : (upd H' p (.tup [.int (i : Nat), .ref b])) d = some (.lst (iv (cs ns))) := by
      rw [upd_ne ndp]
      exact e1
    refine ⟨p, _, rfl, SqT.of upd_same, rfl, _, _, rfl, _, _, rfl, rfl, ?_⟩
    refine ⟨fun m σ H3 => ∃ kk : Nat, H3 = upd H' p (.tup [.int (i : Nat), .ref b]) ∧ σ = [some (.ref a), some (.ref d), some (.int (i : Nat)), some (.ref b), some (.int (kk : Nat))] ∧ m = ns.length - kk ∧ kk ≤ ns.length ∧
        ∀ (j x : Nat), j < kk → ns[j]? = some x → ¬ qs.getD x 0 < qs.getD i 0, ⟨_, 0, rfl, rfl, rfl, Nat.zero_le _, fun j x hj => absurd hj (Nat.not_lt_zero _)⟩, ?_⟩
    rintro m σ H3 ⟨kk, rfl, rfl, rfl, hk, hall⟩
    refine ⟨_, rfl, _, rfl, d, _, rfl, .inl (SqL.of e2), _, _, rfl, rfl, _, rfl, ?_⟩
    have fin : (∀ x, ns[kk]? = some x → qs.getD x 0 < qs.getD i 0) → tDrop (tBM K "list" (fun x vs H Q => ∃ (l : Addr) (xs : List V) (i : Int) (y : V), x = .ref l ∧ vs = [.int i, y] ∧ H l = some (.lst xs) ∧ xs.length < sizeLine ∧ 0 ≤ i ∧ i < 2 ^ 63 ∧
        Q .non (upd H l (.lst (xs.take i.toNat ++ [y] ++ xs.drop i.toNat)))) (tVar 1) (tCons (tVar 4) (tCons (tVar 2) tNil)))
        { nx := fun σ H' => ∃ (ns : List Nat) (y2 y3 y4 : Option V), σ = [some (.ref a), some (.ref d), y2, y3, y4] ∧ Same H H' ∧ H' d = some (.lst (iv (cs ns))) ∧ Ranked qs (i + 1) ns, rt := Q, bk := fun _ _ => True, ct := fun _ _ => True }
        [some (.ref a), some (.ref d), some (.int (i : Nat)), some (.ref b), some (.int (kk : Nat))] (upd H' p (.tup [.int (i : Nat), .ref b])) := fun hlast => by
      have hl := hR.len
      refine ⟨_, rfl, .inl ⟨rfl, _, SqL.of e2⟩, _, rfl, _, rfl, d, _, _, _, rfl, rfl, e2, by rw [iv_len, cs_len]; exact small12 (by omega), by omega, by omega, ?_⟩
      refine ⟨ns.take kk ++ i :: ns.drop kk, _, _, _, rfl, same_own s2 nd, ?_, hR.ins hk hall hlast⟩
      rw [upd_same, Int.toNat_natCast]
      unfold iv cs
      simp only [List.map_append, List.map_take, List.map_drop, List.map_cons, List.append_assoc, List.singleton_append]
    by_cases c : kk < ns.length
    · have ed : decide (((kk : Nat) : Int) < (((iv (cs ns)).length : Nat) : Int)) = true := decide_eq_true (by rw [iv_len, cs_len]; omega)
      rw [ed]
      refine iteT ?_
      have hx0 : ns[kk]? = some ns[kk] := List.getElem?_eq_getElem c
      have hlt : ns[kk] < i := hR.lt (List.getElem_mem c)
      have hql : ns[kk] < qs.length := by
        rw [refs_len, hF.len] at hi
        omega
      obtain ⟨b2, hb2, hf2⟩ := hF.of_ (List.getElem?_eq_getElem hql)
      refine ⟨_, rfl, _, rfl, _, rfl, d, _, _, _, rfl, rfl, SqL.of e2, atI_nat (get_iv (get_cs hx0)), a, refs as, _, .ref b2, rfl, rfl, seqT s2 hT, atI_nat (by unfold refs; rw [List.getElem?_map, hb2]; rfl), ?_⟩
      refine ⟨_, rfl, b2, b, _, _, 300, 300, rfl, hf2.tk (tk_same s2), hf.tk (tk_same s2), hz _ (List.getElem_mem hql), hz _ (List.mem_of_getElem? hq), by omega, by omega, _, rfl, ?_⟩
      have g1 : qs.getD ns[kk] 0 = qs[ns[kk]] := getD_of (List.getElem?_eq_getElem hql)
      have g2 : qs.getD i 0 = q := getD_of hq
      by_cases c2 : qs[ns[kk]] < q
      · rw [decide_eq_true c2]
        refine iteF (fin fun x hx => ?_)
        rw [hx0] at hx
        cases hx
        rw [g1, g2]
        exact c2
      · rw [decide_eq_false c2]
        refine iteT ⟨fun σ' H4 => H4 = upd H' p (.tup [.int (i : Nat), .ref b]) ∧ σ' = [some (.ref a), some (.ref d), some (.int (i : Nat)), some (.ref b), some (.int ((kk + 1 : Nat) : Int))], ?_, ?_⟩
        · rintro σ' H4 ⟨rfl, rfl⟩
          refine ⟨ns.length - (kk + 1), by omega, kk + 1, rfl, rfl, rfl, c, fun j x hj hx => ?_⟩
          by_cases e : j = kk
          · subst e
            rw [hx0] at hx
            cases hx
            rw [g1, g2]
            exact c2
          · exact hall j x (by omega) hx
        · exact ⟨_, rfl, _, _, rfl, rfl, rfl, rfl⟩
    · have ed : decide (((kk : Nat) : Int) < (((iv (cs ns)).length : Nat) : Int)) = false := decide_eq_false (by rw [iv_len, cs_len]; omega)
      rw [ed]
      refine iteF (iteF (fin fun x hx => ?_))
      have := (List.getElem?_eq_some_iff.mp hx).1
      omega
  · rintro σ H' ⟨ns, y2, y3, y4, rfl, s1, e1, hR⟩
    rw [refs_len, hF.len] at hR
    exact ⟨_, rfl, k H' d ns s1 e1 hR⟩
end
end K16
namespace K16
open PySem PySem.Spec PyProof.Rows L2
section
variable {P : Program} {w : World} {K : PySem.W.Frag} {mg : Str → Option Value} {base : Heap}
/-! ### lot_of, sum_of, greatest -/
def spLot (K : PySem.W.Frag) : Sp := fun vs H Q _ => ∃ (a : Addr) (m : Nat) (qs : List Rat), vs = [.ref a, .int (m : Nat)] ∧ DbAt K H a qs ∧ (∀ q ∈ qs, Sz 300 q) ∧ qs.length ≤ 12 ∧ ∀ H' t l, Same H H' → SqT K H' t (iv (cs l)) → IsLot qs qs.length m l → Q (.ref t) H'
theorem sc_lot_of : FnScope ["debts", "many"] ["debts", "many"] (defScope s_lot_of) := ⟨rfl, rfl, rfl, by decide +kernel, rfl, by decide +kernel, by decide +kernel⟩
theorem ok_lot_of (F : Def K mg "lot_of" s_lot_of) (T : Txt K mg) (D : Dn P w K mg base 2 "by_debts" ["debts"] (spBy K)) : Dn P w K mg base 3 "lot_of" ["debts", "many"] (spLot K) := by
  refine Dn.mk' F sc_lot_of (fun _ _ _ _ _ _ us hl => match us, hl with | [_, _], _ => rfl) (fun vs H Q E h => by obtain ⟨_, _, _, rfl, _⟩ := h; rfl) (fun f cdv A out st H vs Q E hr h => ?_)
  obtain ⟨a, m, qs, rfl, hD, hz, h12, k⟩ := h
  refine ⟨_, pss_one (ps_ret (pe_callTy call_tuple_of (by rfl) T.tuple (by decide +kernel) (pa_cons (pe_callB cr_sorted (by rfl) T.sorted (by decide +kernel)
    (pa_cons (pe_slice sl_list (pe_dn D hr (pa_cons (pv 0) pa_nil)) po_none (po_some (pv 1))) pa_nil)) pa_nil))), ?_⟩
  refine ⟨_, rfl, a, qs, rfl, hD, hz, h12, fun H1 d ns s1 e1 hR => ?_⟩
  refine ⟨_, rfl, _, rfl, d, _, rfl, SqL.of e1, fun p np => ?_⟩
  have ec : cutV (iv (cs ns)) none (some ((m : Nat) : Int)) = (cs (ns.take m)).map V.int := by
    rw [cut_take, iv_take, cs_take]
    rfl
  have hl := hR.len
  refine ⟨p, cs (ns.take m), rfl, SqL.of (by rw [upd_same, ec]), ?_, fun zs p2 pz uz np2 => ?_⟩
  · rw [cs_len, List.length_take]
    omega
  · obtain ⟨l, rfl, lp, lu⟩ := sorted_nat pz uz
    refine ⟨p2, _, rfl, .inl ⟨SqL.of upd_same, fun t nt => ?_⟩⟩
    refine k _ t l (((s1.trans (same_new np)).trans (same_new np2)).trans (same_new nt)) (SqT.of upd_same) ⟨⟨ns, hR, lp⟩, lu⟩
def spSum (K : PySem.W.Frag) : Sp := fun vs H Q _ => ∃ (a t : Addr) (qs : List Rat) (l : List Nat), vs = [.ref a, .ref t] ∧ DbAt K H a qs ∧ (∀ q ∈ qs, Sz 300 q) ∧ SqT K H t (iv (cs l)) ∧ l.length ≤ 12 ∧ (∀ i ∈ l, i < qs.length) ∧ ∀ H' r, Same H H' → FrAt K H' r (lotSum qs l) → Q (.ref r) H'
theorem sc_sum_of : FnScope ["debts", "lot", "person"] ["debts", "lot"] (defScope s_sum_of) := ⟨rfl, rfl, rfl, by decide +kernel, rfl, by decide +kernel, by decide +kernel⟩
theorem lot_step {qs : List Rat} {l : List Nat} {i x : Nat} (h : l[i]? = some x) : (l.take (i + 1)).map (fun j => qs.getD j 0) = (l.take i).map (fun j => qs.getD j 0) ++ [qs.getD x 0] := by
  rw [take_more h, List.map_append]
  rfl
theorem lot_mem {qs : List Rat} {l : List Nat} {n : Nat} (hz : ∀ q ∈ qs, Sz n q) (hl : ∀ i ∈ l, i < qs.length) : ∀ q ∈ l.map (fun j => qs.getD j 0), Sz n q := fun q hq => by
  obtain ⟨j, hj, rfl⟩ := List.mem_map.mp hq
  have := hl j hj
  show Sz n (qs.getD j 0)
  rw [getD_of (List.getElem?_eq_getElem this)]
  exact hz _ (List.getElem_mem this)
theorem ok_sum_of (F : Def K mg "sum_of" s_sum_of) (T : Txt K mg) (D : Dn P w K mg base 4 "total" ["some"] (spTotal K)) : Dn P w K mg base 5 "sum_of" ["debts", "lot"] (spSum K) := by
  refine Dn.mk' F sc_sum_of (fun _ _ _ _ _ _ us hl => match us, hl with | [_, _], _ => rfl) (fun vs H Q E h => by obtain ⟨_, _, _, _, rfl, _⟩ := h; rfl) (fun f cdv A out st H vs Q E hr h => ?_)
  obtain ⟨a, t, qs, l, rfl, ⟨as, hT, hF⟩, hz, hL, h12, hlt, k⟩ := h
  refine ⟨_, pss_one (ps_ret (pe_dn D hr (pa_cons (pe_lc (own := [("person", 2)]) (g := gName 2) (tt := tYes) (by rfl) sc_sum_of.nd (pi_tup (pv 1))
      (blkOk_by (own := [("person", 2)]) (N := ["debts", "lot", "person"]) (sc := defScope s_sum_of) (by decide +kernel)) (fun _ _ _ _ _ => pg_name (i := 2) sc_sum_of.nd rfl (Or.inl rfl)) (fun _ _ _ _ _ => pts_nil)
      (fun _ _ _ _ _ => pe_ix (show IxR _ (rIxT K) from ix_tup) (pv 0) (pv 2) (fun _ _ => rfl))) pa_nil))), ?_⟩
  refine ⟨_, rfl, t, rfl, ⟨_, hL⟩, fun d hd => lc_it walk_tup (fun i H' => Same H H' ∧ LsAt K H' d ((l.take i).map fun j => qs.getD j 0)) ⟨same_new hd, .new⟩ (fun i H' _ p => seqT p.1 hL) ?_ ?_⟩
  · rintro i x H' H2 hi ⟨s1, hA⟩ ⟨rfl, hx⟩
    obtain ⟨z, hz1, rfl⟩ := iv_get hx
    obtain ⟨j, hj, rfl⟩ := cs_get hz1
    have hq := hlt j (List.mem_of_getElem? hj)
    obtain ⟨b, hb, hf⟩ := hF.of_ (List.getElem?_eq_getElem hq)
    obtain ⟨acc, ha, hal⟩ := hA.lst
    refine ⟨rfl, ?_⟩
    refine ⟨_, rfl, _, rfl, a, _, _, .ref b, rfl, rfl, seqT s1 hT, atI_nat (by unfold refs; rw [List.getElem?_map, hb]; rfl), acc, ha, ?_, same_own s1 hd, ?_⟩
    · rw [hal, List.length_map, List.length_take]
      exact small12 (by omega)
    · rw [lot_step hj, getD_of (List.getElem?_eq_getElem hq)]
      exact hA.snoc ha (hf.tk (tk_same s1))
  · rintro H' ⟨s1, as2, e2, f2⟩
    rw [iv_len, cs_len, List.take_length] at f2
    exact ⟨d, as2, _, 300, rfl, .inr (SqL.of e2), f2, lot_mem hz hlt, by rw [List.length_map]; exact h12, by omega, fun H2 r s2 g => k H2 r (s1.trans s2) g⟩
/-- what greatest tells: the pair of the sum and the lot -/
def Told (K : PySem.W.Frag) (H : Hp) (p : Addr) (qs : List Rat) (l : List Nat) : Prop := ∃ r t, SqT K H p [.ref r, .ref t] ∧ FrAt K H r (lotSum qs l) ∧ SqT K H t (iv (cs l))
def spGreatest (K : PySem.W.Frag) : Sp := fun vs H Q _ => ∃ (n : Int) (a : Addr) (m : Nat) (qs : List Rat), vs = [.int n, .ref a, .int (m : Nat)] ∧ DebtsOk K H a qs n ∧ 1 ≤ m ∧ (m : Int) ≤ n ∧ ∀ H' p l, Same H H' → IsLot qs qs.length m l → Told K H' p qs l → Q (.ref p) H'
theorem sc_greatest : FnScope ["n", "debts", "many", "lot"] ["n", "debts", "many"] (defScope s_greatest) := ⟨rfl, rfl, rfl, by decide +kernel, rfl, by decide +kernel, by decide +kernel⟩
theorem ok_greatest (F : Def K mg "greatest" s_greatest) (D1 : Dn P w K mg base 6 "check_debts" ["n", "debts"] (spDebts K .non)) (D2 : Dn P w K mg base 3 "check_many" ["n", "many"] spMany) (D3 : Dn P w K mg base 3 "lot_of" ["debts", "many"] (spLot K))
    (D4 : Dn P w K mg base 5 "sum_of" ["debts", "lot"] (spSum K)) : Dn P w K mg base 7 "greatest" ["n", "debts", "many"] (spGreatest K) := by
  refine Dn.mk' F sc_greatest (fun _ _ _ _ _ _ us hl => match us, hl with | [_, _, _], _ => rfl) (fun vs H Q E h => by obtain ⟨_, _, _, _, rfl, _⟩ := h; rfl) (fun f cdv A out st H vs Q E hr h => ?_)
  obtain ⟨n, a, m, qs, rfl, hd, h1, h2, k⟩ := h
  have hr3 : Room 3 _ := hr.mono (by decide)
  have hr5 : Room 5 _ := hr.mono (by decide)
  refine ⟨_, pss_cons (ps_expr (pe_dn D1 hr (pa_cons (pv 0) (pa_cons (pv 1) pa_nil)))) (pss_cons (ps_expr (pe_dn D2 hr3 (pa_cons (pv 0) (pa_cons (pv 2) pa_nil)))) (pss_cons (ps_set (i := 3) sc_greatest.nd rfl (.inl rfl) (pe_dn D3 hr3 (pa_cons (pv 1) (pa_cons (pv 2) pa_nil))))
    (pss_one (ps_ret (pe_tup (pa_cons (pe_dn D4 hr5 (pa_cons (pv 1) (pa_cons (pv 3) pa_nil))) (pa_cons (pv 3) pa_nil))))))), ?_⟩
  refine ⟨_, rfl, _, rfl, n, a, qs, rfl, hd, fun H1 s1 => ?_⟩
  obtain ⟨hD, hl, h12, h0, hz, ht⟩ := hd
  refine ⟨_, rfl, _, rfl, n, _, rfl, by omega, h2, ?_⟩
  refine ⟨_, rfl, _, rfl, a, m, qs, rfl, hD.tk (tk_same s1), hz, by omega, fun H2 t l s2 hL hI => ?_⟩
  refine ⟨_, rfl, _, rfl, a, t, qs, l, rfl, hD.tk (tk_same (s1.trans s2)), hz, hL, ?_, fun i hi => hI.lt hi, fun H3 r s3 g => ?_⟩
  · have := hI.len
    omega
  refine ⟨_, rfl, (by show 2 ≤ sizeLine; decide), fun p hp => ?_⟩
  exact k _ p l (((s1.trans s2).trans s3).trans (same_new hp)) hI ⟨r, t, SqT.of upd_same, g.tk (tk_same (same_new hp)), seqT (s3.trans (same_new hp)) hL⟩
end
end K16
namespace K16
open PySem PySem.Spec PyProof.Rows L2
/-! ### the tape -/
structure TapeL (H : Hp) (t l : Addr) (ns : List Int) (j c m k : Int) : Prop where
  at_ : H t = some (.lst [.ref l, .int j, .int c, .int m, .int k])
  cells : H l = some (.lst (iv ns))
  pos : 0 ≤ j
def Tape (H : Hp) (t l : Addr) : Prop := ∃ ns j c m k, TapeL H t l ns j c m k
theorem TapeL.ne {H : Hp} {t l : Addr} {ns : List Int} {j c m k : Int} (h : TapeL H t l ns j c m k) : l ≠ t := fun e => by
  have h1 := h.cells
  rw [e, h.at_] at h1
  cases ns with
  | nil => cases h1
  | cons n r => cases h1
theorem Tape.lst {H : Hp} {t l : Addr} (h : Tape H t l) : ∃ xs, H t = some (.lst xs) := by
  obtain ⟨ns, j, c, m, k, h⟩ := h
  exact ⟨_, h.at_⟩
theorem Tape.lst2 {H : Hp} {t l : Addr} (h : Tape H t l) : ∃ xs, H l = some (.lst xs) := by
  obtain ⟨ns, j, c, m, k, h⟩ := h
  exact ⟨_, h.cells⟩
theorem Tape.same {H H' : Hp} {t l : Addr} (s : Same H H') (h : Tape H t l) : Tape H' t l := by
  obtain ⟨ns, j, c, m, k, h⟩ := h
  exact ⟨ns, j, c, m, k, s _ _ h.at_, s _ _ h.cells, h.pos⟩
/-- a list of one's own (new behind H0) is written: the tape stands -/
theorem Tape.own {H H0 : Hp} {t l d : Addr} {o : HO} (h0 : Tape H0 t l) (n0 : H0 d = none) (h : Tape H t l) : Tape (upd H d o) t l := by
  obtain ⟨xs, e1⟩ := h0.lst
  obtain ⟨ys, e2⟩ := h0.lst2
  obtain ⟨ns, j, c, m, q, h⟩ := h
  exact ⟨ns, j, c, m, q, by rw [upd_ne (ne_of_none e1 n0)]; exact h.at_, by rw [upd_ne (ne_of_none e2 n0)]; exact h.cells, h.pos⟩
theorem Tape.tk {K : PySem.W.Frag} {H H' : Hp} {t l : Addr} (h : Tape H t l) (k : Keep t H H') : TK K H H' := by
  obtain ⟨xs, e⟩ := h.lst
  exact tk_keep k e
section
variable {P : Program} {w : World} {K : PySem.W.Frag} {mg : Str → Option Value} {base : Heap}
def spTape (K : PySem.W.Frag) : Sp := fun vs H Q _ => ∃ (a : Addr) (ns : List Int), vs = [.ref a] ∧ SqL K H a (iv ns) ∧ ∀ H' t l, Same H H' → H t = none → Tape H' t l → Q (.ref t) H'
theorem sc_law_tape : FnScope ["_law_script"] ["_law_script"] (defScope s_law_tape) := ⟨rfl, rfl, rfl, by decide +kernel, rfl, by decide +kernel, by decide +kernel⟩
theorem ok_law_tape (F : Def K mg "_law_tape" s_law_tape) (T : Txt K mg) : Dn P w K mg base 1 "_law_tape" ["_law_script"] (spTape K) := by
  refine Dn.mk' F sc_law_tape (fun _ _ _ _ _ _ us hl => match us, hl with | [_], _ => rfl) (fun vs H Q E h => by obtain ⟨_, _, rfl, _⟩ := h; rfl) (fun f cdv A out st H vs Q E hr h => ?_)
  obtain ⟨a, ns, rfl, hS, k⟩ := h
  refine ⟨_, pss_one (ps_ret (pe_lst (pa_cons (pe_callTy call_list_of (by rfl) T.list (by decide +kernel) (pa_cons (pv 0) pa_nil)) (pa_cons pe_int (pa_cons pe_int (pa_cons pe_int (pa_cons pe_int pa_nil))))))), ?_⟩
  refine ⟨_, rfl, a, _, rfl, .inl hS, fun l nl => ⟨(by show 5 ≤ sizeLine; decide), fun t nt => ?_⟩⟩
  have s1 : Same H (upd H l (.lst (iv ns))) := same_new nl
  have nlt : l ≠ t := fun e => by
    rw [e, upd_same] at nt
    cases nt
  refine k _ t l (s1.trans (same_new nt)) (s1.free nt) ⟨ns, 0, 0, 1, 0, upd_same, ?_, Int.le_refl _⟩
  rw [upd_ne nlt]
  exact upd_same
/-! ### a draw -/
def spPick : Sp := fun vs H Q _ => ∃ (t l : Addr) (many : Int), vs = [.ref t, .int many] ∧ Tape H t l ∧ 0 < many ∧ many < 1000000 ∧ ∀ (d : Int) (H' : Hp), 0 ≤ d → d < many → Keep t H H' → Tape H' t l → Q (.int d) H'
theorem sc_law_pick : FnScope ["_law_tape_here", "_law_many", "_law_digit", "_law_cell", "_law_mixed"] ["_law_tape_here", "_law_many"] (defScope s_law_pick) := ⟨rfl, rfl, rfl, by decide +kernel, rfl, by decide +kernel, by decide +kernel⟩
theorem ix5 {xs : List V} {v : V} {p : Addr} {H : Hp} {i : Nat} {Q : VK} (h : H p = some (.lst xs)) (e : xs[i]? = some v) (k : Q v H) : rIxL K (.ref p) (.int (i : Nat)) H Q := ⟨p, xs, _, v, rfl, rfl, SqL.of h, atI_nat e, k⟩
theorem mod_in {a b : Int} (h : 0 < b) : 0 ≤ a.fmod b ∧ a.fmod b < b := ⟨Int.fmod_nonneg_of_pos a h, Int.fmod_lt_of_pos a h⟩
theorem fdiv_in {a b c : Int} (h : 0 < b) (h0 : 0 ≤ a) (h1 : a < c) : 0 ≤ a.fdiv b ∧ a.fdiv b < c := by
  rw [Int.fdiv_eq_ediv_of_nonneg _ (Int.le_of_lt h)]
  have h2 := Int.ediv_nonneg h0 (Int.le_of_lt h)
  have h3 : a / b ≤ a := Int.ediv_le_self b h0
  omega
theorem ok_law_pick (F : Def K mg "_law_pick" s_law_pick) (T : Txt K mg) : Dn P w K mg base 1 "_law_pick" ["_law_tape_here", "_law_many"] spPick := by
  refine Dn.mk' F sc_law_pick (fun _ _ _ _ _ _ us hl => match us, hl with | [_, _], _ => rfl) (fun vs H Q E h => by obtain ⟨_, _, _, rfl, _⟩ := h; rfl) (fun f cdv A out st H vs Q E hr h => ?_)
  obtain ⟨t, l, many, rfl, ⟨ns, j, c, m, k, hT⟩, h0, h1, kk⟩ := h
  have hdiv : many ≠ 0 ∧ many.natAbs < 1073741824 := ⟨by omega, by omega⟩
  have nlt := hT.ne
  -- what stands behind the cell's reading
  have tail : ∃ tr : TS, PSs (cxOf CX0 P w K mg base ["_law_tape_here", "_law_many", "_law_digit", "_law_cell", "_law_mixed"] "_law_pick" (defScope s_law_pick) f cdv A out st H E).nox ((defBody s_law_pick).drop 4) tr ∧
      ∀ (cell j' k' : Int) (H' : Hp), 0 ≤ j' → Keep t H H' → H' t = some (.lst [.ref l, .int j', .int c, .int m, .int k']) → H' l = some (.lst (iv ns)) → tr { nx := fun _ H' => Q .non H', rt := Q } [some (.ref t), some (.int many), none, some (.int cell), none] H' := by
    refine ⟨_, pss_cons (ps_if (pt_cmpR op_ge (pv 3) (pe_op op_pow pe_int pe_int) (nomark _))
        (pss_cons (ps_asg (pe_op op_fdivN (pv 3) (pv 1)) (pg_sub (pv 0) pe_int set_list)) (pss_one (ps_ret (pe_op op_modN (pe_callTy call_int1 (by rfl) T.int (by decide +kernel) (pa_cons (pv 3) pa_nil)) (pv 1))))) pss_nil)
      (pss_cons (ps_set (i := 4) sc_law_pick.nd rfl (.inl rfl) (pe_callTy call_int1 (by rfl) T.int (by decide +kernel) (pa_cons (pe_op op_add (pe_op op_mul (pe_ix ix_list (pv 0) pe_int (fun _ _ => rfl)) pe_int) (pe_op op_mul (pe_ix ix_list (pv 0) pe_int (fun _ _ => rfl)) pe_int)) pa_nil)))
      (pss_cons (ps_set (i := 4) sc_law_pick.nd rfl (.inl rfl) (pe_op op_modN (pe_callTy call_int1 (by rfl) T.int (by decide +kernel) (pa_cons (pe_op op_add (pv 4) (pe_op op_modN (pe_callTy call_int1 (by rfl) T.int (by decide +kernel) (pa_cons (pv 3) pa_nil)) pe_int)) pa_nil)) pe_int))
      (pss_cons (ps_set (i := 4) sc_law_pick.nd rfl (.inl rfl) (pe_op op_modN (pe_callTy call_int1 (by rfl) T.int (by decide +kernel) (pa_cons (pe_op op_mul (pv 4) (pe_op op_add (pe_op op_fdivN (pv 4) pe_int) pe_int)) pa_nil)) pe_int))
      (pss_cons (ps_asg (pv 4) (pg_sub (pv 0) pe_int set_list))
      (pss_one (ps_ret (pe_op op_modN (pe_callTy call_int1 (by rfl) T.int (by decide +kernel) (pa_cons (pe_op op_fdivN (pv 4) pe_int) pa_nil)) (pv 1)))))))), ?_⟩
    intro cell j' k' H' hj' hK e1 e2
    refine ⟨_, rfl, _, _, rfl, rfl, ⟨by decide, by decide, by decide⟩, _, _, rfl, rfl, _, rfl, ?_⟩
    refine ite2 (fun _ => ?_) (fun _ => ?_)
    · refine ⟨_, rfl, _, rfl, _, _, rfl, rfl, hdiv, _, rfl, t, _, _, 2, rfl, rfl, e1, rfl, ?_⟩
      obtain ⟨b1, b2⟩ := mod_in (a := cell) h0
      refine ⟨_, rfl, .inl ⟨_, rfl, _, rfl, _, _, rfl, rfl, hdiv.1, ?_⟩⟩
      exact kk _ _ b1 b2 hK.self ⟨ns, j', _, m, k', upd_same, by rw [upd_ne nlt]; exact e2, hj'⟩
    · refine ⟨_, rfl, t, _, 3, _, rfl, rfl, SqL.of e1, rfl, _, _, rfl, rfl, .inr ⟨by decide, by decide⟩, ?_⟩
      refine ⟨_, rfl, t, _, 4, _, rfl, rfl, SqL.of e1, rfl, _, _, rfl, rfl, .inr ⟨by decide, by decide⟩, _, _, rfl, rfl, .inl ⟨_, rfl, ?_⟩⟩
      refine ⟨_, rfl, _, rfl, .inl ⟨_, rfl, _, _, rfl, rfl, (by show (2147483629 : Int) ≠ 0; decide), _, _, rfl, rfl, .inl ⟨_, rfl, _, _, rfl, rfl, (by show (2147483647 : Int) ≠ 0; decide), ?_⟩⟩⟩
      have b1 := mod_in (a := m * 48271 + k' * 69621 + cell.fmod 2147483629) (b := 2147483647) (by decide)
      refine ⟨_, rfl, _, rfl, _, _, rfl, rfl, ⟨by decide, by decide⟩, _, _, rfl, rfl, _, _, rfl, rfl, .inl ⟨Int.lt_of_lt_of_le (by decide) b1.1, Int.lt_trans b1.2 (by decide)⟩, .inl ⟨_, rfl, _, _, rfl, rfl, (by show (2147483399 : Int) ≠ 0; decide), ?_⟩⟩
      refine ⟨_, rfl, _, rfl, t, _, _, 3, rfl, rfl, e1, rfl, ?_⟩
      refine ⟨_, rfl, _, _, rfl, rfl, ⟨by decide, by decide⟩, .inl ⟨_, rfl, _, rfl, _, _, rfl, rfl, hdiv.1, ?_⟩⟩
      exact kk _ _ (mod_in h0).1 (mod_in h0).2 hK.self ⟨ns, j', c, _, k', upd_same, by rw [upd_ne nlt]; exact e2, hj'⟩
  obtain ⟨tr, htr, spec⟩ := tail
  refine ⟨_, pss_cons (ps_if (pt_cmpR op_gt (pe_ix ix_list (pv 0) pe_int (fun _ _ => rfl)) pe_int (nomark _))
      (pss_cons (ps_set (i := 2) sc_law_pick.nd rfl (.inl rfl) (pe_op op_modN (pe_callTy call_int1 (by rfl) T.int (by decide +kernel) (pa_cons (pe_ix ix_list (pv 0) pe_int (fun _ _ => rfl)) pa_nil)) (pv 1)))
      (pss_cons (ps_asg (pe_op op_fdivN (pe_ix ix_list (pv 0) pe_int (fun _ _ => rfl)) (pv 1)) (pg_sub (pv 0) pe_int set_list)) (pss_one (ps_ret (pv 2))))) pss_nil)
    (pss_cons (ps_asg (pe_op op_add (pe_ix ix_list (pv 0) pe_int (fun _ _ => rfl)) pe_int) (pg_sub (pv 0) pe_int set_list))
    (pss_cons (ps_set (i := 3) sc_law_pick.nd rfl (.inl rfl) pe_int)
    (pss_cons (ps_if (pt_cmpR op_lt (pe_ix ix_list (pv 0) pe_int (fun _ _ => rfl)) (pe_callB call_len_seq (by rfl) T.len PySem.boot_len (pa_cons (pe_ix ix_list (pv 0) pe_int (fun _ _ => rfl)) pa_nil)) (nomark _))
      (pss_cons (ps_set (i := 3) sc_law_pick.nd rfl (.inl rfl) (pe_ix ix_list (pe_ix ix_list (pv 0) pe_int (fun _ _ => rfl)) (pe_ix ix_list (pv 0) pe_int (fun _ _ => rfl)) (fun _ _ => rfl)))
      (pss_one (ps_asg (pe_op op_add (pe_ix ix_list (pv 0) pe_int (fun _ _ => rfl)) pe_int) (pg_sub (pv 0) pe_int set_list)))) pss_nil) htr))), ?_⟩
  refine ⟨_, rfl, t, _, 2, _, rfl, rfl, SqL.of hT.at_, rfl, _, _, rfl, rfl, _, rfl, ?_⟩
  refine ite2 (fun _ => ?_) (fun _ => ?_)
  · refine ⟨_, rfl, t, _, 2, _, rfl, rfl, SqL.of hT.at_, rfl, .inl ⟨_, rfl, _, rfl, _, _, rfl, rfl, hdiv.1, ?_⟩⟩
    refine ⟨_, rfl, t, _, 2, _, rfl, rfl, SqL.of hT.at_, rfl, _, rfl, _, _, rfl, rfl, hdiv, _, rfl, t, _, _, 2, rfl, rfl, hT.at_, rfl, ?_⟩
    obtain ⟨b1, b2⟩ := mod_in (a := c) h0
    exact ⟨_, rfl, kk _ _ b1 b2 (Keep.refl t H).self ⟨ns, j, _, m, k, upd_same, by rw [upd_ne nlt]; exact hT.cells, hT.pos⟩⟩
  · refine ⟨_, rfl, t, _, 4, _, rfl, rfl, SqL.of hT.at_, rfl, _, _, rfl, rfl, _, rfl, t, _, _, 4, rfl, rfl, hT.at_, rfl, ?_⟩
    have e1 : (upd H t (.lst [.ref l, .int j, .int c, .int m, .int (k + 1)])) t = some (.lst [.ref l, .int j, .int c, .int m, .int (k + 1)]) := upd_same
    have e2 : (upd H t (.lst [.ref l, .int j, .int c, .int m, .int (k + 1)])) l = some (.lst (iv ns)) := by
      rw [upd_ne nlt]
      exact hT.cells
    refine ⟨_, rfl, t, _, 1, _, rfl, rfl, SqL.of e1, rfl, _, rfl, t, _, 0, _, rfl, rfl, SqL.of e1, rfl, l, _, rfl, .inl (SqL.of e2), _, _, rfl, rfl, _, rfl, ?_⟩
    refine ite2 (fun cc => ?_) (fun cc => ?_)
    · have hlt : j < ((iv ns).length : Nat) := of_decide_eq_true cc
      have hj := hT.pos
      rw [iv_len] at hlt
      have hx : ns[j.toNat]? = some (ns[j.toNat]'(by omega)) := List.getElem?_eq_getElem (by omega)
      refine ⟨_, rfl, t, _, 0, _, rfl, rfl, SqL.of e1, rfl, _, rfl, t, _, 1, _, rfl, rfl, SqL.of e1, rfl, l, _, _, _, rfl, rfl, SqL.of e2, at_of (j := j.toNat) (by omega) (get_iv hx), ?_⟩
      refine ⟨_, rfl, t, _, 1, _, rfl, rfl, SqL.of e1, rfl, _, _, rfl, rfl, _, rfl, t, _, _, 1, rfl, rfl, e1, rfl, ?_⟩
      exact spec _ (j + 1) (k + 1) _ (by omega) ((Keep.refl t H).self.self) upd_same (by rw [upd_ne nlt]; exact e2)
    · exact spec 0 j (k + 1) _ hT.pos (Keep.refl t H).self e1 e2
end
end K16
namespace K16
open PySem PySem.Spec PyProof.Rows L2
/-! ### data that is told alike -/
structure Fine (d : PyData) : Prop where
  shaped : SeqAt.shaped d = true
  same : PyData.eqv d d = true
  showable : d.showable = true
  plain : d.hasDict = false
  depth : d.depth ≤ 60
  text : d.shown.length ≤ sizeLine
theorem log_small {i : Int} {n : Nat} (h : i.natAbs < 2 ^ n) (hn : n ≤ 1900) (h0 : 0 < n) : i.natAbs.log2 < 1920 := by
  have := PySem.Flt.log2_lt_of h0 h
  omega
theorem line_big : 1000000 ≤ sizeLine := by decide
theorem fine_fr {q : Rat} {n : Nat} (h : Sz n q) (hn : n ≤ 1900) : Fine (frd q) := by
  have l1 := log_small h.1 hn h.pos
  have l2 := log_small h.den hn h.pos
  refine ⟨rfl, frd_eqv q, ?_, rfl, Nat.le_of_ble_eq_true rfl, ?_⟩
  · show (decide (q.num.natAbs.log2 < 1920) && (decide ((q.den : Int).natAbs.log2 < 1920) && true)) = true
    rw [decide_eq_true l1, decide_eq_true l2]
    rfl
  · have h1 := PyProof.Rows.int_text_len_1921 l1
    have h2 := PyProof.Rows.int_text_len_1921 l2
    have e : (frd q).shown = tupleText [PySem.Str.ofString (toString q.num), PySem.Str.ofString (toString (q.den : Int))] := rfl
    have h3 := fmt_text [PySem.Str.ofString (toString q.num), PySem.Str.ofString (toString (q.den : Int))]
    rw [piled_cons, piled_cons, piled_nil] at h3
    rw [e]
    have := line_big
    omega
theorem fr_text {q : Rat} {n : Nat} (h : Sz n q) (hn : n ≤ 1900) : (frd q).shown.length ≤ 4000 := by
  have h1 := PyProof.Rows.int_text_len_1921 (log_small h.1 hn h.pos)
  have h2 := PyProof.Rows.int_text_len_1921 (log_small h.den hn h.pos)
  have e : (frd q).shown = tupleText [PySem.Str.ofString (toString q.num), PySem.Str.ofString (toString (q.den : Int))] := rfl
  have h3 := fmt_text [PySem.Str.ofString (toString q.num), PySem.Str.ofString (toString (q.den : Int))]
  rw [piled_cons, piled_cons, piled_nil] at h3
  rw [e]
  omega
def itd (ns : List Nat) : List PyData := (cs ns).map PyData.int
theorem itd_all : ∀ {ns : List Nat}, (∀ n ∈ ns, n < 12) → PyData.canLayAll0 (itd ns) = true ∧ PyData.showableAll (itd ns) = true ∧ PyData.hasDictAll (itd ns) = false ∧ PyData.depthAll (itd ns) = 0 ∧ PyData.eqvAll (itd ns) (itd ns) = true ∧ piled (PyData.shownAll (itd ns)) ≤ ns.length * 2000
  | [], _ => ⟨rfl, rfl, rfl, rfl, rfl, Nat.le_refl _⟩
  | n :: r, h => by
    obtain ⟨a1, a2, a3, a4, a5, a6⟩ := itd_all (ns := r) fun m hm => h m (List.mem_cons_of_mem _ hm)
    have hn := h n List.mem_cons_self
    have hl : ((n : Nat) : Int).natAbs.log2 < 1920 := log_small (n := 4) (by show n < 16; omega) (by omega) (by omega)
    have ht := PyProof.Rows.int_text_len_1921 hl
    refine ⟨?_, ?_, ?_, ?_, ?_, ?_⟩
    · show (PyData.canLay0 (.int (n : Int)) && PyData.canLayAll0 (itd r)) = true
      rw [a1]
      rfl
    · show (decide (((n : Nat) : Int).natAbs.log2 < 1920) && PyData.showableAll (itd r)) = true
      rw [a2, decide_eq_true hl]
      rfl
    · show (PyData.hasDict (.int (n : Int)) || PyData.hasDictAll (itd r)) = false
      rw [a3]
      rfl
    · show max (PyData.depth (.int (n : Int))) (PyData.depthAll (itd r)) = 0
      rw [a4]
      rfl
    · show (PyData.eqv (.int (n : Int)) (.int (n : Int)) && PyData.eqvAll (itd r) (itd r)) = true
      rw [a5]
      simp [PyData.eqv]
    · show piled (PySem.Str.ofString (toString ((n : Nat) : Int)) :: PyData.shownAll (itd r)) ≤ (n :: r).length * 2000
      rw [piled_cons, List.length_cons, Nat.add_mul]
      omega
/-- the pair of a sum and a lot -/
def toldD (q : Rat) (l : List Nat) : PyData := .tuple [frd q, .tuple (itd l)]
theorem dp_itd {K : PySem.W.Frag} {H : Hp} : ∀ ns : List Nat, DpAll K H (iv (cs ns)) (itd ns)
  | [] => .nil
  | n :: r => .cons (.int _) (dp_itd r)
theorem dp_told {K : PySem.W.Frag} {H : Hp} {p : Addr} {qs : List Rat} {l : List Nat} (h : Told K H p qs l) : Dp K H (.ref p) (toldD (lotSum qs l) l) := by
  obtain ⟨r, t, h1, h2, h3⟩ := h
  exact .tup h1 (.cons (dp_fr h2) (.cons (.tup h3 (dp_itd l)) .nil))
theorem fine_told {q : Rat} {n : Nat} {l : List Nat} (h : Sz n q) (hn : n ≤ 1900) (hl : ∀ i ∈ l, i < 12) (h12 : l.length ≤ 12) : Fine (toldD q l) := by
  obtain ⟨a1, a2, a3, a4, a5, a6⟩ := itd_all hl
  have f := fine_fr h hn
  have dep : (toldD q l).depth ≤ 60 := by
    show max (max (PyData.depth (.int q.num)) (max (PyData.depth (.int (q.den : Int))) 0) + 1) (max (PyData.depthAll (itd l) + 1) 0) + 1 ≤ 60
    rw [a4]
    exact Nat.le_of_ble_eq_true rfl
  have lay : PyData.canLay0 (toldD q l) = true := by
    show (PyData.canLay0 (frd q) && (PyData.canLayAll0 (itd l) && true)) = true
    rw [a1]
    rfl
  refine ⟨?_, SeqAt.eqv_refl _ lay, ?_, ?_, dep, ?_⟩
  · show (PyData.canLay0 (toldD q l) && decide ((toldD q l).depth ≤ 64)) = true
    rw [lay, decide_eq_true (by omega)]
    rfl
  · show ((frd q).showable && (PyData.showableAll (itd l) && true)) = true
    rw [f.showable, a2]
    rfl
  · show (PyData.hasDict (frd q) || (PyData.hasDictAll (itd l) || false)) = false
    rw [f.plain, a3]
    rfl
  · have e : (toldD q l).shown = tupleText [(frd q).shown, tupleText (PyData.shownAll (itd l))] := rfl
    have h1 := fr_text h hn
    have h2 := fmt_text (PyData.shownAll (itd l))
    have h3 := fmt_text [(frd q).shown, tupleText (PyData.shownAll (itd l))]
    rw [piled_cons, piled_cons, piled_nil] at h3
    rw [e]
    have := line_big
    have := Nat.mul_le_mul_right 2000 h12
    omega
section
variable {P : Program} {w : World} {K : PySem.W.Frag} {mg : Str → Option Value} {base : Heap}
/-! ### _law_any -/
def spAny : Sp := fun vs H Q _ => ∃ (t l s : Addr) (xs : List V), vs = [.ref t, .ref s] ∧ Tape H t l ∧ H s = some (.lst xs) ∧ s ≠ t ∧ 0 < xs.length ∧ xs.length ≤ 1000 ∧ ∀ (i : Nat) (x : V) (H' : Hp), xs[i]? = some x → Keep t H H' → Tape H' t l → Q x H'
theorem sc_law_any : FnScope ["_law_tape_here", "_law_some"] ["_law_tape_here", "_law_some"] (defScope s_law_any) := ⟨rfl, rfl, rfl, by decide +kernel, rfl, by decide +kernel, by decide +kernel⟩
theorem ok_law_any (F : Def K mg "_law_any" s_law_any) (T : Txt K mg) (D : Dn P w K mg base 1 "_law_pick" ["_law_tape_here", "_law_many"] spPick) : Dn P w K mg base 2 "_law_any" ["_law_tape_here", "_law_some"] spAny := by
  refine Dn.mk' F sc_law_any (fun _ _ _ _ _ _ us hl => match us, hl with | [_, _], _ => rfl) (fun vs H Q E h => by obtain ⟨_, _, _, _, rfl, _⟩ := h; rfl) (fun f cdv A out st H vs Q E hr h => ?_)
  obtain ⟨t, l, s, xs, rfl, hT, hs, nst, h0, h1, k⟩ := h
  refine ⟨_, pss_one (ps_ret (pe_ix ix_list (pv 1) (pe_dn D hr (pa_cons (pv 0) (pa_cons (pe_callB call_len_seq (by rfl) T.len PySem.boot_len (pa_cons (pv 1) pa_nil)) pa_nil))) (fun _ _ => rfl))), ?_⟩
  refine ⟨_, rfl, _, rfl, _, rfl, s, xs, rfl, .inl (SqL.of hs), t, l, xs.length, rfl, hT, by omega, by omega, fun d H' d0 d1 kp hT' => ?_⟩
  have hx : xs[d.toNat]? = some (xs[d.toNat]'(by omega)) := List.getElem?_eq_getElem (by omega)
  exact ⟨s, xs, d, _, rfl, rfl, SqL.of (kp.lst hs nst), at_of (j := d.toNat) (by omega) hx, k _ _ H' hx kp hT'⟩
/-! ### the law's own fractions -/
def spLDivisor : Sp := fun vs H Q _ => ∃ a b : Int, vs = [.int a, .int b] ∧ Q (.int (Int.gcd a b : Int)) H
theorem sc_law_divisor : FnScope ["_law_one", "_law_other"] ["_law_one", "_law_other"] (defScope s_law_divisor) := ⟨rfl, rfl, rfl, by decide +kernel, rfl, by decide +kernel, by decide +kernel⟩
theorem gcd_abs (a b : Int) : Int.gcd (if a < 0 then -a else a) (if b < 0 then -b else b) = Int.gcd a b := by
  split <;> split <;> simp
theorem ok_law_divisor (F : Def K mg "_law_divisor" s_law_divisor) (T : Txt K mg) : Dn P w K mg base 1 "_law_divisor" ["_law_one", "_law_other"] spLDivisor := by
  refine Dn.mk' F sc_law_divisor (fun _ _ _ _ _ _ us hl => match us, hl with | [_, _], _ => rfl) (fun vs H Q E h => by obtain ⟨_, _, rfl, _⟩ := h; rfl) (fun f cdv A out st H vs Q E hr h => ?_)
  obtain ⟨a, b, rfl, k⟩ := h
  refine ⟨_, pss_cons (ps_par (i := 0) (j := 1) rfl sc_law_divisor.nd rfl rfl (by decide) rfl rfl (pa_cons (pe_callB call_abs (by rfl) T.abs (by decide +kernel) (pa_cons (pv 0) pa_nil)) (pa_cons (pe_callB call_abs (by rfl) T.abs (by decide +kernel) (pa_cons (pv 1) pa_nil)) pa_nil)) (by rfl))
    (pss_cons (ps_while PassesOwn.never (pt_cmpR op_gt (pv 1) pe_int (nomark _)) (pss_one (ps_par (i := 0) (j := 1) rfl sc_law_divisor.nd rfl rfl (by decide) rfl rfl
      (pa_cons (pv 1) (pa_cons (pe_op op_modN (pe_callTy call_int1 (by rfl) T.int (by decide +kernel) (pa_cons (pv 0) pa_nil)) (pv 1)) pa_nil)) (by rfl))))
    (pss_one (ps_ret (pv 0)))), ?_⟩
  refine ⟨_, rfl, a, rfl, _, rfl, b, rfl, _, _, rfl, ?_⟩
  refine ⟨fun m σ H' => ∃ x y : Int, σ = [some (.int x), some (.int y)] ∧ H' = H ∧ 0 ≤ x ∧ 0 ≤ y ∧ m = y.toNat ∧ Int.gcd x y = Int.gcd a b, ⟨_, _, _, rfl, rfl, by split <;> omega, by split <;> omega, rfl, gcd_abs a b⟩, ?_⟩
  rintro m σ H' ⟨x, y, rfl, rfl, hx, hy, rfl, hg⟩
  refine ⟨_, rfl, _, _, rfl, rfl, _, rfl, ?_⟩
  by_cases c : y = 0
  · subst c
    refine iteF ⟨_, rfl, ?_⟩
    rw [← hg, gcd_end, if_neg (by omega)] at k
    exact k
  · have e : decide ((0 : Int) < y) = true := decide_eq_true (by omega)
    rw [e]
    refine iteT ⟨fun σ' H2 => ∃ x' y' : Int, σ' = [some (.int x'), some (.int y')] ∧ H2 = H' ∧ 0 ≤ x' ∧ 0 ≤ y' ∧ y'.toNat < y.toNat ∧ Int.gcd x' y' = Int.gcd a b, ?_, ?_⟩
    · rintro σ' H2 ⟨x', y', e1, e2, e3, e4, e5, e6⟩
      exact ⟨_, e5, x', y', e1, e2, e3, e4, rfl, e6⟩
    · obtain ⟨r1, r2⟩ := rem_less (a := x) hy c
      exact ⟨_, rfl, _, rfl, .inl ⟨_, rfl, _, rfl, _, _, rfl, rfl, c, _, _, rfl, y, x.fmod y, rfl, rfl, hy, r1, r2, (gcd_turn x y).trans hg⟩⟩
theorem sc_law_frac : FnScope ["_law_top", "_law_bottom", "_law_by"] ["_law_top", "_law_bottom"] (defScope s_law_frac) := ⟨rfl, rfl, rfl, by decide +kernel, rfl, by decide +kernel, by decide +kernel⟩
theorem ok_law_frac (F : Def K mg "_law_frac" s_law_frac) (D : Dn P w K mg base 1 "_law_divisor" ["_law_one", "_law_other"] spLDivisor) : Dn P w K mg base 2 "_law_frac" ["_law_top", "_law_bottom"] (spLowest K) := by
  refine Dn.mk' F sc_law_frac (fun _ _ _ _ _ _ us hl => match us, hl with | [_, _], _ => rfl) (fun vs H Q E h => by obtain ⟨_, _, _, rfl, _⟩ := h; rfl) (fun f cdv A out st H vs Q E hr h => ?_)
  obtain ⟨t, b, n, rfl, hb, hn, hn0, h1, k⟩ := h
  refine ⟨_, pss_cons (ps_set (i := 2) sc_law_frac.nd rfl (.inl rfl) (pe_dn D hr (pa_cons (pv 0) (pa_cons (pv 1) pa_nil))))
    (pss_one (ps_ret (pe_tup (pa_cons (pe_op op_fdivW (pv 0) (pv 2)) (pa_cons (pe_op op_fdivW (pv 1) (pv 2)) pa_nil))))), ?_⟩
  have w1 : CDivW t (Int.gcd t b : Int) := wide_div (gcd_pos hb) (gcd_small hb h1) hn0 hn
  refine ⟨_, rfl, _, rfl, t, b, rfl, ?_⟩
  refine ⟨_, rfl, _, rfl, _, _, rfl, rfl, w1, _, rfl, _, rfl, _, _, rfl, rfl, w1, (by show 2 ≤ sizeLine; decide), fun p hp => ?_⟩
  refine k _ p (same_new hp) ?_
  unfold FrAt
  rw [div_num hb, div_den hb]
  exact SqT.of upd_same
theorem sc_law_plus : FnScope ["_law_one", "_law_other"] ["_law_one", "_law_other"] (defScope s_law_plus) := ⟨rfl, rfl, rfl, by decide +kernel, rfl, by decide +kernel, by decide +kernel⟩
theorem ok_law_plus (F : Def K mg "_law_plus" s_law_plus) (D : Dn P w K mg base 2 "_law_frac" ["_law_top", "_law_bottom"] (spLowest K)) : Dn P w K mg base 3 "_law_plus" ["_law_one", "_law_other"] (spPlus K) := by
  refine Dn.mk' F sc_law_plus (fun _ _ _ _ _ _ us hl => match us, hl with | [_, _], _ => rfl) (fun vs H Q E h => by obtain ⟨_, _, _, _, _, _, rfl, _⟩ := h; rfl) (fun f cdv A out st H vs Q E hr h => ?_)
  obtain ⟨a, b, p, q, m, n, rfl, ha, hb, sp, sq, hm, hn, k⟩ := h
  refine ⟨_, pss_one (ps_ret (pe_dn D hr (pa_cons (pe_op op_add (pe_op op_mulW (pe_ix ix_tup (pv 0) pe_int (fun _ _ => rfl)) (pe_ix ix_tup (pv 1) pe_int (fun _ _ => rfl)))
    (pe_op op_mulW (pe_ix ix_tup (pv 1) pe_int (fun _ _ => rfl)) (pe_ix ix_tup (pv 0) pe_int (fun _ _ => rfl)))) (pa_cons (pe_op op_mulW (pe_ix ix_tup (pv 0) pe_int (fun _ _ => rfl)) (pe_ix ix_tup (pv 1) pe_int (fun _ _ => rfl))) pa_nil)))), ?_⟩
  have pm := sp.pos
  have pn := sq.pos
  refine ⟨_, rfl, a, _, 0, _, rfl, rfl, ha, rfl, _, rfl, b, _, 1, _, rfl, rfl, hb, rfl, _, _, rfl, rfl, mw sp.1 sq.den pm pn (by omega) (by omega), ?_⟩
  refine ⟨_, rfl, b, _, 0, _, rfl, rfl, hb, rfl, _, rfl, a, _, 1, _, rfl, rfl, ha, rfl, _, _, rfl, rfl, mw sq.1 sp.den pn pm (by omega) (by omega), ?_⟩
  refine ⟨_, _, rfl, rfl, ?_⟩
  refine ⟨_, rfl, a, _, 1, _, rfl, rfl, ha, rfl, _, rfl, b, _, 1, _, rfl, rfl, hb, rfl, _, _, rfl, rfl, mw sp.den sq.den pm pn (by omega) (by omega), ?_⟩
  exact ⟨_, _, m + n, rfl, den_mul p q, by omega, by omega, plus_bot sp sq, fun H' r s g => k H' r s (by rw [← plus_eq p q]; exact g)⟩
def spMinus (K : PySem.W.Frag) : Sp := fun vs H Q _ => ∃ (a b : Addr) (p q : Rat) (m n : Nat), vs = [.ref a, .ref b] ∧ FrAt K H a p ∧ FrAt K H b q ∧ Sz m p ∧ Sz n q ∧ m ≤ 4000 ∧ n ≤ 4000 ∧ ∀ H' r, Same H H' → FrAt K H' r (p - q) → Q (.ref r) H'
theorem sc_law_minus : FnScope ["_law_one", "_law_other"] ["_law_one", "_law_other"] (defScope s_law_minus) := ⟨rfl, rfl, rfl, by decide +kernel, rfl, by decide +kernel, by decide +kernel⟩
theorem ok_law_minus (F : Def K mg "_law_minus" s_law_minus) (D : Dn P w K mg base 3 "_law_plus" ["_law_one", "_law_other"] (spPlus K)) : Dn P w K mg base 4 "_law_minus" ["_law_one", "_law_other"] (spMinus K) := by
  refine Dn.mk' F sc_law_minus (fun _ _ _ _ _ _ us hl => match us, hl with | [_, _], _ => rfl) (fun vs H Q E h => by obtain ⟨_, _, _, _, _, _, rfl, _⟩ := h; rfl) (fun f cdv A out st H vs Q E hr h => ?_)
  obtain ⟨a, b, p, q, m, n, rfl, ha, hb, sp, sq, hm, hn, k⟩ := h
  refine ⟨_, pss_one (ps_ret (pe_dn D hr (pa_cons (pv 0) (pa_cons (pe_tup (pa_cons (pe_un un_neg (pe_ix ix_tup (pv 1) pe_int (fun _ _ => rfl))) (pa_cons (pe_ix ix_tup (pv 1) pe_int (fun _ _ => rfl)) pa_nil))) pa_nil)))), ?_⟩
  refine ⟨_, rfl, _, rfl, b, _, 0, _, rfl, rfl, hb, rfl, _, rfl, _, rfl, b, _, 1, _, rfl, rfl, hb, rfl, (by show 2 ≤ sizeLine; decide), fun r nr => ?_⟩
  have s1 : Same H (upd H r (.tup [.int (-q.num), .int (q.den : Int)])) := same_new nr
  have g1 : FrAt K (upd H r (.tup [.int (-q.num), .int (q.den : Int)])) r (-q) := by
    unfold FrAt
    rw [Rat.neg_num, Rat.neg_den]
    exact SqT.of upd_same
  exact ⟨a, r, p, -q, m, n, rfl, ha.tk (tk_same s1), g1, sp, sq.neg, hm, hn, fun H' r2 s2 g => k H' r2 (s1.trans s2) (by rw [Rat.sub_eq_add_neg]; exact g)⟩
theorem sc_law_is_below : FnScope ["_law_one", "_law_other"] ["_law_one", "_law_other"] (defScope s_law_is_below) := ⟨rfl, rfl, rfl, by decide +kernel, rfl, by decide +kernel, by decide +kernel⟩
theorem ok_law_is_below (F : Def K mg "_law_is_below" s_law_is_below) : Dn P w K mg base 1 "_law_is_below" ["_law_one", "_law_other"] (spLess K) := by
  refine Dn.mk' F sc_law_is_below (fun _ _ _ _ _ _ us hl => match us, hl with | [_, _], _ => rfl) (fun vs H Q E h => by obtain ⟨_, _, _, _, _, _, rfl, _⟩ := h; rfl) (fun f cdv A out st H vs Q E hr h => ?_)
  obtain ⟨a, b, p, q, m, n, rfl, ha, hb, sp, sq, hm, hn, k⟩ := h
  refine ⟨_, pss_one (ps_ret (pe_cmpR op_lt (pe_op op_mulW (pe_ix ix_tup (pv 0) pe_int (fun _ _ => rfl)) (pe_ix ix_tup (pv 1) pe_int (fun _ _ => rfl)))
    (pe_op op_mulW (pe_ix ix_tup (pv 1) pe_int (fun _ _ => rfl)) (pe_ix ix_tup (pv 0) pe_int (fun _ _ => rfl))) (nomark _))), ?_⟩
  have pm := sp.pos
  have pn := sq.pos
  refine ⟨_, rfl, a, _, 0, _, rfl, rfl, ha, rfl, _, rfl, b, _, 1, _, rfl, rfl, hb, rfl, _, _, rfl, rfl, mw sp.1 sq.den pm pn (by omega) (by omega), ?_⟩
  refine ⟨_, rfl, b, _, 0, _, rfl, rfl, hb, rfl, _, rfl, a, _, 1, _, rfl, rfl, ha, rfl, _, _, rfl, rfl, mw sq.1 sp.den pn pm (by omega) (by omega), ?_⟩
  exact ⟨_, _, rfl, rfl, bl_eq (less_bl p q) k⟩
def spLSum (K : PySem.W.Frag) : Sp := fun vs H Q _ => ∃ (a : Addr) (as : List Addr) (qs : List Rat) (n : Nat), vs = [.ref a] ∧ SqL K H a (refs as) ∧ FrAll K H as qs ∧ (∀ q ∈ qs, Sz n q) ∧ qs.length ≤ 12 ∧ n ≤ 300 ∧ ∀ H' r, Same H H' → FrAt K H' r (tot qs) → Q (.ref r) H'
theorem sc_law_sum : FnScope ["_law_some", "_law_found", "_law_one"] ["_law_some"] (defScope s_law_sum) := ⟨rfl, rfl, rfl, by decide +kernel, rfl, by decide +kernel, by decide +kernel⟩
theorem zero_at {H : Hp} {p : Addr} : FrAt K (upd H p (.tup [.int 0, .int 1])) p 0 := SqT.of upd_same
theorem one_at {H : Hp} {p : Addr} : FrAt K (upd H p (.tup [.int 1, .int 1])) p 1 := SqT.of upd_same
theorem ok_law_sum (F : Def K mg "_law_sum" s_law_sum) (D : Dn P w K mg base 3 "_law_plus" ["_law_one", "_law_other"] (spPlus K)) : Dn P w K mg base 4 "_law_sum" ["_law_some"] (spLSum K) := by
  refine Dn.mk' F sc_law_sum (fun _ _ _ _ _ _ us hl => match us, hl with | [_], _ => rfl) (fun vs H Q E h => by obtain ⟨_, _, _, _, rfl, _⟩ := h; rfl) (fun f cdv A out st H vs Q E hr h => ?_)
  obtain ⟨a, as, qs, n, rfl, hS, hF, hz, hl, hn, k⟩ := h
  refine ⟨_, pss_cons (ps_set (i := 1) sc_law_sum.nd rfl (.inl rfl) (pe_tup (pa_cons pe_int (pa_cons pe_int pa_nil)))) (pss_cons (ps_for PassesOwn.never rfl (pi_list (pv 0)) (pg_name (i := 2) sc_law_sum.nd rfl (.inl rfl))
      (pss_one (ps_set (i := 1) sc_law_sum.nd rfl (.inl rfl) (pe_dn D hr (pa_cons (pv 1) (pa_cons (pv 2) pa_nil)))))) (pss_one (ps_ret (pv 1)))), ?_⟩
  refine ⟨(by show 2 ≤ sizeLine; decide), fun z nz => ?_⟩
  refine ⟨_, rfl, a, rfl, ⟨_, (same_new nz).seq hS⟩, for_list (TotInv K a qs H) ⟨z, none, rfl, same_new nz, zero_at⟩ (fun i σ H' _ ⟨_, _, _, s1, _⟩ => s1.seq hS) ?_ ?_⟩
  · rintro i x σ H' hx ⟨r, y, rfl, s1, hr1⟩
    obtain ⟨b, hb, rfl⟩ := refs_get hx
    obtain ⟨q, hq, hf⟩ := hF.at_ hb
    refine ⟨_, rfl, _, rfl, r, b, _, q, 3700, n, rfl, hr1, hf.tk (tk_same s1), tot_size hz hl hn, hz q (List.mem_of_getElem? hq), by omega, by omega, fun H2 r2 s2 g => ?_⟩
    exact ⟨r2, some (.ref b), rfl, s1.trans s2, by rw [tot_take hq]; exact g⟩
  · rintro σ H' ⟨r, y, rfl, s1, hr1⟩
    rw [refs_len, hF.len, List.take_length] at hr1
    exact ⟨_, rfl, k H' r s1 hr1⟩
end
/-! ### _law_same: its caller knows that no repr is under way -/
structure Gn (P : Program) (w : World) (K : PySem.W.Frag) (mg : Str → Option Value) (base : Heap) (k : Nat) (x : Str) (ps : List Str) (sp : Sp) : Prop where
  ex : ∃ (f : Addr) (fd : FuncData), FnG P w K mg base k f fd ps sp ∧ mg x = some (.ref f) ∧ PySem.W.keepIn K (.ref f) = true ∧ Binds K fd ps []
theorem pe_gn {X : Cx} {k : Nat} {x : Str} {ps : List Str} {sp : Sp} {p pos : Pos} {e : Expr} {es : List Expr} {t : TA} (D : Gn X.prog X.w X.K X.mg X.base k x ps sp) (hgd : X.A.guards = some []) (hr : Room k X.A) (ha : PA X (e :: es) t) (hg : Gl X x := by rfl)
    (hdb : (x == ("__debug__" : Str)) = false := by decide) (h1 : starEach (e :: es) X.env = (false, eval e X.env) :: starEach es X.env := by rfl) (h2 : (backTo pos (starEach es X.env)).any (·.1) = false := by rfl) :
    PE X (.Call (.Name x p) (e :: es) [] pos) (tCall sp [] E0 t) := by
  obtain ⟨f, fd, F, hm, hk, hb⟩ := D.ex
  exact pe_callG F hgd hr hg hm hk hb ha hdb h1 h2
theorem Gn.mk' {P : Program} {w : World} {K : PySem.W.Frag} {mg : Str → Option Value} {base : Heap} {k : Nat} {x : Str} {s : Stmt} {N ps : List Str} {sp : Sp} (F : Def K mg x s) (S : FnScope N ps (defScope s))
    (hb : ∀ (kV doc pm : Value) (an : Option Addr) (cdv ct : Value) (us : List Value), us.length = ps.length → bindArgs (PySem.W.fnOf x x (defArgs s) (defBody s) (defScope s) .none kV doc pm an cdv ct) ⟨us, []⟩ = pure (ps.zip us))
    (len : ∀ vs H Q, sp vs H Q E0 → vs.length = ps.length)
    (hB : ∀ (f : Addr) (cdv : Value) (A : Around) (out : List Env) (st : Shared) (H : Hp) (vs : List V) (Q : VK), A.guards = some [] → Room k (A.deeper (envOfC x (defScope s) st.heap.objs.size f cdv)) → sp vs H Q E0 →
      ∃ t, PSs (cxOf CX0 P w K mg base N x (defScope s) f cdv A out st H E0).nox (defBody s) t ∧ t { nx := fun _ H' => Q .non H', rt := Q } (start N vs) H) : Gn P w K mg base (k + 1) x ps sp := by
  obtain ⟨f, fd, F, hm⟩ := F.ex
  exact ⟨f, fd, fnG_of F S len fun cdv A out st H vs Q hgd hr h => (hB f cdv A out st H vs Q hgd hr h).elim fun t c => ⟨t, c.1.nox, c.2⟩, hm, F.kp, F.bindsN hb⟩
section
variable {P : Program} {w : World} {K : PySem.W.Frag} {mg : Str → Option Value} {base : Heap}
def spSame (K : PySem.W.Frag) : Sp := fun vs H Q _ => ∃ (a b : Addr) (d : PyData), vs = [.ref a, .ref b] ∧ Dp K H (.ref a) d ∧ Dp K H (.ref b) d ∧ Fine d ∧ Q (.bl true) H
theorem sc_law_same : FnScope ["_law_told", "_law_due"] ["_law_told", "_law_due"] (defScope s_law_same) := ⟨rfl, rfl, rfl, by decide +kernel, rfl, by decide +kernel, by decide +kernel⟩
theorem ok_law_same (F : Def K mg "_law_same" s_law_same) (T : Txt K mg) : Gn P w K mg base 1 "_law_same" ["_law_told", "_law_due"] (spSame K) := by
  refine Gn.mk' F sc_law_same (fun _ _ _ _ _ _ us hl => match us, hl with | [_, _], _ => rfl) (fun vs H Q h => by obtain ⟨_, _, _, rfl, _⟩ := h; rfl) (fun f cdv A out st H vs Q hgd hr h => ?_)
  obtain ⟨a, b, d, rfl, ha, hb, fd, k⟩ := h
  refine ⟨_, pss_one (ps_ret (pe_and (pe_cmpR (op_eqD hr.units) (pv 0) (pv 1) (nomark _)) (pe_one (pe_cmpR op_eq (pe_callB (call_reprD hgd hr.units) (by rfl) T.repr (by decide +kernel) (pa_cons (pv 0) pa_nil))
    (pe_callB (call_reprD hgd hr.units) (by rfl) T.repr (by decide +kernel) (pa_cons (pv 1) pa_nil)) (nomark _))))), ?_⟩
  refine ⟨_, rfl, _, rfl, d, d, ha, hb, fd.shaped, fd.shaped, true, congrArg V.bl fd.same, iteT ?_⟩
  refine ⟨_, rfl, a, d, rfl, ha, fd.showable, fd.plain, fd.depth, fd.text, ?_⟩
  exact ⟨_, rfl, b, d, rfl, hb, fd.showable, fd.plain, fd.depth, fd.text, rfl, bl_eq (decide_eq_true rfl) k⟩
end
end K16
namespace K16
open PySem PySem.Spec PyProof.Rows L2
theorem ixN_in {n : Nat} {d : Int} (h0 : 0 ≤ d) (h1 : d < n) : ixN n d = some d.toNat := by
  unfold ixN
  rw [if_pos h0, if_pos h1]
theorem iv_set (ns : List Int) (j : Nat) (x : Int) : (iv ns).set j (.int x) = iv (ns.set j x) := by
  unfold iv
  rw [List.map_set]
theorem iv_rep (n : Nat) : (List.replicate n [V.int 0]).flatten = iv (List.replicate n 0) := by
  induction n with
  | zero => rfl
  | succ n ih =>
    rw [List.replicate_succ, List.flatten_cons, ih, List.replicate_succ]
    rfl
/-- where shares stand -/
def ShAt (K : PySem.W.Frag) (H : Hp) (a : Addr) (b : Int) (ts : List Int) : Prop := ∃ c, SqT K H a [.int b, .ref c] ∧ SqT K H c (iv ts)
theorem ShAt.tk {K : PySem.W.Frag} {H H' : Hp} (k : TK K H H') {a : Addr} {b : Int} {ts : List Int} (h : ShAt K H a b ts) : ShAt K H' a b ts := h.elim fun c h => ⟨c, k _ _ h.1, k _ _ h.2⟩
theorem set_nn {ts : List Int} {j : Nat} {x : Int} (h : ∀ y ∈ ts, 0 ≤ y) (hx : 0 ≤ x) : ∀ y ∈ ts.set j x, 0 ≤ y := fun y hy => by
  rcases List.mem_or_eq_of_mem_set hy with h1 | h1
  · exact h y h1
  · rw [h1]
    exact hx
section
variable {P : Program} {w : World} {K : PySem.W.Frag} {mg : Str → Option Value} {base : Heap}
/-- the state in which a list d of one's own holds the tops -/
structure TopsAt (H H' : Hp) (t l d : Addr) (n : Nat) (ts : List Int) : Prop where
  keep : Keep t H H'
  tape : Tape H' t l
  new : H d = none
  lst : H' d = some (.lst (iv ts))
  len : ts.length = n
  nn : ∀ x ∈ ts, 0 ≤ x
theorem TopsAt.dt {H H' : Hp} {t l d : Addr} {n : Nat} {ts : List Int} (h : TopsAt H H' t l d n ts) (hT : Tape H t l) : d ≠ t := fun e => by
  obtain ⟨xs, e2⟩ := hT.lst
  have := h.new
  rw [e, e2] at this
  cases this
/-- a draw goes by -/
theorem TopsAt.draw {H H' H2 : Hp} {t l d : Addr} {n : Nat} {ts : List Int} (h : TopsAt H H' t l d n ts) (hT : Tape H t l) (k : Keep t H' H2) (hT2 : Tape H2 t l) : TopsAt H H2 t l d n ts :=
  ⟨h.keep.trans k, hT2, h.new, k.lst h.lst (h.dt hT), h.len, h.nn⟩
theorem TopsAt.put {H H' : Hp} {t l d : Addr} {n : Nat} {ts : List Int} (h : TopsAt H H' t l d n ts) (hT : Tape H t l) {j : Nat} {x : Int} (hx : 0 ≤ x) : TopsAt H (upd H' d (.lst ((iv ts).set j (.int x)))) t l d n (ts.set j x) :=
  ⟨h.keep.own h.new, hT.own h.new h.tape, h.new, by rw [upd_same, iv_set], by rw [List.length_set]; exact h.len, set_nn h.nn hx⟩
def spShares (K : PySem.W.Frag) : Sp := fun vs H Q _ => ∃ (t l : Addr) (n : Nat), vs = [.ref t, .int (n : Nat)] ∧ Tape H t l ∧ 1 ≤ n ∧ n ≤ 12 ∧ ∀ (a : Addr) (b : Int) (ts : List Int) (H' : Hp), Keep t H H' → Tape H' t l → ShAt K H' a b ts → Sh n b ts → Q (.ref a) H'
abbrev nShares : List Str := ["_law_tape_here", "_law_n", "_law_bottom", "_law_kind", "_law_tops", "_law_person", "_law_group", "_law_left", "_law_turn", "_law_part"]
theorem sc_law_shares : FnScope nShares ["_law_tape_here", "_law_n"] (defScope s_law_shares) := ⟨rfl, rfl, rfl, by decide +kernel, rfl, by decide +kernel, by decide +kernel⟩
theorem ok_law_shares (F : Def K mg "_law_shares" s_law_shares) (T : Txt K mg) (DP : Dn P w K mg base 1 "_law_pick" ["_law_tape_here", "_law_many"] spPick) (DA : Dn P w K mg base 2 "_law_any" ["_law_tape_here", "_law_some"] spAny) : Dn P w K mg base 3 "_law_shares" ["_law_tape_here", "_law_n"] (spShares K) := by
  refine Dn.mk' F sc_law_shares (fun _ _ _ _ _ _ us hl => match us, hl with | [_, _], _ => rfl) (fun vs H Q E h => by obtain ⟨_, _, _, rfl, _⟩ := h; rfl) (fun f cdv A out st H vs Q E hr h => ?_)
  obtain ⟨t, l, n, rfl, hT, hn1, hn2, k⟩ := h
  have hr1 : Room 1 _ := hr.mono (by decide)
  have nd := sc_law_shares.nd
  have tail : ∃ tr : TS, PSs (cxOf CX0 P w K mg base nShares "_law_shares" (defScope s_law_shares) f cdv A out st H E).nox ((defBody s_law_shares).drop 3) tr ∧
      ∀ (σ : L2.St) (d : Addr) (b : Int) (ts : List Int) (H' : Hp), σ[2]? = some (some (.int b)) → σ[4]? = some (some (.ref d)) → TopsAt H H' t l d n ts → Sh n b ts → tr { nx := fun _ H' => Q .non H', rt := Q } σ H' := by
    refine ⟨_, pss_one (ps_ret (pe_tup (pa_cons (pv 2) (pa_cons (pe_callTy call_tuple_of (by rfl) T.tuple (by decide +kernel) (pa_cons (pv 4) pa_nil)) pa_nil)))), ?_⟩
    intro σ d b ts H' h2 h4 hA hS
    refine ⟨_, h2, _, h4, d, _, rfl, .inl ⟨SqL.of hA.lst, fun c nc => ⟨(by show 2 ≤ sizeLine; decide), fun p np => ?_⟩⟩⟩
    have s1 : Same H' (upd H' c (.tup (iv ts))) := same_new nc
    exact k p b ts _ (hA.keep.trans (Keep.of (s1.trans (same_new np)))) ((hA.tape.same s1).same (same_new np)) ⟨c, SqT.of upd_same, seqT (same_new np) (SqT.of upd_same)⟩ hS
  obtain ⟨tr, htr, spec⟩ := tail
  refine ⟨_, pss_cons (ps_par (i := 2) (j := 3) rfl nd rfl rfl (by decide) rfl rfl (pa_cons (pe_dn DA hr (pa_cons (pv 0) (pa_cons (pe_lst (pa_cons pe_int (pa_cons pe_int (pa_cons pe_int (pa_cons pe_int (pa_cons pe_int (pa_cons pe_int (pa_cons pe_int (pa_cons pe_int (pa_cons pe_int
        (pa_cons (pe_op op_add pe_int (pe_dn DP hr1 (pa_cons (pv 0) (pa_cons pe_int pa_nil)))) pa_nil))))))))))) pa_nil))) (pa_cons (pe_dn DP hr1 (pa_cons (pv 0) (pa_cons pe_int pa_nil))) pa_nil)) (by rfl))
    (pss_cons (ps_set (i := 4) nd rfl (.inl rfl) (pe_op op_rep (pe_lst (pa_cons pe_int pa_nil)) (pv 1)))
    (pss_cons (ps_if (pt_cmpR op_eq (pv 3) pe_int (nomark _))
      (pss_one (ps_asg (pv 2) (pg_sub (pv 4) (pe_dn DP hr1 (pa_cons (pv 0) (pa_cons (pv 1) pa_nil))) set_list)))
      (pss_one (ps_if (pt_cmpR op_eq (pv 3) pe_int (nomark _))
        (pss_cons (ps_set (i := 6) nd rfl (.inr rfl) (pe_op op_cat (pe_lc (own := [("_law_person", 5)]) (g := gName 5) (tt := tTest (tOp rEq (tCall spPick [] E0 (tCons (tVar 0) (tCons (tC (.int 2)) tNil))) (tC (.int 0)))) (te := tVar 5) (by rfl) nd (pi_range1 (by rfl) T.range (pa_cons (pv 1) pa_nil))
            (blkOk_by (own := [("_law_person", 5)]) (N := nShares) (sc := defScope s_law_shares) (by decide +kernel)) (fun _ _ _ _ _ => pg_name (i := 5) nd rfl (Or.inl rfl)) (fun _ _ _ _ _ => pts_one (pt_cmpR op_eq (pe_dn DP hr1 (pa_cons (pv 0) (pa_cons pe_int pa_nil))) pe_int (nomark _))) (fun _ _ _ _ _ => pv 5))
            (pe_lst (pa_cons (pe_dn DP hr1 (pa_cons (pv 0) (pa_cons (pv 1) pa_nil))) pa_nil))))
        (pss_one (ps_par (i := 2) (j := 4) rfl nd rfl rfl (by decide) rfl rfl (pa_cons (pe_callB call_len_seq (by rfl) T.len PySem.boot_len (pa_cons (pv 6) pa_nil)) (pa_cons (pe_lc (own := [("_law_person", 5)]) (g := gName 5) (tt := tYes) (te := tBM K "list" (rCntI K) (tVar 6) (tCons (tVar 5) tNil)) (by rfl) nd (pi_range1 (by rfl) T.range (pa_cons (pv 1) pa_nil))
            (blkOk_by (own := [("_law_person", 5)]) (N := nShares) (sc := defScope s_law_shares) (by decide +kernel)) (fun _ _ _ _ _ => pg_name (i := 5) nd rfl (Or.inl rfl)) (fun _ _ _ _ _ => pts_nil) (fun _ _ _ _ _ => pe_bm PySem.F.plainAttrs_list PySem.F.slot_list_count PySem.F.type_list_count mt_lcount (pv 6) (pa_cons (pv 5) pa_nil))) pa_nil)) (by rfl))))
        (pss_cons (ps_set (i := 7) nd rfl (.inl rfl) (pv 2))
        (pss_cons (ps_for PassesOwn.never rfl (pi_range1 (by rfl) T.range (pa_cons pe_int pa_nil)) (pg_name (i := 8) nd rfl (.inl rfl))
          (pss_cons (ps_set (i := 9) nd rfl (.inl rfl) (pe_dn DP hr1 (pa_cons (pv 0) (pa_cons (pe_op op_add (pv 7) pe_int) pa_nil))))
          (pss_cons (ps_set (i := 5) nd rfl (.inl rfl) (pe_dn DP hr1 (pa_cons (pv 0) (pa_cons (pv 1) pa_nil))))
          (pss_one (ps_asg (pe_tup (pa_cons (pe_op op_add (pe_ix ix_list (pv 4) (pv 5) (fun _ _ => rfl)) (pv 9)) (pa_cons (pe_op op_sub (pv 7) (pv 9)) pa_nil))) (pg_tup rfl (pgs_cons (pg_sub (pv 4) (pv 5) set_list) (pgs_cons (pg_name (i := 7) nd rfl (.inl rfl)) pgs_nil))))))))
        (pss_cons (ps_set (i := 5) nd rfl (.inl rfl) (pe_dn DP hr1 (pa_cons (pv 0) (pa_cons (pv 1) pa_nil))))
        (pss_one (ps_asg (pe_op op_add (pe_ix ix_list (pv 4) (pv 5) (fun _ _ => rfl)) (pv 7)) (pg_sub (pv 4) (pv 5) set_list))))))))) htr)), ?_⟩
  refine ⟨_, rfl, _, rfl, t, l, 360, rfl, hT, by omega, by omega, fun d1 H1 d10 d11 k1 hT1 => ?_⟩
  refine ⟨_, _, rfl, rfl, (by show 10 ≤ sizeLine; decide), fun s ns => ?_⟩
  have hT2 := hT1.same (same_new (o := .lst [.int 1, .int 2, .int 3, .int 4, .int 5, .int 6, .int 12, .int 60, .int 360, .int (1 + d1)]) ns)
  have nst : s ≠ t := fun e => by
    obtain ⟨xs, e2⟩ := hT1.lst
    rw [e, e2] at ns
    cases ns
  refine ⟨t, l, s, _, rfl, hT2, upd_same, nst, (by show 0 < 10; decide), (by show 10 ≤ 1000; decide), fun ix x H2 hx k2 hT3 => ?_⟩
  obtain ⟨b, rfl, hb1, hb2⟩ : ∃ b : Int, x = .int b ∧ 1 ≤ b ∧ b ≤ 360 := by
    have hm := List.mem_of_getElem? hx
    simp only [List.mem_cons, List.not_mem_nil, or_false] at hm
    rcases hm with e | e | e | e | e | e | e | e | e | e
    all_goals exact ⟨_, e, by omega, by omega⟩
  refine ⟨_, rfl, t, l, 4, rfl, hT3, by omega, by omega, fun d2 H3 d20 d21 k3 hT4 => ?_⟩
  refine ⟨_, _, rfl, ?_⟩
  refine ⟨(by show 1 ≤ sizeLine; decide), fun z nz => ⟨_, rfl, z, _, _, rfl, rfl, upd_same, by omega, by omega, ?_, fun d hd => ?_⟩⟩
  · show 1 * ((n : Nat) : Int).toNat ≤ sizeLine
    exact Nat.le_of_lt (small12 (by omega))
  have kz : Keep t H (upd H3 z (.lst [.int 0])) := (k1.trans ((Keep.of (same_new ns)).trans (k2.trans k3))).trans (Keep.of (same_new nz))
  have hT5 : Tape (upd H3 z (.lst [.int 0])) t l := hT4.same (same_new nz)
  have ndt : d ≠ t := fun e => by
    obtain ⟨xs, e2⟩ := hT5.lst
    rw [e, e2] at hd
    cases hd
  have hA : TopsAt H (upd (upd H3 z (.lst [.int 0])) d (.lst (List.replicate ((n : Nat) : Int).toNat [V.int 0]).flatten)) t l d n (List.replicate n 0) :=
    ⟨kz.trans (Keep.of (same_new hd)), hT5.same (same_new hd), kz.free ndt hd, by rw [upd_same, Int.toNat_natCast, iv_rep], List.length_replicate, fun x hx => by rw [List.eq_of_mem_replicate hx]; exact Int.le_refl _⟩
  generalize upd (upd H3 z (.lst [.int 0])) d (.lst (List.replicate ((n : Nat) : Int).toNat [V.int 0]).flatten) = H5 at hA
  clear hd hT5 kz nz hT4 k3 hT3 k2 hT2 nst ns hT1 k1
  refine ⟨_, rfl, rfl, _, rfl, ?_⟩
  refine ite2 (fun _ => ?_) (fun _ => ?_)
  · -- one gets all
    refine ⟨_, rfl, _, rfl, _, rfl, _, rfl, t, l, n, rfl, hA.tape, by omega, by omega, fun d3 H6 d30 d31 k6 hT6 => ?_⟩
    have hA6 := hA.draw hT k6 hT6
    refine ⟨d, _, _, d3.toNat, rfl, rfl, hA6.lst, ixN_in d30 (by rw [iv_len, hA6.len]; exact d31), ?_⟩
    have hx : (List.replicate n (0 : Int))[d3.toNat]? = some 0 := by
      rw [List.getElem?_replicate, if_pos (by omega)]
    refine spec _ d b _ _ rfl rfl (hA6.put hT (x := b) (by omega)) ⟨by rw [List.length_set, List.length_replicate], hb1, hb2, set_nn hA6.nn (by omega), ?_⟩
    rw [sum_set' hx, sum_rep]
    omega
  refine ⟨_, rfl, rfl, _, rfl, ?_⟩
  refine ite2 (fun _ => ?_) (fun _ => ?_)
  · -- alike in a group
    refine ⟨_, rfl, n, rfl, by omega, by omega, fun D nD => lc_it walk_range (fun i H' => Keep t H5 H' ∧ Tape H' t l ∧ ∃ g : List Int, H' D = some (.lst (iv g)) ∧ (∀ x ∈ g, 0 ≤ x ∧ x < (n : Int)) ∧ g.length ≤ i)
      ⟨Keep.of (same_new nD), hA.tape.same (same_new nD), [], upd_same, (fun x hx => nomatch hx), Nat.le_refl _⟩ (fun _ _ _ _ => trivial) ?_ ?_⟩
    · rintro i x H' H2 hi ⟨kp, tp, g, eg, hg, hgl⟩ ⟨rfl, rfl⟩
      rw [Int.toNat_natCast] at hi
      refine ⟨rfl, _, rfl, t, l, 2, rfl, tp, by omega, by omega, fun d4 H7 _ _ k7 hT7 => ?_⟩
      have nDt : D ≠ t := fun e => by
        obtain ⟨xs, e2⟩ := hA.tape.lst
        rw [e, e2] at nD
        cases nD
      have eg7 : H7 D = some (.lst (iv g)) := k7.lst eg nDt
      refine ⟨rfl, _, rfl, ite2 (fun _ => ?_) (fun _ => ?_)⟩
      · refine ⟨_, rfl, _, eg7, by rw [iv_len]; exact small12 (by omega), (kp.trans k7).own nD, hA.tape.own nD hT7, g ++ [((0 : Int) + (i : Nat))], ?_, fun x hx => ?_, ?_⟩
        · rw [upd_same, ← iv_snoc]
        · rcases List.mem_append.mp hx with h1 | h1
          · exact hg x h1
          · rw [List.mem_singleton.mp h1]
            omega
        · rw [List.length_append, List.length_singleton]
          omega
      · exact ⟨kp.trans k7, hT7, g, eg7, hg, by omega⟩
    · rintro H' ⟨kp, tp, g, eg, hg, hgl⟩
      rw [Int.toNat_natCast] at hgl
      have nDt : D ≠ t := fun e => by
        obtain ⟨xs, e2⟩ := hA.tape.lst
        rw [e, e2] at nD
        cases nD
      refine ⟨_, rfl, _, rfl, t, l, n, rfl, tp, by omega, by omega, fun d4 H7 d40 d41 k7 hT7 => ⟨(by show 1 ≤ sizeLine; decide), fun g2 ng2 => ?_⟩⟩
      have eg7 : H7 D = some (.lst (iv g)) := k7.lst eg nDt
      refine ⟨D, g2, _, _, rfl, rfl, by rw [upd_ne (ne_of_none eg7 ng2)]; exact eg7, upd_same, by rw [iv_len]; show g.length + 1 ≤ sizeLine; have := line_big; omega, fun G nG => ?_⟩
      have sG : Same H7 (upd (upd H7 g2 (.lst [.int d4])) G (.lst (iv g ++ [.int d4]))) := (same_new ng2).trans (same_new nG)
      have eG : (upd (upd H7 g2 (.lst [.int d4])) G (.lst (iv g ++ [.int d4]))) G = some (.lst (iv (g ++ [d4]))) := by rw [upd_same, iv_snoc]
      have kG : Keep t H5 (upd (upd H7 g2 (.lst [.int d4])) G (.lst (iv g ++ [.int d4]))) := (kp.trans k7).trans (Keep.of sG)
      have tG := hT7.same sG
      have hg2 : ∀ x ∈ g ++ [d4], 0 ≤ x ∧ x < (n : Int) := fun x hx => by
        rcases List.mem_append.mp hx with h1 | h1
        · exact hg x h1
        · rw [List.mem_singleton.mp h1]
          exact ⟨d40, d41⟩
      have hl2 : (g ++ [d4]).length ≤ 13 := by
        rw [List.length_append, List.length_singleton]
        omega
      have hl0 : 0 < (g ++ [d4]).length := by
        rw [List.length_append, List.length_singleton]
        omega
      generalize upd (upd H7 g2 (.lst [.int d4])) G (.lst (iv g ++ [.int d4])) = H8 at eG kG tG
      generalize g ++ [d4] = gg at eG hg2 hl2 hl0
      refine ⟨_, rfl, G, _, rfl, .inl (SqL.of eG), ?_⟩
      refine ⟨_, rfl, n, rfl, by omega, by omega, fun D2 nD2 => lc_it walk_range (fun i H' => Same H8 H' ∧ H' D2 = some (.lst (iv ((List.range i).map fun p : Nat => ((gg.count (p : Int) : Nat) : Int))))) ⟨same_new nD2, upd_same⟩ (fun _ _ _ _ => trivial) ?_ ?_⟩
      · rintro i x H' H2 hi ⟨s1, e1⟩ ⟨rfl, rfl⟩
        rw [Int.toNat_natCast] at hi
        refine ⟨rfl, ?_⟩
        refine ⟨_, rfl, .inl ⟨rfl, _, SqL.of (s1 _ _ eG)⟩, _, rfl, G, gg, _, rfl, rfl, SqL.of (s1 _ _ eG), _, e1, ?_, same_own s1 nD2, ?_⟩
        · rw [iv_len, List.length_map, List.length_range]
          exact small12 (by omega)
        · rw [upd_same, iv_snoc, List.range_succ, List.map_append, show (0 : Int) + (i : Nat) = (i : Nat) by omega]
          rfl
      · rintro H' ⟨s1, e1⟩
        rw [Int.toNat_natCast] at e1
        have sh : Sh n gg.length (cnt n gg) := Sh.cnt hg2 hl0 (by omega)
        have nD2t : D2 ≠ t := fun e => by
          obtain ⟨xs, e2⟩ := tG.lst
          rw [e, e2] at nD2
          cases nD2
        refine ⟨_, _, rfl, spec _ D2 gg.length (cnt n gg) H' ?_ rfl ⟨(hA.keep.trans kG).trans (Keep.of s1), tG.same s1, (hA.keep.trans kG).free nD2t nD2, e1, sh.len, sh.nn⟩ sh⟩
        show some (some (V.int (((iv gg).length : Nat) : Int))) = some (some (V.int ((gg.length : Nat) : Int)))
        rw [iv_len]
  · -- part by part
    refine ⟨_, rfl, 12, rfl, by decide, by decide, for_range (n := 12) (fun i σ H' => ∃ (ts : List Int) (left : Int) (y5 y8 y9 : Option V),
        σ = [some (.ref t), some (.int (n : Nat)), some (.int b), some (.int d2), some (.ref d), y5, none, some (.int left), y8, y9] ∧ TopsAt H H' t l d n ts ∧ 0 ≤ left ∧ ts.sum + left = b)
      ⟨_, b, none, none, none, rfl, hA, by omega, by rw [sum_rep]; omega⟩ ?_ ?_⟩
    · rintro i σ H' hi ⟨ts, left, y5, y8, y9, rfl, hA, hl0, hs⟩
      have hsum := sum_ge hA.nn
      refine ⟨_, rfl, _, rfl, left, 1, rfl, rfl, t, l, left + 1, rfl, hA.tape, by omega, by omega, fun p Hp p0 p1 kp tp => ?_⟩
      have hB := hA.draw hT kp tp
      refine ⟨_, rfl, _, rfl, t, l, n, rfl, hB.tape, by omega, by omega, fun q Hq q0 q1 kq tq => ?_⟩
      have hC := hB.draw hT kq tq
      have hq : q.toNat < ts.length := by
        rw [hC.len]
        omega
      have hx : ts[q.toNat]? = some ts[q.toNat] := List.getElem?_eq_getElem hq
      have hx0 := hC.nn _ (List.getElem_mem hq)
      refine ⟨_, rfl, _, rfl, d, _, q, _, rfl, rfl, SqL.of hC.lst, at_of (j := q.toNat) (by omega) (get_iv hx), _, rfl, _, _, rfl, rfl, _, rfl, _, rfl, _, _, rfl, rfl, (by show 2 ≤ sizeLine; decide), fun pp np => ?_⟩
      have ndp : d ≠ pp := ne_of_none hC.lst np
      have hD : TopsAt H (upd Hq pp (.tup [.int (ts[q.toNat] + p), .int (left - p)])) t l d n ts := ⟨hC.keep.trans (Keep.of (same_new np)), hC.tape.same (same_new np), hC.new, by rw [upd_ne ndp]; exact hC.lst, hC.len, hC.nn⟩
      refine ⟨pp, _, rfl, SqT.of upd_same, rfl, _, _, rfl, _, rfl, _, rfl, d, _, q, q.toNat, rfl, rfl, hD.lst, ixN_in q0 (by rw [iv_len, hC.len]; exact q1), _, _, rfl, rfl, ?_⟩
      exact ⟨ts.set q.toNat (ts[q.toNat] + p), left - p, _, _, _, rfl, hD.put hT (by omega), by omega, by rw [sum_set' hx]; omega⟩
    · rintro σ H' ⟨ts, left, y5, y8, y9, rfl, hA, hl0, hs⟩
      refine ⟨_, rfl, _, rfl, t, l, n, rfl, hA.tape, by omega, by omega, fun q Hq q0 q1 kq tq => ?_⟩
      have hC := hA.draw hT kq tq
      have hq : q.toNat < ts.length := by
        rw [hC.len]
        omega
      have hx : ts[q.toNat]? = some ts[q.toNat] := List.getElem?_eq_getElem hq
      have hx0 := hC.nn _ (List.getElem_mem hq)
      refine ⟨_, rfl, _, rfl, d, _, q, _, rfl, rfl, SqL.of hC.lst, at_of (j := q.toNat) (by omega) (get_iv hx), _, rfl, _, _, rfl, rfl, _, rfl, _, rfl, d, _, q, q.toNat, rfl, rfl, hC.lst, ixN_in q0 (by rw [iv_len, hC.len]; exact q1), ?_⟩
      exact spec _ d b _ _ rfl rfl (hC.put hT (x := ts[q.toNat] + left) (by omega)) ⟨by rw [List.length_set]; exact hC.len, hb1, hb2, set_nn hC.nn (by omega), by rw [sum_set' hx]; omega⟩
end
end K16
namespace K16
open PySem PySem.Spec PyProof.Rows L2
theorem rg_iv (n : Nat) : rgV 0 (n : Int) = iv (cs (List.range n)) := by
  unfold rgV iv cs
  rw [List.map_map, Int.sub_zero, Int.toNat_natCast]
  refine List.map_congr_left fun i _ => ?_
  show V.int (0 + (i : Int)) = V.int (i : Int)
  rw [Int.zero_add]
section
variable {P : Program} {w : World} {K : PySem.W.Frag} {mg : Str → Option Value} {base : Heap}
/-! ### _law_row -/
def spRow (K : PySem.W.Frag) : Sp := fun vs H Q _ => ∃ (t l : Addr) (n : Nat) (hi : Int), vs = [.ref t, .int (n : Nat), .int hi] ∧ Tape H t l ∧ 1 ≤ n ∧ n ≤ 12 ∧ 0 ≤ hi ∧ hi ≤ 100 ∧
  ∀ (a : Addr) (as : List Addr) (H' : Hp), Keep t H H' → Tape H' t l → SqT K H' a (refs as) → (as.length : Int) ≤ hi → (∀ b ∈ as, ∃ x ts, ShAt K H' b x ts ∧ Sh n x ts) → Q (.ref a) H'
abbrev nRow : List Str := ["_law_tape_here", "_law_n", "_law_high", "_law_beat"]
theorem sc_law_row : FnScope nRow ["_law_tape_here", "_law_n", "_law_high"] (defScope s_law_row) := ⟨rfl, rfl, rfl, by decide +kernel, rfl, by decide +kernel, by decide +kernel⟩
theorem ok_law_row (F : Def K mg "_law_row" s_law_row) (T : Txt K mg) (DP : Dn P w K mg base 1 "_law_pick" ["_law_tape_here", "_law_many"] spPick) (DS : Dn P w K mg base 3 "_law_shares" ["_law_tape_here", "_law_n"] (spShares K)) : Dn P w K mg base 4 "_law_row" ["_law_tape_here", "_law_n", "_law_high"] (spRow K) := by
  refine Dn.mk' F sc_law_row (fun _ _ _ _ _ _ us hl => match us, hl with | [_, _, _], _ => rfl) (fun vs H Q E h => by obtain ⟨_, _, _, _, rfl, _⟩ := h; rfl) (fun f cdv A out st H vs Q E hr h => ?_)
  obtain ⟨t, l, n, hi, rfl, hT, hn1, hn2, hi0, hi1, k⟩ := h
  have hr1 : Room 1 _ := hr.mono (by decide)
  have nd := sc_law_row.nd
  refine ⟨_, pss_one (ps_ret (pe_callTy call_tuple_of (by rfl) T.tuple (by decide +kernel) (pa_cons (pe_lc (own := [("_law_beat", 3)]) (g := gName 3) (tt := tYes) (by rfl) nd (pi_range1 (by rfl) T.range (pa_cons (pe_dn DP hr1 (pa_cons (pv 0) (pa_cons (pe_op op_add (pv 2) pe_int) pa_nil))) pa_nil))
      (blkOk_by (own := [("_law_beat", 3)]) (N := nRow) (sc := defScope s_law_row) (by decide +kernel)) (fun _ _ _ _ _ => pg_name (i := 3) nd rfl (Or.inl rfl)) (fun _ _ _ _ _ => pts_nil) (fun _ _ _ _ _ => pe_dn DS hr (pa_cons (pv 0) (pa_cons (pv 1) pa_nil)))) pa_nil))), ?_⟩
  refine ⟨_, rfl, _, rfl, hi, 1, rfl, rfl, t, l, hi + 1, rfl, hT, by omega, by omega, fun m H1 m0 m1 k1 hT1 => ?_⟩
  refine ⟨m, rfl, by omega, by omega, fun D nD => ?_⟩
  have nDt : D ≠ t := fun e => by
    obtain ⟨xs, e2⟩ := hT1.lst
    rw [e, e2] at nD
    cases nD
  refine lc_it walk_range (fun i H' => Keep t H1 H' ∧ Tape H' t l ∧ ∃ as : List Addr, H' D = some (.lst (refs as)) ∧ as.length ≤ i ∧ ∀ b ∈ as, ∃ x ts, ShAt K H' b x ts ∧ Sh n x ts)
    ⟨Keep.of (same_new nD), hT1.same (same_new nD), [], upd_same, Nat.le_refl _, fun b hb => nomatch hb⟩ (fun _ _ _ _ => trivial) ?_ ?_
  · rintro i x H' H2 hi' ⟨kp, tp, as, ea, hl, hall⟩ ⟨rfl, rfl⟩
    refine ⟨rfl, ?_⟩
    refine ⟨_, rfl, _, rfl, t, l, n, rfl, tp, hn1, hn2, fun a b ts H3 k3 hT3 hA hS => ?_⟩
    have ea3 : H3 D = some (.lst (refs as)) := k3.lst ea nDt
    have tk1 : TK K H2 H3 := tp.tk k3
    have tk2 : TK K H3 (upd H3 D (.lst (refs as ++ [.ref a]))) := tk_lst ea3
    refine ⟨_, ea3, ?_, (kp.trans k3).own nD, hT1.own nD hT3, as ++ [a], by rw [upd_same, refs_snoc], by rw [List.length_append, List.length_singleton]; omega, fun c hc => ?_⟩
    · rw [refs_len]
      have := line_big
      omega
    · rcases List.mem_append.mp hc with h1 | h1
      · obtain ⟨x, ts, h2, h3⟩ := hall c h1
        exact ⟨x, ts, (h2.tk tk1).tk tk2, h3⟩
      · rw [List.mem_singleton.mp h1]
        exact ⟨b, ts, hA.tk tk2, hS⟩
  · rintro H' ⟨kp, tp, as, ea, hl, hall⟩
    refine ⟨D, _, rfl, .inl ⟨SqL.of ea, fun p np => ?_⟩⟩
    have s1 : Same H' (upd H' p (.tup (refs as))) := same_new np
    refine k p as _ ((k1.trans kp).trans (Keep.of s1)) (tp.same s1) (SqT.of upd_same) (by omega) fun b hb => ?_
    obtain ⟨x, ts, h2, h3⟩ := hall b hb
    exact ⟨x, ts, h2.tk (tk_same s1), h3⟩
/-! ### _law_grown, _law_paid -/
def spGrown (K : PySem.W.Frag) : Sp := fun vs H Q _ => ∃ (a s : Addr) (qs : List Rat) (b : Int) (ts : List Int) (k : Nat), vs = [.ref a, .ref s] ∧ DbAt K H a qs ∧ ShAt K H s b ts ∧ Sh qs.length b ts ∧ (∀ q ∈ qs, Sz k q) ∧ k ≤ 300 ∧ qs.length ≤ 12 ∧ ∀ H' r, Same H H' → DbAt K H' r (grow qs b ts) → Q (.ref r) H'
abbrev nGrown : List Str := ["_law_debts_here", "_law_shares_here", "_law_debt", "_law_top"]
theorem sc_law_grown : FnScope nGrown ["_law_debts_here", "_law_shares_here"] (defScope s_law_grown) := ⟨rfl, rfl, rfl, by decide +kernel, rfl, by decide +kernel, by decide +kernel⟩
theorem ok_law_grown (F : Def K mg "_law_grown" s_law_grown) (T : Txt K mg) (DF : Dn P w K mg base 2 "_law_frac" ["_law_top", "_law_bottom"] (spLowest K)) (DP : Dn P w K mg base 3 "_law_plus" ["_law_one", "_law_other"] (spPlus K)) : Dn P w K mg base 4 "_law_grown" ["_law_debts_here", "_law_shares_here"] (spGrown K) := by
  refine Dn.mk' F sc_law_grown (fun _ _ _ _ _ _ us hl => match us, hl with | [_, _], _ => rfl) (fun vs H Q E h => by obtain ⟨_, _, _, _, _, _, rfl, _⟩ := h; rfl) (fun f cdv A out st H vs Q E hr h => ?_)
  obtain ⟨a, s, qs, b, ts, k, rfl, ⟨as, hA, hF⟩, ⟨c, hS, hC⟩, sh, hz, hk, h12, kk⟩ := h
  have hr2 : Room 2 _ := hr.mono (by decide)
  have nd := sc_law_grown.nd
  have lens : qs.length = ts.length := sh.len.symm
  have lens2 : (refs as).length = (iv ts).length := by rw [refs_len, iv_len, hF.len, lens]
  refine ⟨_, pss_one (ps_ret (pe_callTy call_tuple_of (by rfl) T.tuple (by decide +kernel) (pa_cons (pe_lc (own := [("_law_debt", 2), ("_law_top", 3)]) (g := gTup K 2 (gCons (gName 2) (gCons (gName 3) gNil))) (tt := tYes) (by rfl) nd
      (RZ.pi_zipA (by rfl) T.zip (pa_cons (pv 0) (pa_cons (pe_ix ix_tup (pv 1) pe_int (fun _ _ => rfl)) pa_nil)))
      (blkOk_by (own := [("_law_debt", 2), ("_law_top", 3)]) (N := nGrown) (sc := defScope s_law_grown) (by decide +kernel)) (fun _ _ _ _ _ => pg_tup rfl (pgs_cons (pg_name (i := 2) nd rfl (Or.inl rfl)) (pgs_cons (pg_name (i := 3) nd rfl (Or.inl rfl)) pgs_nil))) (fun _ _ _ _ _ => pts_nil)
      (fun _ _ _ _ _ => pe_dn DP hr (pa_cons (pv 2) (pa_cons (pe_dn DF hr2 (pa_cons (pv 3) (pa_cons (pe_ix (show IxR _ (rIxT K) from ix_tup) (pv 1) pe_int (fun _ _ => rfl)) pa_nil))) pa_nil)))) pa_nil))), ?_⟩
  refine ⟨_, rfl, _, rfl, s, _, 1, _, rfl, rfl, hS, rfl, a, c, _, _, rfl, .inr ⟨hA, hC, fun D nD => ?_⟩⟩
  refine lc_it (walk_zipT lens2) (fun i H' => Same H H' ∧ LsAt K H' D ((grow qs b ts).take i)) ⟨same_new nD, .new⟩ (fun i H' _ p => ⟨seqT p.1 hA, seqT p.1 hC⟩) ?_ ?_
  · rintro i v H' H2 hi ⟨s1, hL⟩ ⟨p, x, y, rfl, np, rfl, hx, hy⟩
    obtain ⟨d, hd, rfl⟩ := refs_get hx
    obtain ⟨z, hz1, rfl⟩ := iv_get hy
    obtain ⟨q, hq, hf⟩ := hF.at_ hd
    have s2 : Same H' (upd H' p (.tup [.ref d, .int z])) := same_new np
    have zb := sh.le (List.mem_of_getElem? hz1)
    have hb0 := sh.pos
    have hb1 := sh.small
    refine ⟨p, _, rfl, SqT.of upd_same, rfl, _, _, rfl, _, _, rfl, rfl, rfl, ?_⟩
    refine ⟨_, rfl, _, rfl, _, rfl, s, _, 0, _, rfl, rfl, seqT (s1.trans s2) hS, rfl, z, b, 9, rfl, by omega, by omega, by omega, (by show b.natAbs < 512; omega), fun H3 r s3 g => ?_⟩
    refine ⟨d, r, q, _, k, 9, rfl, hf.tk (tk_same ((s1.trans s2).trans s3)), g, hz q (List.mem_of_getElem? hq), Sz.div (by omega) (by show z.natAbs < 512; omega) (by show b.natAbs < 512; omega), by omega, by omega, fun H4 r2 s4 g2 => ?_⟩
    have hL4 := hL.same ((s2.trans s3).trans s4)
    obtain ⟨acc, ha, hal⟩ := hL4.lst
    refine ⟨acc, ha, ?_, same_own (((s1.trans s2).trans s3).trans s4) nD, ?_⟩
    · rw [hal, List.length_take, grow_len lens]
      exact small12 (by omega)
    · rw [take_more (grow_get hq hz1)]
      exact hL4.snoc ha g2
  · rintro H' ⟨s1, as2, e2, f2⟩
    rw [refs_len, hF.len, ← grow_len lens, List.take_length] at f2
    refine ⟨D, _, rfl, .inl ⟨SqL.of e2, fun p np => ?_⟩⟩
    exact kk _ p (s1.trans (same_new np)) ⟨as2, SqT.of upd_same, f2.tk (tk_same (same_new np))⟩
def spPaid (K : PySem.W.Frag) : Sp := fun vs H Q _ => ∃ (a : Addr) (p : Nat) (qs : List Rat) (k : Nat), vs = [.ref a, .int (p : Nat)] ∧ DbAt K H a qs ∧ (∀ q ∈ qs, Sz k q) ∧ k ≤ 300 ∧ qs.length ≤ 12 ∧ ∀ H' r, Same H H' → DbAt K H' r (chg qs p (-1)) → Q (.ref r) H'
abbrev nPaid : List Str := ["_law_debts_here", "_law_person", "_law_at", "_law_debt"]
theorem sc_law_paid : FnScope nPaid ["_law_debts_here", "_law_person"] (defScope s_law_paid) := ⟨rfl, rfl, rfl, by decide +kernel, rfl, by decide +kernel, by decide +kernel⟩
theorem ok_law_paid (F : Def K mg "_law_paid" s_law_paid) (T : Txt K mg) (DM : Dn P w K mg base 4 "_law_minus" ["_law_one", "_law_other"] (spMinus K)) : Dn P w K mg base 5 "_law_paid" ["_law_debts_here", "_law_person"] (spPaid K) := by
  refine Dn.mk' F sc_law_paid (fun _ _ _ _ _ _ us hl => match us, hl with | [_, _], _ => rfl) (fun vs H Q E h => by obtain ⟨_, _, _, _, rfl, _⟩ := h; rfl) (fun f cdv A out st H vs Q E hr h => ?_)
  obtain ⟨a, p, qs, k, rfl, ⟨as, hA, hF⟩, hz, hk, h12, kk⟩ := h
  have nd := sc_law_paid.nd
  refine ⟨_, pss_one (ps_ret (pe_callTy call_tuple_of (by rfl) T.tuple (by decide +kernel) (pa_cons (pe_lc (own := [("_law_at", 2), ("_law_debt", 3)]) (g := gTup K 2 (gCons (gName 2) (gCons (gName 3) gNil))) (tt := tYes) (by rfl) nd
      (pi_enumT (by rfl) T.enumerate (pa_cons (pv 0) pa_nil))
      (blkOk_by (own := [("_law_at", 2), ("_law_debt", 3)]) (N := nPaid) (sc := defScope s_law_paid) (by decide +kernel)) (fun _ _ _ _ _ => pg_tup rfl (pgs_cons (pg_name (i := 2) nd rfl (Or.inl rfl)) (pgs_cons (pg_name (i := 3) nd rfl (Or.inl rfl)) pgs_nil))) (fun _ _ _ _ _ => pts_nil)
      (fun _ _ _ _ _ => pe_dn DM hr (pa_cons (pv 3) (pa_cons (pe_tup (pa_cons (pe_callTy call_int1 (by rfl) T.int (by decide +kernel) (pa_cons (pe_cmpR op_eq (pv 2) (pv 1) (nomark _)) pa_nil)) (pa_cons pe_int pa_nil))) pa_nil)))) pa_nil))), ?_⟩
  refine ⟨_, rfl, a, _, rfl, hA, fun D nD => ?_⟩
  refine lc_it walk_enumT (fun i H' => Same H H' ∧ LsAt K H' D ((chg qs p (-1)).take i)) ⟨same_new nD, .new⟩ (fun i H' _ q => seqT q.1 hA) ?_ ?_
  · rintro i v H' H2 hi ⟨s1, hL⟩ ⟨u, x, y, rfl, np, rfl, hx, hy⟩
    cases Option.some.inj hx
    obtain ⟨d, hd, rfl⟩ := refs_get hy
    obtain ⟨q, hq, hf⟩ := hF.at_ hd
    have s2 : Same H' (upd H' u (.tup [.int (i : Nat), .ref d])) := same_new np
    refine ⟨u, _, rfl, SqT.of upd_same, rfl, _, _, rfl, _, _, rfl, rfl, rfl, ?_⟩
    refine ⟨_, rfl, _, rfl, _, rfl, rfl, .inr ⟨_, rfl, (by show 2 ≤ sizeLine; decide), fun r nr => ?_⟩⟩
    have s3 := s2.trans (same_new (o := .tup [.int (if decide (V.int (i : Nat) = V.int (p : Nat)) then 1 else 0), .int 1]) nr)
    have fin : ∀ (x : Rat) (m : Nat), FrAt K (upd (upd H' u (.tup [.int (i : Nat), .ref d])) r (.tup [.int (if decide (V.int (i : Nat) = V.int (p : Nat)) then 1 else 0), .int 1])) r x → Sz 1 x → q - x = (if i = p then q + (-1) else q) →
        spMinus K ([.ref d, .ref r] ++ []) (upd (upd H' u (.tup [.int (i : Nat), .ref d])) r (.tup [.int (if decide (V.int (i : Nat) = V.int (p : Nat)) then 1 else 0), .int 1])) (fun y H4 => ∃ acc, H4 D = some (.lst acc) ∧ acc.length < sizeLine ∧ Same H (upd H4 D (.lst (acc ++ [y]))) ∧ LsAt K (upd H4 D (.lst (acc ++ [y]))) D ((chg qs p (-1)).take (i + 1))) E0 := fun x m hx sx e => by
      refine ⟨d, r, q, x, k, 1, rfl, hf.tk (tk_same (s1.trans s3)), hx, hz q (List.mem_of_getElem? hq), sx, by omega, by omega, fun H4 r2 s4 g2 => ?_⟩
      have hL4 := hL.same (s3.trans s4)
      obtain ⟨acc, ha, hal⟩ := hL4.lst
      refine ⟨acc, ha, ?_, same_own ((s1.trans s3).trans s4) nD, ?_⟩
      · rw [hal, List.length_take, chg_len]
        exact small12 (by omega)
      · rw [take_more (chg_get hq), ← e]
        exact hL4.snoc ha g2
    by_cases c : i = p
    · refine fin 1 0 ?_ Sz.one ?_
      · have e : decide (V.int (i : Nat) = V.int (p : Nat)) = true := decide_eq_true (by rw [c])
        rw [e]
        exact one_at
      · rw [if_pos c, Rat.sub_eq_add_neg]
    · refine fin 0 0 ?_ Sz.zero ?_
      · have e : decide (V.int (i : Nat) = V.int (p : Nat)) = false := decide_eq_false (fun z => c (by have := V.int.inj z; omega))
        rw [e]
        exact zero_at
      · rw [if_neg c]
        grind
  · rintro H' ⟨s1, as2, e2, f2⟩
    rw [refs_len, hF.len, ← chg_len qs p (-1), List.take_length] at f2
    refine ⟨D, _, rfl, .inl ⟨SqL.of e2, fun u nu => ?_⟩⟩
    exact kk _ u (s1.trans (same_new nu)) ⟨as2, SqT.of upd_same, f2.tk (tk_same (same_new nu))⟩
end
end K16
namespace K16
open PySem PySem.Spec PyProof.Rows L2
section
variable {P : Program} {w : World} {K : PySem.W.Frag} {mg : Str → Option Value} {base : Heap}
/-- an item of the debts, by its place -/
theorem db_ix {H : Hp} {a : Addr} {as : List Addr} {qs : List Rat} {i : Nat} (hA : SqT K H a (refs as)) (hF : FrAll K H as qs) (h : i < qs.length) : ∃ b, as[i]? = some b ∧ FrAt K H b (qs.getD i 0) ∧ atI (refs as) ((i : Nat) : Int) = some (.ref b) := by
  obtain ⟨b, hb, hf⟩ := hF.of_ (List.getElem?_eq_getElem h)
  refine ⟨b, hb, ?_, atI_nat (by unfold refs; rw [List.getElem?_map, hb]; rfl)⟩
  rw [getD_of (List.getElem?_eq_getElem h)]
  exact hf
theorem db_size {qs : List Rat} {k i : Nat} (hz : ∀ q ∈ qs, Sz k q) (h : i < qs.length) : Sz k (qs.getD i 0) := by
  rw [getD_of (List.getElem?_eq_getElem h)]
  exact hz _ (List.getElem_mem h)
/-! ### _law_greatest -/
def spGr (K : PySem.W.Frag) : Sp := fun vs H Q _ => ∃ (a : Addr) (qs : List Rat) (k : Nat), vs = [.ref a] ∧ DbAt K H a qs ∧ (∀ q ∈ qs, Sz k q) ∧ k ≤ 320 ∧ qs.length ≤ 12 ∧ 1 ≤ qs.length ∧ ∀ p : Nat, p < qs.length → Q (.int (p : Nat)) H
theorem sc_law_greatest : FnScope ["_law_debts_here", "_law_found", "_law_person"] ["_law_debts_here"] (defScope s_law_greatest) := ⟨rfl, rfl, rfl, by decide +kernel, rfl, by decide +kernel, by decide +kernel⟩
theorem ok_law_greatest (F : Def K mg "_law_greatest" s_law_greatest) (T : Txt K mg) (D : Dn P w K mg base 1 "_law_is_below" ["_law_one", "_law_other"] (spLess K)) : Dn P w K mg base 2 "_law_greatest" ["_law_debts_here"] (spGr K) := by
  refine Dn.mk' F sc_law_greatest (fun _ _ _ _ _ _ us hl => match us, hl with | [_], _ => rfl) (fun vs H Q E h => by obtain ⟨_, _, _, rfl, _⟩ := h; rfl) (fun f cdv A out st H vs Q E hr h => ?_)
  obtain ⟨a, qs, k, rfl, ⟨as, hA, hF⟩, hz, hk, h12, h1, kk⟩ := h
  have nd := sc_law_greatest.nd
  refine ⟨_, pss_cons (ps_set (i := 1) nd rfl (.inl rfl) pe_int) (pss_cons (ps_for PassesOwn.never rfl (pi_range2 (by rfl) T.range (pa_cons pe_int (pa_cons (pe_callB call_len_seq (by rfl) T.len PySem.boot_len (pa_cons (pv 0) pa_nil)) pa_nil))) (pg_name (i := 2) nd rfl (.inl rfl))
      (pss_one (ps_if (pt_val (pe_dn D hr (pa_cons (pe_ix ix_tup (pv 0) (pv 1) (fun _ _ => rfl)) (pa_cons (pe_ix ix_tup (pv 0) (pv 2) (fun _ _ => rfl)) pa_nil)))) (pss_one (ps_set (i := 1) nd rfl (.inl rfl) (pv 2))) pss_nil)))
    (pss_one (ps_ret (pv 1)))), ?_⟩
  refine ⟨_, rfl, a, _, rfl, .inr hA, 1, _, rfl, ⟨by omega, by omega, by rw [refs_len, hF.len]; omega, by rw [refs_len, hF.len]; omega⟩, ?_⟩
  refine for_range (lo := 1) (fun i σ H' => ∃ (p : Nat) (y : Option V), σ = [some (.ref a), some (.int (p : Nat)), y] ∧ H' = H ∧ p < qs.length) ⟨0, none, rfl, rfl, h1⟩ ?_ ?_
  · rintro i σ H' hi ⟨p, y, rfl, rfl, hp⟩
    rw [refs_len, hF.len] at hi
    have hi2 : 1 + i < qs.length := by omega
    obtain ⟨b1, _, f1, a1⟩ := db_ix hA hF hp
    obtain ⟨b2, _, f2, a2⟩ := db_ix hA hF hi2
    have e : (1 : Int) + (i : Nat) = ((1 + i : Nat) : Int) := by omega
    refine ⟨_, rfl, _, rfl, a, _, _, _, rfl, rfl, hA, a1, _, rfl, _, rfl, a, _, _, _, rfl, rfl, hA, by rw [e]; exact a2, ?_⟩
    refine ⟨b1, b2, _, _, k, k, rfl, f1, f2, db_size hz hp, db_size hz hi2, by omega, by omega, _, rfl, ite2 (fun _ => ?_) (fun _ => ?_)⟩
    · exact ⟨_, rfl, 1 + i, _, by rw [e]; rfl, rfl, hi2⟩
    · exact ⟨p, _, rfl, rfl, hp⟩
  · rintro σ H' ⟨p, y, rfl, rfl, hp⟩
    exact ⟨_, rfl, kk p hp⟩
/-! ### _law_ranked -/
theorem sc_law_ranked : FnScope ["_law_debts_here", "_law_left", "_law_found", "_law_best", "_law_person"] ["_law_debts_here"] (defScope s_law_ranked) := ⟨rfl, rfl, rfl, by decide +kernel, rfl, by decide +kernel, by decide +kernel⟩
/-- the state between two rounds: two lists of one's own -/
structure RkAt (H H' : Hp) (dl df : Addr) (qs : List Rat) (fs ls : List Nat) : Prop where
  same : Same H H'
  nl : H dl = none
  nf : H df = none
  ne : dl ≠ df
  left : H' dl = some (.lst (iv (cs ls)))
  found : H' df = some (.lst (iv (cs fs)))
  rest : Rest qs qs.length fs ls
theorem cs_snoc (ns : List Nat) (n : Nat) : cs ns ++ [(n : Int)] = cs (ns ++ [n]) := by
  unfold cs
  rw [List.map_append]
  rfl
theorem cs_erase : ∀ (ns : List Nat) (k : Nat), (cs ns).eraseIdx k = cs (ns.eraseIdx k)
  | [], _ => rfl
  | n :: r, 0 => rfl
  | n :: r, k + 1 => by
    show (n : Int) :: (cs r).eraseIdx k = (n : Int) :: cs (r.eraseIdx k)
    rw [cs_erase r k]
theorem ok_law_ranked (F : Def K mg "_law_ranked" s_law_ranked) (T : Txt K mg) (D : Dn P w K mg base 1 "_law_is_below" ["_law_one", "_law_other"] (spLess K)) : Dn P w K mg base 2 "_law_ranked" ["_law_debts_here"] (spBy K) := by
  refine Dn.mk' F sc_law_ranked (fun _ _ _ _ _ _ us hl => match us, hl with | [_], _ => rfl) (fun vs H Q E h => by obtain ⟨_, _, rfl, _⟩ := h; rfl) (fun f cdv A out st H vs Q E hr h => ?_)
  obtain ⟨a, qs, rfl, ⟨as, hA, hF⟩, hz, h12, kk⟩ := h
  have nd := sc_law_ranked.nd
  refine ⟨_, pss_cons (ps_par (i := 1) (j := 2) rfl nd rfl rfl (by decide) rfl rfl (pa_cons (pe_listRg rfl (by rfl) T.list (prg_1 (by rfl) T.range (pe_callB call_len_seq (by rfl) T.len PySem.boot_len (pa_cons (pv 0) pa_nil)))) (pa_cons (pe_lst pa_nil) pa_nil)) (by rfl))
    (pss_cons (ps_while PassesOwn.never (pt_cmpR op_gt (pe_callB call_len_seq (by rfl) T.len PySem.boot_len (pa_cons (pv 1) pa_nil)) pe_int (nomark _))
      (pss_cons (ps_set (i := 3) nd rfl (.inl rfl) (pe_ix ix_list (pv 1) pe_int (fun _ _ => rfl)))
      (pss_cons (ps_for PassesOwn.never rfl (pi_list (pv 1)) (pg_name (i := 4) nd rfl (.inl rfl))
        (pss_one (ps_if (pt_val (pe_dn D hr (pa_cons (pe_ix ix_tup (pv 0) (pv 3) (fun _ _ => rfl)) (pa_cons (pe_ix ix_tup (pv 0) (pv 4) (fun _ _ => rfl)) pa_nil)))) (pss_one (ps_set (i := 3) nd rfl (.inl rfl) (pv 4))) pss_nil)))
      (pss_cons (ps_expr (pe_bm PySem.F.plainAttrs_list PySem.F.slot_list_append PySem.F.type_list_append mt_append (pv 2) (pa_cons (pv 3) pa_nil)))
      (pss_one (ps_expr (pe_bm PySem.F.plainAttrs_list PySem.F.slot_list_remove PySem.F.type_list_remove mt_remove (pv 1) (pa_cons (pv 3) pa_nil))))))))
    (pss_one (ps_ret (pv 2)))), ?_⟩
  refine ⟨_, rfl, a, _, rfl, .inr hA, _, rfl, RgOk.of_le (by omega) (by rw [refs_len, hF.len]; omega) (by omega) (by omega), fun dl ndl => ⟨Nat.zero_le _, fun df ndf => ⟨_, _, rfl, ?_⟩⟩⟩
  have ne : dl ≠ df := fun e => by
    rw [e, upd_same] at ndf
    cases ndf
  have s1 := (same_new (o := .lst (rgV 0 ((refs as).length : Int))) ndl).trans (same_new (o := .lst []) ndf)
  have start : RkAt H (upd (upd H dl (.lst (rgV 0 ((refs as).length : Int)))) df (.lst [])) dl df qs [] (List.range qs.length) := by
    refine ⟨s1, ndl, (same_new ndl).free ndf, ne, ?_, upd_same, Rest.start qs qs.length⟩
    rw [upd_ne ne, upd_same, rg_iv, refs_len, hF.len]
  refine ⟨fun m σ H' => ∃ (fs ls : List Nat) (y3 y4 : Option V), σ = [some (.ref a), some (.ref dl), some (.ref df), y3, y4] ∧ m = ls.length ∧ RkAt H H' dl df qs fs ls, ⟨_, [], List.range qs.length, none, none, rfl, rfl, start⟩, ?_⟩
  rintro m σ H' ⟨fs, ls, y3, y4, rfl, rfl, hK⟩
  refine ⟨_, rfl, dl, _, rfl, .inl (SqL.of hK.left), _, _, rfl, rfl, _, rfl, ?_⟩
  have tlen := hK.rest.len
  cases ls with
  | nil =>
    exact iteF ⟨_, rfl, kk H' df fs hK.same hK.found hK.rest.done⟩
  | cons b0 lr =>
    have ed : decide ((0 : Int) < (((iv (cs (b0 :: lr))).length : Nat) : Int)) = true := decide_eq_true (by rw [iv_len, cs_len, List.length_cons]; omega)
    rw [ed]
    generalize hls : b0 :: lr = ls at hK tlen ⊢
    have h0 : ls[0]? = some b0 := by
      rw [← hls]
      rfl
    refine iteT ⟨fun σ' H2 => ∃ (fs2 ls2 : List Nat) (z3 z4 : Option V), σ' = [some (.ref a), some (.ref dl), some (.ref df), z3, z4] ∧ ls2.length < ls.length ∧ RkAt H H2 dl df qs fs2 ls2, ?_, ?_⟩
    · rintro σ' H2 ⟨fs2, ls2, z3, z4, e1, e2, e3⟩
      exact ⟨_, e2, fs2, ls2, z3, z4, e1, rfl, e3⟩
    refine ⟨_, rfl, dl, _, 0, _, rfl, rfl, SqL.of hK.left, atI_nat (j := 0) (get_iv (get_cs h0)), ?_⟩
    refine ⟨_, rfl, dl, rfl, ⟨_, SqL.of hK.left⟩, for_list (fun j σ H2 => ∃ (b : Nat) (z4 : Option V), σ = [some (.ref a), some (.ref dl), some (.ref df), some (.int (b : Nat)), z4] ∧ H2 = H' ∧ Best qs ls j b) ⟨b0, y4, rfl, rfl, Best.start hK.rest.up h0⟩ (fun i σ H2 _ ⟨_, _, _, e, _⟩ => by rw [e]; exact SqL.of hK.left) ?_ ?_⟩
    · rintro j x σ H2 hx ⟨b, z4, rfl, rfl, hB⟩
      obtain ⟨z, hz1, rfl⟩ := iv_get hx
      obtain ⟨c, hc, rfl⟩ := cs_get hz1
      have hb : b < qs.length := hK.rest.lt hB.mem
      have hc2 : c < qs.length := hK.rest.lt (List.mem_of_getElem? hc)
      have hA2 := seqT hK.same hA
      have hF2 := hF.tk (tk_same (K := K) hK.same)
      obtain ⟨b1, _, f1, a1⟩ := db_ix hA2 hF2 hb
      obtain ⟨b2, _, f2, a2⟩ := db_ix hA2 hF2 hc2
      have tn := hB.turn hK.rest.up hc
      refine ⟨_, rfl, _, rfl, a, _, _, _, rfl, rfl, hA2, a1, _, rfl, _, rfl, a, _, _, _, rfl, rfl, hA2, a2, ?_⟩
      refine ⟨b1, b2, _, _, 300, 300, rfl, f1, f2, db_size hz hb, db_size hz hc2, by omega, by omega, _, rfl, ite2 (fun q => ?_) (fun q => ?_)⟩
      · rw [if_pos (of_decide_eq_true q)] at tn
        exact ⟨_, rfl, c, _, rfl, rfl, tn⟩
      · rw [if_neg (fun z => q (decide_eq_true z))] at tn
        exact ⟨b, _, rfl, rfl, tn⟩
    · rintro σ H2 ⟨b, z4, rfl, rfl, hB⟩
      rw [iv_len, cs_len] at hB
      obtain ⟨k, hk, hno⟩ := hK.rest.at hB.mem
      have fl := hK.rest.len
      refine ⟨_, rfl, .inl ⟨rfl, _, SqL.of hK.found⟩, _, rfl, df, _, _, rfl, rfl, hK.found, by rw [iv_len, cs_len]; exact small12 (by omega), ?_⟩
      have e2 : (upd H2 df (.lst (iv (cs fs) ++ [.int (b : Nat)]))) dl = some (.lst (iv (cs ls))) := by
        rw [upd_ne hK.ne]
        exact hK.left
      refine ⟨_, rfl, .inl ⟨rfl, _, SqL.of e2⟩, _, rfl, dl, cs ls, _, k, rfl, rfl, e2, get_cs hk, fun m hm e => ?_, ?_⟩
      · obtain ⟨x, hx, ex⟩ := cs_get e
        have : x = b := by omega
        rw [this] at hx
        exact hno m hm hx
      · have hkl : k < ls.length := (List.getElem?_eq_some_iff.mp hk).1
        refine ⟨fs ++ [b], ls.eraseIdx k, _, _, rfl, by rw [List.length_eraseIdx_of_lt hkl]; omega, same_own (same_own hK.same hK.nf) hK.nl, hK.nl, hK.nf, hK.ne, ?_, ?_, hK.rest.turn hB hk⟩
        · rw [upd_same, cs_erase]
          rfl
        · rw [upd_ne hK.ne.symm, upd_same, iv_snoc, cs_snoc]
/-! ### _law_lot -/
def spLLot (K : PySem.W.Frag) : Sp := fun vs H Q _ => ∃ (a : Addr) (m : Nat) (qs : List Rat), vs = [.ref a, .int (m : Nat)] ∧ DbAt K H a qs ∧ (∀ q ∈ qs, Sz 300 q) ∧ qs.length ≤ 12 ∧ ∀ H' p l, Same H H' → IsLot qs qs.length m l → Told K H' p qs l → Q (.ref p) H'
abbrev nLot : List Str := ["_law_debts_here", "_law_many", "_law_lot_here", "_law_person"]
theorem sc_law_lot : FnScope nLot ["_law_debts_here", "_law_many"] (defScope s_law_lot) := ⟨rfl, rfl, rfl, by decide +kernel, rfl, by decide +kernel, by decide +kernel⟩
theorem ok_law_lot (F : Def K mg "_law_lot" s_law_lot) (T : Txt K mg) (DR : Dn P w K mg base 2 "_law_ranked" ["_law_debts_here"] (spBy K)) (DS : Dn P w K mg base 4 "_law_sum" ["_law_some"] (spLSum K)) : Dn P w K mg base 5 "_law_lot" ["_law_debts_here", "_law_many"] (spLLot K) := by
  refine Dn.mk' F sc_law_lot (fun _ _ _ _ _ _ us hl => match us, hl with | [_, _], _ => rfl) (fun vs H Q E h => by obtain ⟨_, _, _, rfl, _⟩ := h; rfl) (fun f cdv A out st H vs Q E hr h => ?_)
  obtain ⟨a, m, qs, rfl, hD, hz, h12, k⟩ := h
  have hr2 : Room 2 _ := hr.mono (by decide)
  have nd := sc_law_lot.nd
  refine ⟨_, pss_cons (ps_set (i := 2) nd rfl (.inl rfl) (pe_callTy call_tuple_of (by rfl) T.tuple (by decide +kernel) (pa_cons (pe_callB cr_sorted (by rfl) T.sorted (by decide +kernel)
      (pa_cons (pe_slice sl_list (pe_dn DR hr2 (pa_cons (pv 0) pa_nil)) po_none (po_some (pv 1))) pa_nil)) pa_nil)))
    (pss_one (ps_ret (pe_tup (pa_cons (pe_dn DS hr (pa_cons (pe_lc (own := [("_law_person", 3)]) (g := gName 3) (tt := tYes) (by rfl) nd (pi_tup (pv 2))
      (blkOk_by (own := [("_law_person", 3)]) (N := nLot) (sc := defScope s_law_lot) (by decide +kernel)) (fun _ _ _ _ _ => pg_name (i := 3) nd rfl (Or.inl rfl)) (fun _ _ _ _ _ => pts_nil)
      (fun _ _ _ _ _ => pe_ix (show IxR _ (rIxT K) from ix_tup) (pv 0) (pv 3) (fun _ _ => rfl))) pa_nil)) (pa_cons (pv 2) pa_nil))))), ?_⟩
  refine ⟨_, rfl, a, qs, rfl, hD, hz, h12, fun H1 d ns s1 e1 hR => ?_⟩
  refine ⟨_, rfl, _, rfl, d, _, rfl, SqL.of e1, fun p np => ?_⟩
  have ec : cutV (iv (cs ns)) none (some ((m : Nat) : Int)) = (cs (ns.take m)).map V.int := by
    rw [cut_take, iv_take, cs_take]
    rfl
  have hl := hR.len
  refine ⟨p, cs (ns.take m), rfl, SqL.of (by rw [upd_same, ec]), by rw [cs_len, List.length_take]; omega, fun zs p2 pz uz np2 => ?_⟩
  obtain ⟨l, rfl, lp, lu⟩ := sorted_nat pz uz
  refine ⟨p2, _, rfl, .inl ⟨SqL.of upd_same, fun t nt => ?_⟩⟩
  have hI : IsLot qs qs.length m l := ⟨⟨ns, hR, lp⟩, lu⟩
  have s2 := ((s1.trans (same_new np)).trans (same_new np2)).trans (same_new (o := .tup (List.map V.int (l.map fun n : Nat => (n : Int)))) nt)
  have hL : SqT K (upd (upd (upd H1 p (.lst (cutV (iv (cs ns)) none (some ((m : Nat) : Int))))) p2 (.lst (List.map V.int (l.map fun n : Nat => (n : Int))))) t (.tup (List.map V.int (l.map fun n : Nat => (n : Int))))) t (iv (cs l)) := SqT.of (by rw [upd_same]; rfl)
  generalize upd (upd (upd H1 p (.lst (cutV (iv (cs ns)) none (some ((m : Nat) : Int))))) p2 (.lst (List.map V.int (l.map fun n : Nat => (n : Int))))) t (.tup (List.map V.int (l.map fun n : Nat => (n : Int)))) = H2 at s2 hL
  obtain ⟨as, hA, hF⟩ := hD
  have il := hI.len
  refine ⟨_, rfl, t, rfl, ⟨_, hL⟩, fun D nD => lc_it walk_tup (fun i H' => Same H2 H' ∧ LsAt K H' D ((l.take i).map fun j => qs.getD j 0)) ⟨same_new nD, .new⟩ (fun i H' _ q => seqT q.1 hL) ?_ ?_⟩
  · rintro i x H' H3 hi ⟨s3, hLs⟩ ⟨rfl, hx⟩
    obtain ⟨z, hz1, rfl⟩ := iv_get hx
    obtain ⟨j, hj, rfl⟩ := cs_get hz1
    have hq := hI.lt (List.mem_of_getElem? hj)
    obtain ⟨b, _, f1, a1⟩ := db_ix (seqT (s2.trans s3) hA) (hF.tk (tk_same (K := K) (s2.trans s3))) hq
    obtain ⟨acc, ha, hal⟩ := hLs.lst
    refine ⟨rfl, ?_⟩
    refine ⟨_, rfl, _, rfl, a, _, _, .ref b, rfl, rfl, seqT (s2.trans s3) hA, a1, acc, ha, ?_, same_own s3 nD, ?_⟩
    · rw [hal, List.length_map, List.length_take]
      exact small12 (by omega)
    · rw [lot_step hj]
      exact hLs.snoc ha f1
  · rintro H' ⟨s3, as2, e2, f2⟩
    rw [iv_len, cs_len, List.take_length] at f2
    refine ⟨D, as2, _, 300, rfl, SqL.of e2, f2, lot_mem hz (fun i hi => hI.lt hi), by rw [List.length_map]; omega, by omega, fun H4 r s4 g => ?_⟩
    refine ⟨_, rfl, (by show 2 ≤ sizeLine; decide), fun u nu => ?_⟩
    exact k _ u l (((s2.trans s3).trans s4).trans (same_new nu)) hI ⟨r, t, SqT.of upd_same, g.tk (tk_same (same_new nu)), seqT ((s3.trans s4).trans (same_new nu)) hL⟩
/-! ### _law_allowed -/
abbrev nAll : List Str := ["_law_n", "_law_beats", "_law_many", "_law_top", "_law_bottom", "_law_k"]
theorem sc_law_allowed : FnScope nAll ["_law_n", "_law_beats", "_law_many"] (defScope s_law_allowed) := ⟨rfl, rfl, rfl, by decide +kernel, rfl, by decide +kernel, by decide +kernel⟩
def invs (lo : Int) (n : Nat) : List Rat := (List.range n).map fun i : Nat => Rat.divInt 1 (lo + (i : Int))
theorem invs_succ (lo : Int) (n : Nat) : invs lo (n + 1) = invs lo n ++ [Rat.divInt 1 (lo + n)] := by
  unfold invs
  rw [List.range_succ, List.map_append]
  rfl
theorem tot_invs (lo : Int) : ∀ n : Nat, tot (invs lo n) = hsum lo n
  | 0 => rfl
  | n + 1 => by
    rw [invs_succ, tot_append, tot_invs lo n, tot_one]
    rfl
theorem invs_size {lo : Int} {n : Nat} (h : 0 < lo) (h2 : lo + n ≤ 32) : ∀ q ∈ invs lo n, Sz 5 q := fun q hq => by
  obtain ⟨i, hi, rfl⟩ := List.mem_map.mp hq
  have := List.mem_range.mp hi
  exact Sz.inv (by omega) (by omega)
theorem ok_law_allowed (F : Def K mg "_law_allowed" s_law_allowed) (T : Txt K mg) (DF : Dn P w K mg base 2 "_law_frac" ["_law_top", "_law_bottom"] (spLowest K)) (DS : Dn P w K mg base 4 "_law_sum" ["_law_some"] (spLSum K)) : Dn P w K mg base 5 "_law_allowed" ["_law_n", "_law_beats", "_law_many"] (spAllowed K) := by
  refine Dn.mk' F sc_law_allowed (fun _ _ _ _ _ _ us hl => match us, hl with | [_, _, _], _ => rfl) (fun vs H Q E h => by obtain ⟨_, _, _, rfl, _⟩ := h; rfl) (fun f cdv A out st H vs Q E hr h => ?_)
  obtain ⟨n, b, m, rfl, h1, h2, h3, h4, h5, k⟩ := h
  have hr2 : Room 2 _ := hr.mono (by decide)
  have nd := sc_law_allowed.nd
  refine ⟨_, pss_cons (ps_asg (pe_dn DS hr (pa_cons (pe_lc (own := [("_law_k", 5)]) (g := gName 5) (tt := tYes) (by rfl) nd
      (pi_range2 (by rfl) T.range (pa_cons (pe_op op_add (pv 2) pe_int) (pa_cons (pe_op op_add (pe_callB (call_min2 rfl) (by rfl) T.min (by decide +kernel) (pa_cons (pv 0) (pa_cons (pe_op op_add (pv 2) (pv 1)) pa_nil))) pe_int) pa_nil)))
      (blkOk_by (own := [("_law_k", 5)]) (N := nAll) (sc := defScope s_law_allowed) (by decide +kernel)) (fun _ _ _ _ _ => pg_name (i := 5) nd rfl (Or.inl rfl)) (fun _ _ _ _ _ => pts_nil) (fun _ _ _ _ _ => pe_tup (pa_cons pe_int (pa_cons (pv 5) pa_nil)))) pa_nil))
      (pg_tup rfl (pgs_cons (pg_name (i := 3) nd rfl (.inl rfl)) (pgs_cons (pg_name (i := 4) nd rfl (.inl rfl)) pgs_nil))))
    (pss_one (ps_ret (pe_dn DF hr2 (pa_cons (pe_op op_mul (pv 2) (pv 3)) (pa_cons (pv 4) pa_nil))))), ?_⟩
  have hm := mn_le n (m + b)
  refine ⟨_, rfl, m, 1, rfl, rfl, _, rfl, _, rfl, _, rfl, m, b, rfl, rfl, n, m + b, rfl, mn n (m + b), 1, rfl, rfl, m + 1, mn n (m + b) + 1, rfl, ⟨by omega, by omega, by omega, by omega⟩, fun D nD => ?_⟩
  have hN : m + 1 + (((mn n (m + b) + 1 - (m + 1)).toNat : Nat) : Int) ≤ 32 := by omega
  generalize hn : (mn n (m + b) + 1 - (m + 1)).toNat = N at hN
  have hN12 : N ≤ 12 := by omega
  refine lc_it walk_range (fun i H' => Same H H' ∧ LsAt K H' D (invs (m + 1) i)) ⟨same_new nD, .new⟩ (fun _ _ _ _ => trivial) ?_ ?_
  · rintro i x H' H2 hi ⟨s1, hL⟩ ⟨rfl, rfl⟩
    refine ⟨rfl, ?_⟩
    refine ⟨_, rfl, (by show 2 ≤ sizeLine; decide), fun p np => ?_⟩
    have s2 : Same H2 (upd H2 p (.tup [.int 1, .int (m + 1 + (i : Nat))])) := same_new np
    have hL2 := hL.same s2
    obtain ⟨acc, ha, hal⟩ := hL2.lst
    refine ⟨acc, ha, ?_, same_own (s1.trans s2) nD, ?_⟩
    · rw [hal]
      unfold invs
      rw [List.length_map, List.length_range]
      exact small12 (by omega)
    · rw [invs_succ]
      exact hL2.snoc ha (inv_at (by omega))
  · rintro H' ⟨s1, as2, e2, f2⟩
    refine ⟨D, as2, _, 5, rfl, SqL.of e2, f2, invs_size (by omega) hN, by unfold invs; rw [List.length_map, List.length_range]; exact hN12, by omega, fun H2 r s2 g => ?_⟩
    rw [tot_invs] at g
    refine ⟨r, _, rfl, g, rfl, _, _, rfl, _, _, rfl, rfl, ?_⟩
    have sz : Sz 80 (hsum (m + 1) N) := (Sz.hsum (by omega) hN).mono (by omega)
    refine ⟨_, rfl, _, rfl, m, _, rfl, rfl, .inl ⟨by omega, by omega⟩, _, rfl, _, _, 80, rfl, den_pos _, by omega, by omega, sz.den, fun H3 r3 s3 g3 => k H3 r3 ((s1.trans s2).trans s3) ?_⟩
    rw [times_eq] at g3
    unfold al
    rw [hn]
    exact g3
end
end K16
namespace K16
open PySem PySem.Spec PyProof.Rows L2
theorem grow_size2 {qs : List Rat} {b : Int} {ts : List Int} {k c : Nat} (hb : 0 < b) (hb2 : b.natAbs < 2 ^ c) (h : ∀ q ∈ qs, Sz k q) (h2 : ∀ x ∈ ts, x.natAbs < 2 ^ c) : ∀ q ∈ grow qs b ts, Sz (k + c + 1) q := fun q hq => by
  obtain ⟨i, hi⟩ := List.mem_iff_getElem?.mp hq
  unfold grow at hi
  rw [List.getElem?_zipWith] at hi
  cases e1 : qs[i]? with
  | none => rw [e1] at hi; cases hi
  | some p =>
    cases e2 : ts[i]? with
    | none => rw [e1, e2] at hi; cases hi
    | some x =>
      rw [e1, e2] at hi
      cases hi
      exact (h p (List.mem_of_getElem? e1)).add (Sz.div hb (h2 x (List.mem_of_getElem? e2)) hb2)
theorem inV_iv (p : Int) (gs : List Int) : inV (.int p) (iv gs) = decide (p ∈ gs) := by
  unfold inV iv
  rw [List.any_map]
  induction gs with
  | nil => rfl
  | cons g r ih =>
    rw [List.any_cons, ih]
    show ((g == p) || decide (p ∈ r)) = decide (p ∈ g :: r)
    by_cases e : g = p
    · subst e
      simp
    · have e2 : ¬ p = g := fun z => e z.symm
      simp [e, e2]
theorem iv_flat (gs : List Int) : (iv gs).all flatV = true := by
  unfold iv
  rw [List.all_map]
  exact List.all_eq_true.mpr fun x _ => rfl
theorem seq_ix {n : Nat} {d : Int} (h0 : 0 ≤ d) (h1 : d < n) : seqIndex? d n = some d.toNat := by
  unfold seqIndex?
  simp only [show ¬ d < 0 by omega, if_false]
  rw [if_pos (by simp [h0, h1])]
theorem ind_get {n : Nat} {g : List Int} {i : Nat} (h : i < n) : (ind n g)[i]? = some (if (i : Int) ∈ g then (1 : Int) else 0) := by
  unfold ind
  rw [List.getElem?_map, List.getElem?_range h]
  rfl
theorem ind_len (n : Nat) (g : List Int) : (ind n g).length = n := by
  unfold ind
  rw [List.length_map, List.length_range]
/-- debts of n people that add up to 0, small -/
structure DOk (n k : Nat) (qs : List Rat) : Prop where
  len : qs.length = n
  sum : tot qs = 0
  size : ∀ q ∈ qs, Sz k q
theorem DOk.mono {n j k : Nat} {qs : List Rat} (h : DOk n j qs) (hk : j ≤ k) : DOk n k qs := ⟨h.len, h.sum, fun q hq => (h.size q hq).mono hk⟩
theorem DOk.start (n : Nat) : DOk n 1 (List.replicate n 0) := ⟨List.length_replicate, tot_rep n, fun q hq => by rw [List.eq_of_mem_replicate hq]; exact Sz.zero⟩
/-- one beat -/
theorem DOk.beat {n k c : Nat} {qs : List Rat} {b : Int} {ts : List Int} {p : Nat} (h : DOk n k qs) (s : Sh n b ts) (hc : b.natAbs < 2 ^ c) (hp : p < n) : DOk n (k + c + 3) (chg (grow qs b ts) p (-1)) := by
  have hb := s.pos
  have hl : qs.length = ts.length := by rw [h.len, s.len]
  refine ⟨by rw [chg_len, grow_len hl, h.len], ?_, ?_⟩
  · rw [tot_chg (-1) (by rw [grow_len hl, h.len]; exact hp), tot_grow (by omega) hl, h.sum, s.sum, div_one (by omega)]
    grind
  · intro q hq
    have g := grow_size2 (qs := qs) (b := b) (ts := ts) (c := c) (by omega) hc h.size (fun x hx => by
      have h1 := (sum_ge s.nn).2 x hx
      have h2 := s.nn x hx
      rw [s.sum] at h1
      omega)
    exact (chg_size g (Sz.neg Sz.one) q hq).mono (by omega)
/-- two debts are moved against one another -/
theorem DOk.move {n k m : Nat} {qs : List Rat} {p r : Nat} {c : Rat} (h : DOk n k qs) (hp : p < n) (hr : r < n) (hc : Sz m c) : DOk n (k + 2 * m + 2) (chg (chg qs p c) r (-c)) := by
  refine ⟨by rw [chg_len, chg_len, h.len], ?_, ?_⟩
  · rw [tot_chg (-c) (by rw [chg_len, h.len]; exact hr), tot_chg c (by rw [h.len]; exact hp), h.sum]
    grind
  · intro q hq
    exact (chg_size (chg_size h.size hc) hc.neg q hq).mono (by omega)
theorem neg_at {K : PySem.W.Frag} {H : Hp} {p : Addr} {k : Int} (h : 0 < k) : FrAt K (upd H p (.tup [.int (-1), .int k])) p (-(Rat.divInt 1 k)) := by
  unfold FrAt
  rw [Rat.neg_num, Rat.neg_den, one_num h, one_den h]
  exact SqT.of upd_same
section
variable {P : Program} {w : World} {K : PySem.W.Frag} {mg : Str → Option Value} {base : Heap}
def spLDebts (K : PySem.W.Frag) : Sp := fun vs H Q _ => ∃ (t l : Addr) (n : Nat), vs = [.ref t, .int (n : Nat)] ∧ Tape H t l ∧ 1 ≤ n ∧ n ≤ 12 ∧ ∀ (a : Addr) (qs : List Rat) (H' : Hp), Keep t H H' → Tape H' t l → DbAt K H' a qs → DOk n 154 qs → Q (.ref a) H'
abbrev nDebts : List Str := ["_law_tape_here", "_law_n", "_law_kind", "_law_found", "_law_shares_here", "_law_grown_here", "_law_bottom", "_law_person", "_law_tops", "_law_group", "_law_beat", "_law_one", "_law_by", "_law_other", "_law_moved", "_law_top", "_law_at", "_law_debt"]
theorem sc_law_debts : FnScope nDebts ["_law_tape_here", "_law_n"] (defScope s_law_debts) := ⟨rfl, rfl, rfl, by decide +kernel, rfl, by decide +kernel, by decide +kernel⟩
/-- how the last two statements are read -/
abbrev CxD (P : Program) (w : World) (K : PySem.W.Frag) (mg : Str → Option Value) (base : Heap) (f : Addr) (cdv : Value) (A : Around) (out : List Env) (st : Shared) (H : Hp) (E : XK) : Cx := (cxOf CX0 P w K mg base nDebts "_law_debts" (defScope s_law_debts) f cdv A out st H E).nox
abbrev EndsD (Q : VK) : Ends := { nx := fun _ H' => Q .non H', rt := Q }
theorem ok_debts_tail (T : Txt K mg) (DP : Dn P w K mg base 1 "_law_pick" ["_law_tape_here", "_law_many"] spPick) (DA : Dn P w K mg base 2 "_law_any" ["_law_tape_here", "_law_some"] spAny) (DPl : Dn P w K mg base 3 "_law_plus" ["_law_one", "_law_other"] (spPlus K))
    (DMi : Dn P w K mg base 4 "_law_minus" ["_law_one", "_law_other"] (spMinus K)) (f : Addr) (cdv : Value) (A : Around) (out : List Env) (st : Shared) (H : Hp) (Q : VK) (E : XK) (hr : Room 5 (CxD P w K mg base f cdv A out st H E).A) {t l : Addr} {n : Nat} (hT : Tape H t l) (hn1 : 1 ≤ n) (hn2 : n ≤ 12)
    (k : ∀ (a : Addr) (qs : List Rat) (H' : Hp), Keep t H H' → Tape H' t l → DbAt K H' a qs → DOk n 154 qs → Q (.ref a) H') :
    ∃ tr : TS, PSs (CxD P w K mg base f cdv A out st H E) ((defBody s_law_debts).drop 2) tr ∧ ∀ (y2 y4 y5 y6 y7 y8 y9 y10 : Option V) (a : Addr) (qs : List Rat) (H' : Hp), Keep t H H' → Tape H' t l → DbAt K H' a qs → DOk n 110 qs →
      tr (EndsD Q) [some (.ref t), some (.int (n : Nat)), y2, some (.ref a), y4, y5, y6, y7, y8, y9, y10, none, none, none, none, none, none, none] H' := by
  have hr1 : Room 1 _ := hr.mono (by decide)
  have hr2 : Room 2 _ := hr.mono (by decide)
  have hr3 : Room 3 _ := hr.mono (by decide)
  have hr4 : Room 4 _ := hr.mono (by decide)
  have nd := sc_law_debts.nd
  refine ⟨_, pss_cons (ps_if (PW.pt (pw_and (pt_cmpR op_gt (pv 1) pe_int (nomark _)) (pw_and1 (pt_cmpR op_eq (pe_dn DP hr1 (pa_cons (pv 0) (pa_cons pe_int pa_nil))) pe_int (nomark _)))))
      (pss_cons (ps_asg (pe_tup (pa_cons (pe_dn DP hr1 (pa_cons (pv 0) (pa_cons (pv 1) pa_nil))) (pa_cons (pe_dn DA hr2 (pa_cons (pv 0) (pa_cons (pe_lst
          (pa_cons (pe_tup (pa_cons pe_int (pa_cons (pe_op op_pow pe_int pe_int) pa_nil))) (pa_cons (pe_tup (pa_cons (pe_un un_neg pe_int) (pa_cons (pe_op op_pow pe_int pe_int) pa_nil)))
          (pa_cons (pe_tup (pa_cons pe_int (pa_cons pe_int pa_nil))) (pa_cons (pe_tup (pa_cons (pe_un un_neg pe_int) (pa_cons pe_int pa_nil))) pa_nil))))) pa_nil))) pa_nil)))
          (pg_tup rfl (pgs_cons (pg_name (i := 11) nd rfl (.inr rfl)) (pgs_cons (pg_name (i := 12) nd rfl (.inr rfl)) pgs_nil))))
      (pss_cons (ps_set (i := 13) nd rfl (.inr rfl) (pe_op op_modN (pe_callTy call_int1 (by rfl) T.int (by decide +kernel) (pa_cons (pe_op op_add (pe_op op_add (pv 11) pe_int) (pe_dn DP hr1 (pa_cons (pv 0) (pa_cons (pe_op op_sub (pv 1) pe_int) pa_nil)))) pa_nil)) (pv 1)))
      (pss_cons (ps_setLc (i := 14) (own := [("_law_at", 16), ("_law_debt", 17)]) (g := gTup K 2 (gCons (gName 16) (gCons (gName 17) gNil))) (tt := tYes) (te := tIf (tTest (tOp rEq (tVar 16) (tVar 11))) (tCall (spPlus K) [] E0 (tCons (tVar 17) (tCons (tVar 12) tNil))) (tVar 17)) (by rfl) nd rfl rfl (sw_true rfl rfl rfl (by decide +kernel))
          (pi_enumT (by rfl) T.enumerate (pa_cons (pv 3) pa_nil)) (blkOk_by (own := [("_law_at", 16), ("_law_debt", 17)]) (N := nDebts) (sc := defScope s_law_debts) (by decide +kernel))
          (fun _ _ _ _ _ => pg_tup rfl (pgs_cons (pg_name (i := 16) nd rfl (Or.inl rfl)) (pgs_cons (pg_name (i := 17) nd rfl (Or.inl rfl)) pgs_nil))) (fun _ _ _ _ _ => pts_nil) (fun _ _ _ _ _ => pe_ifExp (pt_cmpR op_eq (pv 16) (pv 11) (nomark _)) (pe_dn DPl hr3 (pa_cons (pv 17) (pa_cons (pv 12) pa_nil))) (pv 17)))
      (pss_one (ps_set (i := 3) nd rfl (.inl rfl) (pe_callTy call_tuple_of (by rfl) T.tuple (by decide +kernel) (pa_cons (pe_lc (own := [("_law_at", 16), ("_law_debt", 17)]) (g := gTup K 2 (gCons (gName 16) (gCons (gName 17) gNil))) (tt := tYes) (te := tIf (tTest (tOp rEq (tVar 16) (tVar 13))) (tCall (spMinus K) [] E0 (tCons (tVar 17) (tCons (tVar 12) tNil))) (tVar 17)) (by rfl) nd
          (pi_enum (by rfl) T.enumerate (pa_cons (pv 14) pa_nil)) (blkOk_by (own := [("_law_at", 16), ("_law_debt", 17)]) (N := nDebts) (sc := defScope s_law_debts) (by decide +kernel))
          (fun _ _ _ _ _ => pg_tup rfl (pgs_cons (pg_name (i := 16) nd rfl (Or.inl rfl)) (pgs_cons (pg_name (i := 17) nd rfl (Or.inl rfl)) pgs_nil))) (fun _ _ _ _ _ => pts_nil) (fun _ _ _ _ _ => pe_ifExp (pt_cmpR op_eq (pv 16) (pv 13) (nomark _)) (pe_dn DMi hr4 (pa_cons (pv 17) (pa_cons (pv 12) pa_nil))) (pv 17))) pa_nil))))))) pss_nil)
    (pss_one (ps_ret (pv 3))), ?_⟩
  intro y2 y4 y5 y6 y7 y8 y9 y10 a qs H' hK hT' hD hO
  refine ⟨_, rfl, _, _, rfl, rfl, _, rfl, ite2 (fun c => ?_) (fun c => ?_)⟩
  · have hn3 : 1 < n := by
      have : (1 : Int) < ((n : Nat) : Int) := of_decide_eq_true c
      omega
    refine ⟨_, rfl, t, l, 3, rfl, hT', by omega, by omega, fun d1 H1 _ _ k1 hT1 => ⟨rfl, _, rfl, ite2 (fun _ => ?_) (fun _ => ?_)⟩⟩
    · refine ⟨_, rfl, _, rfl, t, l, n, rfl, hT1, by omega, by omega, fun one H2 o0 o1 k2 hT2 => ?_⟩
      refine ⟨_, rfl, _, _, rfl, rfl, ⟨by decide, by decide, by decide⟩, (by show 2 ≤ sizeLine; decide), fun p1 np1 => ?_⟩
      refine ⟨_, rfl, _, _, rfl, rfl, ⟨by decide, by decide, by decide⟩, (by show 2 ≤ sizeLine; decide), fun p2 np2 => ?_⟩
      refine ⟨(by show 2 ≤ sizeLine; decide), fun p3 np3 => ?_⟩
      refine ⟨_, rfl, (by show 2 ≤ sizeLine; decide), fun p4 np4 => ?_⟩
      refine ⟨(by show 4 ≤ sizeLine; decide), fun s ns => ?_⟩
      have hp1 : FrAt K (upd H2 p1 (.tup [.int 1, .int (10 ^ (6 : Int).toNat)])) p1 (Rat.divInt 1 1000000) := inv_at (by decide)
      have hp2 : ∀ X : Hp, FrAt K (upd X p2 (.tup [.int (-1), .int (10 ^ (6 : Int).toNat)])) p2 (-(Rat.divInt 1 1000000)) := fun X => neg_at (by decide)
      have hp3 : ∀ X : Hp, FrAt K (upd X p3 (.tup [.int 1, .int 12])) p3 (Rat.divInt 1 12) := fun X => inv_at (by decide)
      have hp4 : ∀ X : Hp, FrAt K (upd X p4 (.tup [.int (-1), .int 2])) p4 (-(Rat.divInt 1 2)) := fun X => neg_at (by decide)
      have s1 := same_new (o := .tup [.int 1, .int (10 ^ (6 : Int).toNat)]) np1
      have s2 := same_new (o := .tup [.int (-1), .int (10 ^ (6 : Int).toNat)]) np2
      have s3 := same_new (o := .tup [.int 1, .int 12]) np3
      have s4 := same_new (o := .tup [.int (-1), .int 2]) np4
      have s5 := same_new (o := .lst [.ref p1, .ref p2, .ref p3, .ref p4]) ns
      have g1 := (hp1.tk (tk_same (K := K) (((s2.trans s3).trans s4).trans s5)))
      have g2 := (hp2 _).tk (tk_same (K := K) ((s3.trans s4).trans s5))
      have g3 := (hp3 _).tk (tk_same (K := K) (s4.trans s5))
      have g4 := (hp4 _).tk (tk_same (K := K) s5)
      have sAll := ((((s1.trans s2).trans s3).trans s4).trans s5)
      have hTs := hT2.same sAll
      have nst : s ≠ t := fun e => by
        obtain ⟨xs, e2⟩ := (hT2.same (((s1.trans s2).trans s3).trans s4)).lst
        rw [e] at ns
        exact absurd (e2.symm.trans ns) (by simp)
      refine ⟨t, l, s, _, rfl, hTs, upd_same, nst, (by show 0 < 4; decide), (by show 4 ≤ 1000; decide), fun ix x H3 hx k3 hT3 => ?_⟩
      have tk3 := hTs.tk (K := K) k3
      obtain ⟨r, cc, rfl, hr3', szc⟩ : ∃ (r : Addr) (cc : Rat), x = .ref r ∧ FrAt K H3 r cc ∧ Sz 20 cc := by
        have hm := List.mem_of_getElem? hx
        simp only [List.mem_cons, List.not_mem_nil, or_false] at hm
        have b1 : Sz 20 (Rat.divInt 1 1000000) := Sz.div (by decide) (by decide) (by decide)
        have b2 : Sz 20 (Rat.divInt 1 12) := Sz.div (by decide) (by decide) (by decide)
        have b3 : Sz 20 (Rat.divInt 1 2) := Sz.div (by decide) (by decide) (by decide)
        rcases hm with e | e | e | e
        · exact ⟨p1, _, e, g1.tk tk3, b1⟩
        · exact ⟨p2, _, e, g2.tk tk3, b1.neg⟩
        · exact ⟨p3, _, e, g3.tk tk3, b2⟩
        · exact ⟨p4, _, e, g4.tk tk3, b3.neg⟩
      have K3 : Keep t H H3 := (((hK.trans k1).trans k2).trans (Keep.of sAll)).trans k3
      have D3 : DbAt K H3 a qs := ((((hD.tk (hT'.tk k1)).tk (hT1.tk k2)).tk (tk_same sAll)).tk tk3)
      clear hx g1 g2 g3 g4 s1 s2 s3 s4 s5 hp1 hp2 hp3 hp4 nst hTs tk3 np1 np2 np3 np4 ns k3
      refine ⟨(by show 2 ≤ sizeLine; decide), fun pp npp => ⟨pp, _, rfl, SqT.of upd_same, rfl, _, _, rfl, _, _, rfl, rfl, ?_⟩⟩
      have s6 := same_new (o := .tup [.int one, .ref r]) npp
      refine ⟨_, rfl, one, 1, rfl, rfl, _, rfl, _, rfl, n, 1, rfl, rfl, t, l, (n : Int) - 1, rfl, hT3.same s6, by omega, by omega, fun d4 H4 _ _ k4 hT4 => ?_⟩
      refine ⟨_, _, rfl, rfl, .inl ⟨_, rfl, _, rfl, _, _, rfl, rfl, (by show ((n : Nat) : Int) ≠ 0; omega), ?_⟩⟩
      have om := mod_in (a := one + 1 + d4) (b := (n : Int)) (by omega)
      have tk4 : TK K H3 H4 := (tk_same (K := K) s6).trans ((hT3.same s6).tk k4)
      have K4 : Keep t H H4 := (K3.trans (Keep.of s6)).trans k4
      obtain ⟨as, hA, hF⟩ := D3.tk tk4
      have hrc := hr3'.tk tk4
      have hl := hO.len
      have e1 : ∀ i : Nat, decide (V.int (i : Nat) = V.int one) = true → i = one.toNat := fun i h => by have := V.int.inj (of_decide_eq_true h); omega
      have e2 : ∀ i : Nat, ¬ decide (V.int (i : Nat) = V.int one) = true → i ≠ one.toNat := fun i h z => h (decide_eq_true (by congr 1; omega))
      have e3 : ∀ i : Nat, decide (V.int (i : Nat) = V.int ((one + 1 + d4).fmod (n : Int))) = true → i = ((one + 1 + d4).fmod (n : Int)).toNat := fun i h => by have := V.int.inj (of_decide_eq_true h); omega
      have e4 : ∀ i : Nat, ¬ decide (V.int (i : Nat) = V.int ((one + 1 + d4).fmod (n : Int))) = true → i ≠ ((one + 1 + d4).fmod (n : Int)).toNat := fun i h z => h (decide_eq_true (by congr 1; omega))
      refine ⟨_, rfl, a, _, rfl, hA, fun D nD => lc_it walk_enumT (fun i H' => Same H4 H' ∧ LsAt K H' D ((chg qs one.toNat cc).take i)) ⟨same_new nD, .new⟩ (fun i H' _ q => seqT q.1 hA) ?_ ?_⟩
      · rintro i v H5 H6 hi ⟨s7, hL⟩ ⟨u, x, y, rfl, nu, rfl, hx, hy⟩
        cases Option.some.inj hx
        obtain ⟨d, hd, rfl⟩ := refs_get hy
        obtain ⟨q, hq, hf⟩ := hF.at_ hd
        have s8 := same_new (o := .tup [.int (i : Nat), .ref d]) nu
        have hi2 : i < qs.length := (List.getElem?_eq_some_iff.mp hq).1
        refine ⟨u, _, rfl, SqT.of upd_same, rfl, _, _, rfl, _, _, rfl, rfl, rfl, ?_⟩
        refine ⟨_, rfl, _, rfl, rfl, _, rfl, ite2 (fun c => ?_) (fun c => ?_)⟩
        · refine ⟨_, rfl, _, rfl, d, r, q, cc, 110, 20, rfl, hf.tk (tk_same (s7.trans s8)), hrc.tk (tk_same (s7.trans s8)), hO.size q (List.mem_of_getElem? hq), szc, by omega, by omega, fun H7 r2 s9 g => ?_⟩
          have hL7 := hL.same (s8.trans s9)
          obtain ⟨acc, ha, hal⟩ := hL7.lst
          refine ⟨acc, ha, ?_, same_own ((s7.trans s8).trans s9) nD, ?_⟩
          · rw [hal, List.length_take, chg_len]
            exact small12 (by omega)
          · rw [take_more (chg_get hq), if_pos (e1 i c)]
            exact hL7.snoc ha g
        · have hL7 := hL.same s8
          obtain ⟨acc, ha, hal⟩ := hL7.lst
          refine ⟨_, rfl, acc, ha, ?_, same_own (s7.trans s8) nD, ?_⟩
          · rw [hal, List.length_take, chg_len]
            exact small12 (by omega)
          · rw [take_more (chg_get hq), if_neg (e2 i c)]
            exact hL7.snoc ha (hf.tk (tk_same (s7.trans s8)))
      · rintro H5 ⟨s7, as2, ea2, f2⟩
        rw [refs_len, hF.len, ← chg_len qs one.toNat cc, List.take_length] at f2
        have hO2 : ∀ q ∈ chg qs one.toNat cc, Sz 131 q := chg_size hO.size szc
        have hl2 : (chg qs one.toNat cc).length = n := by rw [chg_len, hl]
        refine ⟨_, rfl, D, _, rfl, SqL.of ea2, fun D2 nD2 => lc_it walk_enum (fun i H' => Same H5 H' ∧ LsAt K H' D2 ((chg (chg qs one.toNat cc) ((one + 1 + d4).fmod (n : Int)).toNat (-cc)).take i)) ⟨same_new nD2, .new⟩ (fun i H' _ q => q.1.seq (SqL.of ea2)) ?_ ?_⟩
        · rintro i v H6 H7 hi ⟨s8, hL⟩ ⟨u, x, y, rfl, nu, rfl, hx, hy⟩
          cases Option.some.inj hx
          obtain ⟨d, hd, rfl⟩ := refs_get hy
          obtain ⟨q, hq, hf⟩ := f2.at_ hd
          have s9 := same_new (o := .tup [.int (i : Nat), .ref d]) nu
          have hi2 : i < (chg qs one.toNat cc).length := (List.getElem?_eq_some_iff.mp hq).1
          refine ⟨u, _, rfl, SqT.of upd_same, rfl, _, _, rfl, _, _, rfl, rfl, rfl, ?_⟩
          refine ⟨_, rfl, _, rfl, rfl, _, rfl, ite2 (fun c => ?_) (fun c => ?_)⟩
          · refine ⟨_, rfl, _, rfl, d, r, q, cc, 131, 20, rfl, hf.tk (tk_same (s8.trans s9)), hrc.tk (tk_same ((s7.trans s8).trans s9)), hO2 q (List.mem_of_getElem? hq), szc, by omega, by omega, fun H8 r2 s10 g => ?_⟩
            have hL8 := hL.same (s9.trans s10)
            obtain ⟨acc, ha, hal⟩ := hL8.lst
            refine ⟨acc, ha, ?_, same_own ((s8.trans s9).trans s10) nD2, ?_⟩
            · rw [hal, List.length_take, chg_len]
              exact small12 (by omega)
            · rw [take_more (chg_get hq), if_pos (e3 i c), ← Rat.sub_eq_add_neg]
              exact hL8.snoc ha g
          · have hL8 := hL.same s9
            obtain ⟨acc, ha, hal⟩ := hL8.lst
            refine ⟨_, rfl, acc, ha, ?_, same_own (s8.trans s9) nD2, ?_⟩
            · rw [hal, List.length_take, chg_len]
              exact small12 (by omega)
            · rw [take_more (chg_get hq), if_neg (e4 i c)]
              exact hL8.snoc ha (hf.tk (tk_same (s8.trans s9)))
        · rintro H6 ⟨s8, as3, ea3, f3⟩
          rw [refs_len, f2.len, ← chg_len (chg qs one.toNat cc) ((one + 1 + d4).fmod (n : Int)).toNat (-cc), List.take_length] at f3
          refine ⟨D2, _, rfl, .inl ⟨SqL.of ea3, fun p np => ?_⟩⟩
          have s9 := same_new (o := .tup (refs as3)) np
          have sE := (s7.trans s8).trans s9
          exact ⟨_, rfl, k p _ _ (K4.trans (Keep.of sE)) (hT4.same sE) ⟨as3, SqT.of upd_same, f3.tk (tk_same s9)⟩ ((hO.move (p := one.toNat) (r := ((one + 1 + d4).fmod (n : Int)).toNat) (by omega) (by omega) szc).mono (by omega))⟩
    · exact ⟨_, rfl, k a qs H1 (hK.trans k1) hT1 (hD.tk (hT'.tk k1)) (hO.mono (by omega))⟩
  · exact ⟨_, rfl, k a qs H' hK hT' hD (hO.mono (by omega))⟩
end
end K16
namespace K16
open PySem PySem.Spec PyProof.Rows L2
def ifThen : Stmt → List Stmt
  | .If _ b _ _ => b
  | _ => []
def ifElse : Stmt → List Stmt
  | .If _ _ c _ => c
  | _ => []
abbrev dIf : Stmt := ((defBody s_law_debts).drop 1).headD (.Pass ⟨0, 0, 0, 0⟩)
abbrev dIf2 : Stmt := (ifElse dIf).headD (.Pass ⟨0, 0, 0, 0⟩)
theorem flat_rep (n : Nat) (p : Addr) : (List.replicate n [V.ref p]).flatten = refs (List.replicate n p) := by
  induction n with
  | zero => rfl
  | succ n ih =>
    rw [List.replicate_succ, List.flatten_cons, ih, List.replicate_succ]
    rfl
theorem repA_of {K : PySem.W.Frag} {p q : Addr} {n : Nat} {H : Hp} {Q : VK} (hq : SqT K H q [.ref p]) (h1 : 1 ≤ n) (h2 : n ≤ 1000) (h : ∀ a H2, Same H H2 → SqT K H2 a (refs (List.replicate n p)) → Q (.ref a) H2) : rRepA K (.ref q) (.int (n : Nat)) H Q := by
  refine ⟨q, n, _, rfl, rfl, hq, by simp, by omega, by omega, by simp, fun e => ?_, fun e s ns => ?_⟩
  · have : n = 1 := by omega
    subst this
    exact h q H (fun _ _ e => e) hq
  · refine h s _ (same_new ns) ?_
    rw [Int.toNat_natCast, flat_rep]
    exact SqT.of upd_same
theorem rep_all {K : PySem.W.Frag} {H : Hp} {p : Addr} (h : FrAt K H p 0) (n : Nat) : FrAll K H (List.replicate n p) (List.replicate n 0) := by
  refine ⟨by rw [List.length_replicate, List.length_replicate], fun i a q e1 e2 => ?_⟩
  rw [List.eq_of_mem_replicate (List.mem_of_getElem? e1), List.eq_of_mem_replicate (List.mem_of_getElem? e2)]
  exact h
section
variable {P : Program} {w : World} {K : PySem.W.Frag} {mg : Str → Option Value} {base : Heap}
/-- what the three kinds hand on -/
abbrev KdEnd (K : PySem.W.Frag) (H : Hp) (t l : Addr) (n : Nat) (kd : V) (D : Ends) : Prop := ∀ (y4 y5 y6 y7 y8 y9 y10 : Option V) (a : Addr) (qs : List Rat) (H' : Hp), Keep t H H' → Tape H' t l → DbAt K H' a qs → DOk n 110 qs →
  D.nx [some (.ref t), some (.int (n : Nat)), some kd, some (.ref a), y4, y5, y6, y7, y8, y9, y10, none, none, none, none, none, none, none] H'
/-- what the three kinds begin with -/
abbrev KdSt (t : Addr) (n : Nat) (kd : V) (a : Addr) : L2.St := [some (.ref t), some (.int (n : Nat)), some kd, some (.ref a), none, none, none, none, none, none, none, none, none, none, none, none, none, none]
theorem ok_debts_0 (DR : Dn P w K mg base 4 "_law_row" ["_law_tape_here", "_law_n", "_law_high"] (spRow K)) (DGr : Dn P w K mg base 4 "_law_grown" ["_law_debts_here", "_law_shares_here"] (spGrown K)) (DPa : Dn P w K mg base 5 "_law_paid" ["_law_debts_here", "_law_person"] (spPaid K))
    (DGt : Dn P w K mg base 2 "_law_greatest" ["_law_debts_here"] (spGr K)) (f : Addr) (cdv : Value) (A : Around) (out : List Env) (st : Shared) (H : Hp) (E : XK) (hr : Room 5 (CxD P w K mg base f cdv A out st H E).A) :
    ∃ tr : TS, PSs (CxD P w K mg base f cdv A out st H E) (ifThen dIf) tr ∧ ∀ (D : Ends) (t l : Addr) (n : Nat) (kd : V) (a : Addr) (H0 : Hp), 1 ≤ n → n ≤ 12 → Tape H0 t l → DbAt K H0 a (List.replicate n 0) → KdEnd K H0 t l n kd D → tr D (KdSt t n kd a) H0 := by
  have hr2 : Room 2 _ := hr.mono (by decide)
  have hr4 : Room 4 _ := hr.mono (by decide)
  have nd := sc_law_debts.nd
  refine ⟨_, pss_one (ps_for PassesOwn.never rfl (pi_tup (pe_dn DR hr4 (pa_cons (pv 0) (pa_cons (pv 1) (pa_cons pe_int pa_nil))))) (pg_name (i := 4) nd rfl (.inl rfl))
      (pss_cons (ps_set (i := 5) nd rfl (.inl rfl) (pe_dn DGr hr4 (pa_cons (pv 3) (pa_cons (pv 4) pa_nil))))
      (pss_one (ps_set (i := 3) nd rfl (.inl rfl) (pe_dn DPa hr (pa_cons (pv 5) (pa_cons (pe_dn DGt hr2 (pa_cons (pv 5) pa_nil)) pa_nil))))))), ?_⟩
  intro D t l n kd a H0 hn1 hn2 hT hD k
  refine ⟨_, rfl, _, rfl, t, l, n, 8, rfl, hT, hn1, hn2, by decide, by decide, fun b as H1 k1 hT1 hS hl hall => ?_⟩
  have hl8 : as.length ≤ 8 := by omega
  refine ⟨b, rfl, ⟨_, hS⟩, for_tup (fun i σ H' => ∃ (r : Addr) (qs : List Rat) (y4 y5 : Option V), σ = [some (.ref t), some (.int (n : Nat)), some kd, some (.ref r), y4, y5, none, none, none, none, none, none, none, none, none, none, none, none] ∧
      Keep t H1 H' ∧ Tape H' t l ∧ DbAt K H' r qs ∧ DOk n (12 * i + 1) qs) ⟨a, _, none, none, rfl, Keep.refl t H1, hT1, hD.tk (hT.tk k1), DOk.start n⟩ (fun i σ H' _ ⟨_, _, _, _, _, kp, _, _, _⟩ => hT1.tk kp _ _ hS) ?_ ?_⟩
  · rintro i x σ H' hx ⟨r, qs, y4, y5, rfl, kp, tp, hdb, ok⟩
    obtain ⟨s, hs, rfl⟩ := refs_get hx
    have hi : i < 8 := by
      have := (List.getElem?_eq_some_iff.mp hs).1
      omega
    obtain ⟨x, ts, hsh, sh⟩ := hall s (List.mem_of_getElem? hs)
    have hl2 := ok.len
    have hlt : qs.length = ts.length := by rw [hl2, sh.len]
    have gl : (grow qs x ts).length = n := by rw [grow_len hlt, hl2]
    refine ⟨_, rfl, _, rfl, r, s, qs, x, ts, 12 * i + 1, rfl, hdb, hsh.tk (hT1.tk kp), hl2 ▸ sh, ok.size, by omega, by omega, fun H2 g s2 hg => ?_⟩
    have gz : ∀ q ∈ grow qs x ts, Sz (12 * i + 1 + 10) q := grow_size sh.pos sh.small ok.size fun y hy => sh.le hy
    refine ⟨_, rfl, _, rfl, g, _, 12 * i + 11, rfl, hg, gz, by omega, by omega, by omega, fun p hp => ?_⟩
    rw [gl] at hp
    refine ⟨g, p, _, 12 * i + 11, rfl, hg, gz, by omega, by omega, fun H3 g2 s3 hg2 => ?_⟩
    refine ⟨g2, _, _, _, rfl, kp.trans (Keep.of (s2.trans s3)), tp.same (s2.trans s3), hg2, (ok.beat sh (c := 9) (by have := sh.small; have := sh.pos; show x.natAbs < 512; omega) hp).mono (by omega)⟩
  · rintro σ H' ⟨r, qs, y4, y5, rfl, kp, tp, hdb, ok⟩
    rw [refs_len] at ok
    exact k _ _ _ _ _ _ _ r qs H' (k1.trans kp) tp hdb (ok.mono (by omega))
/-- a person is drawn from the group -/
structure GrAt (K : PySem.W.Frag) (H H' : Hp) (t l G : Addr) (n i : Nat) (gs : List Int) (r : Addr) (qs : List Rat) : Prop where
  keep : Keep t H H'
  tape : Tape H' t l
  new : H G = none
  lst : H' G = some (.lst (iv gs))
  nd : gs.Nodup
  rng : ∀ x ∈ gs, 0 ≤ x ∧ x < (n : Int)
  len : gs.length + i = n
  db : DbAt K H' r qs
  ok : DOk n (7 * i + 1) qs
theorem iv_erase : ∀ (ns : List Int) (k : Nat), (iv ns).eraseIdx k = iv (ns.eraseIdx k)
  | [], _ => rfl
  | n :: r, 0 => rfl
  | n :: r, k + 1 => by
    show V.int n :: (iv r).eraseIdx k = V.int n :: iv (r.eraseIdx k)
    rw [iv_erase r k]
theorem ok_debts_2 (T : Txt K mg) (DP : Dn P w K mg base 1 "_law_pick" ["_law_tape_here", "_law_many"] spPick) (DGr : Dn P w K mg base 4 "_law_grown" ["_law_debts_here", "_law_shares_here"] (spGrown K)) (DPa : Dn P w K mg base 5 "_law_paid" ["_law_debts_here", "_law_person"] (spPaid K))
    (f : Addr) (cdv : Value) (A : Around) (out : List Env) (st : Shared) (H : Hp) (E : XK) (hr : Room 5 (CxD P w K mg base f cdv A out st H E).A) :
    ∃ tr : TS, PSs (CxD P w K mg base f cdv A out st H E) (ifElse dIf2) tr ∧ ∀ (D : Ends) (t l : Addr) (n : Nat) (kd : V) (a : Addr) (H0 : Hp), 1 ≤ n → n ≤ 12 → Tape H0 t l → DbAt K H0 a (List.replicate n 0) → KdEnd K H0 t l n kd D → tr D (KdSt t n kd a) H0 := by
  have hr1 : Room 1 _ := hr.mono (by decide)
  have hr4 : Room 4 _ := hr.mono (by decide)
  have nd := sc_law_debts.nd
  refine ⟨_, pss_cons (ps_set (i := 9) nd rfl (.inr rfl) (pe_listRg rfl (by rfl) T.list (prg_1 (by rfl) T.range (pv 1))))
    (pss_one (ps_for PassesOwn.never rfl (pi_range1 (by rfl) T.range (pa_cons (pe_dn DP hr1 (pa_cons (pv 0) (pa_cons (pv 1) pa_nil))) pa_nil)) (pg_name (i := 10) nd rfl (.inl rfl))
      (pss_cons (ps_set (i := 3) nd rfl (.inl rfl) (pe_dn DGr hr4 (pa_cons (pv 3) (pa_cons (pe_tup (pa_cons (pe_callB call_len_seq (by rfl) T.len PySem.boot_len (pa_cons (pv 9) pa_nil)) (pa_cons (pe_callTy call_tuple_of (by rfl) T.tuple (by decide +kernel) (pa_cons (pe_lc (own := [("_law_person", 7)]) (g := gName 7) (tt := tYes) (by rfl) nd (pi_range1 (by rfl) T.range (pa_cons (pv 1) pa_nil))
          (blkOk_by (own := [("_law_person", 7)]) (N := nDebts) (sc := defScope s_law_debts) (by decide +kernel)) (fun _ _ _ _ _ => pg_name (i := 7) nd rfl (Or.inl rfl)) (fun _ _ _ _ _ => pts_nil) (fun _ _ _ _ _ => pe_callTy call_int1 (by rfl) T.int (by rfl) (pa_cons (pe_cmpR (show OpR _ _ (rIn K false) from op_in_seq) (pv 7) (pv 9) (by rfl)) pa_nil))) pa_nil)) pa_nil))) pa_nil))))
      (pss_cons (ps_set (i := 7) nd rfl (.inl rfl) (pe_bm PySem.F.plainAttrs_list PySem.F.slot_list_pop PySem.F.type_list_pop mt_popAt (pv 9) (pa_cons (pe_dn DP hr1 (pa_cons (pv 0) (pa_cons (pe_callB call_len_seq (by rfl) T.len PySem.boot_len (pa_cons (pv 9) pa_nil)) pa_nil))) pa_nil)))
      (pss_one (ps_set (i := 3) nd rfl (.inl rfl) (pe_dn DPa hr (pa_cons (pv 3) (pa_cons (pv 7) pa_nil))))))))), ?_⟩
  intro D t l n kd a H0 hn1 hn2 hT hD k
  refine ⟨_, rfl, n, rfl, RgOk.of_le (by omega) (by omega) (by omega) (by omega), fun G nG => ?_⟩
  have s1 := same_new (o := .lst (rgV 0 (n : Int))) nG
  have hT1 := hT.same s1
  have eG : (upd H0 G (.lst (rgV 0 (n : Int)))) G = some (.lst (iv (cs (List.range n)))) := by rw [upd_same, rg_iv]
  have hD1 := hD.tk (tk_same (K := K) s1)
  have nGt : G ≠ t := fun e => by
    obtain ⟨xs, e2⟩ := hT.lst
    rw [e, e2] at nG
    cases nG
  refine ⟨_, rfl, _, rfl, t, l, n, rfl, hT1, by omega, by omega, fun c H1 c0 c1 k1 hT2 => ?_⟩
  have g0 : GrAt K H0 H1 t l G n 0 (cs (List.range n)) a (List.replicate n 0) := by
    refine ⟨(Keep.of s1).trans k1, hT2, nG, k1.lst eG nGt, ?_, ?_, by rw [cs_len, List.length_range]; omega, hD1.tk (hT1.tk k1), DOk.start n⟩
    · unfold cs
      rw [List.nodup_iff_pairwise_ne, List.pairwise_map]
      exact List.Pairwise.imp (fun h => by omega) (List.pairwise_lt_range (n := n))
    · intro x hx
      obtain ⟨p, hp, rfl⟩ := List.mem_map.mp hx
      have := List.mem_range.mp hp
      omega
  refine ⟨c, rfl, by omega, by omega, for_range (fun i σ H' => ∃ (r : Addr) (qs : List Rat) (gs : List Int) (y7 y10 : Option V), σ = [some (.ref t), some (.int (n : Nat)), some kd, some (.ref r), none, none, none, y7, none, some (.ref G), y10, none, none, none, none, none, none, none] ∧
      GrAt K H0 H' t l G n i gs r qs) ⟨a, _, _, none, none, rfl, g0⟩ ?_ ?_⟩
  · rintro i σ H2 hi ⟨r, qs, gs, y7, y10, rfl, gr⟩
    have gl := gr.len
    have ql := gr.ok.len
    have sh : Sh n gs.length (ind n gs) := Sh.ind hn2 gr.rng gr.nd (by omega) (by omega)
    refine ⟨_, rfl, _, rfl, G, _, rfl, .inl (SqL.of gr.lst), ?_⟩
    refine ⟨_, rfl, n, rfl, by omega, by omega, fun D2 nD2 => lc_it walk_range (fun i H' => Same H2 H' ∧ H' D2 = some (.lst (iv ((ind n gs).take i)))) ⟨same_new nD2, upd_same⟩ (fun _ _ _ _ => trivial) ?_ ?_⟩
    · rintro j x H' H3 hj ⟨s2, e2⟩ ⟨rfl, rfl⟩
      rw [Int.toNat_natCast] at hj
      refine ⟨rfl, ?_⟩
      refine ⟨_, rfl, _, rfl, G, _, rfl, .inl (SqL.of (s2 _ _ gr.lst)), rfl, iv_flat gs, .inr ⟨_, rfl, _, e2, ?_, same_own s2 nD2, ?_⟩⟩
      · rw [iv_len, List.length_take, ind_len]
        exact small12 (by omega)
      · rw [upd_same, iv_snoc, take_more (ind_get hj), inV_iv, show (0 : Int) + (j : Nat) = (j : Nat) by omega]
        by_cases cc : ((j : Nat) : Int) ∈ gs
        · rw [if_pos cc, decide_eq_true cc]
          rfl
        · rw [if_neg cc, decide_eq_false cc]
          rfl
    · rintro H3 ⟨s2, e2⟩
      rw [Int.toNat_natCast, List.take_of_length_le (by rw [ind_len]; exact Nat.le_refl _)] at e2
      refine ⟨D2, _, rfl, .inl ⟨SqL.of e2, fun cc nc => ⟨(by show 2 ≤ sizeLine; decide), fun p np => ?_⟩⟩⟩
      have s3 := same_new (o := .tup (iv (ind n gs))) nc
      have s4 := same_new (o := .tup [.int ((iv gs).length : Int), .ref cc]) np
      have sE := (s2.trans s3).trans s4
      have hsh : ShAt K (upd (upd H3 cc (.tup (iv (ind n gs)))) p (.tup [.int ((iv gs).length : Int), .ref cc])) p gs.length (ind n gs) := ⟨cc, by rw [← iv_len gs]; exact SqT.of upd_same, seqT s4 (SqT.of upd_same)⟩
      have tE := gr.tape.same sE
      have dE := gr.db.tk (tk_same (K := K) sE)
      have lE := sE _ _ gr.lst
      have kE := gr.keep.trans (Keep.of sE)
      generalize upd (upd H3 cc (.tup (iv (ind n gs)))) p (.tup [.int ((iv gs).length : Int), .ref cc]) = H4 at hsh tE dE lE kE
      refine ⟨r, p, qs, gs.length, ind n gs, 7 * i + 1, rfl, dE, hsh, by rw [ql]; exact sh, gr.ok.size, by omega, by omega, fun H5 g s5 hg => ?_⟩
      have lt : qs.length = (ind n gs).length := by rw [ql, ind_len]
      have gl2 : (grow qs gs.length (ind n gs)).length = n := by rw [grow_len lt, ql]
      have t5 := tE.same s5
      refine ⟨_, rfl, .inl ⟨rfl, _, SqL.of (s5 _ _ lE)⟩, _, rfl, _, rfl, G, _, rfl, .inl (SqL.of (s5 _ _ lE)), t, l, gs.length, by rw [iv_len]; rfl, t5, by omega, by omega, fun d H6 d0 d1 k6 t6 => ?_⟩
      have l6 : H6 G = some (.lst (iv gs)) := k6.lst (s5 _ _ lE) nGt
      have hd : d.toNat < gs.length := by omega
      have hx : gs[d.toNat]? = some gs[d.toNat] := List.getElem?_eq_getElem hd
      have hxr := gr.rng _ (List.getElem_mem hd)
      refine ⟨G, _, d, d.toNat, _, rfl, rfl, l6, by omega, by omega, seq_ix d0 (by rw [iv_len]; exact d1), get_iv hx, ?_⟩
      have tk6 : TK K H5 (upd H6 G (.lst ((iv gs).eraseIdx d.toNat))) := (t5.tk k6).trans (tk_lst l6)
      have t7 : Tape (upd H6 G (.lst ((iv gs).eraseIdx d.toNat))) t l := hT.own nG t6
      have k7 : Keep t H0 (upd H6 G (.lst ((iv gs).eraseIdx d.toNat))) := ((kE.trans (Keep.of s5)).trans k6).own nG
      have e7 : (upd H6 G (.lst ((iv gs).eraseIdx d.toNat))) G = some (.lst (iv (gs.eraseIdx d.toNat))) := by rw [upd_same, iv_erase]
      generalize upd H6 G (.lst ((iv gs).eraseIdx d.toNat)) = H7 at tk6 t7 k7 e7
      have gz : ∀ q ∈ grow qs gs.length (ind n gs), Sz (7 * i + 1 + 4 + 1) q := grow_size2 (k := 7 * i + 1) (c := 4) (by omega) (by show ((gs.length : Nat) : Int).natAbs < 16; omega) gr.ok.size (fun y hy => by
        obtain ⟨q, _, rfl⟩ := List.mem_map.mp hy
        show (if _ then _ else _ : Int).natAbs < 16
        split <;> decide)
      refine ⟨_, rfl, _, rfl, g, gs[d.toNat].toNat, _, 7 * i + 6, by rw [Int.toNat_of_nonneg hxr.1]; rfl, hg.tk tk6, gz, by omega, by omega, fun H8 g2 s8 hg2 => ?_⟩
      refine ⟨g2, _, gs.eraseIdx d.toNat, _, _, rfl, k7.trans (Keep.of s8), t7.same s8, nG, s8 _ _ e7, gr.nd.sublist (List.eraseIdx_sublist ..), fun x hx => gr.rng x ((List.eraseIdx_sublist ..).subset hx), ?_, hg2, (gr.ok.beat sh (c := 4) (by show ((gs.length : Nat) : Int).natAbs < 16; omega) (by omega)).mono (by omega)⟩
      rw [List.length_eraseIdx_of_lt hd]
      omega
  · rintro σ H' ⟨r, qs, gs, y7, y10, rfl, gr⟩
    have := gr.len
    exact k _ _ _ _ _ _ _ r qs H' gr.keep gr.tape gr.db (gr.ok.mono (by omega))
end
end K16
namespace K16
open PySem PySem.Spec PyProof.Rows L2
/-- the tops of the second kind, as far as they are drawn -/
structure TpAt (H H' : Hp) (t l d : Addr) (b : Int) (ts : List Int) (i : Nat) : Prop where
  keep : Keep t H H'
  tape : Tape H' t l
  new : H d = none
  lst : H' d = some (.lst (iv ts))
  len : ts.length = i
  abs : ∀ x ∈ ts, x.natAbs ≤ b.toNat
theorem iv_ins (ts : List Int) (k : Nat) (x : Int) : (iv ts).take k ++ [V.int x] ++ (iv ts).drop k = iv (ts.take k ++ x :: ts.drop k) := by
  unfold iv
  rw [List.map_append, List.map_cons, List.map_take, List.map_drop, List.append_assoc]
  rfl
section
variable {P : Program} {w : World} {K : PySem.W.Frag} {mg : Str → Option Value} {base : Heap}
theorem ok_debts_1 (T : Txt K mg) (DP : Dn P w K mg base 1 "_law_pick" ["_law_tape_here", "_law_many"] spPick) (DA : Dn P w K mg base 2 "_law_any" ["_law_tape_here", "_law_some"] spAny) (DF : Dn P w K mg base 2 "_law_frac" ["_law_top", "_law_bottom"] (spLowest K))
    (f : Addr) (cdv : Value) (A : Around) (out : List Env) (st : Shared) (H : Hp) (E : XK) (hr : Room 5 (CxD P w K mg base f cdv A out st H E).A) :
    ∃ tr : TS, PSs (CxD P w K mg base f cdv A out st H E) (ifThen dIf2) tr ∧ ∀ (D : Ends) (t l : Addr) (n : Nat) (kd : V) (a : Addr) (H0 : Hp), 1 ≤ n → n ≤ 12 → Tape H0 t l → KdEnd K H0 t l n kd D → tr D (KdSt t n kd a) H0 := by
  have hr1 : Room 1 _ := hr.mono (by decide)
  have hr2 : Room 2 _ := hr.mono (by decide)
  have nd := sc_law_debts.nd
  refine ⟨_, pss_cons (ps_set (i := 6) nd rfl (.inr rfl) (pe_dn DA hr2 (pa_cons (pv 0) (pa_cons (pe_lst (pa_cons pe_int (pa_cons pe_int (pa_cons pe_int (pa_cons pe_int (pa_cons (pe_op op_add pe_int (pe_dn DP hr1 (pa_cons (pv 0) (pa_cons pe_int pa_nil)))) pa_nil)))))) pa_nil))))
    (pss_cons (ps_setLc (i := 8) (own := [("_law_person", 7)]) (g := gName 7) (tt := tYes) (te := tOp (rI0 fun i j => .int (i - j)) (tCall spPick [] E0 (tCons (tVar 0) (tCons (tOp (rI0 fun i j => .int (i + j)) (tOp (rI CMul fun i j => .int (i * j)) (tC (.int 2)) (tVar 6)) (tC (.int 1))) tNil))) (tVar 6)) (by rfl) nd rfl rfl (sw_true rfl rfl rfl (by decide +kernel))
        (pi_range1 (by rfl) T.range (pa_cons (pe_op op_sub (pv 1) pe_int) pa_nil)) (blkOk_by (own := [("_law_person", 7)]) (N := nDebts) (sc := defScope s_law_debts) (by decide +kernel)) (fun _ _ _ _ _ => pg_name (i := 7) nd rfl (Or.inl rfl)) (fun _ _ _ _ _ => pts_nil)
        (fun _ _ _ _ _ => pe_op op_sub (pe_dn DP hr1 (pa_cons (pv 0) (pa_cons (pe_op op_add (pe_op op_mul pe_int (pv 6)) pe_int) pa_nil))) (pv 6)))
    (pss_cons (ps_expr (pe_bm PySem.F.plainAttrs_list PySem.F.slot_list_insert PySem.F.type_list_insert mt_insert (pv 8) (pa_cons (pe_dn DP hr1 (pa_cons (pv 0) (pa_cons (pv 1) pa_nil))) (pa_cons (pe_un un_neg (pe_callB (cr_sum rfl) (by rfl) T.sum (by decide +kernel) (pa_cons (pv 8) pa_nil))) pa_nil))))
    (pss_one (ps_set (i := 3) nd rfl (.inl rfl) (pe_callTy call_tuple_of (by rfl) T.tuple (by decide +kernel) (pa_cons (pe_lc (own := [("_law_top", 15)]) (g := gName 15) (tt := tYes) (by rfl) nd (pi_list (pv 8))
        (blkOk_by (own := [("_law_top", 15)]) (N := nDebts) (sc := defScope s_law_debts) (by decide +kernel)) (fun _ _ _ _ _ => pg_name (i := 15) nd rfl (Or.inl rfl)) (fun _ _ _ _ _ => pts_nil) (fun _ _ _ _ _ => pe_dn DF hr2 (pa_cons (pv 15) (pa_cons (pv 6) pa_nil)))) pa_nil)))))), ?_⟩
  intro D t l n kd a H0 hn1 hn2 hT k
  refine ⟨_, rfl, _, rfl, t, l, 1000, rfl, hT, by omega, by omega, fun d1 H1 d10 d11 k1 hT1 => ?_⟩
  refine ⟨_, _, rfl, rfl, (by show 5 ≤ sizeLine; decide), fun s ns => ?_⟩
  have s2 := same_new (o := .lst [.int 1, .int 2, .int 6, .int 60, .int (1 + d1)]) ns
  have hT2 := hT1.same s2
  have nst : s ≠ t := fun e => by
    obtain ⟨xs, e2⟩ := hT1.lst
    rw [e, e2] at ns
    cases ns
  refine ⟨t, l, s, _, rfl, hT2, upd_same, nst, (by show 0 < 5; decide), (by show 5 ≤ 1000; decide), fun ix x H2 hx k2 hT3 => ?_⟩
  obtain ⟨b, rfl, hb1, hb2⟩ : ∃ b : Int, x = .int b ∧ 1 ≤ b ∧ b ≤ 1000 := by
    have hm := List.mem_of_getElem? hx
    simp only [List.mem_cons, List.not_mem_nil, or_false] at hm
    rcases hm with e | e | e | e | e
    all_goals exact ⟨_, e, by omega, by omega⟩
  have K2 : Keep t H0 H2 := (k1.trans (Keep.of s2)).trans k2
  clear hx nst hT2 ns k1 hT1
  refine ⟨_, rfl, _, _, rfl, rfl, (n : Int) - 1, rfl, by omega, by omega, fun d nd' => lc_it walk_range (fun i H' => ∃ ts : List Int, TpAt H2 H' t l d b ts i)
    ⟨[], Keep.of (same_new nd'), hT3.same (same_new nd'), nd', upd_same, rfl, fun x hx => nomatch hx⟩ (fun _ _ _ _ => trivial) ?_ ?_⟩
  · rintro i x H' H3 hi ⟨ts, tp⟩ ⟨rfl, rfl⟩
    refine ⟨rfl, ?_⟩
    have ndt : d ≠ t := fun e => by
      obtain ⟨xs, e2⟩ := hT3.lst
      rw [e, e2] at nd'
      cases nd'
    refine ⟨_, rfl, _, rfl, 2, b, rfl, rfl, .inl ⟨by decide, by decide⟩, _, _, rfl, rfl, t, l, 2 * b + 1, rfl, tp.tape, by omega, by omega, fun c H4 c0 c1 k4 t4 => ?_⟩
    have e4 := k4.lst tp.lst ndt
    refine ⟨_, rfl, _, _, rfl, rfl, _, e4, ?_, ts ++ [c - b], (tp.keep.trans k4).own nd', hT3.own nd' t4, nd', by rw [upd_same, iv_snoc], by rw [List.length_append, tp.len]; rfl, fun y hy => ?_⟩
    · rw [iv_len, tp.len]
      exact small12 (by omega)
    · rcases List.mem_append.mp hy with h1 | h1
      · exact tp.abs y h1
      · rw [List.mem_singleton.mp h1]
        omega
  · rintro H3 ⟨ts, tp⟩
    have ndt : d ≠ t := fun e => by
      obtain ⟨xs, e2⟩ := hT3.lst
      rw [e, e2] at nd'
      cases nd'
    have hl := tp.len
    refine ⟨_, rfl, .inl ⟨rfl, _, SqL.of tp.lst⟩, _, rfl, _, rfl, t, l, n, rfl, tp.tape, by omega, by omega, fun j H4 j0 j1 k4 t4 => ?_⟩
    have e4 := k4.lst tp.lst ndt
    refine ⟨_, rfl, d, ts, rfl, SqL.of e4, _, rfl, d, _, j, _, rfl, rfl, e4, by rw [iv_len]; exact small12 (by omega), j0, by omega, ?_⟩
    have K5 : Keep t H2 (upd H4 d (.lst ((iv ts).take j.toNat ++ [V.int (-ts.sum)] ++ (iv ts).drop j.toNat))) := (tp.keep.trans k4).own nd'
    have t5 : Tape (upd H4 d (.lst ((iv ts).take j.toNat ++ [V.int (-ts.sum)] ++ (iv ts).drop j.toNat))) t l := hT3.own nd' t4
    have e5 : (upd H4 d (.lst ((iv ts).take j.toNat ++ [V.int (-ts.sum)] ++ (iv ts).drop j.toNat))) d = some (.lst (iv (ts.take j.toNat ++ (-ts.sum) :: ts.drop j.toNat))) := by rw [upd_same, iv_ins]
    generalize upd H4 d (.lst ((iv ts).take j.toNat ++ [V.int (-ts.sum)] ++ (iv ts).drop j.toNat)) = H5 at K5 t5 e5
    have hsum : (ts.take j.toNat ++ (-ts.sum) :: ts.drop j.toNat).sum = 0 := by
      rw [sum_ins]
      omega
    have hlen : (ts.take j.toNat ++ (-ts.sum) :: ts.drop j.toNat).length = n := by
      rw [List.length_append, List.length_take, List.length_cons, List.length_drop, hl]
      omega
    have habs : ∀ x ∈ ts.take j.toNat ++ (-ts.sum) :: ts.drop j.toNat, x.natAbs < 2 ^ 14 := fun x hx => by
      show x.natAbs < 16384
      have h3 := sum_abs tp.abs
      have h4 : ts.length * b.toNat ≤ 11 * 1000 := Nat.mul_le_mul (by omega) (by omega)
      rcases List.mem_append.mp hx with h1 | h1
      · have := tp.abs x (List.mem_of_mem_take h1)
        omega
      · rcases List.mem_cons.mp h1 with h2 | h2
        · rw [h2]
          omega
        · have := tp.abs x (List.mem_of_mem_drop h2)
          omega
    generalize ts.take j.toNat ++ (-ts.sum) :: ts.drop j.toNat = us at e5 hsum hlen habs
    have hfl : (frs b us).length = n := by
      unfold frs
      rw [List.length_map, hlen]
    have hb14 : b.natAbs < 2 ^ 14 := by
      show b.natAbs < 16384
      omega
    have ok : DOk n 14 (frs b us) := ⟨hfl, by rw [tot_frs (by omega), hsum, div_zero], frs_size (by omega) hb14 habs⟩
    refine ⟨_, rfl, d, rfl, ⟨_, SqL.of e5⟩, fun D2 nD2 => lc_it walk_list (fun i H' => Same H5 H' ∧ LsAt K H' D2 ((frs b us).take i)) ⟨same_new nD2, .new⟩ (fun i H' _ q => SqL.of (q.1 _ _ e5)) ?_ ?_⟩
    · rintro i v H6 H7 hi ⟨s6, hL⟩ ⟨rfl, hx⟩
      obtain ⟨z, hz, rfl⟩ := iv_get hx
      refine ⟨rfl, _, rfl, _, rfl, z, b, 14, rfl, by omega, by omega, by omega, hb14, fun H8 r s8 g => ?_⟩
      have hL8 := hL.same s8
      obtain ⟨acc, ha, hal⟩ := hL8.lst
      have hz2 : (frs b us)[i]? = some (Rat.divInt z b) := by
        unfold frs
        rw [List.getElem?_map, hz]
        rfl
      refine ⟨acc, ha, ?_, same_own (s6.trans s8) nD2, ?_⟩
      · rw [hal, List.length_take]
        exact small12 (by omega)
      · rw [take_more hz2]
        exact hL8.snoc ha g
    · rintro H6 ⟨s6, as2, e2, f2⟩
      rw [iv_len, List.take_of_length_le (by rw [hfl, hlen]; exact Nat.le_refl _)] at f2
      refine ⟨D2, _, rfl, .inl ⟨SqL.of e2, fun p np => ?_⟩⟩
      have s7 := s6.trans (same_new (o := .tup (refs as2)) np)
      exact k _ _ _ _ _ _ _ p _ _ ((K2.trans K5).trans (Keep.of s7)) (t5.same s7) ⟨as2, SqT.of upd_same, f2.tk (tk_same (same_new np))⟩ (ok.mono (by omega))
/-! ### the whole -/
theorem ok_law_debts (F : Def K mg "_law_debts" s_law_debts) (T : Txt K mg) (DP : Dn P w K mg base 1 "_law_pick" ["_law_tape_here", "_law_many"] spPick) (DA : Dn P w K mg base 2 "_law_any" ["_law_tape_here", "_law_some"] spAny) (DF : Dn P w K mg base 2 "_law_frac" ["_law_top", "_law_bottom"] (spLowest K))
    (DPl : Dn P w K mg base 3 "_law_plus" ["_law_one", "_law_other"] (spPlus K)) (DMi : Dn P w K mg base 4 "_law_minus" ["_law_one", "_law_other"] (spMinus K)) (DR : Dn P w K mg base 4 "_law_row" ["_law_tape_here", "_law_n", "_law_high"] (spRow K)) (DGr : Dn P w K mg base 4 "_law_grown" ["_law_debts_here", "_law_shares_here"] (spGrown K))
    (DPa : Dn P w K mg base 5 "_law_paid" ["_law_debts_here", "_law_person"] (spPaid K)) (DGt : Dn P w K mg base 2 "_law_greatest" ["_law_debts_here"] (spGr K)) : Dn P w K mg base 6 "_law_debts" ["_law_tape_here", "_law_n"] (spLDebts K) := by
  refine Dn.mk' F sc_law_debts (fun _ _ _ _ _ _ us hl => match us, hl with | [_, _], _ => rfl) (fun vs H Q E h => by obtain ⟨_, _, _, rfl, _⟩ := h; rfl) (fun f cdv A out st H vs Q E hr h => ?_)
  obtain ⟨t, l, n, rfl, hT, hn1, hn2, k⟩ := h
  have hr1 : Room 1 _ := hr.mono (by decide)
  have nd := sc_law_debts.nd
  obtain ⟨tr, htr, spec⟩ := ok_debts_tail T DP DA DPl DMi f cdv A out st H Q E hr hT hn1 hn2 k
  obtain ⟨t0, ht0, sp0⟩ := ok_debts_0 DR DGr DPa DGt f cdv A out st H E hr
  obtain ⟨t1, ht1, sp1⟩ := ok_debts_1 T DP DA DF f cdv A out st H E hr
  obtain ⟨t2, ht2, sp2⟩ := ok_debts_2 T DP DGr DPa f cdv A out st H E hr
  refine ⟨_, pss_cons (ps_par (i := 2) (j := 3) rfl nd rfl rfl (by decide) rfl rfl (pa_cons (pe_dn DP hr1 (pa_cons (pv 0) (pa_cons pe_int pa_nil))) (pa_cons (pe_op op_repA (pe_tup (pa_cons (pe_tup (pa_cons pe_int (pa_cons pe_int pa_nil))) pa_nil)) (pv 1)) pa_nil)) (by rfl))
    (pss_cons (ps_if (pt_cmpR op_eq (pv 2) pe_int (nomark _)) ht0 (pss_one (ps_if (pt_cmpR op_eq (pv 2) pe_int (nomark _)) ht1 ht2))) htr), ?_⟩
  refine ⟨_, rfl, t, l, 3, rfl, hT, by omega, by omega, fun kd H1 _ _ k1 hT1 => ?_⟩
  refine ⟨(by show 2 ≤ sizeLine; decide), fun p np => ⟨(by show 1 ≤ sizeLine; decide), fun q nq => ⟨_, rfl, ?_⟩⟩⟩
  have s1 := same_new (o := .tup [.int 0, .int 1]) np
  have s2 := same_new (o := .tup [.ref p]) nq
  refine repA_of (SqT.of upd_same) hn1 (by omega) fun a H2 s3 hA => ?_
  have sE := (s1.trans s2).trans s3
  have hf : FrAt K H2 p 0 := (zero_at (K := K)).tk (tk_same (s2.trans s3))
  have hD : DbAt K H2 a (List.replicate n 0) := ⟨_, hA, rep_all hf n⟩
  have hT2 := hT1.same sE
  have K2 := k1.trans (Keep.of sE)
  have fin : KdEnd K H2 t l n (.int kd) { nx := fun σ H' => tr (EndsD Q) σ H', rt := Q } := fun y4 y5 y6 y7 y8 y9 y10 a qs H' kp tp db ok => spec _ y4 y5 y6 y7 y8 y9 y10 a qs H' (K2.trans kp) tp db ok
  refine ⟨_, _, rfl, ?_⟩
  refine ⟨_, rfl, rfl, _, rfl, ite2 (fun _ => ?_) (fun _ => ?_)⟩
  · exact sp0 _ t l n _ a H2 hn1 hn2 hT2 hD fin
  · refine ⟨_, rfl, rfl, _, rfl, ite2 (fun _ => ?_) (fun _ => ?_)⟩
    · exact sp1 _ t l n _ a H2 hn1 hn2 hT2 fin
    · exact sp2 _ t l n _ a H2 hn1 hn2 hT2 hD fin
end
end K16
namespace K16
open PySem PySem.Spec PyProof.Rows L2
section
variable {P : Program} {w : World} {K : PySem.W.Frag} {mg : Str → Option Value} {base : Heap}
/-! ### _law_allowed_right -/
def spRight : Sp := fun vs H Q _ => ∃ (t l : Addr) (n : Nat), vs = [.ref t, .int (n : Nat)] ∧ Tape H t l ∧ 1 ≤ n ∧ n ≤ 12 ∧ ∀ H', Keep t H H' → Tape H' t l → Q (.bl true) H'
abbrev nRight : List Str := ["_law_tape_here", "_law_n", "_law_beats", "_law_many", "_law_here", "_law_later", "_law_more"]
theorem sc_law_right : FnScope nRight ["_law_tape_here", "_law_n"] (defScope s_law_allowed_right) := ⟨rfl, rfl, rfl, by decide +kernel, rfl, by decide +kernel, by decide +kernel⟩
theorem ok_law_right (F : Def K mg "_law_allowed_right" s_law_allowed_right) (T : Txt K mg) (DP : Dn P w K mg base 1 "_law_pick" ["_law_tape_here", "_law_many"] spPick) (DA : Dn P w K mg base 2 "_law_any" ["_law_tape_here", "_law_some"] spAny) (DF : Dn P w K mg base 2 "_law_frac" ["_law_top", "_law_bottom"] (spLowest K))
    (DPl : Dn P w K mg base 3 "_law_plus" ["_law_one", "_law_other"] (spPlus K)) (DB : Dn P w K mg base 1 "_law_is_below" ["_law_one", "_law_other"] (spLess K)) (DLA : Dn P w K mg base 5 "_law_allowed" ["_law_n", "_law_beats", "_law_many"] (spAllowed K))
    (DAl : Dn P w K mg base 6 "allowed" ["n", "beats", "many"] (spAllowed K)) (DM : Dn P w K mg base 5 "most" ["n", "beats"] (spMost K)) (DS : Gn P w K mg base 1 "_law_same" ["_law_told", "_law_due"] (spSame K)) : Gn P w K mg base 7 "_law_allowed_right" ["_law_tape_here", "_law_n"] spRight := by
  refine Gn.mk' F sc_law_right (fun _ _ _ _ _ _ us hl => match us, hl with | [_, _], _ => rfl) (fun vs H Q h => by obtain ⟨_, _, _, rfl, _⟩ := h; rfl) (fun f cdv A out st H vs Q hgd hr h => ?_)
  obtain ⟨t, l, n, rfl, hT, hn1, hn2, k⟩ := h
  have hr1 : Room 1 _ := hr.mono (by decide)
  have hr2 : Room 2 _ := hr.mono (by decide)
  have hr3 : Room 3 _ := hr.mono (by decide)
  have hr5 : Room 5 _ := hr.mono (by decide)
  have nd := sc_law_right.nd
  refine ⟨_, pss_cons (ps_set (i := 2) nd rfl (.inl rfl) (pe_dn DA hr2 (pa_cons (pv 0) (pa_cons (pe_lst (pa_cons pe_int (pa_cons pe_int (pa_cons pe_int (pa_cons (pe_op op_sub (pv 1) pe_int) (pa_cons (pv 1) (pa_cons pe_int (pa_cons (pe_op op_sub (pe_op op_pow pe_int pe_int) pe_int)
        (pa_cons (pe_dn DP hr1 (pa_cons (pv 0) (pa_cons pe_int pa_nil))) pa_nil))))))))) pa_nil))))
    (pss_cons (ps_for PassesOwn.never rfl (pi_range2 (by rfl) T.range (pa_cons pe_int (pa_cons (pe_op op_add (pv 1) pe_int) pa_nil))) (pg_name (i := 3) nd rfl (.inl rfl))
      (pss_cons (ps_par (i := 4) (j := 5) rfl nd rfl rfl (by decide) rfl rfl (pa_cons (pe_dn DAl hr (pa_cons (pv 1) (pa_cons (pv 2) (pa_cons (pv 3) pa_nil)))) (pa_cons (pe_dn DAl hr (pa_cons (pv 1) (pa_cons (pe_op op_add (pv 2) pe_int) (pa_cons (pv 3) pa_nil)))) pa_nil)) (by rfl))
      (pss_cons (ps_if (PW.pt (pw_or (pt_not (pt_val (pe_gn DS hgd hr1 (pa_cons (pv 4) (pa_cons (pe_dn DLA hr5 (pa_cons (pv 1) (pa_cons (pv 2) (pa_cons (pv 3) pa_nil)))) pa_nil))))) (pw_or1 (pt_val (pe_dn DB hr1 (pa_cons (pv 5) (pa_cons (pv 4) pa_nil))))))) (pss_one (ps_ret pe_bl)) pss_nil)
      (pss_one (ps_if (pt_cmpR op_lt (pv 3) (pv 1) (nomark _))
        (pss_cons (ps_set (i := 6) nd rfl (.inl rfl) (pe_dn DPl hr3 (pa_cons (pe_tup (pa_cons pe_int (pa_cons pe_int pa_nil))) (pa_cons (pe_dn DAl hr (pa_cons (pv 1) (pa_cons (pv 2) (pa_cons (pe_op op_add (pv 3) pe_int) pa_nil)))) pa_nil))))
        (pss_one (ps_if (pt_cmpR (op_neD hr.units) (pv 5) (pe_dn DF hr2 (pa_cons (pe_op op_mul (pv 3) (pe_ix ix_tup (pv 6) pe_int (fun _ _ => rfl))) (pa_cons (pe_op op_mul (pe_op op_add (pv 3) pe_int) (pe_ix ix_tup (pv 6) pe_int (fun _ _ => rfl))) pa_nil))) (nomark _)) (pss_one (ps_ret pe_bl)) pss_nil))) pss_nil)))))
    (pss_one (ps_ret (pe_and (pe_cmpR (op_eqD hr.units) (pe_dn DAl hr (pa_cons (pv 1) (pa_cons (pv 2) (pa_cons pe_int pa_nil)))) (pe_dn DM hr5 (pa_cons (pv 1) (pa_cons (pv 2) pa_nil))) (nomark _))
      (pe_one (pe_cmpR (op_eqD hr.units) (pe_dn DAl hr (pa_cons (pv 1) (pa_cons (pv 2) (pa_cons (pv 1) pa_nil)))) (pe_tup (pa_cons pe_int (pa_cons pe_int pa_nil))) (nomark _))))))), ?_⟩
  refine ⟨_, rfl, _, rfl, _, _, rfl, rfl, _, rfl, _, _, rfl, rfl, ⟨by decide, by decide, by decide⟩, _, _, rfl, rfl, _, rfl, t, l, 20, rfl, hT, by omega, by omega, fun d1 H1 d10 d11 k1 hT1 => ?_⟩
  have pw : (10 : Int) ^ (9 : Int).toNat = 1000000000 := by decide
  refine ⟨(by show 8 ≤ sizeLine; decide), fun s ns => ?_⟩
  have s2 := same_new (o := .lst [.int 0, .int 1, .int 2, .int ((n : Int) - 1), .int n, .int 30, .int (10 ^ (9 : Int).toNat - 1), .int d1]) ns
  have hT2 := hT1.same s2
  have nst : s ≠ t := fun e => by
    obtain ⟨xs, e2⟩ := hT1.lst
    rw [e, e2] at ns
    cases ns
  refine ⟨t, l, s, _, rfl, hT2, upd_same, nst, (by show 0 < 8; decide), (by show 8 ≤ 1000; decide), fun ix x H2 hx k2 hT3 => ?_⟩
  obtain ⟨b, rfl, hb0, hb1⟩ : ∃ b : Int, x = .int b ∧ 0 ≤ b ∧ b ≤ 999999999 := by
    have hm := List.mem_of_getElem? hx
    simp only [List.mem_cons, List.not_mem_nil, or_false] at hm
    rcases hm with e | e | e | e | e | e | e | e
    all_goals exact ⟨_, e, by omega, by omega⟩
  have K2 : Keep t H H2 := (k1.trans (Keep.of s2)).trans k2
  clear hx nst hT2 s2 ns k2 k1 hT1
  refine ⟨_, rfl, _, _, rfl, rfl, 1, _, rfl, ⟨by omega, by omega, by omega, by omega⟩, ?_⟩
  refine for_range (lo := 1) (fun i σ H' => ∃ (y3 y4 y5 y6 : Option V), σ = [some (.ref t), some (.int (n : Nat)), some (.int b), y3, y4, y5, y6] ∧ Same H2 H') ⟨_, _, _, _, rfl, Same.refl _⟩ ?_ ?_
  · rintro i σ H3 hi ⟨y3, y4, y5, y6, rfl, s3⟩
    have hi2 : i < n := by omega
    have hm0 : (0 : Int) < 1 + (i : Nat) := by omega
    have hm1 : (1 : Int) + (i : Nat) ≤ n := by omega
    generalize (1 : Int) + (i : Nat) = m at hm0 hm1 ⊢
    refine ⟨_, rfl, _, rfl, _, rfl, n, b, m, rfl, by omega, by omega, by omega, by omega, by omega, fun H4 r1 s4 g1 => ?_⟩
    refine ⟨_, rfl, _, rfl, _, _, rfl, rfl, _, rfl, n, b + 1, m, rfl, by omega, by omega, by omega, by omega, by omega, fun H5 r2 s5 g2 => ⟨_, _, rfl, ?_⟩⟩
    have z1 : Sz 84 (al n b m) := Sz.al (by omega) (by omega) (by omega)
    have z2 : Sz 84 (al n (b + 1) m) := Sz.al (by omega) (by omega) (by omega)
    refine ⟨_, rfl, _, rfl, _, rfl, _, rfl, n, b, m, rfl, by omega, by omega, by omega, by omega, by omega, fun H6 r3 s6 g3 => ?_⟩
    refine ⟨r1, r3, _, rfl, dp_fr (g1.tk (tk_same (s5.trans s6))), dp_fr g3, fine_fr z1 (by omega), true, rfl, iteF ?_⟩
    refine ⟨_, rfl, _, rfl, r2, r1, _, _, 84, 84, rfl, g2.tk (tk_same s6), g1.tk (tk_same (s5.trans s6)), z2, z1, by omega, by omega, false, congrArg V.bl (decide_eq_false (al_mono (by omega))), iteF ?_⟩
    refine ⟨_, rfl, _, rfl, _, _, rfl, rfl, _, rfl, ite2 (fun c => ?_) (fun c => ?_)⟩
    · have hmn : m < n := of_decide_eq_true c
      refine ⟨(by show 2 ≤ sizeLine; decide), fun p np => ?_⟩
      have s7 := same_new (o := .tup [.int 1, .int 1]) np
      have z3 : Sz 84 (al n b (m + 1)) := Sz.al (by omega) (by omega) (by omega)
      refine ⟨_, rfl, _, rfl, _, rfl, _, _, rfl, rfl, n, b, m + 1, rfl, by omega, by omega, by omega, by omega, by omega, fun H8 r4 s8 g4 => ?_⟩
      refine ⟨p, r4, 1, _, 1, 84, rfl, (one_at (K := K)).tk (tk_same s8), g4, Sz.one, z3, by omega, by omega, fun H9 r5 s9 g5 => ?_⟩
      have e := al_step (n := n) (b := b) (m := m) hm0 hmn hb0
      refine ⟨_, rfl, _, rfl, _, rfl, r5, _, 0, _, rfl, rfl, g5, rfl, _, _, rfl, rfl, .inl ⟨by omega, by omega⟩, ?_⟩
      refine ⟨_, rfl, _, _, rfl, rfl, _, rfl, r5, _, 1, _, rfl, rfl, g5, rfl, _, _, rfl, rfl, .inl ⟨by omega, by omega⟩, ?_⟩
      refine ⟨_, _, 90, rfl, Int.mul_pos (by omega) (den_pos _), by omega, by omega, ?_, fun H10 r6 s10 g6 => ?_⟩
      · have hz := (Sz.one.add z3).den
        exact mul_abs (a := 4) (b := 86) (by show (m + 1).natAbs < 16; omega) hz
      · rw [← e] at g6
        refine ⟨_, _, dp_fr (g2.tk (tk_same ((((s6.trans s7).trans s8).trans s9).trans s10))), dp_fr g6, rfl, rfl, false, by rw [frd_eqv]; rfl, iteF ?_⟩
        exact ⟨_, _, _, _, rfl, ((((((s3.trans s4).trans s5).trans s6).trans s7).trans s8).trans s9).trans s10⟩
    · exact ⟨_, _, _, _, rfl, ((s3.trans s4).trans s5).trans s6⟩
  · rintro σ H3 ⟨y3, y4, y5, y6, rfl, s3⟩
    refine ⟨_, rfl, _, rfl, n, b, 1, rfl, by omega, by omega, by omega, by omega, by omega, fun H4 r1 s4 g1 => ?_⟩
    refine ⟨_, rfl, _, rfl, n, b, rfl, by omega, by omega, by omega, by omega, fun H5 r2 s5 g2 => ?_⟩
    rw [← al_one] at g2
    refine ⟨_, _, dp_fr (g1.tk (tk_same s5)), dp_fr g2, rfl, rfl, true, congrArg V.bl (frd_eqv _), iteT ?_⟩
    refine ⟨_, rfl, _, rfl, _, rfl, n, b, n, rfl, by omega, by omega, by omega, by omega, by omega, fun H6 r3 s6 g3 => ?_⟩
    rw [al_all hb0] at g3
    refine ⟨(by show 2 ≤ sizeLine; decide), fun p np => ?_⟩
    have s7 := same_new (o := .tup [.int 0, .int 1]) np
    refine ⟨_, _, dp_fr (g3.tk (tk_same s7)), dp_fr zero_at, rfl, rfl, bl_eq (frd_eqv _) ?_⟩
    have sE := (((s3.trans s4).trans s5).trans s6).trans s7
    exact k _ (K2.trans (Keep.of sE)) (hT3.same sE)
/-! ### the law -/
theorem Told.same {H H' : Hp} (s : Same H H') {p : Addr} {qs : List Rat} {l : List Nat} (h : Told K H p qs l) : Told K H' p qs l := by
  obtain ⟨r, t, h1, h2, h3⟩ := h
  exact ⟨r, t, seqT s h1, h2.tk (tk_same s), seqT s h3⟩
theorem told_fine {qs : List Rat} {n m : Nat} {l : List Nat} (ok : DOk n 154 qs) (hn : n ≤ 12) (h : IsLot qs qs.length m l) : Fine (toldD (lotSum qs l) l) := by
  have hl := h.len
  have h12 := ok.len
  have z := Sz.tot (n := 154) (lot_mem ok.size fun i hi => h.lt hi)
  refine fine_told (n := 1861) (z.mono ?_) (by omega) (fun i hi => ?_) (by omega)
  · rw [List.length_map]
    omega
  · have := h.lt hi
    omega
def spLaw (K : PySem.W.Frag) : Sp := fun vs H Q _ => ∃ (a : Addr) (ns : List Int), vs = [.ref a] ∧ SqL K H a (iv ns) ∧ ∀ H', Q (.bl true) H'
abbrev nLaw : List Str := ["_law_script", "_law_tape_here", "_law_turn", "_law_n", "_law_debts_here", "_law_many"]
theorem sc_law : FnScope nLaw ["_law_script"] (defScope s_law) := ⟨rfl, rfl, rfl, by decide +kernel, rfl, by decide +kernel, by decide +kernel⟩
theorem ok_law {f : Addr} {fd : FuncData} (F : FunD K "law" "law" (defArgs s_law) (defBody s_law) (defScope s_law) [] [] f fd) (T : Txt K mg) (DT : Dn P w K mg base 1 "_law_tape" ["_law_script"] (spTape K)) (DP : Dn P w K mg base 1 "_law_pick" ["_law_tape_here", "_law_many"] spPick) (DD : Dn P w K mg base 6 "_law_debts" ["_law_tape_here", "_law_n"] (spLDebts K))
    (DG : Dn P w K mg base 7 "greatest" ["n", "debts", "many"] (spGreatest K)) (DL : Dn P w K mg base 5 "_law_lot" ["_law_debts_here", "_law_many"] (spLLot K)) (DS : Gn P w K mg base 1 "_law_same" ["_law_told", "_law_due"] (spSame K)) (DR : Gn P w K mg base 7 "_law_allowed_right" ["_law_tape_here", "_law_n"] spRight) :
    FnG P w K mg base 8 f fd ["_law_script"] (spLaw K) := by
  refine fnG_of F sc_law (fun vs H Q h => by obtain ⟨_, _, rfl, _⟩ := h; rfl) (fun cdv A out st H vs Q hgd hr h => (?_ : ∃ t, PSs (cxOf CX0 P w K mg base nLaw "law" (defScope s_law) f cdv A out st H E0).nox (defBody s_law) t ∧ t { nx := fun _ H' => Q .non H', rt := Q } (start nLaw vs) H).elim fun t c => ⟨t, c.1.nox, c.2⟩)
  obtain ⟨a, ns, rfl, hS, k⟩ := h
  have hr1 : Room 1 _ := hr.mono (by decide)
  have hr5 : Room 5 _ := hr.mono (by decide)
  have hr6 : Room 6 _ := hr.mono (by decide)
  have nd := sc_law.nd
  refine ⟨_, pss_cons (ps_set (i := 1) nd rfl (.inl rfl) (pe_dn DT hr1 (pa_cons (pv 0) pa_nil)))
    (pss_cons (ps_for PassesOwn.never rfl (pi_range1 (by rfl) T.range (pa_cons pe_int pa_nil)) (pg_name (i := 2) nd rfl (.inl rfl))
      (pss_cons (ps_set (i := 3) nd rfl (.inl rfl) (pe_op op_add pe_int (pe_dn DP hr1 (pa_cons (pv 1) (pa_cons pe_int pa_nil)))))
      (pss_cons (ps_set (i := 4) nd rfl (.inl rfl) (pe_dn DD hr6 (pa_cons (pv 1) (pa_cons (pv 3) pa_nil))))
      (pss_cons (ps_for PassesOwn.never rfl (pi_range2 (by rfl) T.range (pa_cons pe_int (pa_cons (pe_op op_add (pv 3) pe_int) pa_nil))) (pg_name (i := 5) nd rfl (.inl rfl))
        (pss_one (ps_if (pt_not (pt_val (pe_gn DS hgd hr1 (pa_cons (pe_dn DG hr (pa_cons (pv 3) (pa_cons (pv 4) (pa_cons (pv 5) pa_nil)))) (pa_cons (pe_dn DL hr5 (pa_cons (pv 4) (pa_cons (pv 5) pa_nil))) pa_nil))))) (pss_one (ps_ret pe_bl)) pss_nil)))
      (pss_one (ps_if (PW.pt (pw_or (pt_cmpR (op_neD hr.units) (pe_ix ix_tup (pe_dn DG hr (pa_cons (pv 3) (pa_cons (pv 4) (pa_cons (pv 3) pa_nil)))) pe_int (fun _ _ => rfl)) (pe_tup (pa_cons pe_int (pa_cons pe_int pa_nil))) (nomark _)) (pw_or1 (pt_not (pt_val (pe_gn DR hgd hr (pa_cons (pv 1) (pa_cons (pv 3) pa_nil))))))))
        (pss_one (ps_ret pe_bl)) pss_nil))))))
    (pss_one (ps_ret pe_bl))), ?_⟩
  refine ⟨_, rfl, a, ns, rfl, hS, fun H1 t l s1 nt hT1 => ?_⟩
  refine ⟨_, rfl, by decide, by decide, for_range (n := 3) (fun i σ H' => ∃ (y2 y3 y4 y5 : Option V), σ = [some (.ref a), some (.ref t), y2, y3, y4, y5] ∧ Tape H' t l) ⟨_, _, _, _, rfl, hT1⟩ ?_ ?_⟩
  · rintro i σ H2 hi ⟨y2, y3, y4, y5, rfl, hT2⟩
    refine ⟨_, rfl, t, l, 12, rfl, hT2, by omega, by omega, fun d H3 d0 d1 k3 hT3 => ?_⟩
    obtain ⟨n, hn, hn1, hn2⟩ : ∃ n : Nat, 1 + d = (n : Int) ∧ 1 ≤ n ∧ n ≤ 12 := ⟨(1 + d).toNat, by omega, by omega, by omega⟩
    refine ⟨1, d, rfl, rfl, ?_⟩
    dsimp only
    rw [hn]
    refine ⟨_, rfl, _, rfl, t, l, n, rfl, hT3, hn1, hn2, fun db qs H4 k4 hT4 hD ok => ?_⟩
    have hl := ok.len
    have hz3 : ∀ q ∈ qs, Sz 300 q := fun q hq => (ok.size q hq).mono (by omega)
    refine ⟨_, rfl, _, _, rfl, rfl, 1, _, rfl, ⟨by omega, by omega, by omega, by omega⟩, ?_⟩
    refine for_range (lo := 1) (fun i σ H' => ∃ (y2 y5 : Option V), σ = [some (.ref a), some (.ref t), y2, some (.int (n : Nat)), some (.ref db), y5] ∧ Same H4 H') ⟨_, _, rfl, Same.refl _⟩ ?_ ?_
    · rintro j σ H5 hj ⟨y2, y5, rfl, s5⟩
      have e : (1 : Int) + (j : Nat) = ((1 + j : Nat) : Int) := by omega
      rw [e]
      have hD5 := hD.tk (tk_same (K := K) s5)
      refine ⟨_, rfl, _, rfl, _, rfl, n, db, 1 + j, qs, rfl, ⟨hD5, by omega, by omega, by omega, hz3, ok.sum⟩, by omega, by omega, fun H6 p1 l1 s6 i1 t1 => ?_⟩
      refine ⟨_, rfl, _, rfl, db, 1 + j, qs, rfl, hD5.tk (tk_same s6), hz3, by omega, fun H7 p2 l2 s7 i2 t2 => ?_⟩
      obtain rfl := i1.one i2
      exact ⟨p1, p2, _, rfl, dp_told (t1.same s7), dp_told t2, told_fine ok hn2 i1, true, rfl, iteF ⟨_, _, rfl, (s5.trans s6).trans s7⟩⟩
    · rintro σ H5 ⟨y2, y5, rfl, s5⟩
      have hD5 := hD.tk (tk_same (K := K) s5)
      refine ⟨_, rfl, _, rfl, _, rfl, n, db, n, qs, rfl, ⟨hD5, by omega, by omega, by omega, hz3, ok.sum⟩, by omega, by omega, fun H6 p1 l1 s6 i1 t1 => ?_⟩
      obtain ⟨r, tt, h1, h2, h3⟩ := t1
      refine ⟨p1, _, 0, _, rfl, rfl, h1, rfl, (by show 2 ≤ sizeLine; decide), fun u nu => ?_⟩
      have s7 := same_new (o := .tup [.int 0, .int 1]) nu
      have el : l1 = List.range qs.length := by
        rw [← hl] at i1
        exact i1.all
      rw [el, lotSum_all, ok.sum] at h2
      refine ⟨_, _, dp_fr (h2.tk (tk_same s7)), dp_fr zero_at, rfl, rfl, false, by rw [frd_eqv]; rfl, iteF ?_⟩
      have sE := (s5.trans s6).trans s7
      refine ⟨_, rfl, _, rfl, t, l, n, rfl, hT4.same sE, hn1, hn2, fun H8 k8 hT8 => ⟨true, rfl, iteF ⟨_, _, _, _, rfl, hT8⟩⟩⟩
  · rintro σ H2 ⟨y2, y3, y4, y5, rfl, hT2⟩
    exact k H2
end
end K16
namespace K16
open PySem PySem.Spec PyProof.Rows L2
/-! ### the head: facts by names -/
def d_is_integer : He.DefD := ⟨("is_integer", none), "is_integer", "is_integer", defArgs s_is_integer, defBody s_is_integer, defScope s_is_integer, [], []⟩
def d_is_within : He.DefD := ⟨("is_within", none), "is_within", "is_within", defArgs s_is_within, defBody s_is_within, defScope s_is_within, [], []⟩
def d_is_pair : He.DefD := ⟨("is_pair", none), "is_pair", "is_pair", defArgs s_is_pair, defBody s_is_pair, defScope s_is_pair, [], []⟩
def d_divisor : He.DefD := ⟨("divisor", none), "divisor", "divisor", defArgs s_divisor, defBody s_divisor, defScope s_divisor, [], []⟩
def d_lowest : He.DefD := ⟨("lowest", none), "lowest", "lowest", defArgs s_lowest, defBody s_lowest, defScope s_lowest, [], []⟩
def d_plus : He.DefD := ⟨("plus", none), "plus", "plus", defArgs s_plus, defBody s_plus, defScope s_plus, [], []⟩
def d_times : He.DefD := ⟨("times", none), "times", "times", defArgs s_times, defBody s_times, defScope s_times, [], []⟩
def d_is_less : He.DefD := ⟨("is_less", none), "is_less", "is_less", defArgs s_is_less, defBody s_is_less, defScope s_is_less, [], []⟩
def d_total : He.DefD := ⟨("total", none), "total", "total", defArgs s_total, defBody s_total, defScope s_total, [], []⟩
def d_is_fraction : He.DefD := ⟨("is_fraction", none), "is_fraction", "is_fraction", defArgs s_is_fraction, defBody s_is_fraction, defScope s_is_fraction, [], []⟩
def d_check_people : He.DefD := ⟨("check_people", none), "check_people", "check_people", defArgs s_check_people, defBody s_check_people, defScope s_check_people, [], []⟩
def d_harmonic : He.DefD := ⟨("harmonic", none), "harmonic", "harmonic", defArgs s_harmonic, defBody s_harmonic, defScope s_harmonic, [], []⟩
def d_check_beats : He.DefD := ⟨("check_beats", none), "check_beats", "check_beats", defArgs s_check_beats, defBody s_check_beats, defScope s_check_beats, [], []⟩
def d_most : He.DefD := ⟨("most", none), "most", "most", defArgs s_most, defBody s_most, defScope s_most, [], []⟩
def d_are_debts : He.DefD := ⟨("are_debts", none), "are_debts", "are_debts", defArgs s_are_debts, defBody s_are_debts, defScope s_are_debts, [], []⟩
def d_check_debts : He.DefD := ⟨("check_debts", none), "check_debts", "check_debts", defArgs s_check_debts, defBody s_check_debts, defScope s_check_debts, [], []⟩
def d_check_many : He.DefD := ⟨("check_many", none), "check_many", "check_many", defArgs s_check_many, defBody s_check_many, defScope s_check_many, [], []⟩
def d_by_debts : He.DefD := ⟨("by_debts", none), "by_debts", "by_debts", defArgs s_by_debts, defBody s_by_debts, defScope s_by_debts, [], []⟩
def d_lot_of : He.DefD := ⟨("lot_of", none), "lot_of", "lot_of", defArgs s_lot_of, defBody s_lot_of, defScope s_lot_of, [], []⟩
def d_sum_of : He.DefD := ⟨("sum_of", none), "sum_of", "sum_of", defArgs s_sum_of, defBody s_sum_of, defScope s_sum_of, [], []⟩
def d_greatest : He.DefD := ⟨("greatest", none), "greatest", "greatest", defArgs s_greatest, defBody s_greatest, defScope s_greatest, [], []⟩
def d_allowed_to : He.DefD := ⟨("allowed_to", none), "allowed_to", "allowed_to", defArgs s_allowed_to, defBody s_allowed_to, defScope s_allowed_to, [], []⟩
def d_allowed : He.DefD := ⟨("allowed", none), "allowed", "allowed", defArgs s_allowed, defBody s_allowed, defScope s_allowed, [], []⟩
def d_law_tape : He.DefD := ⟨("_law_tape", none), "_law_tape", "_law_tape", defArgs s_law_tape, defBody s_law_tape, defScope s_law_tape, [], []⟩
def d_law_pick : He.DefD := ⟨("_law_pick", none), "_law_pick", "_law_pick", defArgs s_law_pick, defBody s_law_pick, defScope s_law_pick, [], []⟩
def d_law_any : He.DefD := ⟨("_law_any", none), "_law_any", "_law_any", defArgs s_law_any, defBody s_law_any, defScope s_law_any, [], []⟩
def d_law_same : He.DefD := ⟨("_law_same", none), "_law_same", "_law_same", defArgs s_law_same, defBody s_law_same, defScope s_law_same, [], []⟩
def d_law_divisor : He.DefD := ⟨("_law_divisor", none), "_law_divisor", "_law_divisor", defArgs s_law_divisor, defBody s_law_divisor, defScope s_law_divisor, [], []⟩
def d_law_frac : He.DefD := ⟨("_law_frac", none), "_law_frac", "_law_frac", defArgs s_law_frac, defBody s_law_frac, defScope s_law_frac, [], []⟩
def d_law_plus : He.DefD := ⟨("_law_plus", none), "_law_plus", "_law_plus", defArgs s_law_plus, defBody s_law_plus, defScope s_law_plus, [], []⟩
def d_law_minus : He.DefD := ⟨("_law_minus", none), "_law_minus", "_law_minus", defArgs s_law_minus, defBody s_law_minus, defScope s_law_minus, [], []⟩
def d_law_is_below : He.DefD := ⟨("_law_is_below", none), "_law_is_below", "_law_is_below", defArgs s_law_is_below, defBody s_law_is_below, defScope s_law_is_below, [], []⟩
def d_law_sum : He.DefD := ⟨("_law_sum", none), "_law_sum", "_law_sum", defArgs s_law_sum, defBody s_law_sum, defScope s_law_sum, [], []⟩
def d_law_shares : He.DefD := ⟨("_law_shares", none), "_law_shares", "_law_shares", defArgs s_law_shares, defBody s_law_shares, defScope s_law_shares, [], []⟩
def d_law_row : He.DefD := ⟨("_law_row", none), "_law_row", "_law_row", defArgs s_law_row, defBody s_law_row, defScope s_law_row, [], []⟩
def d_law_grown : He.DefD := ⟨("_law_grown", none), "_law_grown", "_law_grown", defArgs s_law_grown, defBody s_law_grown, defScope s_law_grown, [], []⟩
def d_law_paid : He.DefD := ⟨("_law_paid", none), "_law_paid", "_law_paid", defArgs s_law_paid, defBody s_law_paid, defScope s_law_paid, [], []⟩
def d_law_greatest : He.DefD := ⟨("_law_greatest", none), "_law_greatest", "_law_greatest", defArgs s_law_greatest, defBody s_law_greatest, defScope s_law_greatest, [], []⟩
def d_law_ranked : He.DefD := ⟨("_law_ranked", none), "_law_ranked", "_law_ranked", defArgs s_law_ranked, defBody s_law_ranked, defScope s_law_ranked, [], []⟩
def d_law_lot : He.DefD := ⟨("_law_lot", none), "_law_lot", "_law_lot", defArgs s_law_lot, defBody s_law_lot, defScope s_law_lot, [], []⟩
def d_law_allowed : He.DefD := ⟨("_law_allowed", none), "_law_allowed", "_law_allowed", defArgs s_law_allowed, defBody s_law_allowed, defScope s_law_allowed, [], []⟩
def d_law_debts : He.DefD := ⟨("_law_debts", none), "_law_debts", "_law_debts", defArgs s_law_debts, defBody s_law_debts, defScope s_law_debts, [], []⟩
def d_law_allowed_right : He.DefD := ⟨("_law_allowed_right", none), "_law_allowed_right", "_law_allowed_right", defArgs s_law_allowed_right, defBody s_law_allowed_right, defScope s_law_allowed_right, [], []⟩
def d_law : He.DefD := ⟨("law", none), "law", "law", defArgs s_law, defBody s_law, defScope s_law, [], []⟩
def fn1 : List He.DefD := [d_is_integer, d_is_within, d_is_pair, d_divisor, d_lowest, d_plus, d_times, d_is_less, d_total, d_is_fraction, d_check_people, d_harmonic, d_check_beats, d_most, d_are_debts, d_check_debts, d_check_many, d_by_debts, d_lot_of, d_sum_of, d_greatest, d_allowed_to, d_allowed, d_law_tape]
def fn2 : List He.DefD := [d_law_pick, d_law_any, d_law_same, d_law_divisor, d_law_frac, d_law_plus, d_law_minus, d_law_is_below, d_law_sum, d_law_shares, d_law_row, d_law_grown, d_law_paid, d_law_greatest, d_law_ranked, d_law_lot, d_law_allowed, d_law_debts, d_law_allowed_right, d_law]
def fn : List He.DefD := fn1 ++ fn2
def fa1 : List He.Fa := [.glo "is_integer", .glo "is_within", .glo "is_pair", .glo "divisor", .glo "lowest", .glo "plus", .glo "times", .glo "is_less", .glo "total", .glo "is_fraction", .glo "check_people", .glo "harmonic", .glo "check_beats", .glo "most", .glo "are_debts", .glo "check_debts", .glo "check_many", .glo "by_debts", .glo "lot_of", .glo "sum_of", .glo "greatest", .glo "allowed_to", .glo "allowed", .glo "_law_tape"]
def fa2 : List He.Fa := [.glo "_law_pick", .glo "_law_any", .glo "_law_same", .glo "_law_divisor", .glo "_law_frac", .glo "_law_plus", .glo "_law_minus", .glo "_law_is_below", .glo "_law_sum", .glo "_law_shares", .glo "_law_row", .glo "_law_grown", .glo "_law_paid", .glo "_law_greatest", .glo "_law_ranked", .glo "_law_lot", .glo "_law_allowed", .glo "_law_debts", .glo "_law_allowed_right", .glo "law", .glo "NOUGHT"]
def fa3 : List He.Fa := [.free "abs", .free "all", .free "bool", .free "enumerate", .free "int", .free "isinstance", .free "len", .free "list", .free "min", .free "range", .free "repr", .free "sorted", .free "sum", .free "tuple", .free "zip", .int "MOST_PEOPLE" 12, .int "MOST_BEATS" 1000000000]
def fa : List He.Fa := fa1 ++ fa2 ++ fa3
def lo1 : List PySem.Str := ["is_integer", "is_within", "is_pair", "DuesError", "NoPeople", "NoNumber", "NoDebts", "NOUGHT", "divisor", "lowest", "plus", "times", "is_less", "total", "is_fraction", "MOST_PEOPLE", "check_people", "MOST_BEATS", "harmonic", "check_beats", "most", "are_debts", "check_debts", "check_many", "by_debts", "lot_of", "sum_of", "greatest"]
def lo2 : List PySem.Str := ["allowed_to", "allowed", "_law_tape", "_law_pick", "_law_any", "_law_same", "_law_divisor", "_law_frac", "_law_plus", "_law_minus", "_law_is_below", "_law_sum", "_law_shares", "_law_row", "_law_grown", "_law_paid", "_law_greatest", "_law_ranked", "_law_lot", "_law_allowed", "_law_debts", "_law_allowed_right"]
def lo : List PySem.Str := lo1 ++ lo2
def nought (K : PySem.W.Frag) : Bool := He.tupB K "NOUGHT" [.int 0, .int 1]
def look (g : Addr → Option Obj) : He.AlD × Bool := (He.obsDG 4 fa fn g, nought (He.frG g (He.asD g 4)))
def hk : PySem.W.Hook where
  α := He.AlD × Bool
  obs := fun s => look s.heap.get?
  val := fun _ => (He.valD fn, true)
  says := fun _ h => ∃ K : PySem.W.Frag, K.In h ∧ He.SaysD fa fn K ∧ nought K = true
  of := fun _ _ e => ⟨_, He.frG_in, congrArg (fun z : He.AlD × Bool => z.1) e, congrArg (fun z : He.AlD × Bool => z.2) e⟩
  keeps := fun _ _ _ z k => z.elim fun K c => ⟨K, PySem.W.Frag.In.keeps c.1 k, c.2⟩
def ob (s : PySem.W.SharedT) : He.AlD × Bool := look (HandSHeadRun.getT s)
theorem ob_eq (s : PySem.W.SharedT) : ob s = hk.obs s.abs := congrArg look (funext (HandSHeadRun.getT_eq s))
abbrev R : PySem.W.OpenRow := PySem.W.OpenLaw.row PySem.Challenge.rw_harmonicdues_k16_whole_greatest_debts_an
theorem run (w : World) : HandSHeadRun.RunEq R (PySem.W.view R.prog [57]) hk ob 3000 lo w := by
  intro os
  kernel_rfl
end K16
namespace K16
open PySem PySem.Spec PyProof.Rows L2
/-! ### the end -/
theorem nought_ok {K : PySem.W.Frag} (h : nought K = true) (H : Hp) : FrAt K H (He.ga K "NOUGHT") 0 := He.tupB_ok (K := K) (x := "NOUGHT") (vs := [.int 0, .int 1]) h H
theorem facts {P : Program} {w : World} {K : PySem.W.Frag} {h : Heap} {mg : Str → Option Value} {f : Addr} (X : K.In h) (G : h.Ns mainGlobals mg) (hfa : mg ("law" : Str) = some (.ref f)) (c : He.SaysD fa fn K) (hN : nought K = true) :
    ∃ fd : FuncData, (∀ (s : Shared) (v : Value), BindsTo s fd ⟨[v], []⟩ [("_law_script", v)]) ∧ ∀ base : Heap, K.In base → base.Ns mainGlobals mg → FnG P w K mg base 8 f fd ["_law_script"] (spLaw K) := by
  have F_is_integer : Def K mg "is_integer" s_is_integer := by
    obtain ⟨fd, F⟩ := c.def_ 0 (d := d_is_integer) rfl
    exact ⟨_, fd, F, He.glo_ok X G (c.fact 0 (f := .glo "is_integer") rfl)⟩
  have F_is_within : Def K mg "is_within" s_is_within := by
    obtain ⟨fd, F⟩ := c.def_ 1 (d := d_is_within) rfl
    exact ⟨_, fd, F, He.glo_ok X G (c.fact 1 (f := .glo "is_within") rfl)⟩
  have F_is_pair : Def K mg "is_pair" s_is_pair := by
    obtain ⟨fd, F⟩ := c.def_ 2 (d := d_is_pair) rfl
    exact ⟨_, fd, F, He.glo_ok X G (c.fact 2 (f := .glo "is_pair") rfl)⟩
  have F_divisor : Def K mg "divisor" s_divisor := by
    obtain ⟨fd, F⟩ := c.def_ 3 (d := d_divisor) rfl
    exact ⟨_, fd, F, He.glo_ok X G (c.fact 3 (f := .glo "divisor") rfl)⟩
  have F_lowest : Def K mg "lowest" s_lowest := by
    obtain ⟨fd, F⟩ := c.def_ 4 (d := d_lowest) rfl
    exact ⟨_, fd, F, He.glo_ok X G (c.fact 4 (f := .glo "lowest") rfl)⟩
  have F_plus : Def K mg "plus" s_plus := by
    obtain ⟨fd, F⟩ := c.def_ 5 (d := d_plus) rfl
    exact ⟨_, fd, F, He.glo_ok X G (c.fact 5 (f := .glo "plus") rfl)⟩
  have F_times : Def K mg "times" s_times := by
    obtain ⟨fd, F⟩ := c.def_ 6 (d := d_times) rfl
    exact ⟨_, fd, F, He.glo_ok X G (c.fact 6 (f := .glo "times") rfl)⟩
  have F_is_less : Def K mg "is_less" s_is_less := by
    obtain ⟨fd, F⟩ := c.def_ 7 (d := d_is_less) rfl
    exact ⟨_, fd, F, He.glo_ok X G (c.fact 7 (f := .glo "is_less") rfl)⟩
  have F_total : Def K mg "total" s_total := by
    obtain ⟨fd, F⟩ := c.def_ 8 (d := d_total) rfl
    exact ⟨_, fd, F, He.glo_ok X G (c.fact 8 (f := .glo "total") rfl)⟩
  have F_is_fraction : Def K mg "is_fraction" s_is_fraction := by
    obtain ⟨fd, F⟩ := c.def_ 9 (d := d_is_fraction) rfl
    exact ⟨_, fd, F, He.glo_ok X G (c.fact 9 (f := .glo "is_fraction") rfl)⟩
  have F_check_people : Def K mg "check_people" s_check_people := by
    obtain ⟨fd, F⟩ := c.def_ 10 (d := d_check_people) rfl
    exact ⟨_, fd, F, He.glo_ok X G (c.fact 10 (f := .glo "check_people") rfl)⟩
  have F_harmonic : Def K mg "harmonic" s_harmonic := by
    obtain ⟨fd, F⟩ := c.def_ 11 (d := d_harmonic) rfl
    exact ⟨_, fd, F, He.glo_ok X G (c.fact 11 (f := .glo "harmonic") rfl)⟩
  have F_check_beats : Def K mg "check_beats" s_check_beats := by
    obtain ⟨fd, F⟩ := c.def_ 12 (d := d_check_beats) rfl
    exact ⟨_, fd, F, He.glo_ok X G (c.fact 12 (f := .glo "check_beats") rfl)⟩
  have F_most : Def K mg "most" s_most := by
    obtain ⟨fd, F⟩ := c.def_ 13 (d := d_most) rfl
    exact ⟨_, fd, F, He.glo_ok X G (c.fact 13 (f := .glo "most") rfl)⟩
  have F_are_debts : Def K mg "are_debts" s_are_debts := by
    obtain ⟨fd, F⟩ := c.def_ 14 (d := d_are_debts) rfl
    exact ⟨_, fd, F, He.glo_ok X G (c.fact 14 (f := .glo "are_debts") rfl)⟩
  have F_check_debts : Def K mg "check_debts" s_check_debts := by
    obtain ⟨fd, F⟩ := c.def_ 15 (d := d_check_debts) rfl
    exact ⟨_, fd, F, He.glo_ok X G (c.fact 15 (f := .glo "check_debts") rfl)⟩
  have F_check_many : Def K mg "check_many" s_check_many := by
    obtain ⟨fd, F⟩ := c.def_ 16 (d := d_check_many) rfl
    exact ⟨_, fd, F, He.glo_ok X G (c.fact 16 (f := .glo "check_many") rfl)⟩
  have F_by_debts : Def K mg "by_debts" s_by_debts := by
    obtain ⟨fd, F⟩ := c.def_ 17 (d := d_by_debts) rfl
    exact ⟨_, fd, F, He.glo_ok X G (c.fact 17 (f := .glo "by_debts") rfl)⟩
  have F_lot_of : Def K mg "lot_of" s_lot_of := by
    obtain ⟨fd, F⟩ := c.def_ 18 (d := d_lot_of) rfl
    exact ⟨_, fd, F, He.glo_ok X G (c.fact 18 (f := .glo "lot_of") rfl)⟩
  have F_sum_of : Def K mg "sum_of" s_sum_of := by
    obtain ⟨fd, F⟩ := c.def_ 19 (d := d_sum_of) rfl
    exact ⟨_, fd, F, He.glo_ok X G (c.fact 19 (f := .glo "sum_of") rfl)⟩
  have F_greatest : Def K mg "greatest" s_greatest := by
    obtain ⟨fd, F⟩ := c.def_ 20 (d := d_greatest) rfl
    exact ⟨_, fd, F, He.glo_ok X G (c.fact 20 (f := .glo "greatest") rfl)⟩
  have F_allowed_to : Def K mg "allowed_to" s_allowed_to := by
    obtain ⟨fd, F⟩ := c.def_ 21 (d := d_allowed_to) rfl
    exact ⟨_, fd, F, He.glo_ok X G (c.fact 21 (f := .glo "allowed_to") rfl)⟩
  have F_allowed : Def K mg "allowed" s_allowed := by
    obtain ⟨fd, F⟩ := c.def_ 22 (d := d_allowed) rfl
    exact ⟨_, fd, F, He.glo_ok X G (c.fact 22 (f := .glo "allowed") rfl)⟩
  have F_law_tape : Def K mg "_law_tape" s_law_tape := by
    obtain ⟨fd, F⟩ := c.def_ 23 (d := d_law_tape) rfl
    exact ⟨_, fd, F, He.glo_ok X G (c.fact 23 (f := .glo "_law_tape") rfl)⟩
  have F_law_pick : Def K mg "_law_pick" s_law_pick := by
    obtain ⟨fd, F⟩ := c.def_ 24 (d := d_law_pick) rfl
    exact ⟨_, fd, F, He.glo_ok X G (c.fact 24 (f := .glo "_law_pick") rfl)⟩
  have F_law_any : Def K mg "_law_any" s_law_any := by
    obtain ⟨fd, F⟩ := c.def_ 25 (d := d_law_any) rfl
    exact ⟨_, fd, F, He.glo_ok X G (c.fact 25 (f := .glo "_law_any") rfl)⟩
  have F_law_same : Def K mg "_law_same" s_law_same := by
    obtain ⟨fd, F⟩ := c.def_ 26 (d := d_law_same) rfl
    exact ⟨_, fd, F, He.glo_ok X G (c.fact 26 (f := .glo "_law_same") rfl)⟩
  have F_law_divisor : Def K mg "_law_divisor" s_law_divisor := by
    obtain ⟨fd, F⟩ := c.def_ 27 (d := d_law_divisor) rfl
    exact ⟨_, fd, F, He.glo_ok X G (c.fact 27 (f := .glo "_law_divisor") rfl)⟩
  have F_law_frac : Def K mg "_law_frac" s_law_frac := by
    obtain ⟨fd, F⟩ := c.def_ 28 (d := d_law_frac) rfl
    exact ⟨_, fd, F, He.glo_ok X G (c.fact 28 (f := .glo "_law_frac") rfl)⟩
  have F_law_plus : Def K mg "_law_plus" s_law_plus := by
    obtain ⟨fd, F⟩ := c.def_ 29 (d := d_law_plus) rfl
    exact ⟨_, fd, F, He.glo_ok X G (c.fact 29 (f := .glo "_law_plus") rfl)⟩
  have F_law_minus : Def K mg "_law_minus" s_law_minus := by
    obtain ⟨fd, F⟩ := c.def_ 30 (d := d_law_minus) rfl
    exact ⟨_, fd, F, He.glo_ok X G (c.fact 30 (f := .glo "_law_minus") rfl)⟩
  have F_law_is_below : Def K mg "_law_is_below" s_law_is_below := by
    obtain ⟨fd, F⟩ := c.def_ 31 (d := d_law_is_below) rfl
    exact ⟨_, fd, F, He.glo_ok X G (c.fact 31 (f := .glo "_law_is_below") rfl)⟩
  have F_law_sum : Def K mg "_law_sum" s_law_sum := by
    obtain ⟨fd, F⟩ := c.def_ 32 (d := d_law_sum) rfl
    exact ⟨_, fd, F, He.glo_ok X G (c.fact 32 (f := .glo "_law_sum") rfl)⟩
  have F_law_shares : Def K mg "_law_shares" s_law_shares := by
    obtain ⟨fd, F⟩ := c.def_ 33 (d := d_law_shares) rfl
    exact ⟨_, fd, F, He.glo_ok X G (c.fact 33 (f := .glo "_law_shares") rfl)⟩
  have F_law_row : Def K mg "_law_row" s_law_row := by
    obtain ⟨fd, F⟩ := c.def_ 34 (d := d_law_row) rfl
    exact ⟨_, fd, F, He.glo_ok X G (c.fact 34 (f := .glo "_law_row") rfl)⟩
  have F_law_grown : Def K mg "_law_grown" s_law_grown := by
    obtain ⟨fd, F⟩ := c.def_ 35 (d := d_law_grown) rfl
    exact ⟨_, fd, F, He.glo_ok X G (c.fact 35 (f := .glo "_law_grown") rfl)⟩
  have F_law_paid : Def K mg "_law_paid" s_law_paid := by
    obtain ⟨fd, F⟩ := c.def_ 36 (d := d_law_paid) rfl
    exact ⟨_, fd, F, He.glo_ok X G (c.fact 36 (f := .glo "_law_paid") rfl)⟩
  have F_law_greatest : Def K mg "_law_greatest" s_law_greatest := by
    obtain ⟨fd, F⟩ := c.def_ 37 (d := d_law_greatest) rfl
    exact ⟨_, fd, F, He.glo_ok X G (c.fact 37 (f := .glo "_law_greatest") rfl)⟩
  have F_law_ranked : Def K mg "_law_ranked" s_law_ranked := by
    obtain ⟨fd, F⟩ := c.def_ 38 (d := d_law_ranked) rfl
    exact ⟨_, fd, F, He.glo_ok X G (c.fact 38 (f := .glo "_law_ranked") rfl)⟩
  have F_law_lot : Def K mg "_law_lot" s_law_lot := by
    obtain ⟨fd, F⟩ := c.def_ 39 (d := d_law_lot) rfl
    exact ⟨_, fd, F, He.glo_ok X G (c.fact 39 (f := .glo "_law_lot") rfl)⟩
  have F_law_allowed : Def K mg "_law_allowed" s_law_allowed := by
    obtain ⟨fd, F⟩ := c.def_ 40 (d := d_law_allowed) rfl
    exact ⟨_, fd, F, He.glo_ok X G (c.fact 40 (f := .glo "_law_allowed") rfl)⟩
  have F_law_debts : Def K mg "_law_debts" s_law_debts := by
    obtain ⟨fd, F⟩ := c.def_ 41 (d := d_law_debts) rfl
    exact ⟨_, fd, F, He.glo_ok X G (c.fact 41 (f := .glo "_law_debts") rfl)⟩
  have F_law_allowed_right : Def K mg "_law_allowed_right" s_law_allowed_right := by
    obtain ⟨fd, F⟩ := c.def_ 42 (d := d_law_allowed_right) rfl
    exact ⟨_, fd, F, He.glo_ok X G (c.fact 42 (f := .glo "_law_allowed_right") rfl)⟩
  have T : Txt K mg := ⟨He.free_ok X G (c.fact 45 (f := .free "abs") rfl), He.free_ok X G (c.fact 46 (f := .free "all") rfl), He.free_ok X G (c.fact 47 (f := .free "bool") rfl), He.free_ok X G (c.fact 48 (f := .free "enumerate") rfl), He.free_ok X G (c.fact 49 (f := .free "int") rfl), He.free_ok X G (c.fact 50 (f := .free "isinstance") rfl), He.free_ok X G (c.fact 51 (f := .free "len") rfl), He.free_ok X G (c.fact 52 (f := .free "list") rfl), He.free_ok X G (c.fact 53 (f := .free "min") rfl), He.free_ok X G (c.fact 54 (f := .free "range") rfl), He.free_ok X G (c.fact 55 (f := .free "repr") rfl), He.free_ok X G (c.fact 56 (f := .free "sorted") rfl), He.free_ok X G (c.fact 57 (f := .free "sum") rfl), He.free_ok X G (c.fact 58 (f := .free "tuple") rfl), He.free_ok X G (c.fact 59 (f := .free "zip") rfl), He.int_ok X G (c.fact 60 (f := .int "MOST_PEOPLE" 12) rfl), He.int_ok X G (c.fact 61 (f := .int "MOST_BEATS" 1000000000) rfl), He.ga K "NOUGHT", He.glo_ok X G (c.fact 44 (f := .glo "NOUGHT") rfl), nought_ok hN⟩
  obtain ⟨fd, F⟩ := c.def_ 43 (d := d_law) rfl
  have e := hfa.symm.trans (He.glo_ok X G (c.fact 43 (f := .glo "law") rfl))
  cases e
  have b := FunD.bindsA (ps := ["_law_script"]) F fun _ _ _ _ _ _ us hl => match us, hl with | [_], _ => rfl
  refine ⟨fd, fun s v => b s [v] rfl, fun base _ _ => ?_⟩
  have D_is_integer := ok_integer (P := P) (w := w) (base := base) F_is_integer T
  have D_is_within := ok_within (P := P) (w := w) (base := base) F_is_within D_is_integer
  have D_is_pair := ok_pair (P := P) (w := w) (base := base) F_is_pair T
  have D_divisor := ok_divisor (P := P) (w := w) (base := base) F_divisor T
  have D_lowest := ok_lowest (P := P) (w := w) (base := base) F_lowest D_divisor
  have D_plus := ok_plus (P := P) (w := w) (base := base) F_plus D_lowest
  have D_times := ok_times (P := P) (w := w) (base := base) F_times D_lowest
  have D_is_less := ok_is_less (P := P) (w := w) (base := base) F_is_less 
  have D_total := ok_total (P := P) (w := w) (base := base) F_total T D_plus
  have D_is_fraction := ok_is_fraction (P := P) (w := w) (base := base) F_is_fraction D_is_pair D_is_integer D_divisor
  have D_check_people := ok_check_people (P := P) (w := w) (base := base) F_check_people T D_is_within
  have D_check_beats := ok_check_beats (P := P) (w := w) (base := base) F_check_beats T D_is_within
  have D_check_many := ok_check_many (P := P) (w := w) (base := base) F_check_many D_is_within
  have D_harmonic := ok_harmonic (P := P) (w := w) (base := base) F_harmonic T D_plus
  have D_most := ok_most (P := P) (w := w) (base := base) F_most T D_check_people D_check_beats D_harmonic
  have D_allowed_to := ok_allowed_to (P := P) (w := w) (base := base) F_allowed_to T D_harmonic D_times
  have D_allowed := ok_allowed (P := P) (w := w) (base := base) F_allowed D_check_people D_check_beats D_check_many D_allowed_to
  have D_are_debts := ok_are_debts (P := P) (w := w) (base := base) F_are_debts T D_is_fraction D_total
  have D_check_debts := ok_check_debts (P := P) (w := w) (base := base) F_check_debts D_check_people D_are_debts
  have D_by_debts := ok_by_debts (P := P) (w := w) (base := base) F_by_debts T D_is_less
  have D_lot_of := ok_lot_of (P := P) (w := w) (base := base) F_lot_of T D_by_debts
  have D_sum_of := ok_sum_of (P := P) (w := w) (base := base) F_sum_of T D_total
  have D_greatest := ok_greatest (P := P) (w := w) (base := base) F_greatest D_check_debts D_check_many D_lot_of D_sum_of
  have D_law_tape := ok_law_tape (P := P) (w := w) (base := base) F_law_tape T
  have D_law_pick := ok_law_pick (P := P) (w := w) (base := base) F_law_pick T
  have D_law_any := ok_law_any (P := P) (w := w) (base := base) F_law_any T D_law_pick
  have D_law_same := ok_law_same (P := P) (w := w) (base := base) F_law_same T
  have D_law_divisor := ok_law_divisor (P := P) (w := w) (base := base) F_law_divisor T
  have D_law_frac := ok_law_frac (P := P) (w := w) (base := base) F_law_frac D_law_divisor
  have D_law_plus := ok_law_plus (P := P) (w := w) (base := base) F_law_plus D_law_frac
  have D_law_minus := ok_law_minus (P := P) (w := w) (base := base) F_law_minus D_law_plus
  have D_law_is_below := ok_law_is_below (P := P) (w := w) (base := base) F_law_is_below 
  have D_law_sum := ok_law_sum (P := P) (w := w) (base := base) F_law_sum D_law_plus
  have D_law_shares := ok_law_shares (P := P) (w := w) (base := base) F_law_shares T D_law_pick D_law_any
  have D_law_row := ok_law_row (P := P) (w := w) (base := base) F_law_row T D_law_pick D_law_shares
  have D_law_grown := ok_law_grown (P := P) (w := w) (base := base) F_law_grown T D_law_frac D_law_plus
  have D_law_paid := ok_law_paid (P := P) (w := w) (base := base) F_law_paid T D_law_minus
  have D_law_greatest := ok_law_greatest (P := P) (w := w) (base := base) F_law_greatest T D_law_is_below
  have D_law_ranked := ok_law_ranked (P := P) (w := w) (base := base) F_law_ranked T D_law_is_below
  have D_law_lot := ok_law_lot (P := P) (w := w) (base := base) F_law_lot T D_law_ranked D_law_sum
  have D_law_allowed := ok_law_allowed (P := P) (w := w) (base := base) F_law_allowed T D_law_frac D_law_sum
  have D_law_debts := ok_law_debts (P := P) (w := w) (base := base) F_law_debts T D_law_pick D_law_any D_law_frac D_law_plus D_law_minus D_law_row D_law_grown D_law_paid D_law_greatest
  have D_law_allowed_right := ok_law_right (P := P) (w := w) (base := base) F_law_allowed_right T D_law_pick D_law_any D_law_frac D_law_plus D_law_is_below D_law_allowed D_allowed D_most D_law_same
  exact ok_law F T D_law_tape D_law_pick D_law_debts D_greatest D_law_lot D_law_same D_law_allowed_right
end K16
open PySem PySem.W PySem.Calls PyProof.Rows
theorem PySem.Challenge.cw_harmonicdues_k16_whole_greatest_debts_an_holds : PySem.Challenge.rw_harmonicdues_k16_whole_greatest_debts_an.Holds := by
  w_on; o_law
  refine HandSHeadRun.head_any (r := OpenLaw.row PySem.Challenge.rw_harmonicdues_k16_whole_greatest_debts_an) (q := view (OpenLaw.row PySem.Challenge.rw_harmonicdues_k16_whole_greatest_debts_an).prog [57]) (H := K16.hk) (ob := K16.ob) (M := 3000) (loose := K16.lo) (d := HandSHeadRun.topDef (OpenLaw.row PySem.Challenge.rw_harmonicdues_k16_whole_greatest_debts_an).prog 57) (kwd := []) K16.ob_eq
    (by kernel_rfl) (fun s => by kernel_rfl) K16.run (by kernel_rfl) (by kernel_rfl) (by kernel_rfl) (by rfl) (by first | assumption | decide +kernel) (by decide +kernel) ⟨rfl, rfl, rfl, rfl, rfl, by decide +kernel⟩ ?hw ?hc
  case hw => w_witness2
  case hc =>
    refine K16.walk_ofG (l := PySem.Challenge.rw_harmonicdues_k16_whole_greatest_debts_an) (n := 63) (k := 8) (x := "_law_script") rfl (by decide) (by kernel_rfl) ⟨rfl, by decide, by decide⟩ ?F
    intro w mg fa h Y G hmg0
    obtain ⟨K, KX, c, hN⟩ := Y
    have hmg : mg ("law" : PySem.Str) = some (.ref fa) := by
      have e : (HandSHeadRun.topDef (OpenLaw.row PySem.Challenge.rw_harmonicdues_k16_whole_greatest_debts_an).prog 57).name = ("law" : PySem.Str) := by kernel_rfl
      rw [← e]
      exact hmg0
    obtain ⟨fd, hb, hF⟩ := K16.facts (P := (PySem.Challenge.rw_harmonicdues_k16_whole_greatest_debts_an).prog) (w := w) KX G hmg c hN
    exact ⟨K, fd, K16.spLaw K, KX, hb, fun H a ns hl hS => ⟨a, ns, rfl, hS, fun _ => rfl⟩, hF⟩
