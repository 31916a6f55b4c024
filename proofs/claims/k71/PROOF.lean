import PyProof.Rows.All
import Wide.All
import OpenK.AllK
import Wide.FinOn
import HandS.ForMost
import HandS.IsInst
import HandS.Conv
import HandS.SortKw
import HandS.More
import HandS.Codes
import PySem.Challenge.RW_discwright_k71_whole_votes_give_the_true
set_option Elab.async false
set_option linter.all false
set_option maxRecDepth 100000
set_option maxHeartbeats 8000000
namespace K71
/-! ### the checksum, in plain Lean -/
def bstep (s b : Nat) : Nat := if s / 32768 ≠ b then (2 * s % 65536) ^^^ 4129 else 2 * s % 65536
def weights : List Nat := [128, 64, 32, 16, 8, 4, 2, 1]
def bitsOf (v : Nat) : List Nat := weights.map fun w => v / w % 2
def stepN (s v : Nat) : Nat := (bitsOf v).foldl bstep s
def crcF (s : Nat) (vs : List Nat) : Nat := vs.foldl stepN s
def crcN (vs : List Nat) : Nat := crcF 65535 vs
theorem x0 (a : Nat) : a ^^^ 0 = a := Nat.xor_zero a
theorem xx (a b : Nat) : a ^^^ b ^^^ b = a := by rw [Nat.xor_assoc, Nat.xor_self, Nat.xor_zero]
theorem x4 (a b c d : Nat) : (a ^^^ b) ^^^ (c ^^^ d) = (a ^^^ c) ^^^ (b ^^^ d) := by
  rw [Nat.xor_assoc, Nat.xor_assoc, ← Nat.xor_assoc b, Nat.xor_comm b c, Nat.xor_assoc c]
theorem two_xor (a b : Nat) : 2 * (a ^^^ b) = (2 * a) ^^^ (2 * b) := by
  have h := @Nat.shiftLeft_xor_distrib 1 a b
  simpa [Nat.shiftLeft_eq, Nat.mul_comm] using h
theorem bstep_eq {s b : Nat} : bstep s b = (2 * s % 65536) ^^^ (if s / 32768 = b then 0 else 4129) := by
  unfold bstep
  by_cases h : s / 32768 = b
  · rw [if_neg (by simpa using h), if_pos h, Nat.xor_zero]
  · rw [if_pos h, if_neg h]
theorem bstep_lt {s b : Nat} : bstep s b < 65536 := by
  rw [bstep_eq]
  refine Nat.xor_lt_two_pow (n := 16) (Nat.mod_lt _ (by decide)) ?_
  split <;> decide
theorem sel_lin : ∀ t, t < 2 → ∀ t', t' < 2 → ∀ b, b < 2 → ∀ b', b' < 2 → (if t ^^^ t' = b ^^^ b' then 0 else 4129) = (if t = b then 0 else 4129) ^^^ (if t' = b' then 0 else 4129) := by decide
theorem bstep_lin {s s' b b' : Nat} (hs : s < 65536) (hs' : s' < 65536) (hb : b < 2) (hb' : b' < 2) : bstep (s ^^^ s') (b ^^^ b') = bstep s b ^^^ bstep s' b' := by
  rw [bstep_eq, bstep_eq, bstep_eq]
  have e1 : 2 * (s ^^^ s') % 65536 = (2 * s % 65536) ^^^ (2 * s' % 65536) := by
    rw [two_xor]
    exact Nat.xor_mod_two_pow (n := 16)
  have e2 : (s ^^^ s') / 32768 = (s / 32768) ^^^ (s' / 32768) := Nat.xor_div_two_pow (n := 15)
  rw [e1, e2, sel_lin _ (by omega) _ (by omega) _ hb _ hb', x4]
theorem fold_lt : ∀ (bs : List Nat) (s : Nat), s < 65536 → bs.foldl bstep s < 65536
  | [], _, h => h
  | b :: r, s, _ => fold_lt r _ bstep_lt
theorem fold_lin : ∀ (ws : List Nat) (s s' : Nat) (f g : Nat → Nat), (∀ w, f w < 2) → (∀ w, g w < 2) → s < 65536 → s' < 65536 →
    (ws.map fun w => f w ^^^ g w).foldl bstep (s ^^^ s') = (ws.map f).foldl bstep s ^^^ (ws.map g).foldl bstep s'
  | [], _, _, _, _, _, _, _, _ => rfl
  | w :: r, s, s', f, g, hf, hg, hs, hs' => by
    simp only [List.map_cons, List.foldl_cons]
    rw [bstep_lin hs hs' (hf w) (hg w)]
    exact fold_lin r _ _ f g hf hg bstep_lt bstep_lt
theorem stepN_lt {s v : Nat} (h : s < 65536) : stepN s v < 65536 := fold_lt _ _ h
theorem bits_xor (v v' : Nat) : bitsOf (v ^^^ v') = weights.map fun w => (v / w % 2) ^^^ (v' / w % 2) := by
  have key : ∀ n : Nat, (v ^^^ v') / 2 ^ n % 2 = (v / 2 ^ n % 2) ^^^ (v' / 2 ^ n % 2) := fun n => by
    rw [Nat.xor_div_two_pow]
    exact Nat.xor_mod_two_pow (n := 1)
  have k0 := key 0; have k1 := key 1; have k2 := key 2; have k3 := key 3; have k4 := key 4; have k5 := key 5; have k6 := key 6; have k7 := key 7
  simp only [bitsOf, weights, List.map_cons, List.map_nil]
  simp only [Nat.reducePow] at k0 k1 k2 k3 k4 k5 k6 k7
  rw [k0, k1, k2, k3, k4, k5, k6, k7]
theorem stepN_lin {s s' v v' : Nat} (hs : s < 65536) (hs' : s' < 65536) : stepN (s ^^^ s') (v ^^^ v') = stepN s v ^^^ stepN s' v' := by
  unfold stepN
  rw [bits_xor]
  exact fold_lin weights s s' (fun w => v / w % 2) (fun w => v' / w % 2) (fun w => Nat.mod_lt _ (by decide)) (fun w => Nat.mod_lt _ (by decide)) hs hs'
theorem crcF_lt : ∀ (vs : List Nat) (s : Nat), s < 65536 → crcF s vs < 65536
  | [], _, h => h
  | v :: r, s, h => crcF_lt r _ (stepN_lt h)
theorem crcN_lt (vs : List Nat) : crcN vs < 65536 := crcF_lt vs _ (by decide)
theorem crcF_lin : ∀ (xs ys : List Nat) (s s' : Nat), xs.length = ys.length → s < 65536 → s' < 65536 → crcF (s ^^^ s') (List.zipWith (· ^^^ ·) xs ys) = crcF s xs ^^^ crcF s' ys
  | [], [], _, _, _, _, _ => rfl
  | x :: xs, y :: ys, s, s', hl, hs, hs' => by
    show crcF (stepN (s ^^^ s') (x ^^^ y)) (List.zipWith (· ^^^ ·) xs ys) = crcF (stepN s x) xs ^^^ crcF (stepN s' y) ys
    rw [stepN_lin hs hs']
    exact crcF_lin xs ys _ _ (by simpa using hl) (stepN_lt hs) (stepN_lt hs')
  | [], _ :: _, _, _, h, _, _ => by simp at h
  | _ :: _, [], _, _, h, _, _ => by simp at h
/-- the change that a byte b makes, with n zeros ahead and m behind -/
def Lc (n m b : Nat) : Nat := crcF 0 (List.replicate n 0 ++ b :: List.replicate m 0)
theorem stepN_00 : stepN 0 0 = 0 := by decide
theorem crcF_zeros : ∀ n, crcF 0 (List.replicate n 0) = 0
  | 0 => rfl
  | n + 1 => by
    rw [List.replicate_succ]
    show crcF (stepN 0 0) (List.replicate n 0) = 0
    rw [stepN_00]
    exact crcF_zeros n
theorem crcF_append (s : Nat) (xs ys : List Nat) : crcF s (xs ++ ys) = crcF (crcF s xs) ys := List.foldl_append
theorem Lc_eq (n m b : Nat) : Lc n m b = crcF (stepN 0 b) (List.replicate m 0) := by
  unfold Lc
  rw [crcF_append, crcF_zeros]
  rfl
theorem bstep_inj0 {s : Nat} (hs : s < 65536) (h : bstep s 0 = 0) : s = 0 := by
  unfold bstep at h
  by_cases e : s / 32768 = 0
  · rw [if_neg (by simpa using e)] at h
    omega
  · rw [if_pos e] at h
    exfalso
    have h1 : ((2 * s % 65536) ^^^ 4129) % 2 = (2 * s % 65536 % 2) ^^^ (4129 % 2) := Nat.xor_mod_two_pow (n := 1)
    have h2 : 2 * s % 65536 % 2 = 0 := by omega
    rw [h, h2] at h1
    exact absurd h1 (by decide)
theorem fold_inj0 : ∀ (k : Nat) (s : Nat), s < 65536 → (List.replicate k 0).foldl bstep s = 0 → s = 0
  | 0, _, _, h => h
  | k + 1, s, hs, h => by
    rw [List.replicate_succ, List.foldl_cons] at h
    exact bstep_inj0 hs (fold_inj0 k _ bstep_lt h)
theorem stepN_inj0 {s : Nat} (hs : s < 65536) (h : stepN s 0 = 0) : s = 0 := fold_inj0 8 s hs h
theorem crcF_inj0 : ∀ (m s : Nat), s < 65536 → crcF s (List.replicate m 0) = 0 → s = 0
  | 0, _, _, h => h
  | m + 1, s, hs, h => by
    rw [List.replicate_succ] at h
    exact stepN_inj0 hs (crcF_inj0 m _ (stepN_lt hs) h)
set_option maxRecDepth 100000 in
theorem step0_inj : ∀ b, b < 256 → stepN 0 b = 0 → b = 0 := by decide +kernel
theorem Lc_inj (n m : Nat) {b : Nat} (hb : b < 256) (h : Lc n m b = 0) : b = 0 := by
  rw [Lc_eq] at h
  exact step0_inj b hb (crcF_inj0 m _ (stepN_lt (by decide)) h)
theorem Lc_lt (n m b : Nat) : Lc n m b < 65536 := crcF_lt _ _ (by decide)
theorem zip_self0 : ∀ xs : List Nat, List.zipWith (· ^^^ ·) xs xs = List.replicate xs.length 0
  | [] => rfl
  | x :: xs => by
    rw [List.zipWith_cons_cons, zip_self0 xs, Nat.xor_self]
    rfl
theorem Lc_lin (n m a b : Nat) : Lc n m (a ^^^ b) = Lc n m a ^^^ Lc n m b := by
  rw [Lc_eq, Lc_eq, Lc_eq]
  have h := stepN_lin (s := 0) (s' := 0) (v := a) (v' := b) (by decide) (by decide)
  rw [Nat.xor_self] at h
  rw [h]
  have h2 := crcF_lin (List.replicate m 0) (List.replicate m 0) (stepN 0 a) (stepN 0 b) rfl (stepN_lt (by decide)) (stepN_lt (by decide))
  rw [zip_self0, List.length_replicate] at h2
  exact h2
theorem Lc_zero (n m : Nat) : Lc n m 0 = 0 := by
  have h := Lc_lin n m 0 0
  rw [Nat.xor_self, Nat.xor_self] at h
  exact h
/-- two lists that differ in one byte -/
theorem crc_diff (pre post : List Nat) (a b : Nat) : crcN (pre ++ a :: post) ^^^ crcN (pre ++ b :: post) = Lc pre.length post.length (a ^^^ b) := by
  unfold crcN Lc
  rw [← crcF_lin (pre ++ a :: post) (pre ++ b :: post) 65535 65535 (by simp) (by decide) (by decide), Nat.xor_self, List.zipWith_append rfl, List.zipWith_cons_cons, zip_self0, zip_self0]
end K71
namespace K71
/-! ### sums of numbers, each under its highest digit -/
abbrev Ent := Nat × Nat × List Nat
def Bf (acc : Nat) (pl : List Nat) : Nat := pl.foldl (fun acc p => acc ^^^ 2 ^ (7 - p % 8)) acc
def B (pl : List Nat) : Nat := Bf 0 pl
theorem Bf_acc : ∀ (pl : List Nat) (acc : Nat), Bf acc pl = acc ^^^ Bf 0 pl
  | [], acc => (Nat.xor_zero acc).symm
  | p :: r, acc => by
    show Bf (acc ^^^ 2 ^ (7 - p % 8)) r = acc ^^^ Bf (0 ^^^ 2 ^ (7 - p % 8)) r
    rw [Bf_acc r (acc ^^^ _), Bf_acc r (0 ^^^ _), Nat.zero_xor, Nat.xor_assoc]
theorem B_cons (p : Nat) (r : List Nat) : B (p :: r) = 2 ^ (7 - p % 8) ^^^ B r := by
  show Bf (0 ^^^ 2 ^ (7 - p % 8)) r = _
  rw [Bf_acc, Nat.zero_xor]
  rfl
theorem B_append : ∀ xs ys : List Nat, B (xs ++ ys) = B xs ^^^ B ys
  | [], ys => (Nat.zero_xor _).symm
  | x :: xs, ys => by
    rw [List.cons_append, B_cons, B_cons, B_append xs ys, Nat.xor_assoc]
theorem pow7_lt (p : Nat) : 2 ^ (7 - p % 8) < 256 := by
  show _ < 2 ^ 8
  exact Nat.pow_lt_pow_right (by decide) (by omega)
theorem B_lt : ∀ pl : List Nat, B pl < 256
  | [] => by decide
  | p :: r => by
    rw [B_cons]
    exact Nat.xor_lt_two_pow (n := 8) (pow7_lt p) (B_lt r)
theorem B_perm {xs ys : List Nat} (h : xs.Perm ys) : B xs = B ys := by
  induction h with
  | nil => rfl
  | cons x _ ih => rw [B_cons, B_cons, ih]
  | swap x y l => rw [B_cons, B_cons, B_cons, B_cons, ← Nat.xor_assoc, Nat.xor_comm (2 ^ _) (2 ^ _), Nat.xor_assoc]
  | trans _ _ a b => exact a.trans b
theorem B_part (f : Nat → Bool) : ∀ xs : List Nat, B xs = B (xs.filter f) ^^^ B (xs.filter fun x => !f x)
  | [] => by simp [B, Bf]
  | x :: xs => by
    cases e : f x with
    | true =>
      rw [List.filter_cons_of_pos e, List.filter_cons_of_neg (by simp [e]), B_cons, B_cons, B_part f xs, Nat.xor_assoc]
    | false =>
      rw [List.filter_cons_of_neg (by simp [e]), List.filter_cons_of_pos (by simp [e]), B_cons, B_cons, B_part f xs, ← Nat.xor_assoc, Nat.xor_comm (2 ^ _), Nat.xor_assoc]
/-- the places that are in one of two lists alone -/
def symd (xs ys : List Nat) : List Nat := (xs.filter fun x => !ys.contains x) ++ ys.filter fun y => !xs.contains y
theorem nd_filter {xs : List Nat} (f : Nat → Bool) (h : xs.Nodup) : (xs.filter f).Nodup := List.Pairwise.filter f h
theorem B_symd {xs ys : List Nat} (hx : xs.Nodup) (hy : ys.Nodup) : B (symd xs ys) = B xs ^^^ B ys := by
  have e : (xs.filter fun x => ys.contains x).Perm (ys.filter fun y => xs.contains y) := by
    refine (List.perm_ext_iff_of_nodup (nd_filter _ hx) (nd_filter _ hy)).mpr fun a => ?_
    simp only [List.mem_filter, List.contains_iff_mem]
    exact ⟨fun h => ⟨h.2, h.1⟩, fun h => ⟨h.2, h.1⟩⟩
  have e1 := B_part (fun x => ys.contains x) xs
  have e2 := B_part (fun y => xs.contains y) ys
  unfold symd
  rw [B_append, e1, e2, B_perm e, x4, Nat.xor_self, Nat.zero_xor]
theorem nd_symd {xs ys : List Nat} (hx : xs.Nodup) (hy : ys.Nodup) : (symd xs ys).Nodup := by
  unfold symd
  refine List.nodup_append.mpr ⟨nd_filter _ hx, nd_filter _ hy, fun a ha b hb e => ?_⟩
  subst e
  have h1 := (List.mem_filter.mp ha).2
  have h2 := (List.mem_filter.mp hb).1
  simp [h2] at h1
theorem mem_symd {xs ys : List Nat} {a : Nat} (h : a ∈ symd xs ys) : a ∈ xs ∨ a ∈ ys := by
  unfold symd at h
  rcases List.mem_append.mp h with h | h
  · exact .inl (List.mem_filter.mp h).1
  · exact .inr (List.mem_filter.mp h).1
/-- places of the byte a, among its first k bits -/
def Pl (a k : Nat) (pl : List Nat) : Prop := pl.Nodup ∧ ∀ q ∈ pl, 8 * a ≤ q ∧ q < 8 * a + k
theorem Pl.mono {a k k' : Nat} {pl : List Nat} (h : Pl a k pl) (hk : k ≤ k') : Pl a k' pl := ⟨h.1, fun q m => ⟨(h.2 q m).1, by have := (h.2 q m).2; omega⟩⟩
theorem Pl.symd {a k : Nat} {xs ys : List Nat} (h : Pl a k xs) (h' : Pl a k ys) : Pl a k (symd xs ys) :=
  ⟨nd_symd h.1 h'.1, fun q m => (mem_symd m).elim (h.2 q) (h'.2 q)⟩
theorem B_low {a k : Nat} (hk : k ≤ 8) : ∀ {pl : List Nat}, (∀ q ∈ pl, 8 * a ≤ q ∧ q < 8 * a + k) → ∀ j, j < 8 - k → (B pl).testBit j = false
  | [], _, j, _ => Nat.zero_testBit j
  | p :: r, h, j, hj => by
    have hp := h p List.mem_cons_self
    rw [B_cons, Nat.testBit_xor, B_low hk (fun q m => h q (List.mem_cons_of_mem _ m)) j hj, Nat.testBit_two_pow]
    have : ¬ (7 - p % 8 = j) := by omega
    simp [this]
theorem B_high {a : Nat} : ∀ {pl : List Nat}, (∀ q ∈ pl, 8 * a ≤ q ∧ q < 8 * a + 8) → ∀ p, 8 * a ≤ p → p < 8 * a + 8 → p ∉ pl → (B pl).testBit (7 - p % 8) = false
  | [], _, p, _, _, _ => Nat.zero_testBit _
  | q :: r, h, p, h1, h2, hn => by
    have hq := h q List.mem_cons_self
    rw [B_cons, Nat.testBit_xor, B_high (fun q m => h q (List.mem_cons_of_mem _ m)) p h1 h2 (fun m => hn (List.mem_cons_of_mem _ m)), Nat.testBit_two_pow]
    have hne : q ≠ p := fun e => hn (e ▸ List.mem_cons_self)
    have : ¬ (7 - q % 8 = 7 - p % 8) := by omega
    simp [this]
/-! ### spans -/
inductive Spn (R : List Nat) : Nat → Prop
  | zero : Spn R 0
  | add {n r : Nat} : Spn R n → r ∈ R → Spn R (n ^^^ r)
theorem Spn.mono {R R' : List Nat} (h : ∀ r ∈ R, r ∈ R') {n : Nat} (s : Spn R n) : Spn R' n := by
  induction s with
  | zero => exact .zero
  | add _ m ih => exact .add ih (h _ m)
theorem Spn.xor {R : List Nat} {a b : Nat} (s : Spn R a) (t : Spn R b) : Spn R (a ^^^ b) := by
  induction t with
  | zero => rw [Nat.xor_zero]; exact s
  | add _ m ih => rw [← Nat.xor_assoc]; exact .add ih m
theorem Spn.one {R : List Nat} {r : Nat} (m : r ∈ R) : Spn R r := by
  have h := Spn.add (.zero (R := R)) m
  rw [Nat.zero_xor] at h
  exact h
theorem Spn.all {R : List Nat} {P : Nat → Prop} (h0 : P 0) (hx : ∀ a b, P a → P b → P (a ^^^ b)) (hr : ∀ r ∈ R, P r) {n : Nat} (s : Spn R n) : P n := by
  induction s with
  | zero => exact h0
  | add _ m ih => exact hx _ _ ih (hr _ m)
/-! ### what reduced does -/
def lk (E : List Ent) (d : Nat) : Option (Nat × List Nat) := E.lookup d
def bitAt (n d : Nat) : Bool := decide (n / 2 ^ d % 2 = 1)
theorem bitAt_eq (n d : Nat) : bitAt n d = n.testBit d := (Nat.testBit_eq_decide_div_mod_eq).symm
def redN1 (E : List Ent) (n d : Nat) : Nat := if n.testBit d = true then (match lk E d with | some (r, _) => n ^^^ r | none => n) else n
def redN (E : List Ent) (ds : List Nat) (n : Nat) : Nat := ds.foldl (redN1 E) n
def redStep (E : List Ent) (st : Nat × List Nat) (d : Nat) : Nat × List Nat := if st.1.testBit d = true then (match lk E d with | some (r, more) => (st.1 ^^^ r, symd st.2 more) | none => st) else st
def redAll (E : List Ent) (ds : List Nat) (st : Nat × List Nat) : Nat × List Nat := ds.foldl (redStep E) st
theorem lk_mem : ∀ {E : List Ent} {d r : Nat} {pl : List Nat}, lk E d = some (r, pl) → (d, r, pl) ∈ E
  | [], _, _, _, h => by cases h
  | (d', e) :: E, d, r, pl, h => by
    unfold lk at h
    rw [List.lookup_cons] at h
    cases hb : d == d' with
    | true =>
      rw [hb] at h
      have e1 : d = d' := by simpa using hb
      subst e1
      cases h
      exact List.mem_cons_self
    | false =>
      rw [hb] at h
      exact List.mem_cons_of_mem _ (lk_mem h)
theorem lk_some : ∀ {E : List Ent} {d : Nat}, d ∈ E.map (·.1) → ∃ r pl, lk E d = some (r, pl)
  | [], _, h => by cases h
  | (d', r, pl) :: E, d, h => by
    unfold lk
    rw [List.lookup_cons]
    cases hb : d == d' with
    | true => exact ⟨r, pl, rfl⟩
    | false =>
      rcases List.mem_cons.mp h with h | h
      · have h : d = d' := h
        subst h
        simp at hb
      · exact lk_some h
theorem lk_nd : ∀ {E : List Ent}, (E.map (·.1)).Nodup → ∀ {d r : Nat} {pl : List Nat}, (d, r, pl) ∈ E → lk E d = some (r, pl)
  | [], _, _, _, _, h => by cases h
  | (d', e) :: E, hn, d, r, pl, h => by
    unfold lk
    rw [List.lookup_cons]
    have hn' := List.nodup_cons.mp (show (d' :: E.map (·.1)).Nodup from hn)
    rcases List.mem_cons.mp h with h | h
    · cases h
      simp
    · have hne : d ≠ d' := fun q => hn'.1 (q ▸ List.mem_map.mpr ⟨_, h, rfl⟩)
      have : (d == d') = false := by simpa using hne
      rw [this]
      exact lk_nd hn'.2 h
/-- each entry's number has its digit as the highest -/
def Tops (E : List Ent) : Prop := ∀ e ∈ E, e.1 < 16 ∧ e.2.1.testBit e.1 = true ∧ ∀ j, e.1 < j → e.2.1.testBit j = false
theorem redN1_lin (E : List Ent) (n m d : Nat) : redN1 E (n ^^^ m) d = redN1 E n d ^^^ redN1 E m d := by
  unfold redN1
  rw [Nat.testBit_xor]
  cases lk E d with
  | none => cases n.testBit d <;> cases m.testBit d <;> rfl
  | some v =>
    obtain ⟨r, pl⟩ := v
    cases n.testBit d <;> cases m.testBit d
    · rfl
    · show (n ^^^ m) ^^^ r = n ^^^ (m ^^^ r)
      rw [Nat.xor_assoc]
    · show (n ^^^ m) ^^^ r = (n ^^^ r) ^^^ m
      rw [Nat.xor_assoc, Nat.xor_comm m, Nat.xor_assoc]
    · show n ^^^ m = (n ^^^ r) ^^^ (m ^^^ r)
      rw [x4, Nat.xor_self, Nat.xor_zero]
theorem redN_lin (E : List Ent) : ∀ (ds : List Nat) (n m : Nat), redN E ds (n ^^^ m) = redN E ds n ^^^ redN E ds m
  | [], _, _ => rfl
  | d :: ds, n, m => by
    show redN E ds (redN1 E (n ^^^ m) d) = redN E ds (redN1 E n d) ^^^ redN E ds (redN1 E m d)
    rw [redN1_lin, redN_lin E ds]
theorem redN_zero (E : List Ent) (ds : List Nat) : redN E ds 0 = 0 := by
  have h := redN_lin E ds 0 0
  rw [Nat.xor_self, Nat.xor_self] at h
  exact h
theorem redN_ent {E : List Ent} (T : Tops E) : ∀ {ds : List Nat}, ds.Pairwise (· > ·) → ∀ {d r : Nat} {pl : List Nat}, d ∈ ds → lk E d = some (r, pl) → redN E ds r = 0
  | [], _, _, _, _, h, _ => by cases h
  | g :: ds, hp, d, r, pl, h, hl => by
    have t := T _ (lk_mem hl)
    show redN E ds (redN1 E r g) = 0
    rcases List.mem_cons.mp h with h | h
    · subst h
      unfold redN1
      rw [if_pos t.2.1, hl]
      show redN E ds (r ^^^ r) = 0
      rw [Nat.xor_self, redN_zero]
    · have hlt : g > d := (List.pairwise_cons.mp hp).1 d h
      have e : redN1 E r g = r := by
        unfold redN1
        rw [if_neg (by rw [t.2.2 g hlt]; decide)]
      rw [e]
      exact redN_ent T (List.pairwise_cons.mp hp).2 h hl
theorem redN_sp (E : List Ent) : ∀ (ds : List Nat) (n : Nat), Spn (E.map (·.2.1)) (n ^^^ redN E ds n)
  | [], n => by
    show Spn _ (n ^^^ n)
    rw [Nat.xor_self]
    exact .zero
  | d :: ds, n => by
    show Spn _ (n ^^^ redN E ds (redN1 E n d))
    have h1 := redN_sp E ds (redN1 E n d)
    have h2 : Spn (E.map (·.2.1)) (n ^^^ redN1 E n d) := by
      unfold redN1
      split
      · split
        · rename_i r pl e
          have m := lk_mem e
          rw [← Nat.xor_assoc, Nat.xor_self, Nat.zero_xor]
          exact .one (List.mem_map.mpr ⟨_, m, rfl⟩)
        · rw [Nat.xor_self]; exact .zero
      · rw [Nat.xor_self]; exact .zero
    have h3 := h2.xor h1
    rwa [Nat.xor_assoc, ← Nat.xor_assoc (redN1 E n d), Nat.xor_self, Nat.zero_xor] at h3
theorem redN_keep {E : List Ent} (T : Tops E) : ∀ {ds : List Nat} {j : Nat}, (∀ d ∈ ds, d < j) → ∀ n, (redN E ds n).testBit j = n.testBit j
  | [], _, _, _ => rfl
  | d :: ds, j, h, n => by
    show (redN E ds (redN1 E n d)).testBit j = _
    rw [redN_keep T (fun x m => h x (List.mem_cons_of_mem _ m))]
    unfold redN1
    split
    · split
      · rename_i r pl e
        rw [Nat.testBit_xor, (T _ (lk_mem e)).2.2 j (h d List.mem_cons_self), Bool.xor_false]
      · rfl
    · rfl
theorem redN_off {E : List Ent} (T : Tops E) : ∀ {ds : List Nat}, ds.Pairwise (· > ·) → (∀ d ∈ ds, d ∈ E.map (·.1)) → ∀ {d : Nat}, d ∈ ds → ∀ n, (redN E ds n).testBit d = false
  | [], _, _, _, h, _ => by cases h
  | g :: ds, hp, hm, d, h, n => by
    show (redN E ds (redN1 E n g)).testBit d = false
    rcases List.mem_cons.mp h with h | h
    · subst h
      rw [redN_keep T (fun x m => (List.pairwise_cons.mp hp).1 x m)]
      obtain ⟨r, pl, e⟩ := lk_some (hm d List.mem_cons_self)
      unfold redN1
      rw [e]
      cases hb : n.testBit d with
      | true =>
        rw [if_pos rfl]
        show (n ^^^ r).testBit d = false
        rw [Nat.testBit_xor, hb, (T _ (lk_mem e)).2.1]
        rfl
      | false =>
        rw [if_neg (by decide)]
        exact hb
    · exact redN_off T (List.pairwise_cons.mp hp).2 (fun x m => hm x (List.mem_cons_of_mem _ m)) h _
theorem redAll_fst (E : List Ent) : ∀ (ds : List Nat) (st : Nat × List Nat), (redAll E ds st).1 = redN E ds st.1
  | [], _ => rfl
  | d :: ds, st => by
    show (redAll E ds (redStep E st d)).1 = redN E ds (redN1 E st.1 d)
    rw [redAll_fst E ds]
    congr 1
    unfold redStep redN1
    split
    · cases lk E d <;> rfl
    · rfl
section
variable {L : Nat → Nat} {a k : Nat}
theorem redAll_keep (hL : ∀ x y, L (x ^^^ y) = L x ^^^ L y) {E : List Ent} (hE : ∀ e ∈ E, Pl a k e.2.2 ∧ e.2.1 = L (B e.2.2)) : ∀ (ds : List Nat) (st : Nat × List Nat), Pl a k st.2 →
    Pl a k (redAll E ds st).2 ∧ (redAll E ds st).1 ^^^ L (B (redAll E ds st).2) = st.1 ^^^ L (B st.2)
  | [], _, h => ⟨h, rfl⟩
  | d :: ds, st, h => by
    have hs : Pl a k (redStep E st d).2 ∧ (redStep E st d).1 ^^^ L (B (redStep E st d).2) = st.1 ^^^ L (B st.2) := by
      unfold redStep
      split
      · split
        · rename_i r more e
          obtain ⟨h1, h2⟩ := hE _ (lk_mem e)
          have h2 : r = L (B more) := h2
          refine ⟨h.symd h1, ?_⟩
          show (st.1 ^^^ r) ^^^ L (B (symd st.2 more)) = _
          rw [B_symd h.1 h1.1, hL, h2, x4]
          show st.1 ^^^ L (B st.2) ^^^ (L (B more) ^^^ L (B more)) = _
          rw [Nat.xor_self, Nat.xor_zero]
        · exact ⟨h, rfl⟩
      · exact ⟨h, rfl⟩
    obtain ⟨k1, k2⟩ := redAll_keep hL hE ds (redStep E st d) hs.1
    exact ⟨k1, k2.trans hs.2⟩
/-- a span over the first k bits of the byte a -/
structure SpanInv (L : Nat → Nat) (a k : Nat) (E : List Ent) : Prop where
  len : E.length = k
  nd : (E.map (·.1)).Nodup
  top : Tops E
  pls : ∀ e ∈ E, Pl a k e.2.2 ∧ e.2.1 = L (B e.2.2)
  sp : ∀ i, i < k → Spn (E.map (·.2.1)) (L (2 ^ (7 - i)))
theorem SpanInv.nil (L : Nat → Nat) (a : Nat) : SpanInv L a 0 [] :=
  ⟨rfl, List.nodup_nil, (fun _ h => by cases h), (fun _ h => by cases h), (fun i h => by omega)⟩
/-- what a linear map without a kernel gives -/
structure Lin (L : Nat → Nat) : Prop where
  lin : ∀ x y, L (x ^^^ y) = L x ^^^ L y
  inj : ∀ b, b < 256 → L b = 0 → b = 0
  lt : ∀ b, L b < 65536
theorem Lin.zero (h : Lin L) : L 0 = 0 := by
  have e := h.lin 0 0
  rw [Nat.xor_self, Nat.xor_self] at e
  exact e
theorem Lin.inj2 (h : Lin L) {x y : Nat} (hx : x < 256) (hy : y < 256) (e : L x = L y) : x = y := by
  have e1 := h.lin x y
  rw [e, Nat.xor_self] at e1
  have e2 := h.inj _ (Nat.xor_lt_two_pow (n := 8) hx hy) e1
  have e3 : (x ^^^ y) ^^^ y = 0 ^^^ y := by rw [e2]
  rwa [xx, Nat.zero_xor] at e3
theorem strict_of {ds : List Nat} (h : ds.Pairwise (· ≥ ·)) (n : ds.Nodup) : ds.Pairwise (· > ·) := by
  refine List.Pairwise.imp (fun {a b} q => ?_) (h.and n)
  have q1 : a ≥ b := q.1
  have q2 : a ≠ b := q.2
  show a > b
  omega
/-- a place is added -/
theorem SpanInv.add (hL : Lin L) {E : List Ent} (I : SpanInv L a k E) (hk : k < 8) {ds : List Nat} (hp : ds.Perm (E.map (·.1))) (hs : ds.Pairwise (· ≥ ·)) :
    (redAll E ds (L (2 ^ (7 - k)), [8 * a + k])).1 < 65536 ∧ (redAll E ds (L (2 ^ (7 - k)), [8 * a + k])).1 ≠ 0 ∧
    ∀ g, g < 16 → (redAll E ds (L (2 ^ (7 - k)), [8 * a + k])).1.testBit g = true → (∀ j, g < j → (redAll E ds (L (2 ^ (7 - k)), [8 * a + k])).1.testBit j = false) →
      g ∉ E.map (·.1) ∧ SpanInv L a (k + 1) (E ++ [(g, redAll E ds (L (2 ^ (7 - k)), [8 * a + k]))]) := by
  have hgt : ds.Pairwise (· > ·) := strict_of hs (hp.nodup_iff.mpr I.nd)
  have hin : ∀ d ∈ ds, d ∈ E.map (·.1) := fun d m => hp.mem_iff.mp m
  have hm8 : (8 * a + k) % 8 = k := by omega
  have hB1 : B [8 * a + k] = 2 ^ (7 - k) := by
    rw [B_cons, hm8]
    exact Nat.xor_zero _
  have hP1 : Pl a (k + 1) [8 * a + k] := by
    refine ⟨by simp, fun q m => ?_⟩
    have : q = 8 * a + k := by simpa using m
    omega
  obtain ⟨kp, ke⟩ := redAll_keep (L := L) (a := a) (k := k + 1) hL.lin (fun e m => ⟨(I.pls e m).1.mono (Nat.le_succ k), (I.pls e m).2⟩) ds (L (2 ^ (7 - k)), [8 * a + k]) hP1
  have kf := redAll_fst E ds (L (2 ^ (7 - k)), [8 * a + k])
  have ke : (redAll E ds (L (2 ^ (7 - k)), [8 * a + k])).1 ^^^ L (B (redAll E ds (L (2 ^ (7 - k)), [8 * a + k])).2) = L (2 ^ (7 - k)) ^^^ L (B [8 * a + k]) := ke
  have kf : (redAll E ds (L (2 ^ (7 - k)), [8 * a + k])).1 = redN E ds (L (2 ^ (7 - k))) := kf
  have kp : Pl a (k + 1) (redAll E ds (L (2 ^ (7 - k)), [8 * a + k])).2 := kp
  generalize redAll E ds (L (2 ^ (7 - k)), [8 * a + k]) = st at ke kf kp ⊢
  rw [hB1, Nat.xor_self] at ke
  have kr : st.1 = L (B st.2) := by
    have e3 : (st.1 ^^^ L (B st.2)) ^^^ L (B st.2) = 0 ^^^ L (B st.2) := by rw [ke]
    rwa [xx, Nat.zero_xor] at e3
  have low : ∀ n, Spn (E.map (·.2.1)) n → ∃ c, c < 256 ∧ n = L c ∧ ∀ j, j < 8 - k → c.testBit j = false := fun n s => by
    refine Spn.all (P := fun n => ∃ c, c < 256 ∧ n = L c ∧ ∀ j, j < 8 - k → c.testBit j = false) ⟨0, by decide, hL.zero.symm, fun j _ => Nat.zero_testBit j⟩ ?_ ?_ s
    · rintro x y ⟨c, h1, h2, h3⟩ ⟨d, g1, g2, g3⟩
      refine ⟨c ^^^ d, Nat.xor_lt_two_pow (n := 8) h1 g1, by rw [h2, g2, hL.lin], fun j hj => ?_⟩
      rw [Nat.testBit_xor, h3 j hj, g3 j hj]
      rfl
    · intro r m
      obtain ⟨e, me, rfl⟩ := List.mem_map.mp m
      obtain ⟨h1, h2⟩ := I.pls e me
      exact ⟨B e.2.2, B_lt _, h2, B_low (by omega) h1.2⟩
  have sp0 := redN_sp E ds (L (2 ^ (7 - k)))
  rw [← kf] at sp0
  have ne0 : st.1 ≠ 0 := fun z => by
    rw [z, Nat.xor_zero] at sp0
    obtain ⟨c, h1, h2, h3⟩ := low _ sp0
    have hlt : 2 ^ (7 - k) < 256 := by
      show _ < 2 ^ 8
      exact Nat.pow_lt_pow_right (by decide) (by omega)
    have e := hL.inj2 hlt h1 h2
    have q := h3 (7 - k) (by omega)
    rw [← e, Nat.testBit_two_pow] at q
    simp at q
  refine ⟨by rw [kr]; exact hL.lt _, ne0, fun g g16 hg hj => ?_⟩
  have gn : g ∉ E.map (·.1) := fun m => by
    have q := redN_off I.top hgt hin (hp.mem_iff.mpr m) (L (2 ^ (7 - k)))
    rw [← kf, hg] at q
    cases q
  refine ⟨gn, ⟨by rw [List.length_append, I.len]; rfl, ?_, ?_, ?_, ?_⟩⟩
  · rw [List.map_append]
    refine List.nodup_append.mpr ⟨I.nd, by simp, fun x hx y hy e => ?_⟩
    have : y = g := by simpa using hy
    subst this
    subst e
    exact gn hx
  · intro e m
    rcases List.mem_append.mp m with m | m
    · exact I.top e m
    · have : e = (g, st) := by simpa using m
      subst this
      exact ⟨g16, hg, hj⟩
  · intro e m
    rcases List.mem_append.mp m with m | m
    · exact ⟨(I.pls e m).1.mono (Nat.le_succ k), (I.pls e m).2⟩
    · have : e = (g, st) := by simpa using m
      subst this
      exact ⟨kp, kr⟩
  · intro i hi
    have mono : ∀ {n}, Spn (E.map (·.2.1)) n → Spn ((E ++ [(g, st)]).map (·.2.1)) n := fun s => s.mono fun r m => by
      rw [List.map_append]
      exact List.mem_append_left _ m
    by_cases e : i = k
    · subst e
      have h1 := mono sp0
      have h2 : Spn ((E ++ [(g, st)]).map (·.2.1)) st.1 := .one (by rw [List.map_append]; exact List.mem_append_right _ List.mem_cons_self)
      have h3 := h1.xor h2
      rwa [xx] at h3
    · exact mono (I.sp i (by omega))
theorem pow_all {P : Nat → Prop} (h0 : P 0) (hx : ∀ a b, P a → P b → P (a ^^^ b)) (h1 : ∀ i, i < 8 → P (2 ^ i)) : ∀ b, b < 256 → P b := by
  intro b hb
  have key : ∀ m b, m ≤ 8 → b < 2 ^ m → P b := by
    intro m
    induction m with
    | zero =>
      intro b _ h
      have : b = 0 := by omega
      rw [this]
      exact h0
    | succ m ih =>
      intro b hm h
      by_cases e : b < 2 ^ m
      · exact ih b (by omega) e
      · have e1 : b = (b ^^^ 2 ^ m) ^^^ 2 ^ m := (xx b _).symm
        rw [e1]
        refine hx _ _ (ih _ (by omega) (Nat.lt_pow_two_of_testBit _ fun i hi => ?_)) (h1 m (by omega))
        rw [Nat.testBit_xor, Nat.testBit_two_pow]
        by_cases q : m = i
        · subst q
          have : b.testBit m = true := by
            rw [Nat.testBit_eq_decide_div_mod_eq]
            have h5 : b / 2 ^ m < 2 := (Nat.div_lt_iff_lt_mul (Nat.two_pow_pos m)).mpr (by rw [Nat.pow_succ] at h; omega)
            have h6 : 1 ≤ b / 2 ^ m := (Nat.le_div_iff_mul_le (Nat.two_pow_pos m)).mpr (by omega)
            exact decide_eq_true (by omega)
          rw [this]
          simp
        · have : b.testBit i = false := Nat.testBit_lt_two_pow (Nat.lt_of_lt_of_le h (Nat.pow_le_pow_right (by decide) (by omega)))
          rw [this]
          simp [q]
  exact key 8 b (Nat.le_refl _) hb
/-- all eight places are there: the one solution -/
theorem SpanInv.solve (hL : Lin L) {E : List Ent} (I : SpanInv L a 8 E) {ds : List Nat} (hp : ds.Perm (E.map (·.1))) (hs : ds.Pairwise (· ≥ ·)) {b : Nat} (hb : b < 256) :
    (redAll E ds (L b, [])).1 = 0 ∧ Pl a 8 (redAll E ds (L b, [])).2 ∧ B (redAll E ds (L b, [])).2 = b := by
  have hgt : ds.Pairwise (· > ·) := strict_of hs (hp.nodup_iff.mpr I.nd)
  obtain ⟨kp, ke⟩ := redAll_keep (L := L) (a := a) (k := 8) hL.lin I.pls ds (L b, []) ⟨List.nodup_nil, (fun _ h => by cases h)⟩
  have kf := redAll_fst E ds (L b, [])
  have kf : (redAll E ds (L b, [])).1 = redN E ds (L b) := kf
  have ke : (redAll E ds (L b, [])).1 ^^^ L (B (redAll E ds (L b, [])).2) = L b ^^^ L 0 := ke
  have sp : Spn (E.map (·.2.1)) (L b) := by
    refine pow_all (P := fun b => Spn (E.map (·.2.1)) (L b)) (by rw [hL.zero]; exact .zero) (fun x y h h' => by rw [hL.lin]; exact h.xor h') (fun i hi => ?_) b hb
    have q := I.sp (7 - i) (by omega)
    have e : 7 - (7 - i) = i := by omega
    rwa [e] at q
  have z : redN E ds (L b) = 0 := by
    refine Spn.all (P := fun n => redN E ds n = 0) (redN_zero E ds) (fun x y h h' => by rw [redN_lin, h, h']; rfl) (fun r m => ?_) sp
    obtain ⟨e, me, rfl⟩ := List.mem_map.mp m
    exact redN_ent I.top hgt (hp.mem_iff.mpr (List.mem_map.mpr ⟨e, me, rfl⟩)) (lk_nd I.nd (d := e.1) (r := e.2.1) (pl := e.2.2) me)
  refine ⟨kf.trans z, kp, ?_⟩
  rw [kf, z, Nat.zero_xor, hL.zero, Nat.xor_zero] at ke
  exact hL.inj2 (B_lt _) hb ke
end
end K71
/-! The text by places, the letters that all parts use. -/
namespace K71
open PySem L2
def top (i : Nat) : Stmt := PySem.Challenge.pw_discwright_k71_whole_votes_give_the_true.main.body.getD i (.Pass ⟨0, 0, 0, 0⟩)
abbrev sBits : Stmt := top 10
abbrev sExcl : Stmt := top 11
abbrev sStep : Stmt := top 12
abbrev sCrc : Stmt := top 13
abbrev sRep : Stmt := top 17
abbrev sLen : Stmt := top 18
abbrev sTrue : Stmt := top 19
abbrev sTrim : Stmt := top 20
abbrev sVote : Stmt := top 21
abbrev sMerge : Stmt := top 22
abbrev sWith : Stmt := top 26
abbrev sChg : Stmt := top 27
abbrev sDem : Stmt := top 28
abbrev sInit : Stmt := inClass (top 29) 0
abbrev sRed : Stmt := inClass (top 29) 1
abbrev sAdd : Stmt := inClass (top 29) 2
abbrev sSpan : Stmt := top 30
abbrev sCount : Stmt := top 31
abbrev sSol : Stmt := top 32
abbrev sPool : Stmt := top 34
abbrev sSpread : Stmt := top 35
abbrev sDraw : Stmt := top 36
abbrev sSame : Stmt := top 37
abbrev sLaw : Stmt := top 38
theorem scBits : FnScope ["value", "weight"] ["value"] (defScope sBits) := ⟨rfl, rfl, rfl, by decide +kernel, rfl, by decide +kernel, by decide +kernel⟩
theorem scExcl : FnScope ["first", "second"] ["first", "second"] (defScope sExcl) := ⟨rfl, rfl, rfl, by decide +kernel, rfl, by decide +kernel, by decide +kernel⟩
theorem scStep : FnScope ["number", "value", "bit", "top"] ["number", "value"] (defScope sStep) := ⟨rfl, rfl, rfl, by decide +kernel, rfl, by decide +kernel, by decide +kernel⟩
theorem scCrc : FnScope ["values", "number", "value"] ["values"] (defScope sCrc) := ⟨rfl, rfl, rfl, by decide +kernel, rfl, by decide +kernel, by decide +kernel⟩
theorem scRep : FnScope ["dump", "length"] ["dump"] (defScope sRep) := ⟨rfl, rfl, rfl, by decide +kernel, rfl, by decide +kernel, by decide +kernel⟩
theorem scLen : FnScope ["dump", "length", "half", "upper"] ["dump"] (defScope sLen) := ⟨rfl, rfl, rfl, by decide +kernel, rfl, by decide +kernel, by decide +kernel⟩
theorem scTrue : FnScope ["dump"] ["dump"] (defScope sTrue) := ⟨rfl, rfl, rfl, by decide +kernel, rfl, by decide +kernel, by decide +kernel⟩
theorem scTrim : FnScope ["dump"] ["dump"] (defScope sTrim) := ⟨rfl, rfl, rfl, by decide +kernel, rfl, by decide +kernel, by decide +kernel⟩
theorem scVote : FnScope ["values", "counts", "value", "most", "found"] ["values"] (defScope sVote) := ⟨rfl, rfl, rfl, by decide +kernel, rfl, by decide +kernel, by decide +kernel⟩
theorem scMerge : FnScope ["dumps", "dump", "at"] ["dumps"] (defScope sMerge) := ⟨rfl, rfl, rfl, by decide +kernel, rfl, by decide +kernel, by decide +kernel⟩
theorem scWith : FnScope ["values", "place", "bit", "found", "weight", "old"] ["values", "place", "bit"] (defScope sWith) := ⟨rfl, rfl, rfl, by decide +kernel, rfl, by decide +kernel, by decide +kernel⟩
theorem scChg : FnScope ["length", "place", "plain"] ["length", "place"] (defScope sChg) := ⟨rfl, rfl, rfl, by decide +kernel, rfl, by decide +kernel, by decide +kernel⟩
theorem scDem : FnScope ["values", "unknown", "place", "at"] ["values", "unknown"] (defScope sDem) := ⟨rfl, rfl, rfl, by decide +kernel, rfl, by decide +kernel, by decide +kernel⟩
theorem scInit : FnScope ["self"] ["self"] (defScope sInit) := ⟨rfl, rfl, rfl, by decide +kernel, rfl, by decide +kernel, by decide +kernel⟩
theorem scRed : FnScope ["self", "number", "places", "digit", "other", "more", "place", "kept"] ["self", "number", "places"] (defScope sRed) := ⟨rfl, rfl, rfl, by decide +kernel, rfl, by decide +kernel, by decide +kernel⟩
theorem scAdd : FnScope ["self", "number", "place", "rest", "places", "at", "digit"] ["self", "number", "place"] (defScope sAdd) := ⟨rfl, rfl, rfl, by decide +kernel, rfl, by decide +kernel, by decide +kernel⟩
theorem scSpan : FnScope ["values", "unknown", "plain", "span", "place"] ["values", "unknown"] (defScope sSpan) := ⟨rfl, rfl, rfl, by decide +kernel, rfl, by decide +kernel, by decide +kernel⟩
theorem scCount : FnScope ["values", "unknown", "wanted", "plain", "span", "rest", "places"] ["values", "unknown", "wanted"] (defScope sCount) := ⟨rfl, rfl, rfl, by decide +kernel, rfl, by decide +kernel, by decide +kernel⟩
theorem scSol : FnScope ["values", "unknown", "wanted", "plain", "span", "rest", "places", "place"] ["values", "unknown", "wanted"] (defScope sSol) := ⟨rfl, rfl, rfl, by decide +kernel, rfl, by decide +kernel, by decide +kernel⟩
theorem scPool : FnScope ["_law_script", "_law_salt", "_law_cell"] ["_law_script"] (defScope sPool) := ⟨rfl, rfl, rfl, by decide +kernel, rfl, by decide +kernel, by decide +kernel⟩
theorem scSpread : FnScope ["_law_cell", "_law_mixed", "_law_wide", "_law_k"] ["_law_cell"] (defScope sSpread) := ⟨rfl, rfl, rfl, by decide +kernel, rfl, by decide +kernel, by decide +kernel⟩
theorem scDraw : FnScope ["_law_pool_here", "_law_many", "_law_cell", "_law_mixed", "_law_value"] ["_law_pool_here", "_law_many"] (defScope sDraw) := ⟨rfl, rfl, rfl, by decide +kernel, rfl, by decide +kernel, by decide +kernel⟩
theorem scSame : FnScope ["_law_actual", "_law_due", "_law_k"] ["_law_actual", "_law_due"] (defScope sSame) := ⟨rfl, rfl, rfl, by decide +kernel, rfl, by decide +kernel, by decide +kernel⟩
theorem scLaw : FnScope ["_law_script", "_law_pool_here", "_law_k", "_law_true", "_law_many", "_law_dumps", "_law_at", "_law_first", "_law_seen"] ["_law_script"] (defScope sLaw) := ⟨rfl, rfl, rfl, by decide +kernel, rfl, by decide +kernel, by decide +kernel⟩
/-! ### numbers that are not below 0 -/
abbrev iv (n : Nat) : V := .int (n : Int)
abbrev ivs (ns : List Nat) : List V := ns.map iv
theorem ivs_get {ns : List Nat} {i : Nat} {x : V} (h : (ivs ns)[i]? = some x) : ∃ n, ns[i]? = some n ∧ x = iv n := by
  rw [List.getElem?_map] at h
  cases e : ns[i]? with
  | none =>
    rw [e] at h
    cases h
  | some u =>
    rw [e] at h
    exact ⟨u, rfl, (Option.some.inj h).symm⟩
theorem ivs_at {ns : List Nat} {i n : Nat} (h : ns[i]? = some n) : (ivs ns)[i]? = some (iv n) := by
  rw [List.getElem?_map, h]
  rfl
theorem ivs_int (ns : List Nat) : ivs ns = (ns.map fun n : Nat => (n : Int)).map V.int := by
  rw [List.map_map]
  rfl
theorem take_succ {α : Type} {l : List α} {i : Nat} {x : α} (h : l[i]? = some x) : l.take (i + 1) = l.take i ++ [x] := by
  rw [List.take_add_one, h]
  rfl
theorem lt_of_get {α : Type} {l : List α} {i : Nat} {x : α} (h : l[i]? = some x) : i < l.length := (List.getElem?_eq_some_iff.mp h).1
theorem same_upd {H : Hp} {p : Addr} {o : HO} (h : H p = none) : Same H (upd H p o) := fun b x e => by
  rw [upd_ne (ne_of_none e h)]
  exact e
/-- a tuple of the module: the same in every heap -/
def KTup (K : PySem.W.Frag) (a : Addr) (xs : List V) : Prop :=
  ∃ (tup : Obj) (vals : Array Value) (ep : Nat), K.lookup a = some tup ∧ tup.cls = .type "tuple" ∧ tup.data = .seq vals ep ∧ vals.size ≤ sizeLine ∧ Vals xs vals.toList
theorem KTup.sq {K : PySem.W.Frag} {a : Addr} {xs : List V} (h : KTup K a xs) (H : Hp) : SqT K H a xs := .inr h
/-! ### what the module's names hold, in short -/
/-- a def of the module that keeps a promise -/
structure Df (P : Program) (w : World) (K : PySem.W.Frag) (mg : Str → Option Value) (base : Heap) (x : Str) (k : Nat) (ps : List Str) (sp : Sp) : Prop where
  ex : ∃ (f : Addr) (fd : FuncData), mg x = some (.ref f) ∧ PySem.W.keepIn K (.ref f) = true ∧ Binds K fd ps [] ∧ FnOk P w K mg base CX0 k f fd ps sp
/-- a module's int -/
def Gi (mg : Str → Option Value) (x : Str) (i : Int) : Prop := ∃ t, mg x = some (.int i t)
/-- a module's tuple -/
def Gt (K : PySem.W.Frag) (mg : Str → Option Value) (x : Str) (xs : List V) : Prop := ∃ a, mg x = some (.ref a) ∧ KTup K a xs
section
variable {X : Cx} {k : Nat} {ps : List Str} {sp : Sp} {x : Str} {p pos : Pos} {e : Expr} {es : List Expr} {t : TA}
theorem pe_df (D : Df X.prog X.w X.K X.mg X.base x k ps sp) (hr : Room k X.A) (hg : Gl X x) (ha : PA X (e :: es) t) (hdb : (x == ("__debug__" : Str)) = false := by decide)
    (he : starEach (e :: es) X.env = (false, eval e X.env) :: starEach es X.env := by rfl)
    (hpl : (backTo pos (starEach es X.env)).any (·.1) = false := by rfl) : PE X (.Call (.Name x p) (e :: es) [] pos) (tCall sp [] E0 t) := by
  obtain ⟨f, fd, h1, h2, h3, h4⟩ := D.ex
  exact pe_call h4 hr hg h1 h2 h3 .nil pass0 ha hdb he hpl
theorem pe_gi {i : Int} (G : Gi X.mg x i) (hg : Gl X x) (hd : (x == ("__debug__" : Str)) = false := by decide) : PE X (.Name x pos) (tC (.int i)) := by
  obtain ⟨t, h⟩ := G
  exact pe_glob (v := .int i) hg h ⟨t, rfl⟩ hd
end
end K71
namespace K71
open PySem L2
section
variable {P : Program} {w : World} {K : PySem.W.Frag} {mg : Str → Option Value} {base : Heap}
/-! ### byte_bits -/
def spBits : Sp := fun vs H Q _ => ∃ v : Nat, vs = [iv v] ∧ ∀ p, H p = none → Q (.ref p) (upd H p (.lst (ivs (bitsOf v))))
theorem w_pos {i w : Nat} (h : weights[i]? = some w) : 0 < w ∧ w ≤ 128 := by
  have m : w ∈ weights := List.mem_of_getElem? h
  have k : ∀ w ∈ weights, 0 < w ∧ w ≤ 128 := by decide
  exact k w m
theorem ok_bits {f : Addr} {fd : FuncData} (F : Fun K "byte_bits" "byte_bits" sBits f fd) (gB : Gt K mg "BIT_WEIGHTS" (ivs weights)) : FnOk P w K mg base CX0 1 f fd ["value"] spBits := by
  obtain ⟨aB, gB, tB⟩ := gB
  refine F.ok scBits (fun vs H Q E h => ?_) (fun cdv A outer s H vs Q E hr h => ?_)
  · obtain ⟨v, rfl, _⟩ := h
    rfl
  · obtain ⟨v, rfl, q⟩ := h
    refine ⟨_, pss_one (ps_ret (pe_lc (own := [("weight", 1)]) (g := gName 1) (tt := tYes) rfl scBits.nd (pi_tup (pe_glob (v := .ref aB) rfl gB rfl)) (blkOk_by (own := [("weight", 1)]) (N := ["value", "weight"]) (sc := defScope sBits) (by decide +kernel))
      (fun _ _ _ _ _ => pg_name (i := 1) scBits.nd rfl (Or.inl rfl)) (fun _ _ _ _ _ => pts_nil) (fun _ _ _ _ _ => pe_op op_mod (pe_op op_fdiv (pv 0) (pv 1)) pe_int))), ?_⟩
    refine ⟨aB, rfl, ⟨_, tB.sq H⟩, fun D hD => lc_tup (K := K) (a := aB) (xs := ivs weights) (fun i H' => H' = upd H D (.lst (ivs ((bitsOf v).take i)))) rfl (fun i H' _ e => tB.sq H') (fun i x H' hi e => ?_) (fun H' e => ?_)⟩
    · subst e
      obtain ⟨w0, hw, rfl⟩ := ivs_get hi
      obtain ⟨w1, w2⟩ := w_pos hw
      refine ⟨rfl, _, rfl, _, rfl, _, _, rfl, rfl, ⟨by omega, by omega⟩, _, _, rfl, rfl, (by show (0 : Int) < 2; decide), _, upd_same, ?_, ?_⟩
      · rw [List.length_map, List.length_take]
        exact Nat.lt_of_le_of_lt (Nat.min_le_right _ _) (small1000 (by show 8 ≤ 1000; decide))
      · have e : (bitsOf v)[i]? = some (v / w0 % 2) := by
          show (weights.map _)[i]? = _
          rw [List.getElem?_map, hw]
          rfl
        rw [upd_upd, take_succ e]
        show _ = upd H D (.lst (List.map iv (_ ++ [_])))
        rw [List.map_append]
        rfl
    · subst e
      exact q D hD
/-! ### exclusive -/
def spExcl : Sp := fun vs H Q _ => ∃ a b : Nat, vs = [iv a, iv b] ∧ Q (iv (a ^^^ b)) H
theorem xor_iv (a b : Nat) : V.int (Builtin.bitXor (a : Int) (b : Int)) = iv (a ^^^ b) := by
  rw [Bits.bitXor_pp (Int.natCast_nonneg a) (Int.natCast_nonneg b)]
  rfl
theorem ok_excl {f : Addr} {fd : FuncData} (F : Fun K "exclusive" "exclusive" sExcl f fd) : FnOk P w K mg base CX0 1 f fd ["first", "second"] spExcl := by
  refine F.ok scExcl (fun vs H Q E h => ?_) (fun cdv A outer s H vs Q E hr h => ?_)
  · obtain ⟨a, b, rfl, _⟩ := h
    rfl
  · obtain ⟨a, b, rfl, q⟩ := h
    refine ⟨_, pss_one (ps_ret (pe_op op_xor (pv 0) (pv 1))), ?_⟩
    refine ⟨_, rfl, _, rfl, _, _, rfl, rfl, ?_⟩
    show Q (V.int (Builtin.bitXor (a : Int) (b : Int))) H
    rw [xor_iv]
    exact q
/-! ### step -/
def spStep : Sp := fun vs H Q _ => ∃ n v : Nat, vs = [iv n, iv v] ∧ n < 65536 ∧ ∀ H', Same H H' → Q (iv (stepN n v)) H'
theorem bits_lt {v i b : Nat} (h : (bitsOf v)[i]? = some b) : b < 2 := by
  unfold bitsOf at h
  rw [List.getElem?_map] at h
  cases e : weights[i]? with
  | none =>
    rw [e] at h
    cases h
  | some w0 =>
    rw [e] at h
    cases h
    exact Nat.mod_lt _ (by decide)
theorem ok_step {f : Addr} {fd : FuncData} (F : Fun K "step" "step" sStep f fd) (DB : Df P w K mg base "byte_bits" 1 ["value"] spBits) (DX : Df P w K mg base "exclusive" 1 ["first", "second"] spExcl)
    (gT : Gi mg "TOP" 32768) (gW : Gi mg "WORD" 65536) (gM : Gi mg "CRC_MASK" 4129) : FnOk P w K mg base CX0 2 f fd ["number", "value"] spStep := by
  refine F.ok scStep (fun vs H Q E h => ?_) (fun cdv A outer s H vs Q E hr h => ?_)
  · obtain ⟨n, v, rfl, _⟩ := h
    rfl
  · obtain ⟨n, v, rfl, hn, q⟩ := h
    refine ⟨_, pss_cons (ps_for PassesOwn.never rfl (pi_list (pe_df DB hr rfl (pa_cons (pv 1) pa_nil))) (pg_name (i := 2) scStep.nd rfl (.inl rfl))
        (pss_cons (ps_set (i := 3) scStep.nd rfl (.inl rfl) (pe_op op_fdiv (pv 0) (pe_gi gT rfl)))
        (pss_cons (ps_set (i := 0) scStep.nd rfl (.inl rfl) (pe_op op_mod (pe_op op_mul pe_int (pv 0)) (pe_gi gW rfl)))
        (pss_one (ps_if (pt_cmpR op_ne (pv 3) (pv 2) (nomark _)) (pss_one (ps_set (i := 0) scStep.nd rfl (.inl rfl) (pe_df DX hr rfl (pa_cons (pv 0) (pa_cons (pe_gi gM rfl) pa_nil))))) pss_nil)))))
      (pss_one (ps_ret (pv 0))), ?_⟩
    refine ⟨_, rfl, v, rfl, fun p hp => ⟨p, rfl, ⟨_, SqL.of upd_same⟩, for_list (K := K) (a := p) (xs := ivs (bitsOf v))
      (fun i σ H' => H' = upd H p (.lst (ivs (bitsOf v))) ∧ ∃ c d : Option V, σ = [some (iv (((bitsOf v).take i).foldl bstep n)), some (iv v), c, d]) ⟨rfl, none, none, rfl⟩ (fun i σ H' _ h => by rw [h.1]; exact SqL.of upd_same) (fun i x σ H' hi h => ?_) (fun σ H' h => ?_)⟩⟩
    · obtain ⟨rfl, c, d, rfl⟩ := h
      obtain ⟨b, hb, rfl⟩ := ivs_get hi
      have b2 := bits_lt hb
      have hm : ((bitsOf v).take i).foldl bstep n < 65536 := fold_lt _ _ hn
      have e1 : ((bitsOf v).take (i + 1)).foldl bstep n = bstep (((bitsOf v).take i).foldl bstep n) b := by
        rw [take_succ hb, List.foldl_append]
        rfl
      generalize ((bitsOf v).take i).foldl bstep n = m at hm e1 ⊢
      refine ⟨_, rfl, _, _, rfl, rfl, ⟨by decide, by decide⟩, _, rfl, _, _, rfl, rfl, .inl ⟨by decide, by decide⟩, _, _, rfl, rfl, (by show (0 : Int) < 65536; decide), _, rfl, _, rfl, rfl, _, rfl, ?_⟩
      have t1 : V.int ((m : Int) / 32768) = iv b ↔ m / 32768 = b := ⟨fun e => by
        have e2 : (m : Int) / 32768 = (b : Int) := V.int.inj e
        omega, fun e => by
        rw [← e]
        rfl⟩
      have t2 : V.int (2 * (m : Int) % 65536) = iv (2 * m % 65536) := rfl
      refine ite2 (fun hb => ?_) (fun hb => ?_)
      · have hne : ¬ m / 32768 = b := fun e => by
          have hb : (!decide (V.int ((m : Int) / 32768) = iv b)) = true := hb
          rw [decide_eq_true (t1.mpr e)] at hb
          cases hb
        refine ⟨_, rfl, 2 * m % 65536, 4129, rfl, rfl, some (iv b), some (V.int ((m : Int) / 32768)), ?_⟩
        rw [e1]
        unfold bstep
        rw [if_pos hne]
        rfl
      · have heq : m / 32768 = b := by
          have hb : ¬ (!decide (V.int ((m : Int) / 32768) = iv b)) = true := hb
          by_cases z : V.int ((m : Int) / 32768) = iv b
          · exact t1.mp z
          · rw [decide_eq_false z] at hb
            exact absurd rfl hb
        refine ⟨rfl, some (iv b), some (V.int ((m : Int) / 32768)), ?_⟩
        rw [e1]
        unfold bstep
        rw [if_neg (fun z => z heq)]
        rfl
    · obtain ⟨rfl, c, d, rfl⟩ := h
      refine ⟨_, rfl, ?_⟩
      have e : (bitsOf v).take (ivs (bitsOf v)).length = bitsOf v := by
        rw [List.length_map]
        exact List.take_length
      rw [e]
      exact q _ (same_upd hp)
/-! ### crc -/
def spCrc (K : PySem.W.Frag) : Sp := fun vs H Q _ => ∃ (a : Addr) (ns : List Nat), vs = [.ref a] ∧ SqL K H a (ivs ns) ∧ ∀ H', Same H H' → Q (iv (crcN ns)) H'
theorem ok_crc {f : Addr} {fd : FuncData} (F : Fun K "crc" "crc" sCrc f fd) (DS : Df P w K mg base "step" 2 ["number", "value"] spStep) (gS : Gi mg "CRC_START" 65535) : FnOk P w K mg base CX0 3 f fd ["values"] (spCrc K) := by
  refine F.ok scCrc (fun vs H Q E h => ?_) (fun cdv A outer s H vs Q E hr h => ?_)
  · obtain ⟨a, ns, rfl, _⟩ := h
    rfl
  · obtain ⟨a, ns, rfl, hS, q⟩ := h
    refine ⟨_, pss_cons (ps_set (i := 1) scCrc.nd rfl (.inl rfl) (pe_gi gS rfl))
      (pss_cons (ps_for PassesOwn.never rfl (pi_list (pv 0)) (pg_name (i := 2) scCrc.nd rfl (.inl rfl))
        (pss_one (ps_set (i := 1) scCrc.nd rfl (.inl rfl) (pe_df DS hr rfl (pa_cons (pv 1) (pa_cons (pv 2) pa_nil))))))
      (pss_one (ps_ret (pv 1)))), ?_⟩
    refine ⟨_, rfl, a, rfl, ⟨_, hS⟩, for_list (K := K) (a := a) (xs := ivs ns) (fun i σ H' => Same H H' ∧ ∃ c : Option V, σ = [some (.ref a), some (iv (crcF 65535 (ns.take i))), c]) ⟨Same.refl H, none, rfl⟩ (fun i σ H' _ h => h.1.seq hS) (fun i x σ H' hi h => ?_) (fun σ H' h => ?_)⟩
    · obtain ⟨sm, c, rfl⟩ := h
      obtain ⟨v, hv, rfl⟩ := ivs_get hi
      refine ⟨_, rfl, _, rfl, crcF 65535 (ns.take i), v, rfl, crcF_lt _ _ (by decide), fun H2 sm2 => ⟨sm.trans sm2, some (iv v), ?_⟩⟩
      rw [take_succ hv, crcF_append]
      rfl
    · obtain ⟨sm, c, rfl⟩ := h
      refine ⟨_, rfl, ?_⟩
      have e : ns.take (ivs ns).length = ns := by
        rw [List.length_map]
        exact List.take_length
      rw [e]
      exact q H' sm
end
end K71
namespace K71
open PySem L2
/-! ### a bit of a byte -/
def setBit (v k b : Nat) : Nat := v - v / 2 ^ (7 - k) % 2 * 2 ^ (7 - k) + b * 2 ^ (7 - k)
def withBit (ns : List Nat) (place b : Nat) : List Nat := ns.set (place / 8) (setBit (ns.getD (place / 8) 0) (place % 8) b)
def chg (n place : Nat) : Nat := crcN (List.replicate n 0) ^^^ crcN (withBit (List.replicate n 0) place 1)
theorem weights_at : ∀ k, k < 8 → weights[k]? = some (2 ^ (7 - k)) := by decide
theorem setBit_int (v k b : Nat) : (v : Int) + ((b : Int) - (v : Int) / ((2 ^ (7 - k) : Nat) : Int) % 2) * ((2 ^ (7 - k) : Nat) : Int) = ((setBit v k b : Nat) : Int) := by
  unfold setBit
  generalize 2 ^ (7 - k) = w
  have h1 : v / w % 2 * w ≤ v := Nat.le_trans (Nat.mul_le_mul_right w (Nat.mod_le _ 2)) (Nat.div_mul_le_self v w)
  have h2 : (v : Int) / (w : Int) % 2 = ((v / w % 2 : Nat) : Int) := rfl
  rw [h2, Int.sub_mul]
  generalize hx : v / w % 2 * w = x at h1
  generalize hy : b * w = y
  have e1 : ((v / w % 2 : Nat) : Int) * (w : Int) = (x : Int) := by rw [← hx, Int.natCast_mul]
  have e2 : (b : Int) * (w : Int) = (y : Int) := by rw [← hy, Int.natCast_mul]
  rw [e1, e2]
  omega
theorem atI_iv {ns : List Nat} {i n : Nat} (h : ns[i]? = some n) : atI (ivs ns) (i : Int) = some (iv n) := atI_nat (ivs_at h)
theorem ixN_nat {n i : Nat} (h : i < n) : ixN n (i : Int) = some i := by
  unfold ixN
  rw [if_pos (Int.natCast_nonneg i), if_pos (by omega)]
  rfl
section
variable {X : Cx}
/-- xs[i], read by values -/
def rGetL (K : PySem.W.Frag) : V → V → Hp → VK → Prop := fun x y H Q => ∃ (p : Addr) (xs : List V) (i : Nat) (v : V), x = .ref p ∧ y = .int (i : Int) ∧ SqL K H p xs ∧ xs[i]? = some v ∧ Q v H
theorem get_list : PGet X (rGetL X.K) := by
  intro pins st slots H lv kv lval kval Q inv rl rk wish
  obtain ⟨p, xs, j, x, rfl, rfl, reads, item, wish⟩ := wish
  cases rl
  obtain ⟨tk, rfl⟩ := rk
  obtain ⟨vals, rel, plain, size⟩ := inv.list reads
  obtain ⟨val, here, rv⟩ := rel.get item
  have len := rel.length
  have line := line63
  have below := lt_of_get item
  exact wpAny_getItem_list plain.isList (Int.natCast_nonneg j) (by omega) (by simpa using here) ⟨x, H, inv, rv, wish⟩
end
section
variable {P : Program} {w : World} {K : PySem.W.Frag} {mg : Str → Option Value} {base : Heap}
/-! ### with_bit -/
def spWith (K : PySem.W.Frag) : Sp := fun vs H Q _ => ∃ (a : Addr) (ns : List Nat) (place b : Nat), vs = [.ref a, iv place, iv b] ∧ SqL K H a (ivs ns) ∧ place < 8 * ns.length ∧ ∀ p, H p = none → Q (.ref p) (upd H p (.lst (ivs (withBit ns place b))))
theorem ok_with {f : Addr} {fd : FuncData} (F : Fun K "with_bit" "with_bit" sWith f fd) (gB : Gt K mg "BIT_WEIGHTS" (ivs weights)) (gL : mg "list" = none) : FnOk P w K mg base CX0 1 f fd ["values", "place", "bit"] (spWith K) := by
  obtain ⟨aB, gB, tB⟩ := gB
  refine F.ok scWith (fun vs H Q E h => ?_) (fun cdv A outer s H vs Q E hr h => ?_)
  · obtain ⟨a, ns, place, b, rfl, _⟩ := h
    rfl
  · obtain ⟨a, ns, place, b, rfl, hS, hp, q⟩ := h
    refine ⟨_, pss_cons (ps_set (i := 3) scWith.nd rfl (.inl rfl) (pe_callTy call_list_of (by rfl) gL (by decide +kernel) (pa_cons (pv 0) pa_nil)))
      (pss_cons (ps_set (i := 4) scWith.nd rfl (.inl rfl) (pe_ix ix_tup (pe_glob (v := .ref aB) rfl gB rfl) (pe_op op_mod (pv 1) pe_int) (fun _ _ => rfl)))
      (pss_cons (ps_set (i := 5) scWith.nd rfl (.inl rfl) (pe_op op_mod (pe_op op_fdiv (pe_ix ix_list (pv 3) (pe_op op_fdiv (pv 1) pe_int) (fun _ _ => rfl)) (pv 4)) pe_int))
      (pss_cons (ps_augS (pv 3) (pe_op op_fdiv (pv 1) pe_int) get_list (pe_op op_mul (pe_op op_sub (pv 2) (pv 5)) (pv 4)) ip_add set_list)
      (pss_one (ps_ret (pv 3)))))), ?_⟩
    obtain ⟨v, hv⟩ : ∃ v, ns[place / 8]? = some v := ⟨_, List.getElem?_eq_getElem (by omega)⟩
    have hw := weights_at (place % 8) (by omega)
    have hw0 : 0 < 2 ^ (7 - place % 8) := Nat.two_pow_pos _
    have hw1 : 2 ^ (7 - place % 8) ≤ 2 ^ 7 := Nat.pow_le_pow_right (by decide) (by omega)
    have hset := setBit_int v (place % 8) b
    have hgd : ns.getD (place / 8) 0 = v := by rw [List.getD_eq_getElem?_getD, hv]; rfl
    have hwb : withBit ns place b = ns.set (place / 8) (setBit v (place % 8) b) := by unfold withBit; rw [hgd]
    generalize 2 ^ (7 - place % 8) = w0 at hw hw0 hw1 hset
    refine ⟨_, rfl, a, ivs ns, rfl, .inl hS, fun p np => ?_⟩
    refine ⟨_, rfl, _, _, rfl, rfl, (by show (0 : Int) < 8; decide), aB, ivs weights, _, iv w0, rfl, rfl, tB.sq _, atI_iv hw, ?_⟩
    refine ⟨_, rfl, _, rfl, _, _, rfl, rfl, ⟨by decide, by decide⟩, p, ivs ns, _, iv v, rfl, rfl, SqL.of upd_same, atI_iv hv, _, rfl, _, _, rfl, rfl, ⟨by omega, by omega⟩, _, _, rfl, rfl, (by show (0 : Int) < 2; decide), ?_⟩
    refine ⟨_, rfl, _, rfl, _, _, rfl, rfl, ⟨by decide, by decide⟩, p, ivs ns, place / 8, iv v, rfl, rfl, SqL.of upd_same, ivs_at hv, ?_⟩
    refine ⟨_, rfl, _, rfl, _, _, rfl, rfl, _, rfl, _, _, rfl, rfl, .inr ⟨by omega, by omega⟩, _, _, rfl, rfl, p, ivs ns, _, place / 8, rfl, rfl, upd_same, ixN_nat (i := place / 8) (by rw [List.length_map]; omega), ?_⟩
    refine ⟨_, rfl, ?_⟩
    rw [upd_upd]
    have e1 : (ivs ns).set (place / 8) (.int ((v : Int) + ((b : Int) - (v : Int) / (w0 : Int) % 2) * (w0 : Int))) = ivs (withBit ns place b) := by
      rw [hset, hwb]
      exact List.map_set.symm
    show Q (.ref p) (upd H p (.lst ((ivs ns).set (place / 8) (.int ((v : Int) + ((b : Int) - (v : Int) / (w0 : Int) % 2) * (w0 : Int))))))
    rw [e1]
    exact q p np
/-! ### crc_change -/
def spChg : Sp := fun vs H Q _ => ∃ n place : Nat, vs = [iv n, iv place] ∧ place < 8 * n ∧ n ≤ 1000 ∧ ∀ H', Same H H' → Q (iv (chg n place)) H'
theorem rep_one {α : Type} (x : α) : ∀ n, (List.replicate n [x]).flatten = List.replicate n x
  | 0 => rfl
  | n + 1 => by
    rw [List.replicate_succ, List.flatten_cons, rep_one x n, List.replicate_succ]
    rfl
theorem ok_chg {f : Addr} {fd : FuncData} (F : Fun K "crc_change" "crc_change" sChg f fd) (DX : Df P w K mg base "exclusive" 1 ["first", "second"] spExcl) (DC : Df P w K mg base "crc" 3 ["values"] (spCrc K)) (DW : Df P w K mg base "with_bit" 1 ["values", "place", "bit"] (spWith K)) :
    FnOk P w K mg base CX0 4 f fd ["length", "place"] spChg := by
  refine F.ok scChg (fun vs H Q E h => ?_) (fun cdv A outer s H vs Q E hr h => ?_)
  · obtain ⟨n, place, rfl, _⟩ := h
    rfl
  · obtain ⟨n, place, rfl, hp, hn, q⟩ := h
    have hr1 : Room 1 _ := hr.mono (by decide)
    refine ⟨_, pss_cons (ps_set (i := 2) scChg.nd rfl (.inl rfl) (pe_op op_rep (pe_lst (pa_cons pe_int pa_nil)) (pv 0)))
      (pss_one (ps_ret (pe_df DX hr1 rfl (pa_cons (pe_df DC hr rfl (pa_cons (pv 2) pa_nil)) (pa_cons (pe_df DC hr rfl (pa_cons (pe_df DW hr1 rfl (pa_cons (pv 2) (pa_cons (pv 1) (pa_cons pe_int pa_nil)))) pa_nil)) pa_nil))))), ?_⟩
    refine ⟨by show 1 ≤ sizeLine; decide, fun l hl => ⟨_, rfl, l, _, _, rfl, rfl, upd_same, by omega, by omega, ?_, fun p np => ?_⟩⟩
    · show 1 * ((n : Int)).toNat ≤ sizeLine
      exact Nat.le_of_lt (small1000 (by omega))
    · have e0 : (List.replicate ((n : Int)).toNat [V.int 0]).flatten = ivs (List.replicate n 0) := by
        rw [rep_one, Int.toNat_natCast]
        show List.replicate n (V.int 0) = List.map iv (List.replicate n 0)
        rw [List.map_replicate]
        rfl
      rw [e0]
      have s1 : Same H (upd (upd H l (.lst [.int 0])) p (.lst (ivs (List.replicate n 0)))) := (same_upd hl).trans (same_upd np)
      refine ⟨_, rfl, p, List.replicate n 0, rfl, SqL.of upd_same, fun H1 s2 => ?_⟩
      refine ⟨_, rfl, _, rfl, p, List.replicate n 0, place, 1, rfl, s2.seq (SqL.of upd_same), by rw [List.length_replicate]; exact hp, fun m nm => ?_⟩
      refine ⟨m, withBit (List.replicate n 0) place 1, rfl, SqL.of upd_same, fun H2 s3 => ?_⟩
      exact ⟨_, _, rfl, q H2 (s1.trans (s2.trans ((same_upd nm).trans s3)))⟩
end
end K71
namespace K71
open PySem L2
/-! ### lists of True -/
def yes (n : Nat) : List Bool := List.replicate n true
theorem yes_succ (n : Nat) : (yes n).map V.bl ++ [V.bl true] = (yes (n + 1)).map V.bl := by
  unfold yes
  rw [List.replicate_succ', List.map_append]
  rfl
theorem yes_all (n : Nat) : (yes n).all id = true := by
  unfold yes
  rw [List.all_eq_true]
  intro x m
  exact (List.mem_replicate.mp m).2
theorem yes_len (n : Nat) : ((yes n).map V.bl).length = n := by
  unfold yes
  rw [List.length_map, List.length_replicate]
/-! ### rules whose reading names the written part by a letter: for the blocks of comprehensions -/
section
variable {X : Cx} {e : Expr} {te : TE} {p pos : Pos}
def rLenK (K : PySem.W.Frag) : List V → Hp → VK → Prop := fun xs H Q => ∃ p ys, xs = [.ref p] ∧ (SqL K H p ys ∨ SqT K H p ys) ∧ Q (.int ys.length) H
theorem call_lenK (K : PySem.W.Frag) (h : X.K = K := by rfl) : CallR X (.builtin "len") (rLenK K) := by
  subst h
  exact call_len_seq
theorem ix_listK (K : PySem.W.Frag) (h : X.K = K := by rfl) : IxR X (rIxL K) := by
  subst h
  exact ix_list
theorem ix_tupK (K : PySem.W.Frag) (h : X.K = K := by rfl) : IxR X (rIxT K) := by
  subst h
  exact ix_tup
theorem op_inK (K : PySem.W.Frag) (h : X.K = K := by rfl) : OpR X (compareOp .In) (rIn K false) := by
  subst h
  exact op_in_seq
theorem op_notInK (K : PySem.W.Frag) (h : X.K = K := by rfl) : OpR X (compareOp .NotIn) (rIn K true) := by
  subst h
  exact op_notIn_seq
theorem pe_len (K : PySem.W.Frag) (gL : X.mg "len" = none) (ha : PE X e te) (hg : Gl X "len" := by rfl) (he : starEach [e] X.env = (false, eval e X.env) :: starEach [] X.env := by rfl) (hpl : (backTo pos (starEach [] X.env)).any (·.1) = false := by rfl) (h : X.K = K := by rfl) :
    PE X (.Call (.Name "len" p) [e] [] pos) (tCB (rLenK K) (tCons te tNil)) :=
  pe_callB (call_lenK K h) hg gL PySem.boot_len (pa_cons ha pa_nil he) (he := he) (hpl := hpl)
end
section
variable {P : Program} {w : World} {K : PySem.W.Frag} {mg : Str → Option Value} {base : Heap}
/-! ### demand_unknown -/
def spDem (K : PySem.W.Frag) : Sp := fun vs H Q _ => ∃ (a b : Addr) (xs : List V) (us : List Nat), vs = [.ref a, .ref b] ∧ SqL K H a xs ∧ SqL K H b (ivs us) ∧ us.length ≤ 24 ∧ xs.length ≤ 1000 ∧ (∀ u ∈ us, u < 8 * xs.length) ∧
  (∀ i x y, us[i]? = some x → us[i + 1]? = some y → x < y) ∧ ∀ H', Same H H' → Q .non H'
theorem ok_dem {f : Addr} {fd : FuncData} (F : Fun K "demand_unknown" "demand_unknown" sDem f fd) (gM : Gi mg "MOST_UNKNOWN" 24) (gL : mg "len" = none) (gA : mg "all" = none) (gR : mg "range" = none) : FnOk P w K mg base CX0 1 f fd ["values", "unknown"] (spDem K) := by
  refine F.ok scDem (fun vs H Q E h => ?_) (fun cdv A outer s H vs Q E hr h => ?_)
  · obtain ⟨a, b, xs, us, rfl, _⟩ := h
    rfl
  · obtain ⟨a, b, xs, us, rfl, hA, hB, hlen, hx, hin, hasc, q⟩ := h
    refine ⟨_, pss_cons (ps_if (PW.pt (pw_or (pt_cmpR op_gt (pe_len K gL (pv 1)) (pe_gi gM rfl) (nomark _)) (pw_or1 (pt_not (pt_val (pe_callB (cr_all rfl) (by rfl) gA (by decide +kernel) (pa_cons
        (pe_lc (own := [("place", 2)]) (g := gName 2) (tt := tYes) rfl scDem.nd (pi_list (pv 1)) (blkOk_by (own := [("place", 2)]) (N := ["values", "unknown", "place", "at"]) (sc := defScope sDem) (by decide +kernel))
          (fun _ _ _ _ _ => pg_name (i := 2) scDem.nd rfl (Or.inl rfl)) (fun _ _ _ _ _ => pts_nil) (fun _ _ _ _ _ => pe_chain op_le op_lt pe_int (pv 2) (pe_op op_mul pe_int (pe_len K gL (pv 0))))) pa_nil))))))) pss_never pss_nil)
      (pss_one (ps_if (pt_not (pt_val (pe_callB (cr_all rfl) (by rfl) gA (by decide +kernel) (pa_cons
        (pe_lc (own := [("at", 3)]) (g := gName 3) (tt := tYes) rfl scDem.nd (pi_range2 (by rfl) gR (pa_cons pe_int (pa_cons (pe_len K gL (pv 1)) pa_nil))) (blkOk_by (own := [("at", 3)]) (N := ["values", "unknown", "place", "at"]) (sc := defScope sDem) (by decide +kernel))
          (fun _ _ _ _ _ => pg_name (i := 3) scDem.nd rfl (Or.inl rfl)) (fun _ _ _ _ _ => pts_nil) (fun _ _ _ _ _ => pe_cmpR op_lt (pe_ix (ix_listK K) (pv 1) (pe_op op_sub (pv 3) pe_int) (fun _ _ => rfl)) (pe_ix (ix_listK K) (pv 1) (pv 3) (fun _ _ => rfl)) (nomark _))) pa_nil)))) pss_never pss_nil)), ?_⟩
    refine ⟨_, rfl, b, ivs us, rfl, .inl hB, _, _, rfl, rfl, _, rfl, ite2 (fun z => ?_) (fun _ => ?_)⟩
    · have z1 : (24 : Int) < ((ivs us).length : Int) := of_decide_eq_true z
      rw [List.length_map] at z1
      omega
    refine ⟨_, rfl, b, rfl, ⟨_, hB⟩, fun D hD => lc_list (K := K) (a := b) (xs := ivs us) (fun i H' => H' = upd H D (.lst ((yes i).map V.bl))) rfl (fun i H' _ e => by rw [e]; exact (same_upd hD).seq hB) (fun i x H' hi e => ?_) (fun H' e => ?_)⟩
    · subst e
      obtain ⟨u, hu, rfl⟩ := ivs_get hi
      have hu2 := hin u (List.mem_of_getElem? hu)
      refine ⟨rfl, _, rfl, _, _, rfl, rfl, _, rfl, ?_⟩
      rw [if_pos (decide_eq_true (by show (0 : Int) ≤ (u : Int); exact Int.natCast_nonneg u))]
      refine ⟨_, rfl, a, xs, rfl, .inl ((same_upd hD).seq hA), _, _, rfl, rfl, .inl ⟨by decide, by decide⟩, _, _, rfl, rfl, _, upd_same, ?_, ?_⟩
      · rw [yes_len]
        exact small1000 (by have := lt_of_get hu; omega)
      · have e1 : decide ((u : Int) < 8 * (xs.length : Int)) = true := decide_eq_true (by omega)
        show upd (upd H D _) D (.lst ((yes i).map V.bl ++ [V.bl (decide ((u : Int) < 8 * (xs.length : Int)))])) = _
        rw [upd_upd, e1, yes_succ]
    subst e
    have s1 : Same H (upd H D (.lst ((yes (ivs us).length).map V.bl))) := same_upd hD
    refine ⟨D, _, rfl, SqL.of upd_same, _, rfl, ?_⟩
    rw [yes_all]
    refine iteF ?_
    refine ⟨_, rfl, b, ivs us, rfl, .inl (s1.seq hB), 1, _, rfl, ⟨by decide, by decide, by omega, ?_⟩, fun D2 hD2 => lc_range (lo := 1) (n := (((ivs us).length : Int) - 1).toNat) (fun i H' => H' = upd (upd H D (.lst ((yes (ivs us).length).map V.bl))) D2 (.lst ((yes i).map V.bl))) rfl (fun i H' hi e => ?_) (fun H' e => ?_)⟩
    · rw [List.length_map]
      omega
    · subst e
      rw [List.length_map] at hi
      have s2 : Same H (upd (upd H D (.lst ((yes (ivs us).length).map V.bl))) D2 (.lst ((yes i).map V.bl))) := s1.trans (same_upd hD2)
      obtain ⟨x, hx1⟩ : ∃ x, us[i]? = some x := ⟨_, List.getElem?_eq_getElem (by omega)⟩
      obtain ⟨y, hy1⟩ : ∃ y, us[i + 1]? = some y := ⟨_, List.getElem?_eq_getElem (by omega)⟩
      have hxy := hasc i x y hx1 hy1
      refine ⟨rfl, _, rfl, _, rfl, _, _, rfl, rfl, b, ivs us, _, iv x, rfl, rfl, s2.seq hB, ?_, _, rfl, _, rfl, b, ivs us, _, iv y, rfl, rfl, s2.seq hB, ?_, _, _, rfl, rfl, _, upd_same, ?_, ?_⟩
      · have e1 : (1 : Int) + (i : Int) - 1 = (i : Int) := by omega
        show atI (ivs us) (1 + (i : Int) - 1) = _
        rw [e1]
        exact atI_iv hx1
      · have e1 : (1 : Int) + (i : Int) = ((i + 1 : Nat) : Int) := by omega
        show atI (ivs us) (1 + (i : Int)) = _
        rw [e1]
        exact atI_iv hy1
      · rw [yes_len]
        exact small1000 (by omega)
      · have e1 : decide ((x : Int) < (y : Int)) = true := decide_eq_true (by omega)
        show upd (upd _ D2 _) D2 (.lst ((yes i).map V.bl ++ [V.bl (decide ((x : Int) < (y : Int)))])) = _
        rw [upd_upd, e1, yes_succ]
    · subst e
      refine ⟨D2, _, rfl, SqL.of upd_same, _, rfl, ?_⟩
      rw [yes_all]
      exact iteF (q _ (s1.trans (same_upd hD2)))
end
end K71
namespace K71
open PySem L2
/-! ### repeated content, in plain Lean -/
def lens : List Nat := [16, 32, 64, 128, 256, 512, 1024, 2048, 4096, 8192, 16384, 32768, 65536]
def repL (xs : List Nat) : List Nat → Nat
  | [] => xs.length
  | l :: r => if xs.length ≤ l then xs.length else if (List.replicate (xs.length / l) (xs.take l)).flatten = xs then l else repL xs r
def repLen (xs : List Nat) : Nat := repL xs lens
/-! ### lists of numbers as data; slices -/
def dts (ns : List Nat) : List PyData := ns.map fun n : Nat => PyData.int (n : Int)
theorem dp_all {K : PySem.W.Frag} {H : Hp} : ∀ ns : List Nat, DpAll K H (ivs ns) (dts ns)
  | [] => .nil
  | n :: r => .cons (.int _) (dp_all r)
theorem dp_ivs {K : PySem.W.Frag} {H : Hp} {a : Addr} {ns : List Nat} (h : SqL K H a (ivs ns)) : Dp K H (.ref a) (.list (dts ns)) := .lst h (dp_all ns)
theorem can_dts : ∀ ns : List Nat, PyData.canLayAll0 (dts ns) = true
  | [] => rfl
  | n :: r => by
    show (true && PyData.canLayAll0 (dts r)) = true
    rw [can_dts r]
    rfl
theorem depth_dts : ∀ ns : List Nat, PyData.depthAll (dts ns) = 0
  | [] => rfl
  | n :: r => by
    show max 0 (PyData.depthAll (dts r)) = 0
    rw [depth_dts r]
    rfl
theorem shaped_dts (ns : List Nat) : SeqAt.shaped (.list (dts ns)) = true := by
  show (PyData.canLayAll0 (dts ns) && decide (PyData.depthAll (dts ns) + 1 ≤ 64)) = true
  rw [can_dts, depth_dts]
  rfl
theorem eqv_dts : ∀ xs ys : List Nat, PyData.eqvAll (dts xs) (dts ys) = decide (xs = ys)
  | [], [] => rfl
  | [], _ :: _ => rfl
  | _ :: _, [] => rfl
  | x :: xs, y :: ys => by
    show (((x : Int) == (y : Int)) && PyData.eqvAll (dts xs) (dts ys)) = decide (x :: xs = y :: ys)
    rw [eqv_dts xs ys]
    by_cases h : x = y
    · subst h
      simp
    · have h1 : ((x : Int) == (y : Int)) = false := by
        rw [beq_eq_false_iff_ne]
        omega
      rw [h1, decide_eq_false (fun e => h (List.cons.inj e).1)]
      rfl
theorem cut_take (xs : List V) (k : Nat) : cutV xs none (some (k : Int)) = xs.take k := by
  unfold cutV
  rw [HT.sIx_nat, HT.sIx_none, List.drop_zero, Nat.sub_zero]
  rcases Nat.le_total k xs.length with h | h
  · rw [Nat.min_eq_left h]
  · rw [Nat.min_eq_right h, List.take_of_length_le h, List.take_of_length_le (Nat.le_refl _)]
theorem cut_drop (xs : List V) (k : Nat) : cutV xs (some (k : Int)) none = xs.drop k := by
  unfold cutV
  rw [HT.sIx_nat, HT.sIx_none]
  rcases Nat.le_total k xs.length with h | h
  · rw [Nat.min_eq_left h]
    exact List.take_of_length_le (by rw [List.length_drop]; exact Nat.le_refl _)
  · rw [Nat.min_eq_right h, List.drop_of_length_le h, List.drop_of_length_le (Nat.le_refl _)]
    exact List.take_nil
theorem ivs_take (ns : List Nat) (k : Nat) : (ivs ns).take k = ivs (ns.take k) := List.map_take.symm
theorem ivs_drop (ns : List Nat) (k : Nat) : (ivs ns).drop k = ivs (ns.drop k) := List.map_drop.symm
theorem ivs_flat : ∀ (k : Nat) (ns : List Nat), (List.replicate k (ivs ns)).flatten = ivs (List.replicate k ns).flatten
  | 0, _ => rfl
  | k + 1, ns => by
    rw [List.replicate_succ, List.flatten_cons, ivs_flat k ns, List.replicate_succ, List.flatten_cons]
    exact List.map_append.symm
section
variable {P : Program} {w : World} {K : PySem.W.Frag} {mg : Str → Option Value} {base : Heap}
def spRep (K : PySem.W.Frag) : Sp := fun vs H Q _ => ∃ (a : Addr) (ns : List Nat), vs = [.ref a] ∧ SqL K H a (ivs ns) ∧ ns.length ≤ 1000 ∧ ∀ H', Same H H' → Q (iv (repLen ns)) H'
theorem lens_pos {i l : Nat} (h : lens[i]? = some l) : 0 < l ∧ l ≤ 65536 := by
  have m : l ∈ lens := List.mem_of_getElem? h
  have k : ∀ l ∈ lens, 0 < l ∧ l ≤ 65536 := by decide
  exact k l m
theorem drop_get {α : Type} {l : List α} {i : Nat} {x : α} (h : l[i]? = some x) : l.drop i = x :: l.drop (i + 1) := by
  obtain ⟨h1, h2⟩ := List.getElem?_eq_some_iff.mp h
  rw [List.drop_eq_getElem_cons h1, h2]
theorem ok_rep {f : Addr} {fd : FuncData} (F : Fun K "repeated_length" "repeated_length" sRep f fd) (gT : Gt K mg "LENGTHS" (ivs lens)) (gL : mg "len" = none) : FnOk P w K mg base CX0 1 f fd ["dump"] (spRep K) := by
  obtain ⟨aT, gT, tT⟩ := gT
  refine F.ok scRep (fun vs H Q E h => ?_) (fun cdv A outer s H vs Q E hr h => ?_)
  · obtain ⟨a, ns, rfl, _⟩ := h
    rfl
  · obtain ⟨a, ns, rfl, hS, hlen, q⟩ := h
    refine ⟨_, pss_cons (ps_for PassesOwn.never rfl (pi_tup (pe_glob (v := .ref aT) rfl gT rfl)) (pg_name (i := 1) scRep.nd rfl (.inl rfl))
        (pss_cons (ps_if (pt_cmpR op_ge (pv 1) (pe_len K gL (pv 0)) (nomark _)) (pss_one ps_break) pss_nil)
        (pss_one (ps_if (pt_cmpR (op_eqD hr.units) (pe_op op_rep (pe_slice sl_list (pv 0) po_none (po_some (pv 1))) (pe_op op_fdiv (pe_len K gL (pv 0)) (pv 1))) (pv 0) (nomark _)) (pss_one (ps_ret (pv 1))) pss_nil))))
      (pss_one (ps_ret (pe_len K gL (pv 0)))), ?_⟩
    refine ⟨aT, rfl, ⟨_, tT.sq H⟩, for_tup (K := K) (a := aT) (xs := ivs lens) (fun i σ H' => Same H H' ∧ (∃ c : Option V, σ = [some (.ref a), c]) ∧ repL ns (lens.drop i) = repLen ns) ⟨Same.refl H, ⟨none, rfl⟩, rfl⟩ (fun i σ H' _ h => tT.sq H') (fun i x σ H' hi h => ?_) (fun σ H' h => ?_)⟩
    · obtain ⟨sm, ⟨c, rfl⟩, hr'⟩ := h
      obtain ⟨l, hl, rfl⟩ := ivs_get hi
      obtain ⟨l0, l1⟩ := lens_pos hl
      rw [drop_get hl] at hr'
      unfold repL at hr'
      have hA : SqL K H' a (ivs ns) := sm.seq hS
      refine ⟨_, rfl, _, rfl, a, ivs ns, rfl, .inl hA, _, _, rfl, rfl, _, rfl, ite2 (fun z => ?_) (fun z => ?_)⟩
      · have z1 : ((ivs ns).length : Int) ≤ (l : Int) := of_decide_eq_true z
        rw [List.length_map] at z1
        rw [if_pos (by omega)] at hr'
        refine ⟨_, rfl, a, ivs ns, rfl, .inl hA, ?_⟩
        rw [List.length_map, hr']
        exact q H' sm
      · have z1 : ¬ ((ivs ns).length : Int) ≤ (l : Int) := fun e => z (decide_eq_true e)
        rw [List.length_map] at z1
        rw [if_neg (by omega)] at hr'
        refine ⟨_, rfl, _, rfl, (l : Int), rfl, a, ivs ns, rfl, hA, fun p np => ?_⟩
        rw [cut_take, ivs_take]
        have s1 : Same H' (upd H' p (.lst (ivs (ns.take l)))) := same_upd np
        have hdiv : ((ivs ns).length : Int) / (l : Int) = ((ns.length / l : Nat) : Int) := by
          rw [List.length_map]
          rfl
        have hk : ns.length / l ≤ ns.length := Nat.div_le_self _ _
        refine ⟨_, rfl, a, ivs ns, rfl, .inl (s1.seq hA), _, rfl, _, _, rfl, rfl, ⟨by omega, by omega⟩, p, ((ns.length / l : Nat) : Int), _, rfl, congrArg V.int hdiv, upd_same, Int.le_trans (by decide) (Int.natCast_nonneg _), Int.lt_of_le_of_lt (Int.ofNat_le.mpr (Nat.le_trans hk hlen)) (by decide), ?_, fun p2 np2 => ?_⟩
        · rw [List.length_map, List.length_take, Int.toNat_natCast]
          have h1 : min l ns.length * (ns.length / l) ≤ l * (ns.length / l) := Nat.mul_le_mul_right _ (Nat.min_le_left _ _)
          have h2 : l * (ns.length / l) ≤ ns.length := Nat.mul_div_le _ _
          exact Nat.le_of_lt (small1000 (by omega))
        rw [Int.toNat_natCast, ivs_flat]
        have s2 : Same H' (upd (upd H' p (.lst (ivs (ns.take l)))) p2 (.lst (ivs (List.replicate (ns.length / l) (ns.take l)).flatten))) := s1.trans (same_upd np2)
        refine ⟨_, rfl, _, _, dp_ivs (SqL.of upd_same), dp_ivs (s2.seq hA), shaped_dts _, shaped_dts _, _, rfl, ?_⟩
        have ee : PyData.eqv (.list (dts (List.replicate (ns.length / l) (ns.take l)).flatten)) (.list (dts ns)) = decide ((List.replicate (ns.length / l) (ns.take l)).flatten = ns) := eqv_dts _ _
        rw [ee]
        refine ite2 (fun y => ?_) (fun y => ?_)
        · have y1 : (List.replicate (ns.length / l) (ns.take l)).flatten = ns := of_decide_eq_true y
          rw [if_pos y1] at hr'
          subst hr'
          exact ⟨_, rfl, q _ (sm.trans s2)⟩
        · have y1 : ¬ (List.replicate (ns.length / l) (ns.take l)).flatten = ns := fun e => y (decide_eq_true e)
          rw [if_neg y1] at hr'
          exact ⟨sm.trans s2, ⟨some (iv l), rfl⟩, hr'⟩
    · obtain ⟨sm, ⟨c, rfl⟩, hr'⟩ := h
      refine ⟨_, rfl, a, ivs ns, rfl, .inl (sm.seq hS), ?_⟩
      have e0 : lens.drop (ivs lens).length = [] := by decide
      rw [e0] at hr'
      have e1 : ns.length = repLen ns := hr'
      rw [List.length_map, e1]
      exact q H' sm
/-! ### length_of, of a dump that is repeated -/
def spLen (K : PySem.W.Frag) : Sp := fun vs H Q _ => ∃ (a : Addr) (ns : List Nat), vs = [.ref a] ∧ SqL K H a (ivs ns) ∧ ns.length ≤ 1000 ∧ repLen ns < ns.length ∧ ∀ H', Same H H' → Q (iv (repLen ns)) H'
theorem ok_len {f : Addr} {fd : FuncData} (F : Fun K "length_of" "length_of" sLen f fd) (DR : Df P w K mg base "repeated_length" 1 ["dump"] (spRep K)) (gL : mg "len" = none) (gS : Gi mg "SHORTEST" 16) : FnOk P w K mg base CX0 2 f fd ["dump"] (spLen K) := by
  refine F.ok scLen (fun vs H Q E h => ?_) (fun cdv A outer s H vs Q E hr h => ?_)
  · obtain ⟨a, ns, rfl, _⟩ := h
    rfl
  · obtain ⟨a, ns, rfl, hS, hlen, hlt, q⟩ := h
    refine ⟨_, pss_cons (ps_set (i := 1) scLen.nd rfl (.inl rfl) (pe_df DR hr rfl (pa_cons (pv 0) pa_nil)))
      (pss_cons (ps_if (PW.pt (pw_or (pt_cmpR op_lt (pv 1) (pe_len K gL (pv 0)) (nomark _)) (pw_or1 (pt_cmpR op_eq (pv 1) (pe_gi gS rfl) (nomark _))))) (pss_one (ps_ret (pv 1))) pss_nil) pss_never), ?_⟩
    refine ⟨_, rfl, a, ns, rfl, hS, hlen, fun H1 s1 => ?_⟩
    refine ⟨_, rfl, _, rfl, a, ivs ns, rfl, .inl (s1.seq hS), _, _, rfl, rfl, _, rfl, ?_⟩
    have e1 : decide ((repLen ns : Int) < ((ivs ns).length : Int)) = true := decide_eq_true (by rw [List.length_map]; omega)
    refine ite2 (fun z => ?_) (fun z => absurd e1 z)
    exact ⟨_, rfl, q H1 s1⟩
/-! ### true_length -/
def spTrue (K : PySem.W.Frag) : Sp := fun vs H Q _ => ∃ (a : Addr) (ns : List Nat), vs = [.ref a] ∧ SqL K H a (ivs ns) ∧ (ns.length = 64 ∨ ns.length = 128) ∧ repLen ns < ns.length ∧ ∀ H', Same H H' → Q (iv (repLen ns)) H'
theorem ok_true {f : Addr} {fd : FuncData} (F : Fun K "true_length" "true_length" sTrue f fd) (DL : Df P w K mg base "length_of" 2 ["dump"] (spLen K)) (gT : Gt K mg "LENGTHS" (ivs lens)) (gL : mg "len" = none) (gI : mg "list" = none) : FnOk P w K mg base CX0 3 f fd ["dump"] (spTrue K) := by
  obtain ⟨aT, gT, tT⟩ := gT
  refine F.ok scTrue (fun vs H Q E h => ?_) (fun cdv A outer s H vs Q E hr h => ?_)
  · obtain ⟨a, ns, rfl, _⟩ := h
    rfl
  · obtain ⟨a, ns, rfl, hS, hlen, hlt, q⟩ := h
    refine ⟨_, pss_cons (ps_if (pt_cmpR op_notIn_seq (pe_len K gL (pv 0)) (pe_glob (v := .ref aT) rfl gT rfl) (by rfl)) pss_never pss_nil)
      (pss_one (ps_ret (pe_df DL hr rfl (pa_cons (pe_callTy call_list_of (by rfl) gI (by decide +kernel) (pa_cons (pv 0) pa_nil)) pa_nil)))), ?_⟩
    refine ⟨_, rfl, a, ivs ns, rfl, .inl hS, aT, ivs lens, rfl, .inr (tT.sq H), rfl, rfl, _, rfl, ?_⟩
    have e1 : (!inV (.int ((ivs ns).length : Int)) (ivs lens)) = false := by
      rw [List.length_map]
      rcases hlen with e | e <;> rw [e] <;> rfl
    refine ite2 (fun z => ?_) (fun _ => ?_)
    · have z1 : (!inV (.int ((ivs ns).length : Int)) (ivs lens)) = true := z
      rw [e1] at z1
      cases z1
    · refine ⟨_, rfl, a, ivs ns, rfl, .inl hS, fun l hl => ?_⟩
      exact ⟨l, ns, rfl, SqL.of upd_same, by omega, hlt, fun H1 s1 => q H1 ((same_upd hl).trans s1)⟩
/-! ### trimmed -/
def spTrim (K : PySem.W.Frag) : Sp := fun vs H Q _ => ∃ (a : Addr) (ns : List Nat), vs = [.ref a] ∧ SqL K H a (ivs ns) ∧ (ns.length = 64 ∨ ns.length = 128) ∧ repLen ns < ns.length ∧ ∀ H' p, Same H H' → H' p = some (.lst (ivs (ns.take (repLen ns)))) → Q (.ref p) H'
theorem ok_trim {f : Addr} {fd : FuncData} (F : Fun K "trimmed" "trimmed" sTrim f fd) (DT : Df P w K mg base "true_length" 3 ["dump"] (spTrue K)) (gI : mg "list" = none) : FnOk P w K mg base CX0 4 f fd ["dump"] (spTrim K) := by
  refine F.ok scTrim (fun vs H Q E h => ?_) (fun cdv A outer s H vs Q E hr h => ?_)
  · obtain ⟨a, ns, rfl, _⟩ := h
    rfl
  · obtain ⟨a, ns, rfl, hS, hlen, hlt, q⟩ := h
    refine ⟨_, pss_one (ps_ret (pe_callTy call_list_of (by rfl) gI (by decide +kernel) (pa_cons (pe_slice sl_list (pv 0) po_none (po_some (pe_df DT hr rfl (pa_cons (pv 0) pa_nil)))) pa_nil))), ?_⟩
    refine ⟨_, rfl, _, rfl, a, ns, rfl, hS, hlen, hlt, fun H1 s1 => ⟨_, rfl, a, ivs ns, rfl, s1.seq hS, fun p np => ?_⟩⟩
    rw [cut_take, ivs_take]
    refine ⟨p, _, rfl, .inl (SqL.of upd_same), fun l hl => ?_⟩
    exact q _ l (s1.trans ((same_upd np).trans (same_upd hl))) upd_same
end
end K71
namespace K71
open PySem L2
/-! ### counts of the items of a list -/
def cnt (us ns : List Nat) : List (Key × V) := us.map fun x : Nat => ((Sum.inl (x : Int) : Key), iv (ns.count x))
theorem valV_cnt : ∀ (us ns : List Nat) (x : Nat), valV (cnt us ns) (Sum.inl (x : Int)) = if x ∈ us then some (iv (ns.count x)) else none
  | [], _, _ => rfl
  | u :: r, ns, x => by
    show valV (((Sum.inl (u : Int) : Key), iv (ns.count u)) :: cnt r ns) _ = _
    by_cases e : u = x
    · subst e
      rw [valV_pos rfl, if_pos List.mem_cons_self]
    · have h1 : ¬ (Sum.inl (u : Int) : Key) = Sum.inl (x : Int) := fun q => e (by have := Sum.inl.inj q; omega)
      rw [valV_neg h1, valV_cnt r ns x]
      by_cases m : x ∈ r
      · rw [if_pos m, if_pos (List.mem_cons_of_mem _ m)]
      · rw [if_neg m, if_neg (fun q => by
          rcases List.mem_cons.mp q with q | q
          · exact e q.symm
          · exact m q)]
theorem count_snoc (p : List Nat) (x y : Nat) : (p ++ [x]).count y = p.count y + if x = y then 1 else 0 := by
  rw [List.count_append, List.count_singleton]
  congr 1
  by_cases h : x = y <;> simp [h]
theorem cnt_snoc_ne (us p : List Nat) (x : Nat) (h : x ∉ us) : cnt us (p ++ [x]) = cnt us p := by
  unfold cnt
  refine List.map_congr_left fun y m => ?_
  rw [count_snoc, if_neg (fun e => h (by rw [e]; exact m))]
  rfl
theorem put_in (us p : List Nat) (x : Nat) (h : x ∈ us) : putK (cnt us p) (Sum.inl (x : Int)) (iv (p.count x + 1)) = cnt us (p ++ [x]) := by
  unfold putK
  have hany : ((cnt us p).any fun kv => decide (kv.1 = Sum.inl (x : Int))) = true := by
    rw [valV_any, valV_cnt, if_pos h]
    rfl
  rw [hany]
  show ((cnt us p).map fun kv => if kv.1 = Sum.inl (x : Int) then (kv.1, iv (p.count x + 1)) else kv) = _
  unfold cnt
  rw [List.map_map]
  refine List.map_congr_left fun y m => ?_
  show (if (Sum.inl (y : Int) : Key) = Sum.inl (x : Int) then ((Sum.inl (y : Int) : Key), iv (p.count x + 1)) else ((Sum.inl (y : Int) : Key), iv (p.count y))) = _
  rw [count_snoc]
  by_cases e : x = y
  · subst e
    rw [if_pos rfl, if_pos rfl]
  · rw [if_neg (fun q => e (by have := Sum.inl.inj q; omega)), if_neg e]
    rfl
theorem put_new (us p : List Nat) (x : Nat) (h : x ∉ us) (h0 : p.count x = 0) : putK (cnt us p) (Sum.inl (x : Int)) (iv (p.count x + 1)) = cnt (us ++ [x]) (p ++ [x]) := by
  rw [putK_new _ (by rw [valV_cnt, if_neg h])]
  have e1 : cnt (us ++ [x]) (p ++ [x]) = cnt us (p ++ [x]) ++ [((Sum.inl (x : Int) : Key), iv ((p ++ [x]).count x))] := by
    unfold cnt
    rw [List.map_append]
    rfl
  rw [e1, cnt_snoc_ne us p x h, count_snoc, if_pos rfl]
theorem cnt_keys (us ns : List Nat) : (cnt us ns).length = us.length := by
  unfold cnt
  rw [List.length_map]
theorem cnt_get {us ns : List Nat} {i : Nat} {k : Key} {v : V} (h : (cnt us ns)[i]? = some (k, v)) : ∃ x, us[i]? = some x ∧ k = Sum.inl (x : Int) ∧ v = iv (ns.count x) := by
  unfold cnt at h
  rw [List.getElem?_map] at h
  cases e : us[i]? with
  | none =>
    rw [e] at h
    cases h
  | some u =>
    rw [e] at h
    cases h
    exact ⟨u, rfl, rfl, rfl⟩
/-! ### the vote -/
theorem count_two {ns : List Nat} {x y : Nat} (h : x ≠ y) : ns.count x + ns.count y ≤ ns.length := by
  induction ns with
  | nil => exact Nat.le_refl _
  | cons a r ih =>
    rw [List.count_cons, List.count_cons, List.length_cons]
    by_cases e1 : a = x
    · have e2 : ¬ a = y := fun q => h (e1.symm.trans q)
      simp [e1, h]
      omega
    · by_cases e2 : a = y
      · simp [e1, e2]
        have : ¬ y = x := fun q => h q.symm
        simp [this]
        omega
      · simp [e1, e2]
        omega
theorem filter_one {us : List Nat} {t : Nat} {f : Nat → Bool} (nd : us.Nodup) (m : t ∈ us) (ht : f t = true) (hx : ∀ x ∈ us, f x = true → x = t) : us.filter f = [t] := by
  induction us with
  | nil => cases m
  | cons a r ih =>
    obtain ⟨n1, n2⟩ := List.nodup_cons.mp nd
    by_cases e : a = t
    · subst e
      rw [List.filter_cons_of_pos ht]
      have : r.filter f = [] := by
        rw [List.filter_eq_nil_iff]
        intro x mx hf
        have := hx x (List.mem_cons_of_mem _ mx) hf
        subst this
        exact n1 mx
      rw [this]
    · have hf : ¬ f a = true := fun q => e (hx a List.mem_cons_self q)
      rw [List.filter_cons_of_neg hf]
      refine ih n2 ?_ fun x mx => hx x (List.mem_cons_of_mem _ mx)
      rcases List.mem_cons.mp m with q | q
      · exact absurd q.symm e
      · exact q
/-! ### heaps: a dict that is locked for a while -/
theorem same_lock {H : Hp} {d D : Addr} {u f o : HO} (hd : H d = some u) (hD : (upd H d f) D = none) : Same H (upd (upd (upd H d f) D o) d u) := fun b x e => by
  by_cases hb : b = d
  · subst hb
    rw [hd] at e
    cases e
    exact upd_same
  · rw [upd_ne hb]
    have hbD : b ≠ D := fun q => by
      subst q
      rw [upd_ne hb, e] at hD
      cases hD
    rw [upd_ne hbD, upd_ne hb]
    exact e
theorem lock_ne {H : Hp} {d D : Addr} {f : HO} (hD : (upd H d f) D = none) : D ≠ d := fun q => by
  subst q
  rw [upd_same] at hD
  cases hD
/-- a comprehension over a locked dict's keys: Pv by the turn and the heap, the list that is made within -/
theorem lc_keys {d : Addr} {od : Obj} {kvs : List (Key × V)} {tg : TG} {test : TT} {elt : TE} {own : List Nat} {σ : St} {G : Hp} {D : Addr} {fin : Hp → Prop} (Pv : Nat → Hp → Prop) (start : Pv 0 (upd G D (.lst [])))
    (locked : ∀ i H, i ≤ kvs.length → Pv i H → H d = some (.frz od (.dK kvs)))
    (turn : ∀ i k v H, kvs[i]? = some (k, v) → Pv i H → tg (kV k) (wipe σ own) H fun τ H2 => wipe τ own = wipe σ own ∧ test τ H2 fun c H3 =>
      if c = true then elt τ H3 fun y H4 => ∃ got, H4 D = some (.lst got) ∧ got.length < sizeLine ∧ Pv (i + 1) (upd H4 D (.lst (got ++ [y]))) else Pv (i + 1) H3)
    (done : ∀ H, Pv kvs.length H → fin H) :
    ∃ Wd : Nat → Nat → Hp → Prop, (∃ r, Wd 0 r (upd G D (.lst []))) ∧ ∀ i r H, Wd i r H →
      ((Itk d od kvs).stop i H ∧ fin H) ∨
      ((Itk d od kvs).go i H ∧ ∃ Nx : Hp → Prop, (∀ H', Nx H' → ∃ r', r' < r ∧ Wd (i + 1) r' H') ∧ ∀ x H', (Itk d od kvs).yld i H x H' → tg x (wipe σ own) H' fun τ H2 => wipe τ own = wipe σ own ∧ test τ H2 fun c H3 =>
        if c = true then elt τ H3 fun y H4 => ∃ got, H4 D = some (.lst got) ∧ got.length < sizeLine ∧ Nx (upd H4 D (.lst (got ++ [y]))) else Nx H3) := by
  refine ⟨fun i r H => i + r = kvs.length ∧ Pv i H, ⟨kvs.length, Nat.zero_add _, start⟩, fun i r H w => ?_⟩
  obtain ⟨sum, pv⟩ := w
  have lock := locked i H (by omega) pv
  cases r with
  | zero =>
    have last : i = kvs.length := sum
    subst last
    exact .inl ⟨⟨lock, Nat.le_refl _⟩, done H pv⟩
  | succ r =>
    refine .inr ⟨⟨lock, by omega⟩, fun H' => Pv (i + 1) H', fun H' pv' => ⟨r, Nat.lt_succ_self r, by omega, pv'⟩, fun x H' y => ?_⟩
    obtain ⟨rfl, k, v, at_i, rfl⟩ := y
    exact turn i k v _ at_i pv
section
variable {P : Program} {w : World} {K : PySem.W.Frag} {mg : Str → Option Value} {base : Heap}
/-! ### voted_byte -/
def spVote (K : PySem.W.Frag) : Sp := fun vs H Q _ => ∃ (a : Addr) (ns : List Nat) (t : Nat), vs = [.ref a] ∧ SqL K H a (ivs ns) ∧ ns.length ≤ 1000 ∧ ns.length < 2 * ns.count t ∧ ∀ H', Same H H' → Q (iv t) H'
theorem ok_vote {f : Addr} {fd : FuncData} (F : Fun K "voted_byte" "voted_byte" sVote f fd) (gL : mg "len" = none) (gX : mg "max" = none) : FnOk P w K mg base CX0 1 f fd ["values"] (spVote K) := by
  refine F.ok scVote (fun vs H Q E h => ?_) (fun cdv A outer s H vs Q E hr h => ?_)
  · obtain ⟨a, ns, t, rfl, _⟩ := h
    rfl
  · obtain ⟨a, ns, t, rfl, hS, hlen, hmaj, q⟩ := h
    have hu := hu_of hr
    refine ⟨_, pss_cons (ps_set (i := 1) scVote.nd rfl (.inr rfl) pe_dnewK)
      (pss_cons (ps_for PassesOwn.never rfl (pi_list (pv 0)) (pg_name (i := 2) scVote.nd rfl (.inl rfl))
        (pss_one (ps_dput hu (pv 1) (pv 2) (pe_op op_add (pe_dget2 hu (pv 1) (pv 2) pe_int ⟨rfl, rfl, rfl, rfl⟩) pe_int) rfl)))
      (pss_cons (ps_set (i := 3) scVote.nd rfl (.inr rfl) (pe_callB (cr_max rfl) (by rfl) gX (by decide +kernel) (pa_cons (pe_lock
        (pe_lc (own := [("value", 2)]) (g := gName 2) (tt := tYes) rfl scVote.nd (pi_keys (pv 1)) (blkOk_by (own := [("value", 2)]) (N := ["values", "counts", "value", "most", "found"]) (sc := defScope sVote) (by decide +kernel))
          (fun _ _ _ _ _ => pg_name (i := 2) scVote.nd rfl (Or.inl rfl)) (fun _ _ _ _ _ => pts_nil) (fun _ _ _ _ _ => pe_dget hu (pv 1) (pv 2) (fun _ _ => rfl)))) pa_nil)))
      (pss_cons (ps_lock (ps_setLc (i := 4) (own := [("value", 2)]) (g := gName 2) (tt := tTest (tOp rEq (tDGet (tVar 1) (tVar 2)) (tVar 3))) (by rfl) scVote.nd rfl rfl (sw_true rfl rfl rfl (by decide +kernel)) (pi_keys (pv 1)) (blkOk_by (own := [("value", 2)]) (N := ["values", "counts", "value", "most", "found"]) (sc := defScope sVote) (by decide +kernel))
          (fun _ _ _ _ _ => pg_name (i := 2) scVote.nd rfl (Or.inl rfl)) (fun _ _ _ _ _ => pts_one (pt_cmpR op_eq (pe_dget hu (pv 1) (pv 2) (fun _ _ => rfl)) (pv 3) (nomark _))) (fun _ _ _ _ _ => pv 2)))
      (pss_cons (ps_if (pt_cmpR op_gt (pe_len K gL (pv 4)) pe_int (nomark _)) (pss_one (ps_ret pe_non)) pss_nil)
      (pss_one (ps_ret (pe_ix ix_list (pv 4) pe_int (fun _ _ => rfl)))))))), ?_⟩
    intro d hd
    have s1 : Same H (upd H d (.dK [])) := same_upd hd
    refine ⟨_, rfl, a, rfl, ⟨_, s1.seq hS⟩, for_list (K := K) (a := a) (xs := ivs ns) (fun i σ H' => ∃ (us : List Nat) (c : Option V), σ = [some (.ref a), some (.ref d), c, none, none] ∧ us.Nodup ∧ (∀ x, x ∈ us ↔ x ∈ ns.take i) ∧ us.length ≤ i ∧ H' = upd H d (.dK (cnt us (ns.take i))))
      ⟨[], none, rfl, List.nodup_nil, fun x => by simp, Nat.le_refl _, rfl⟩ (fun i σ H' _ h => ?_) (fun i x σ H' hi h => ?_) (fun σ H' h => ?_)⟩
    · obtain ⟨us, c, _, _, _, _, rfl⟩ := h
      exact (same_upd hd).seq hS
    · obtain ⟨us, c, rfl, nd, hm, hl, rfl⟩ := h
      obtain ⟨v, hv, rfl⟩ := ivs_get hi
      have hi2 := lt_of_get hv
      have e : (valV (cnt us (ns.take i)) (Sum.inl (v : Int))).getD (V.int 0) = .int ((ns.take i).count v : Int) := by
        rw [valV_cnt]
        by_cases m : v ∈ us
        · rw [if_pos m]
          rfl
        · rw [if_neg m, List.count_eq_zero.mpr (fun q => m ((hm v).mpr q))]
          rfl
      refine ⟨_, rfl, d, rfl, .inl ⟨_, .inl upd_same⟩, _, rfl, _, DGet.k (k := Sum.inl (v : Int)) upd_same, _, _, e, rfl, _, rfl, _, rfl, d, _, rfl, DPut.k (k := Sum.inl (v : Int)) upd_same ?_, ?_⟩
      · rw [cnt_keys]
        exact small1000 (by omega)
      · rw [upd_upd]
        by_cases m : v ∈ us
        · refine ⟨us, some (iv v), rfl, nd, fun x => ?_, by omega, ?_⟩
          · rw [take_succ hv, List.mem_append, hm x]
            refine ⟨.inl, fun q => q.elim id fun q => ?_⟩
            have : x = v := List.mem_singleton.mp q
            rw [this]
            exact (hm v).mp m
          · rw [take_succ hv, ← put_in us (ns.take i) v m]
            rfl
        · refine ⟨us ++ [v], some (iv v), rfl, nd_snoc nd m, fun x => ?_, by rw [List.length_append, List.length_singleton]; omega, ?_⟩
          · rw [take_succ hv, List.mem_append, List.mem_append, hm x]
          · rw [take_succ hv, ← put_new us (ns.take i) v m (List.count_eq_zero.mpr (fun q => m ((hm v).mpr q)))]
            rfl
    obtain ⟨us, c, rfl, nd, hm, hl, rfl⟩ := h
    have et : ns.take (ivs ns).length = ns := by
      rw [List.length_map]
      exact List.take_length
    rw [et] at hm ⊢
    rw [List.length_map] at hl
    have ht0 : 0 < ns.count t := by omega
    have ht : t ∈ us := (hm t).mpr (List.count_pos_iff.mp ht0)
    generalize hH1 : upd H d (.dK (cnt us ns)) = H1
    have hd1 : H1 d = some (.dK (cnt us ns)) := by rw [← hH1]; exact upd_same
    have s2 : Same H H1 := by rw [← hH1]; exact same_upd hd
    refine ⟨d, .dK (cnt us ns), hd1, trivial, fun od => ⟨_, rfl, d, od, rfl, .inl ⟨_, upd_same, fun D hD => lc_keys (d := d) (od := od) (kvs := cnt us ns)
      (fun i H' => H' = upd (upd H1 d (.frz od (.dK (cnt us ns)))) D (.lst (ivs ((us.take i).map fun x => ns.count x)))) rfl (fun i H' _ e => ?_) (fun i k v H' hi e => ?_) (fun H' e => ?_)⟩⟩⟩
    · rw [e, upd_ne (lock_ne hD).symm]
      exact upd_same
    · subst e
      obtain ⟨x, hx, rfl, rfl⟩ := cnt_get hi
      refine ⟨rfl, _, rfl, _, rfl, d, iv (ns.count x), rfl, .inl ⟨cnt us ns, Sum.inl (x : Int), .inr ⟨od, by rw [upd_ne (lock_ne hD).symm]; exact upd_same⟩, rfl, ?_⟩, _, upd_same, ?_, ?_⟩
      · rw [valV_cnt, if_pos (List.mem_of_getElem? hx)]
      · rw [List.length_map, List.length_map, List.length_take]
        exact small1000 (by have := Nat.min_le_right i us.length; omega)
      · rw [upd_upd, take_succ hx, List.map_append]
        show _ = upd _ D (.lst (List.map iv (_ ++ _)))
        rw [List.map_append]
        rfl
    subst e
    have e1 : us.take (cnt us ns).length = us := by
      rw [cnt_keys]
      exact List.take_length
    rw [e1]
    have s3 : Same H1 (upd (upd (upd H1 d (.frz od (.dK (cnt us ns)))) D (.lst (ivs (us.map fun x => ns.count x)))) d (.dK (cnt us ns))) := same_lock hd1 hD
    refine ⟨by rw [upd_ne (lock_ne hD).symm]; exact upd_same, D, (us.map fun x => ns.count x).map (fun n : Nat => (n : Int)), rfl, SqL.of ?_, ?_, fun m hmm hle => ?_⟩
    · rw [← ivs_int, upd_ne (lock_ne hD)]
      exact upd_same
    · rw [List.length_map, List.length_map]
      exact List.length_pos_of_mem ht
    have em : m = ((ns.count t : Nat) : Int) := by
      obtain ⟨n, hn, rfl⟩ := List.mem_map.mp hmm
      obtain ⟨x, hx, rfl⟩ := List.mem_map.mp hn
      have h1 := hle ((ns.count t : Nat) : Int) (List.mem_map.mpr ⟨_, List.mem_map.mpr ⟨t, ht, rfl⟩, rfl⟩)
      by_cases e : x = t
      · rw [e]
      · have h2 := count_two (ns := ns) e
        omega
    subst em
    generalize hH2 : upd (upd (upd H1 d (.frz od (.dK (cnt us ns)))) D (.lst (ivs (us.map fun x => ns.count x)))) d (.dK (cnt us ns)) = H2 at s3 ⊢
    have hd2 : H2 d = some (.dK (cnt us ns)) := s3 _ _ hd1
    refine ⟨d, .dK (cnt us ns), hd2, trivial, fun od2 => ⟨_, rfl, d, od2, rfl, .inl ⟨_, upd_same, fun D2 hD2 => lc_keys (d := d) (od := od2) (kvs := cnt us ns)
      (fun i H' => H' = upd (upd H2 d (.frz od2 (.dK (cnt us ns)))) D2 (.lst (ivs ((us.take i).filter fun x => decide (ns.count x = ns.count t))))) rfl (fun i H' _ e => ?_) (fun i k v H' hi e => ?_) (fun H' e => ?_)⟩⟩⟩
    · rw [e, upd_ne (lock_ne hD2).symm]
      exact upd_same
    · subst e
      obtain ⟨x, hx, rfl, rfl⟩ := cnt_get hi
      refine ⟨rfl, _, rfl, _, rfl, d, iv (ns.count x), rfl, .inl ⟨cnt us ns, Sum.inl (x : Int), .inr ⟨od2, by rw [upd_ne (lock_ne hD2).symm]; exact upd_same⟩, rfl, ?_⟩, _, rfl, rfl, _, rfl, ?_⟩
      · rw [valV_cnt, if_pos (List.mem_of_getElem? hx)]
      · rw [take_succ hx, List.filter_append]
        refine ite2 (fun z => ?_) (fun z => ?_)
        · have z1 : iv (ns.count x) = V.int ((ns.count t : Nat) : Int) := of_decide_eq_true z
          have z2 : ns.count x = ns.count t := by
            have := V.int.inj z1
            omega
          refine ⟨_, rfl, _, upd_same, ?_, ?_⟩
          · rw [List.length_map]
            have h1 := List.length_filter_le (fun x => decide (ns.count x = ns.count t)) (us.take i)
            rw [List.length_take] at h1
            exact small1000 (by have := Nat.min_le_right i us.length; omega)
          · have ef : [x].filter (fun x => decide (ns.count x = ns.count t)) = [x] := List.filter_cons_of_pos (p := fun x => decide (ns.count x = ns.count t)) (decide_eq_true z2)
            rw [upd_upd, ef]
            show _ = upd _ D2 (.lst (List.map iv (_ ++ _)))
            rw [List.map_append]
            rfl
        · have z2 : ¬ ns.count x = ns.count t := fun q => z (decide_eq_true (by rw [q]))
          have ef : [x].filter (fun x => decide (ns.count x = ns.count t)) = [] := List.filter_cons_of_neg (p := fun x => decide (ns.count x = ns.count t)) (by simpa using z2)
          rw [ef, List.append_nil]
    subst e
    rw [e1, filter_one nd ht (decide_eq_true rfl) (fun x mx hx => by
      by_cases e : x = t
      · exact e
      · have h2 := count_two (ns := ns) e
        have h3 : ns.count x = ns.count t := of_decide_eq_true hx
        omega)]
    have s4 : Same H2 (upd (upd (upd H2 d (.frz od2 (.dK (cnt us ns)))) D2 (.lst (ivs [t]))) d (.dK (cnt us ns))) := same_lock hd2 hD2
    refine ⟨by rw [upd_ne (lock_ne hD2).symm]; exact upd_same, ?_⟩
    have hf : (upd (upd (upd H2 d (.frz od2 (.dK (cnt us ns)))) D2 (.lst (ivs [t]))) d (.dK (cnt us ns))) D2 = some (.lst (ivs [t])) := by
      rw [upd_ne (lock_ne hD2)]
      exact upd_same
    refine ⟨_, rfl, D2, ivs [t], rfl, .inl (SqL.of hf), _, _, rfl, rfl, _, rfl, ?_⟩
    refine iteF ?_
    refine ⟨_, rfl, D2, ivs [t], 0, iv t, rfl, rfl, SqL.of hf, atI_nat (j := 0) rfl, ?_⟩
    exact q _ (s2.trans (s3.trans s4))
end
end K71
namespace K71
open PySem L2
/-! ### rows: lists of numbers of one length, read at addresses -/
structure Rows (K : PySem.W.Frag) (H : Hp) (bs : List Addr) (rows : List (List Nat)) (n : Nat) : Prop where
  len : bs.length = rows.length
  row : ∀ (k : Nat) (b : Addr), bs[k]? = some b → ∃ r, rows[k]? = some r ∧ r.length = n ∧ SqL K H b (ivs r)
theorem Rows.same {K : PySem.W.Frag} {H H' : Hp} {bs : List Addr} {rows : List (List Nat)} {n : Nat} (s : Same H H') (h : Rows K H bs rows n) : Rows K H' bs rows n :=
  ⟨h.len, fun k b e => by
    obtain ⟨r, h1, h2, h3⟩ := h.row k b e
    exact ⟨r, h1, h2, s.seq h3⟩⟩
theorem refs_get {bs : List Addr} {i : Nat} {x : V} (h : (bs.map V.ref)[i]? = some x) : ∃ b, bs[i]? = some b ∧ x = V.ref b := by
  rw [List.getElem?_map] at h
  cases e : bs[i]? with
  | none =>
    rw [e] at h
    cases h
  | some u =>
    rw [e] at h
    exact ⟨u, rfl, (Option.some.inj h).symm⟩
theorem same_new {H H' : Hp} {p : Addr} {o : HO} (s : Same H H') (h : H p = none) : Same H (upd H' p o) := fun b x e => by
  rw [upd_ne (ne_of_none e h)]
  exact s b x e
def lcScope (e : Expr) : Scope := match e with
  | .ListComp _ _ sc _ => sc
  | _ => ⟨.function, [], false, false, []⟩
def retOf (s : Stmt) : Expr := match s with
  | .Return (some e) _ => e
  | _ => .Constant .none 0 ⟨0, 0, 0, 0⟩
abbrev scopeM : Scope := lcScope (retOf ((defBody sMerge).getD 1 (.Pass ⟨0, 0, 0, 0⟩)))
def col (rows : List (List Nat)) (i : Nat) : List Nat := rows.map fun r => r.getD i 0
section
variable {P : Program} {w : World} {K : PySem.W.Frag} {mg : Str → Option Value} {base : Heap}
def spMerge (K : PySem.W.Frag) : Sp := fun vs H Q _ => ∃ (a : Addr) (bs : List Addr) (rows : List (List Nat)) (T : List Nat), vs = [.ref a] ∧ SqL K H a (bs.map V.ref) ∧ Rows K H bs rows T.length ∧ 0 < rows.length ∧ rows.length ≤ 1000 ∧ T.length ≤ 1000 ∧
  (∀ i t, T[i]? = some t → rows.length < 2 * (col rows i).count t) ∧ ∀ H' p, Same H H' → H' p = some (.lst (ivs T)) → Q (.ref p) H'
theorem ok_merge {f : Addr} {fd : FuncData} (F : Fun K "merged" "merged" sMerge f fd) (DV : Df P w K mg base "voted_byte" 1 ["values"] (spVote K)) (gL : mg "len" = none) (gA : mg "all" = none) (gR : mg "range" = none) : FnOk P w K mg base CX0 2 f fd ["dumps"] (spMerge K) := by
  refine F.ok scMerge (fun vs H Q E h => ?_) (fun cdv A outer s H vs Q E hr h => ?_)
  · obtain ⟨a, bs, rows, T, rfl, _⟩ := h
    rfl
  · obtain ⟨a, bs, rows, T, rfl, hA, hR, h0, h1, hT, hmaj, q⟩ := h
    refine ⟨_, pss_cons (ps_if (PW.pt (pw_or (pt_cmpR op_eq (pe_len K gL (pv 0)) pe_int (nomark _)) (pw_or1 (pt_not (pt_val (pe_callB (cr_all rfl) (by rfl) gA (by decide +kernel) (pa_cons
        (pe_lc (own := [("dump", 1)]) (g := gName 1) (tt := tYes) rfl scMerge.nd (pi_list (pv 0)) (blkOk_by (own := [("dump", 1)]) (N := ["dumps", "dump", "at"]) (sc := defScope sMerge) (by decide +kernel))
          (fun _ _ _ _ _ => pg_name (i := 1) scMerge.nd rfl (Or.inl rfl)) (fun _ _ _ _ _ => pts_nil) (fun _ _ _ _ _ => pe_cmpR op_eq (pe_len K gL (pv 1)) (pe_len K gL (pe_ix (ix_listK K) (pv 0) pe_int (fun _ _ => rfl))) (nomark _))) pa_nil))))))) pss_never pss_nil)
      (pss_one (ps_ret (pe_lc (own := [("at", 2)]) (g := gName 2) (tt := tYes) rfl scMerge.nd (pi_range1 (by rfl) gR (pa_cons (pe_len K gL (pe_ix ix_list (pv 0) pe_int (fun _ _ => rfl))) pa_nil))
          (blkOk_by (own := [("at", 2)]) (N := ["dumps", "dump", "at"]) (sc := defScope sMerge) (by decide +kernel))
          (fun _ _ _ _ _ => pg_name (i := 2) scMerge.nd rfl (Or.inr rfl)) (fun _ _ _ _ _ => pts_nil) (fun _ _ _ _ _ => pe_df DV hr (by rfl) (pa_cons
            (pe_lc (own := [("dump", 1)]) (g := gName 1) (tt := tYes) (wi := iList K (tVar 0)) rfl scMerge.nd (pi_list (pv 0)) (blkOk_by (own := [("dump", 1)]) (N := ["dumps", "dump", "at"]) (sc := relS scopeM (defScope sMerge)) (by decide +kernel))
              (fun _ _ _ _ _ => pg_name (i := 1) scMerge.nd rfl (Or.inl rfl)) (fun _ _ _ _ _ => pts_nil) (fun _ _ _ _ _ => pe_ix (ix_listK K) (pv 1) (pv 2) (fun _ _ => rfl))) pa_nil))))), ?_⟩
    have hbl : bs.length = rows.length := hR.len
    obtain ⟨b0, hb0⟩ : ∃ b0, bs[0]? = some b0 := ⟨_, List.getElem?_eq_getElem (by omega)⟩
    obtain ⟨r0, hr0, hn0, hs0⟩ := hR.row 0 b0 hb0
    have hb0' : atI (bs.map V.ref) 0 = some (.ref b0) := atI_nat (j := 0) (by rw [List.getElem?_map, hb0]; rfl)
    refine ⟨_, rfl, a, bs.map V.ref, rfl, .inl hA, rfl, _, rfl, ite2 (fun z => ?_) (fun _ => ?_)⟩
    · have z1 : V.int ((bs.map V.ref).length : Int) = V.int 0 := of_decide_eq_true z
      have z2 := V.int.inj z1
      rw [List.length_map] at z2
      omega
    refine ⟨_, rfl, a, rfl, ⟨_, hA⟩, fun D hD => lc_list (K := K) (a := a) (xs := bs.map V.ref) (fun i H' => H' = upd H D (.lst ((yes i).map V.bl))) rfl (fun i H' _ e => by rw [e]; exact (same_upd hD).seq hA) (fun i x H' hi e => ?_) (fun H' e => ?_)⟩
    · subst e
      obtain ⟨b, hb, rfl⟩ := refs_get hi
      have s1 : Same H (upd H D (.lst ((yes i).map V.bl))) := same_upd hD
      obtain ⟨r, hr1, hr2, hr3⟩ := hR.row i b hb
      refine ⟨rfl, _, rfl, b, ivs r, rfl, .inl (s1.seq hr3), _, rfl, a, bs.map V.ref, _, _, rfl, rfl, s1.seq hA, hb0', b0, ivs r0, rfl, .inl (s1.seq hs0), rfl, _, upd_same, ?_, ?_⟩
      · rw [yes_len]
        exact small1000 (by have := lt_of_get hb; omega)
      · have e1 : decide (V.int ((ivs r).length : Int) = V.int ((ivs r0).length : Int)) = true := decide_eq_true (by rw [List.length_map, List.length_map, hr2, hn0])
        show upd (upd H D _) D (.lst ((yes i).map V.bl ++ [V.bl (decide (V.int ((ivs r).length : Int) = V.int ((ivs r0).length : Int)))])) = _
        rw [upd_upd, e1, yes_succ]
    subst e
    have s1 : Same H (upd H D (.lst ((yes (bs.map V.ref).length).map V.bl))) := same_upd hD
    refine ⟨D, _, rfl, SqL.of upd_same, _, rfl, ?_⟩
    rw [yes_all]
    refine iteF ?_
    generalize upd H D (.lst ((yes (bs.map V.ref).length).map V.bl)) = H1 at s1 ⊢
    have hT0 : ((ivs r0).length : Int) = (T.length : Int) := by rw [List.length_map, hn0]
    refine ⟨_, rfl, a, bs.map V.ref, _, _, rfl, rfl, s1.seq hA, hb0', b0, ivs r0, rfl, .inl (s1.seq hs0), (T.length : Int), by rw [hT0], by omega, by omega, fun D1 hD1 => lc_range (lo := 0) (n := ((T.length : Int)).toNat)
      (fun i H' => Same H1 H' ∧ H' D1 = some (.lst (ivs (T.take i)))) ⟨same_upd hD1, upd_same⟩ (fun i H' hi e => ?_) (fun H' e => ?_)⟩
    · obtain ⟨s2, hd1⟩ := e
      rw [Int.toNat_natCast] at hi
      obtain ⟨t, ht⟩ : ∃ t, T[i]? = some t := ⟨_, List.getElem?_eq_getElem hi⟩
      have hm := hmaj i t ht
      have e0 : (0 : Int) + (i : Int) = (i : Int) := by omega
      refine ⟨rfl, _, rfl, a, rfl, ⟨_, s2.seq (s1.seq hA)⟩, fun D2 hD2 => lc_list (K := K) (a := a) (xs := bs.map V.ref) (fun j H'' => H'' = upd H' D2 (.lst (ivs ((col rows i).take j)))) rfl (fun j H'' _ e => by rw [e]; exact (same_upd hD2).seq (s2.seq (s1.seq hA))) (fun j x H'' hj e => ?_) (fun H'' e => ?_)⟩
      · subst e
        obtain ⟨b, hb, rfl⟩ := refs_get hj
        have s3 : Same H (upd H' D2 (.lst (ivs ((col rows i).take j)))) := s1.trans (s2.trans (same_upd hD2))
        obtain ⟨r, hr1, hr2, hr3⟩ := hR.row j b hb
        obtain ⟨y, hy⟩ : ∃ y, r[i]? = some y := ⟨_, List.getElem?_eq_getElem (by omega)⟩
        have hc : (col rows i)[j]? = some y := by
          unfold col
          rw [List.getElem?_map, hr1]
          show some (r.getD i 0) = some y
          rw [List.getD_eq_getElem?_getD, hy]
          rfl
        refine ⟨rfl, _, rfl, _, rfl, b, ivs r, _, iv y, rfl, rfl, s3.seq hr3, ?_, _, upd_same, ?_, ?_⟩
        · rw [e0]
          exact atI_iv hy
        · rw [List.length_map, List.length_take]
          have hl : (col rows i).length = rows.length := by unfold col; rw [List.length_map]
          exact small1000 (by omega)
        · rw [upd_upd, take_succ hc]
          show _ = upd _ D2 (.lst (List.map iv (_ ++ [_])))
          rw [List.map_append]
          rfl
      · subst e
        have el : (col rows i).take (bs.map V.ref).length = col rows i := by
          rw [List.length_map, hbl]
          refine List.take_of_length_le ?_
          unfold col
          rw [List.length_map]
          exact Nat.le_refl _
        rw [el]
        have hl : (col rows i).length = rows.length := by unfold col; rw [List.length_map]
        have s3 : Same H' (upd H' D2 (.lst (ivs (col rows i)))) := same_upd hD2
        refine ⟨D2, col rows i, t, rfl, SqL.of upd_same, by omega, by omega, fun H3 s4 => ?_⟩
        have hd3 : H3 D1 = some (.lst (ivs (T.take i))) := s4 _ _ (s3 _ _ hd1)
        refine ⟨_, hd3, ?_, ?_, ?_⟩
        · rw [List.length_map, List.length_take]
          exact small1000 (by omega)
        · exact same_new (s2.trans (s3.trans s4)) hD1
        · rw [upd_same, take_succ ht]
          show _ = some (HO.lst (List.map iv (_ ++ [_])))
          rw [List.map_append]
          rfl
    · obtain ⟨s2, hd1⟩ := e
      rw [Int.toNat_natCast, List.take_length] at hd1
      exact q H' D1 (s1.trans s2) hd1
end
end K71
namespace K71
open PySem
open PySem.Spec
open PyProof.Rows
open L2
/-! ### sorted(d, reverse=b) of a dict with few keys, all nums: the keys are gathered, then sorted -/
/-- gathered items, place by place: the nums that the keys say -/
theorem gathered {prog : Program} {w : World} {pairs : List (Key × Value)} {nums : List Int} (same : pairs.map (fun q => q.1) = nums.map (fun i => (Sum.inl i : Key))) {got : List Value} (size : got.length = nums.length)
    (each : ∀ (n : Nat) (u : Value), got[n]? = some u → ∃ (key : Key) (x : Value), pairs[n]? = some (key, x) ∧ keyIs key u = true) : IntsAre got nums :=
  ints_each size fun n u at_n => by
    obtain ⟨key, x, here, is_⟩ := each n u at_n
    have there : (pairs.map (fun q => q.1))[n]? = some key := by
      rw [List.getElem?_map]
      rw [here]
      rfl
    rw [same] at there
    rw [List.getElem?_map] at there
    obtain ⟨i, at_i, ekey⟩ := Option.map_eq_some_iff.mp there
    rw [← ekey] at is_
    rcases keyIs_shape is_ with ⟨j, tk, ej, eu⟩ | ⟨_, _, ej, _⟩
    · have : i = j := Sum.inl.inj ej
      exact ⟨j, tk, this ▸ at_i, eu⟩
    · cases ej
section
variable {X : Cx}
def rSortedDR (b : Bool) : List V → List V → Hp → VK → Prop := fun given said H Q => ∃ (d : Addr) (kvs : List (Key × V)) (nums : List Int), given = [V.ref d] ∧ said = [V.bl b] ∧ Rd H d (.dK kvs) ∧ kvs.map (·.1) = nums.map Sum.inl ∧ nums.length < 64 ∧
  ∀ (outs : List Int) (new : Addr), outs.Perm nums → OrdB b outs → H new = none → Q (.ref new) (upd H new (.lst (outs.map V.int)))
theorem cr_sortedDR {b : Bool} (calm : X.calm = true) : CallRK X (.builtin "sorted") [Str.ofString "reverse"] (rSortedDR b) := by
  intro pins st slots H given said us ws Q inv rel1 rel2 wish
  obtain ⟨d, kvs, nums, rfl, rfl, read, names, few, wish⟩ := wish
  cases Vals.ref1 rel1
  obtain ⟨flag, rfl, eflag⟩ := vals1 rel2
  cases (show flag = Value.bool b from eflag)
  obtain ⟨_, low, pairs, rel, dict⟩ := dk_rd inv.hok read
  obtain ⟨epoch, stands⟩ := dict.dictAt
  have same : pairs.map (fun q => q.1) = nums.map (fun i => (Sum.inl i : Key)) := (rel.keys.symm).trans names
  have many : pairs.length = nums.length := by
    have := congrArg (fun l => l.length) same
    simpa using this
  have line : ∀ {n : Nat}, n = nums.length → n ≤ sizeLine := fun e => by
    rw [e]
    exact small64 few
  show wpAny (model X.prog X.w) X.A (call (.builtin "sorted") [.ref d] [(Str.ofString "reverse", Value.bool b)]) _ _ st
  refine call_function_entry_kw kind_sorted plain_sorted entry_sorted (args_sorted_rev _ _) ?_
  unfold Builtin.«sorted»
  refine wpAny_bind (m := checkCount "sorted" 1 1 _)
    (wpAny_pure (wpAny_bind (PySem.W.kdu_collect
      (PySem.W.kdl_dict (knd := mixKind X.prog X.w) low)
      (inv.ok.hd calm) stands (line many) fun hp tk got keeps items => ?_)))
  have count : got.toList.length = nums.length := by
    rw [Array.length_toList, items.1]
    exact many
  have are : IntsAre got.toList nums := gathered (prog := X.prog) (w := X.w) same count fun n u at_n => items.2 n u (by rw [← Array.getElem?_toList, at_n])
  have inv1 : L2.Inv X pins slots H { st with heap := hp, toks := tk } := inv.kept keeps
  refine wpAny_bind (wpAny_newList ?_
    (line count))
  have lies : (hp.push (seqObj "list" got.toList.toArray 0)).get? hp.objs.size = some (seqObj "list" got.toList.toArray 0) :=
    Heap.get?_push_size _ rfl
  show wpAny _ _ _ _ _
    { st with heap := hp.push (seqObj "list" got.toList.toArray 0), toks := tk }
  refine wpAny_bind (wpAny_holding (wpAny_call_entry_kw slot_list_sort ⟨_, lies, rfl⟩ entry_list_sort ?_ (args_list_sort_rev _ _)))
  refine SrtR.list_sort_ordR SrtO.swo_int lies (line count) (fun two => SrtO.ints_sortable are two) fun sorted_ ord stab => ⟨_, rfl, ?_⟩
  obtain ⟨outs, are', perm, order⟩ := SrtR.ints_outR are ord stab
  generalize (if b = true then sorted_.toArray.reverse else sorted_.toArray) = arr at are'
  obtain ⟨ep, now⟩ := sortedHeap_at (vs := got.toList) (out := arr) lies
  refine wpAny_pure ⟨_, rfl, .ref hp.objs.size, upd H hp.objs.size (.lst (outs.map V.int)), ?_, rfl, wish outs _ perm order (inv1.hok.fresh (Nat.le_refl _))⟩
  refine inv1.laid (t' := tk) (fun c u e => ?_) (Nat.le_refl _) ⟨?_, arr.toList, ep, vals_of_ints are', ?_⟩
  · have older := Heap.lt_size e
    refine (sortedHeap_old (Nat.ne_of_lt older) ?_).trans (Heap.get?_push_of_some _ e)
    rw [size_push']
    exact Nat.lt_succ_of_lt older
  · rw [List.length_map]
    exact line perm.length_eq
  · rw [Array.toArray_toList]
    exact now
end
end K71
namespace K71
open PySem L2
theorem Pl.len {a k : Nat} {pl : List Nat} (h : Pl a k pl) : pl.length ≤ k := by
  have h1 : pl ⊆ (List.range k).map (fun i => 8 * a + i) := fun q m => by
    have := h.2 q m
    exact List.mem_map.mpr ⟨q - 8 * a, List.mem_range.mpr (by omega), by omega⟩
  have h2 := List.Nodup.length_le_of_subset h.1 h1
  rwa [List.length_map, List.length_range] at h2
theorem inV_ivs (x : Nat) : ∀ xs : List Nat, inV (iv x) (ivs xs) = xs.contains x
  | [] => rfl
  | y :: r => by
    show ((eqV (iv y) (iv x)) || inV (iv x) (ivs r)) = ((x == y) || r.contains x)
    rw [inV_ivs x r]
    congr 1
    show ((y : Int) == (x : Int)) = (x == y)
    by_cases h : x = y
    · subst h
      simp
    · have h1 : ((y : Int) == (x : Int)) = false := by
        rw [beq_eq_false_iff_ne]
        omega
      have h2 : (x == y) = false := by
        rw [beq_eq_false_iff_ne]
        exact h
      rw [h1, h2]
theorem flat_ivs : ∀ xs : List Nat, (ivs xs).all flatV = true
  | [] => rfl
  | y :: r => by
    show (true && (ivs r).all flatV) = true
    rw [flat_ivs r]
    rfl
/-! ### a dict of digits: each with a tuple of a number and a list of places -/
def KvE (K : PySem.W.Frag) (H : Hp) : List (Key × V) → List Ent → Prop
  | [], [] => True
  | kv :: kvs, e :: E => (kv.1 = Sum.inl (e.1 : Int) ∧ ∃ t l, kv.2 = .ref t ∧ H t = some (.tup [iv e.2.1, .ref l]) ∧ SqL K H l (ivs e.2.2)) ∧ KvE K H kvs E
  | _, _ => False
section
variable {K : PySem.W.Frag}
theorem KvE.map {H H' : Hp} (ht : ∀ t xs, H t = some (.tup xs) → H' t = some (.tup xs)) (hl : ∀ l xs, SqL K H l xs → SqL K H' l xs) : ∀ {kvs : List (Key × V)} {E : List Ent}, KvE K H kvs E → KvE K H' kvs E
  | [], [], _ => trivial
  | kv :: kvs, e :: E, ⟨⟨h1, t, l, h2, h3, h4⟩, r⟩ => ⟨⟨h1, t, l, h2, ht _ _ h3, hl _ _ h4⟩, KvE.map ht hl r⟩
  | [], _ :: _, h => h.elim
  | _ :: _, [], h => h.elim
theorem KvE.same {H H' : Hp} (s : Same H H') {kvs : List (Key × V)} {E : List Ent} (h : KvE K H kvs E) : KvE K H' kvs E := h.map (fun t xs e => s _ _ e) (fun l xs e => s.seq e)
theorem KvE.len {H : Hp} : ∀ {kvs : List (Key × V)} {E : List Ent}, KvE K H kvs E → kvs.length = E.length
  | [], [], _ => rfl
  | kv :: kvs, e :: E, h => congrArg (· + 1) (KvE.len h.2)
  | [], _ :: _, h => h.elim
  | _ :: _, [], h => h.elim
theorem KvE.keys {H : Hp} : ∀ {kvs : List (Key × V)} {E : List Ent}, KvE K H kvs E → kvs.map (·.1) = ((E.map (·.1)).map fun n : Nat => (n : Int)).map Sum.inl
  | [], [], _ => rfl
  | kv :: kvs, e :: E, h => by
    rw [List.map_cons, List.map_cons, List.map_cons, List.map_cons, KvE.keys h.2, h.1.1]
  | [], _ :: _, h => h.elim
  | _ :: _, [], h => h.elim
theorem KvE.get {H : Hp} : ∀ {kvs : List (Key × V)} {E : List Ent}, KvE K H kvs E → ∀ {d r : Nat} {pl : List Nat}, lk E d = some (r, pl) → ∃ t l, valV kvs (Sum.inl (d : Int)) = some (.ref t) ∧ H t = some (.tup [iv r, .ref l]) ∧ SqL K H l (ivs pl)
  | [], [], _, _, _, _, e => by cases e
  | kv :: kvs, (g, x) :: E, h, d, r, pl, e => by
    obtain ⟨⟨h1, t, l, h2, h3, h4⟩, hr⟩ := h
    unfold lk at e
    rw [List.lookup_cons] at e
    cases hb : d == g with
    | true =>
      rw [hb] at e
      have e1 : d = g := by simpa using hb
      subst e1
      cases e
      exact ⟨t, l, by rw [valV_pos h1, h2], h3, h4⟩
    | false =>
      rw [hb] at e
      have e1 : d ≠ g := by simpa using hb
      obtain ⟨t', l', g1, g2, g3⟩ := KvE.get hr (d := d) (r := r) (pl := pl) e
      refine ⟨t', l', ?_, g2, g3⟩
      rw [valV_neg (fun q => ?_), g1]
      rw [h1] at q
      exact e1 (by have := Sum.inl.inj q; omega)
  | [], _ :: _, h, _, _, _, _ => h.elim
  | _ :: _, [], h, _, _, _, _ => h.elim
theorem KvE.none {H : Hp} : ∀ {kvs : List (Key × V)} {E : List Ent}, KvE K H kvs E → ∀ {d : Nat}, d ∉ E.map (·.1) → valV kvs (Sum.inl (d : Int)) = none
  | [], [], _, _, _ => rfl
  | kv :: kvs, (g, x) :: E, h, d, hn => by
    obtain ⟨⟨h1, _⟩, hr⟩ := h
    have hn' : d ≠ g ∧ d ∉ E.map (·.1) := ⟨fun q => hn (List.mem_cons.mpr (.inl q)), fun q => hn (List.mem_cons_of_mem _ q)⟩
    rw [valV_neg (fun q => ?_)]
    · exact KvE.none hr hn'.2
    · rw [h1] at q
      exact hn'.1 (by
        have := Sum.inl.inj q
        show d = g
        omega)
  | [], _ :: _, h, _, _ => h.elim
  | _ :: _, [], h, _, _ => h.elim
theorem KvE.snoc {H : Hp} : ∀ {kvs : List (Key × V)} {E : List Ent}, KvE K H kvs E → ∀ {d r : Nat} {pl : List Nat} {t l : Addr}, H t = some (.tup [iv r, .ref l]) → SqL K H l (ivs pl) → KvE K H (kvs ++ [(Sum.inl (d : Int), .ref t)]) (E ++ [(d, r, pl)])
  | [], [], _, d, r, pl, t, l, h1, h2 => ⟨⟨rfl, t, l, rfl, h1, h2⟩, trivial⟩
  | kv :: kvs, e :: E, h, d, r, pl, t, l, h1, h2 => ⟨h.1, KvE.snoc h.2 h1 h2⟩
  | [], _ :: _, h, _, _, _, _, _, _, _ => h.elim
  | _ :: _, [], h, _, _, _, _, _, _, _ => h.elim
/-- a span at p, its dict at d -/
def SpanAt (K : PySem.W.Frag) (C : Addr) (H : Hp) (p d : Addr) (E : List Ent) : Prop := ∃ (dx : Addr) (kvs : List (Key × V)), H p = some (.ins C dx [("kept", .ref d)]) ∧ H d = some (.dK kvs) ∧ KvE K H kvs E
theorem SpanAt.same {C : Addr} {H H' : Hp} {p d : Addr} {E : List Ent} (s : Same H H') (h : SpanAt K C H p d E) : SpanAt K C H' p d E := by
  obtain ⟨dx, kvs, h1, h2, h3⟩ := h
  exact ⟨dx, kvs, s _ _ h1, s _ _ h2, h3.same s⟩
end
/-- numbers and their order, from ints -/
theorem nats_of {ys : List Int} {l : List Nat} (hp : ys.Perm (l.map fun n : Nat => (n : Int))) (ho : ys.Pairwise (· ≥ ·)) : ∃ ds : List Nat, ys = ds.map (fun n : Nat => (n : Int)) ∧ ds.Perm l ∧ ds.Pairwise (· ≥ ·) := by
  refine ⟨ys.map Int.toNat, ?_, ?_, ?_⟩
  · rw [List.map_map]
    have : ∀ y ∈ ys, ((fun n : Nat => (n : Int)) ∘ Int.toNat) y = id y := fun y m => by
      obtain ⟨n, _, rfl⟩ := List.mem_map.mp (hp.mem_iff.mp m)
      rfl
    rw [List.map_congr_left this, List.map_id]
  · have h := hp.map Int.toNat
    rw [List.map_map] at h
    have e : (l.map (Int.toNat ∘ fun n : Nat => (n : Int))) = l := by
      have : (Int.toNat ∘ fun n : Nat => (n : Int)) = id := rfl
      rw [this, List.map_id]
    rwa [e] at h
  · rw [List.pairwise_map]
    exact ho.imp fun {a b} q => by
      show b.toNat ≤ a.toNat
      have q : b ≤ a := q
      omega
def pows : List Nat := [1, 2, 4, 8, 16, 32, 64, 128, 256, 512, 1024, 2048, 4096, 8192, 16384, 32768, 65536, 131072, 262144, 524288, 1048576, 2097152, 4194304, 8388608, 16777216]
theorem pows_at : ∀ d, d < 25 → pows[d]? = some (2 ^ d) := by decide
theorem bit_test (n d : Nat) : decide (V.int ((n : Int) / ((2 ^ d : Nat) : Int) % 2) = V.int 1) = n.testBit d := by
  rw [Nat.testBit_eq_decide_div_mod_eq]
  have e : (n : Int) / ((2 ^ d : Nat) : Int) % 2 = ((n / 2 ^ d % 2 : Nat) : Int) := rfl
  rw [e]
  by_cases h : n / 2 ^ d % 2 = 1
  · rw [h]
    rfl
  · rw [decide_eq_false h, decide_eq_false (fun q => h (by have := V.int.inj q; omega))]
end K71
namespace K71
open PySem L2
/-- the class Span, as it stands -/
structure SpanCls (K : PySem.W.Frag) (C : Addr) : Prop where
  cl : Cls K C
  nK : NoAttr K C "kept"
/-- a method that keeps a promise -/
def Md (P : Program) (w : World) (K : PySem.W.Frag) (mg : Str → Option Value) (base : Heap) (C : Addr) (m : Str) (k : Nat) (ps : List Str) (sp : Sp) : Prop :=
  ∃ (f : Addr) (fd : FuncData), Meth K C m f ∧ Binds K fd ps [] ∧ FnOk P w K mg base CX0 k f fd ps sp
theorem kept_at (d : Addr) : ([(("kept" : Str), V.ref d)] : List (Str × V)).lookup ("kept" : Str) = some (.ref d) := by
  rw [List.lookup_cons]
  simp
theorem kept_no (d : Addr) {m : Str} (h : ¬ m = "kept") : ([(("kept" : Str), V.ref d)] : List (Str × V)).lookup m = none := by
  rw [List.lookup_cons]
  have : (m == ("kept" : Str)) = false := by simpa using h
  rw [this]
  rfl
section
variable {P : Program} {w : World} {K : PySem.W.Frag} {mg : Str → Option Value} {base : Heap}
/-! ### __init__ -/
def spInit (C : Addr) : Sp := fun vs H Q _ => ∃ p dx : Addr, vs = [.ref p] ∧ H p = some (.ins C dx []) ∧ ∀ d, H d = none → Q .non (upd (upd H d (.dK [])) p (.ins C dx [("kept", .ref d)]))
theorem ok_init {f C : Addr} {fd : FuncData} (F : Fun K "__init__" "Span.__init__" sInit f fd) (T : SpanCls K C) : FnOk P w K mg base CX0 1 f fd ["self"] (spInit C) := by
  refine F.ok scInit (fun vs H Q E h => ?_) (fun cdv A outer s H vs Q E hr h => ?_)
  · obtain ⟨p, dx, rfl, _⟩ := h
    rfl
  · obtain ⟨p, dx, rfl, hp, q⟩ := h
    refine ⟨_, pss_one (ps_fld (pv 0) pe_dnewK rfl), ?_⟩
    intro d hd
    refine ⟨_, rfl, p, C, dx, [], rfl, (by rw [upd_ne (ne_of_none hp hd)]; exact hp), T.cl, T.nK, (by show 0 < 1000; decide), ?_⟩
    exact q d hd
/-! ### reduced -/
def spRed (K : PySem.W.Frag) (C : Addr) : Sp := fun vs H Q _ => ∃ (p d l : Addr) (n : Nat) (pl : List Nat) (E : List Ent) (a k : Nat), vs = [.ref p, iv n, .ref l] ∧ SpanAt K C H p d E ∧ SqL K H l (ivs pl) ∧ k ≤ 8 ∧ E.length ≤ 8 ∧ Tops E ∧ Pl a k pl ∧ (∀ e ∈ E, Pl a k e.2.2) ∧
  ∀ (ds : List Nat) (H' : Hp) (t l' : Addr), ds.Perm (E.map (·.1)) → ds.Pairwise (· ≥ ·) → Same H H' → H' t = some (.tup [iv (redAll E ds (n, pl)).1, .ref l']) → SqL K H' l' (ivs (redAll E ds (n, pl)).2) → Q (.ref t) H'
theorem red_pl {a k : Nat} {E : List Ent} (hE : ∀ e ∈ E, Pl a k e.2.2) : ∀ (ds : List Nat) (st : Nat × List Nat), Pl a k st.2 → Pl a k (redAll E ds st).2
  | [], _, h => h
  | d :: ds, st, h => by
    refine red_pl hE ds (redStep E st d) ?_
    unfold redStep
    split
    · split
      · rename_i r more e
        exact h.symd (hE _ (lk_mem e))
      · exact h
    · exact h
theorem red_take {E : List Ent} {ds : List Nat} {i d : Nat} (st : Nat × List Nat) (h : ds[i]? = some d) : redAll E (ds.take (i + 1)) st = redStep E (redAll E (ds.take i) st) d := by
  unfold redAll
  rw [take_succ h, List.foldl_append]
  rfl
theorem filter_snoc {xs : List Nat} {x : Nat} (f : Nat → Bool) : (xs ++ [x]).filter f = if f x = true then xs.filter f ++ [x] else xs.filter f := by
  rw [List.filter_append]
  cases e : f x with
  | true =>
    rw [List.filter_cons_of_pos e]
    rfl
  | false =>
    rw [List.filter_cons_of_neg (by rw [e]; decide)]
    simp
theorem ok_red {f C : Addr} {fd : FuncData} (F : Fun K "reduced" "Span.reduced" sRed f fd) (T : SpanCls K C) (DX : Df P w K mg base "exclusive" 1 ["first", "second"] spExcl) (gP : Gt K mg "POWERS" (ivs pows)) (gS : mg "sorted" = none) : FnOk P w K mg base CX0 2 f fd ["self", "number", "places"] (spRed K C) := by
  obtain ⟨aP, gP, tP⟩ := gP
  refine F.ok scRed (fun vs H Q E h => ?_) (fun cdv A outer s H vs Q E hr h => ?_)
  · obtain ⟨p, d, l, n, pl, E, a, k, rfl, _⟩ := h
    rfl
  · obtain ⟨p, d, l, n, pl, En, a, k, rfl, hSp, hL, hk, hEl, hT, hpl, hE, q⟩ := h
    have hu := hu_of hr
    refine ⟨_, pss_cons (ps_for PassesOwn.never rfl (pi_list (pe_callBK (cr_sortedDR (b := true) rfl) (by rfl) gS (by decide +kernel) (pa_cons (pe_fld (pv 0) rfl) pa_nil) (pk_cons pe_bl pk_nil))) (pg_name (i := 3) scRed.nd rfl (.inl rfl))
        (pss_one (ps_if (pt_cmpR op_eq (pe_op op_mod (pe_op op_fdiv (pv 1) (pe_ix ix_tup (pe_glob (v := .ref aP) rfl gP rfl) (pv 3) (fun _ _ => rfl))) pe_int) pe_int (nomark _))
          (pss_cons (ps_asg (pe_dget hu (pe_fld (pv 0) rfl) (pv 3) (fun _ _ => rfl)) (pg_tup (by rfl) (pgs_cons (pg_name (i := 4) scRed.nd rfl (.inl rfl)) (pgs_cons (pg_name (i := 5) scRed.nd rfl (.inr rfl)) pgs_nil))))
          (pss_cons (ps_set (i := 1) scRed.nd rfl (.inl rfl) (pe_df DX hr rfl (pa_cons (pv 1) (pa_cons (pv 4) pa_nil))))
          (pss_cons (ps_setLc (i := 7) (own := [("place", 6)]) (g := gName 6) (tt := tTest (tOp (rIn K true) (tVar 6) (tVar 5))) (by rfl) scRed.nd rfl rfl (sw_true rfl rfl rfl (by decide +kernel)) (pi_list (pv 2)) (blkOk_by (own := [("place", 6)]) (N := ["self", "number", "places", "digit", "other", "more", "place", "kept"]) (sc := defScope sRed) (by decide +kernel))
              (fun _ _ _ _ _ => pg_name (i := 6) scRed.nd rfl (Or.inl rfl)) (fun _ _ _ _ _ => pts_one (pt_cmpR (op_notInK K) (pv 6) (pv 5) (by rfl))) (fun _ _ _ _ _ => pv 6))
          (pss_one (ps_set (i := 2) scRed.nd rfl (.inr rfl) (pe_op op_cat (pv 7) (pe_lc (own := [("place", 6)]) (g := gName 6) (tt := tTest (tOp (rIn K true) (tVar 6) (tVar 2))) rfl scRed.nd (pi_list (pv 5)) (blkOk_by (own := [("place", 6)]) (N := ["self", "number", "places", "digit", "other", "more", "place", "kept"]) (sc := defScope sRed) (by decide +kernel))
              (fun _ _ _ _ _ => pg_name (i := 6) scRed.nd rfl (Or.inl rfl)) (fun _ _ _ _ _ => pts_one (pt_cmpR (op_notInK K) (pv 6) (pv 2) (by rfl))) (fun _ _ _ _ _ => pv 6)))))))) pss_nil)))
      (pss_one (ps_ret (pe_tup (pa_cons (pv 1) (pa_cons (pv 2) pa_nil))))), ?_⟩
    obtain ⟨dx, kvs, hp, hd, hkv⟩ := hSp
    refine ⟨_, rfl, p, C, dx, _, _, rfl, hp, T.cl, T.nK, kept_at d, d, kvs, _, rfl, rfl, .inl hd, hkv.keys, ?_, fun ys l0 hperm hord hl0 => ?_⟩
    · rw [List.length_map, List.length_map]
      omega
    obtain ⟨ds, rfl, hds, hge⟩ := nats_of hperm hord
    have hds63 : ds.length ≤ 8 := by
      have h := hds.length_eq
      rw [List.length_map] at h
      omega
    rw [← ivs_int]
    have s1 : Same H (upd H l0 (.lst (ivs ds))) := same_upd hl0
    have hl1 : SqL K (upd H l0 (.lst (ivs ds))) l0 (ivs ds) := SqL.of upd_same
    generalize upd H l0 (.lst (ivs ds)) = H1 at s1 hl1 ⊢
    refine ⟨l0, rfl, ⟨_, hl1⟩, for_list (K := K) (a := l0) (xs := ivs ds) (fun i σ H' => ∃ (l' : Addr) (c3 c4 c5 c6 c7 : Option V), σ = [some (.ref p), some (iv (redAll En (ds.take i) (n, pl)).1), some (.ref l'), c3, c4, c5, c6, c7] ∧ Same H1 H' ∧ SqL K H' l' (ivs (redAll En (ds.take i) (n, pl)).2))
      ⟨l, none, none, none, none, none, rfl, Same.refl _, s1.seq hL⟩ (fun i σ H' _ h => ?_) (fun i x σ H' hi h => ?_) (fun σ H' h => ?_)⟩
    · obtain ⟨_, _, _, _, _, _, _, s2, _⟩ := h
      exact s2.seq hl1
    · obtain ⟨l', c3, c4, c5, c6, c7, rfl, s2, hL'⟩ := h
      obtain ⟨g, hg, rfl⟩ := ivs_get hi
      have hgE : g ∈ En.map (·.1) := hds.mem_iff.mp (List.mem_of_getElem? hg)
      have hg16 : g < 16 := by
        obtain ⟨e, me, rfl⟩ := List.mem_map.mp hgE
        exact (hT e me).1
      have hst := red_take (E := En) (n, pl) hg
      have hplI : Pl a k (redAll En (ds.take i) (n, pl)).2 := red_pl hE _ _ hpl
      obtain ⟨r, more, hlk⟩ := lk_some hgE
      have hmore : Pl a k more := hE _ (lk_mem hlk)
      obtain ⟨t, lm, hval, ht, hlm⟩ := hkv.get hlk
      generalize redAll En (ds.take i) (n, pl) = st at hst hplI hL' ⊢
      obtain ⟨m, pls⟩ := st
      have hw0 : 0 < 2 ^ g := Nat.two_pow_pos _
      have hw1 : 2 ^ g ≤ 2 ^ 16 := Nat.pow_le_pow_right (by decide) (by omega)
      have s3 : Same H H' := s1.trans s2
      refine ⟨_, rfl, _, rfl, aP, ivs pows, _, iv (2 ^ g), rfl, rfl, tP.sq _, atI_iv (pows_at g (by omega)), _, _, rfl, rfl, ⟨by omega, by omega⟩, _, _, rfl, rfl, (by show (0 : Int) < 2; decide), rfl, _, rfl, ?_⟩
      have hb : decide (V.int ((m : Int) / ((2 ^ g : Nat) : Int) % 2) = V.int 1) = m.testBit g := bit_test m g
      unfold redStep at hst
      refine ite2 (fun z => ?_) (fun z => ?_)
      · have z1 : m.testBit g = true := by
          rw [← hb]
          exact z
        have hst : redAll En (ds.take (i + 1)) (n, pl) = (m ^^^ r, symd pls more) := by
          rw [hst]
          show (if m.testBit g = true then (match lk En g with | some (r, more) => (m ^^^ r, symd pls more) | none => (m, pls)) else (m, pls)) = _
          rw [if_pos z1, hlk]
        refine ⟨_, rfl, p, C, dx, _, _, rfl, s3 _ _ hp, T.cl, T.nK, kept_at d, _, rfl, d, .ref t, rfl, .inl ⟨kvs, Sum.inl (g : Int), .inl (s3 _ _ hd), rfl, hval.symm⟩, t, [iv r, .ref lm], rfl, SqT.of (s3 _ _ ht), rfl, iv r, [.ref lm], rfl, .ref lm, [], rfl, rfl, ?_⟩
        refine ⟨_, rfl, _, rfl, m, r, rfl, ?_⟩
        refine ⟨_, rfl, l', rfl, ⟨_, hL'⟩, fun D hD => lc_list (K := K) (a := l') (xs := ivs pls) (fun j H'' => H'' = upd H' D (.lst (ivs ((pls.take j).filter fun x => !more.contains x)))) rfl (fun j H'' _ e => by rw [e]; exact (same_upd hD).seq hL') (fun j x H'' hj e => ?_) (fun H'' e => ?_)⟩
        · subst e
          obtain ⟨y, hy, rfl⟩ := ivs_get hj
          refine ⟨rfl, _, rfl, _, rfl, lm, ivs more, rfl, .inl ((s3.trans (same_upd hD)).seq hlm), rfl, flat_ivs _, _, rfl, ?_⟩
          rw [take_succ hy, filter_snoc]
          have ec : (!inV (iv y) (ivs more)) = !more.contains y := by rw [inV_ivs]
          show if (!inV (iv y) (ivs more)) = true then _ else _
          rw [ec]
          refine ite2 (fun w1 => ?_) (fun w1 => ?_)
          · refine ⟨_, rfl, _, upd_same, ?_, ?_⟩
            · rw [List.length_map]
              have h1 := List.length_filter_le (fun x => !more.contains x) (pls.take j)
              rw [List.length_take] at h1
              have h2 := hplI.len
              have h2 : pls.length ≤ k := h2
              exact small1000 (by have := Nat.min_le_right j pls.length; omega)
            · rw [upd_upd, if_pos w1]
              show _ = upd _ D (.lst (List.map iv (_ ++ [_])))
              rw [List.map_append]
              rfl
          · rw [if_neg w1]
        subst e
        have ek : pls.take (ivs pls).length = pls := by
          rw [List.length_map]
          exact List.take_length
        rw [ek]
        have s4 : Same H' (upd H' D (.lst (ivs (pls.filter fun x => !more.contains x)))) := same_upd hD
        have hDk : (upd H' D (.lst (ivs (pls.filter fun x => !more.contains x)))) D = some (.lst (ivs (pls.filter fun x => !more.contains x))) := upd_same
        generalize upd H' D (.lst (ivs (pls.filter fun x => !more.contains x))) = H2 at s4 hDk ⊢
        refine ⟨_, rfl, _, rfl, lm, rfl, ⟨_, s4.seq (s3.seq hlm)⟩, fun D2 hD2 => lc_list (K := K) (a := lm) (xs := ivs more) (fun j H'' => H'' = upd H2 D2 (.lst (ivs ((more.take j).filter fun x => !pls.contains x)))) rfl (fun j H'' _ e => by rw [e]; exact (same_upd hD2).seq (s4.seq (s3.seq hlm))) (fun j x H'' hj e => ?_) (fun H'' e => ?_)⟩
        · subst e
          obtain ⟨y, hy, rfl⟩ := ivs_get hj
          refine ⟨rfl, _, rfl, _, rfl, l', ivs pls, rfl, .inl ((s4.trans (same_upd hD2)).seq hL'), rfl, flat_ivs _, _, rfl, ?_⟩
          rw [take_succ hy, filter_snoc]
          have ec : (!inV (iv y) (ivs pls)) = !pls.contains y := by rw [inV_ivs]
          show if (!inV (iv y) (ivs pls)) = true then _ else _
          rw [ec]
          refine ite2 (fun w1 => ?_) (fun w1 => ?_)
          · refine ⟨_, rfl, _, upd_same, ?_, ?_⟩
            · rw [List.length_map]
              have h1 := List.length_filter_le (fun x => !pls.contains x) (more.take j)
              rw [List.length_take] at h1
              have h2 := hmore.len
              exact small1000 (by have := Nat.min_le_right j more.length; omega)
            · rw [upd_upd, if_pos w1]
              show _ = upd _ D2 (.lst (List.map iv (_ ++ [_])))
              rw [List.map_append]
              rfl
          · rw [if_neg w1]
        subst e
        have ek2 : more.take (ivs more).length = more := by
          rw [List.length_map]
          exact List.take_length
        rw [ek2]
        have s5 : Same H2 (upd H2 D2 (.lst (ivs (more.filter fun x => !pls.contains x)))) := same_upd hD2
        refine ⟨D, D2, _, _, rfl, rfl, s5 _ _ hDk, upd_same, ?_, fun q1 nq1 => ?_⟩
        · rw [List.length_map, List.length_map]
          have h1 := List.length_filter_le (fun x => !pls.contains x) more
          have h2 := List.length_filter_le (fun x => !more.contains x) pls
          have h3 := hmore.len
          have h4 : pls.length ≤ k := hplI.len
          exact Nat.le_of_lt (small1000 (by omega))
        · rw [hst]
          refine ⟨q1, some (iv g), some (iv r), some (.ref lm), c6, some (.ref D), rfl, s2.trans (s4.trans (s5.trans (same_upd nq1))), ?_⟩
          have e : ivs (symd pls more) = ivs (pls.filter fun x => !more.contains x) ++ ivs (more.filter fun x => !pls.contains x) := List.map_append
          show SqL K _ q1 (ivs (symd pls more))
          rw [e]
          exact SqL.of upd_same
      · have z1 : ¬ m.testBit g = true := by
          rw [← hb]
          exact z
        have hst : redAll En (ds.take (i + 1)) (n, pl) = (m, pls) := by
          rw [hst]
          show (if m.testBit g = true then (match lk En g with | some (r, more) => (m ^^^ r, symd pls more) | none => (m, pls)) else (m, pls)) = _
          rw [if_neg z1]
        rw [hst]
        exact ⟨l', some (iv g), c4, c5, c6, c7, rfl, s2, hL'⟩
    · obtain ⟨l', c3, c4, c5, c6, c7, rfl, s2, hL'⟩ := h
      have ek : ds.take (ivs ds).length = ds := by
        rw [List.length_map]
        exact List.take_length
      rw [ek] at hL' ⊢
      refine ⟨_, rfl, _, rfl, (by show 2 ≤ sizeLine; decide), fun t nt => ?_⟩
      exact q ds _ t l' hds hge (s1.trans (s2.trans (same_upd nt))) upd_same ((same_upd nt).seq hL')
end
end K71
namespace K71
open PySem L2
/-- all that was tracked is as it was, but the dict at d -/
def Bar (d : Addr) (H H' : Hp) : Prop := ∀ b o, b ≠ d → H b = some o → H' b = some o
theorem SqL.off {K : PySem.W.Frag} {H : Hp} {l d : Addr} {xs : List V} {kvs : List (Key × V)} {o : HO} (h : SqL K H l xs) (hd : H d = some (.dK kvs)) : SqL K (upd H d o) l xs := by
  rcases h with (h | ⟨ob, h⟩) | h
  · exact .inl (.inl (by rw [upd_ne (ne_of h hd (fun q => by cases q))]; exact h))
  · exact .inl (.inr ⟨ob, by rw [upd_ne (ne_of h hd (fun q => by cases q))]; exact h⟩)
  · exact .inr h
theorem Bar.seq {K : PySem.W.Frag} {H H' : Hp} {l d : Addr} {xs : List V} {kvs : List (Key × V)} (b : Bar d H H') (hd : H d = some (.dK kvs)) (h : SqL K H l xs) : SqL K H' l xs := by
  rcases h with (h | ⟨ob, h⟩) | h
  · exact .inl (.inl (b _ _ (ne_of h hd (fun q => by cases q)) h))
  · exact .inl (.inr ⟨ob, b _ _ (ne_of h hd (fun q => by cases q)) h⟩)
  · exact .inr h
theorem Bar.trans {d : Addr} {H H1 H2 : Hp} (a : Bar d H H1) (b : Bar d H1 H2) : Bar d H H2 := fun x o hx e => b x o hx (a x o hx e)
theorem Bar.of {d : Addr} {H H' : Hp} (s : Same H H') : Bar d H H' := fun x o _ e => s x o e
section
variable {P : Program} {w : World} {K : PySem.W.Frag} {mg : Str → Option Value} {base : Heap}
/-! ### add -/
def spAdd (K : PySem.W.Frag) (C : Addr) : Sp := fun vs H Q _ => ∃ (p d : Addr) (E : List Ent) (L : Nat → Nat) (a k : Nat), vs = [.ref p, iv (L (2 ^ (7 - k))), iv (8 * a + k)] ∧ SpanAt K C H p d E ∧ Lin L ∧ SpanInv L a k E ∧ k < 8 ∧
  ∀ (H' : Hp) (E' : List Ent), Bar d H H' → SpanAt K C H' p d E' → SpanInv L a (k + 1) E' → Q .non H'
theorem range_bits_snoc (rest i : Nat) : (List.range (i + 1)).filter (fun g => rest.testBit g) = if rest.testBit i = true then (List.range i).filter (fun g => rest.testBit g) ++ [i] else (List.range i).filter (fun g => rest.testBit g) := by
  rw [List.range_succ, filter_snoc]
theorem ok_add {f C : Addr} {fd : FuncData} (F : Fun K "add" "Span.add" sAdd f fd) (T : SpanCls K C) (MR : Md P w K mg base C "reduced" 2 ["self", "number", "places"] (spRed K C)) (gP : Gt K mg "POWERS" (ivs pows)) (gX : mg "max" = none) (gR : mg "range" = none) : FnOk P w K mg base CX0 3 f fd ["self", "number", "place"] (spAdd K C) := by
  obtain ⟨aP, gP, tP⟩ := gP
  obtain ⟨fR, fdR, mR, bR, GR⟩ := MR
  refine F.ok scAdd (fun vs H Q E h => ?_) (fun cdv A outer s H vs Q E hr h => ?_)
  · obtain ⟨p, d, E, L, a, k, rfl, _⟩ := h
    rfl
  · obtain ⟨p, d, En, L, a, k, rfl, hSp, hL, hI, hk, q⟩ := h
    have hu := hu_of hr
    refine ⟨_, pss_cons (ps_asg (pe_meth (pv 0) T.cl mR GR hr bR .nil pass0 (pa_cons (pv 1) (pa_cons (pe_lst (pa_cons (pv 2) pa_nil)) pa_nil))) (pg_tup (by rfl) (pgs_cons (pg_name (i := 3) scAdd.nd rfl (.inr rfl)) (pgs_cons (pg_name (i := 4) scAdd.nd rfl (.inl rfl)) pgs_nil))))
      (pss_one (ps_if (pt_cmpR op_gt (pv 3) pe_int (nomark _))
        (pss_cons (ps_set (i := 6) scAdd.nd rfl (.inl rfl) (pe_callB (cr_max rfl) (by rfl) gX (by decide +kernel) (pa_cons
          (pe_lc (own := [("at", 5)]) (g := gName 5) (tt := tTest (tOp rEq (tOp (rI (fun _ j => 0 < j) fun i j => V.int (i % j)) (tOp (rI CDiv fun i j => V.int (i / j)) (tVar 3) (tOp (rIxT K) (tC (.ref aP)) (tVar 5))) (tC (V.int 2))) (tC (V.int 1)))) rfl scAdd.nd (pi_range1 (by rfl) gR (pa_cons pe_int pa_nil))
            (blkOk_by (own := [("at", 5)]) (N := ["self", "number", "place", "rest", "places", "at", "digit"]) (sc := defScope sAdd) (by decide +kernel))
            (fun _ _ _ _ _ => pg_name (i := 5) scAdd.nd rfl (Or.inl rfl)) (fun _ _ _ _ _ => pts_one (pt_cmpR op_eq (pe_op op_mod (pe_op op_fdiv (pv 3) (pe_ix (ix_tupK K) (pe_glob (v := .ref aP) rfl gP rfl) (pv 5) (fun _ _ => rfl))) pe_int) pe_int (nomark _))) (fun _ _ _ _ _ => pv 5)) pa_nil)))
        (pss_one (ps_dput hu (pe_fld (pv 0) rfl) (pv 6) (pe_tup (pa_cons (pv 3) (pa_cons (pv 4) pa_nil))) rfl))) pss_nil)), ?_⟩
    obtain ⟨dx, kvs, hp, hd, hkv⟩ := id hSp
    refine ⟨_, rfl, p, dx, _, rfl, hp, kept_no d (by decide +kernel), _, rfl, _, rfl, (by show 1 ≤ sizeLine; decide), fun l hl => ?_⟩
    have s1 : Same H (upd H l (.lst [iv (8 * a + k)])) := same_upd hl
    refine ⟨p, d, l, L (2 ^ (7 - k)), [8 * a + k], En, a, k + 1, rfl, hSp.same s1, SqL.of upd_same, by omega, by rw [hI.len]; omega, hI.top, ⟨by simp, fun q m => ?_⟩, fun e m => (hI.pls e m).1.mono (Nat.le_succ k), fun ds H2 t l' hds hge s2 ht hl' => ?_⟩
    · have : q = 8 * a + k := by simpa using m
      omega
    obtain ⟨hlt, hne, hadd⟩ := hI.add hL hk hds hge
    generalize redAll En ds (L (2 ^ (7 - k)), [8 * a + k]) = st at hlt hne hadd ht hl'
    obtain ⟨rest, pls⟩ := st
    have hlt : rest < 65536 := hlt
    have hne : rest ≠ 0 := hne
    refine ⟨t, [iv rest, .ref l'], rfl, SqT.of ht, rfl, iv rest, [.ref l'], rfl, .ref l', [], rfl, rfl, ?_⟩
    refine ⟨_, rfl, _, _, rfl, rfl, _, rfl, ite2 (fun _ => ?_) (fun z => absurd (decide_eq_true (by show (0 : Int) < (rest : Int); omega)) z)⟩
    have s3 : Same H H2 := s1.trans s2
    refine ⟨16, rfl, by decide, by decide, fun D hD => lc_range (lo := 0) (n := 16) (fun i H' => H' = upd H2 D (.lst (ivs ((List.range i).filter fun g => rest.testBit g)))) rfl (fun i H' hi e => ?_) (fun H' e => ?_)⟩
    · subst e
      have e0 : (0 : Int) + (i : Int) = (i : Int) := by omega
      have hw0 : 0 < 2 ^ i := Nat.two_pow_pos _
      have hw1 : 2 ^ i ≤ 2 ^ 16 := Nat.pow_le_pow_right (by decide) (by omega)
      refine ⟨rfl, _, rfl, _, rfl, aP, ivs pows, _, iv (2 ^ i), rfl, rfl, tP.sq _, by rw [e0]; exact atI_iv (pows_at i (by omega)), _, _, rfl, rfl, ⟨by omega, by omega⟩, _, _, rfl, rfl, (by show (0 : Int) < 2; decide), rfl, _, rfl, ?_⟩
      rw [range_bits_snoc]
      have hb : decide (V.int ((rest : Int) / ((2 ^ i : Nat) : Int) % 2) = V.int 1) = rest.testBit i := bit_test rest i
      refine ite2 (fun z => ?_) (fun z => ?_)
      · have z1 : rest.testBit i = true := by rw [← hb]; exact z
        refine ⟨_, rfl, _, upd_same, ?_, ?_⟩
        · rw [List.length_map]
          have h1 := List.length_filter_le (fun g => rest.testBit g) (List.range i)
          rw [List.length_range] at h1
          exact small1000 (by omega)
        · rw [upd_upd, if_pos z1, e0]
          show _ = upd _ D (.lst (List.map iv (_ ++ [_])))
          rw [List.map_append]
          rfl
      · have z1 : ¬ rest.testBit i = true := by rw [← hb]; exact z
        rw [if_neg z1]
    subst e
    have s4 : Same H2 (upd H2 D (.lst (ivs ((List.range 16).filter fun g => rest.testBit g)))) := same_upd hD
    have hDl : SqL K (upd H2 D (.lst (ivs ((List.range 16).filter fun g => rest.testBit g)))) D (ivs ((List.range 16).filter fun g => rest.testBit g)) := SqL.of upd_same
    generalize upd H2 D (.lst (ivs ((List.range 16).filter fun g => rest.testBit g))) = H3 at s4 hDl ⊢
    rw [ivs_int] at hDl
    refine ⟨D, _, rfl, hDl, ?_, fun m hm hle => ?_⟩
    · obtain ⟨j, hj⟩ := Nat.exists_testBit_of_ne_zero hne
      have hj16 : j < 16 := by
        refine Nat.lt_of_not_le fun h => ?_
        have h2 : rest.testBit j = false := Nat.testBit_lt_two_pow (Nat.lt_of_lt_of_le hlt (Nat.pow_le_pow_right (n := 2) (by decide) h))
        rw [h2] at hj
        cases hj
      rw [List.length_map]
      exact List.length_pos_of_mem (List.mem_filter.mpr ⟨List.mem_range.mpr hj16, hj⟩)
    obtain ⟨g, hg, rfl⟩ := List.mem_map.mp hm
    obtain ⟨hg1, hg2⟩ := List.mem_filter.mp hg
    have hg16 : g < 16 := List.mem_range.mp hg1
    have htop : ∀ j, g < j → rest.testBit j = false := fun j hj => by
      by_cases h16 : j < 16
      · cases hb : rest.testBit j with
        | false => rfl
        | true =>
          have := hle (j : Int) (List.mem_map.mpr ⟨j, List.mem_filter.mpr ⟨List.mem_range.mpr h16, hb⟩, rfl⟩)
          omega
      · exact Nat.testBit_lt_two_pow (Nat.lt_of_lt_of_le hlt (show 2 ^ 16 ≤ 2 ^ j from Nat.pow_le_pow_right (by decide) (Nat.le_of_not_lt h16)))
    obtain ⟨hgn, hI'⟩ := hadd g hg16 hg2 htop
    refine ⟨_, rfl, _, rfl, (by show 2 ≤ sizeLine; decide), fun tt ntt => ?_⟩
    have s5 : Same H (upd H3 tt (.tup [iv rest, .ref l'])) := s3.trans (s4.trans (same_upd ntt))
    have hl4 : SqL K (upd H3 tt (.tup [iv rest, .ref l'])) l' (ivs pls) := (s4.trans (same_upd ntt)).seq hl'
    have htt : (upd H3 tt (.tup [iv rest, .ref l'])) tt = some (.tup [iv rest, .ref l']) := upd_same
    generalize upd H3 tt (.tup [iv rest, .ref l']) = H4 at s5 hl4 htt ⊢
    have hd4 := s5 _ _ hd
    refine ⟨_, rfl, p, C, dx, _, _, rfl, s5 _ _ hp, T.cl, T.nK, kept_at d, _, rfl, d, _, rfl, DPut.k (k := Sum.inl (g : Int)) hd4 ?_, ?_⟩
    · rw [hkv.len, hI.len]
      exact small1000 (by omega)
    · rw [putK_new _ (hkv.none hgn)]
      refine q _ _ (fun b o hb e => by rw [upd_ne hb]; exact s5 _ _ e) ⟨dx, _, ?_, upd_same, ?_⟩ hI'
      · rw [upd_ne (ne_of (s5 _ _ hp) hd4 (fun z => by cases z))]
        exact s5 _ _ hp
      · exact ((hkv.same s5).snoc (d := g) htt hl4).map (fun t xs e => by rw [upd_ne (ne_of e hd4 (fun z => by cases z))]; exact e) (fun l xs e => SqL.off e hd4)
end
end K71
namespace K71
/-! ### bits of one byte set and cleared; what the checksum says of it -/
def clr (v : Nat) : Nat → Nat
  | 0 => v
  | i + 1 => setBit (clr v i) i 0
theorem clr8 : ∀ v, v < 256 → clr v 8 = 0 := by decide +kernel
theorem setBit0 : ∀ k, k < 8 → setBit 0 k 1 = 2 ^ (7 - k) := by decide +kernel
theorem setBit_xor : ∀ x, x < 256 → ∀ k, k < 8 → x.testBit (7 - k) = false → setBit x k 1 = x ^^^ 2 ^ (7 - k) := by decide +kernel
theorem withBit_set {ns : List Nat} {a : Nat} (ha : a < ns.length) (x : Nat) {q : Nat} (h1 : 8 * a ≤ q) (h2 : q < 8 * a + 8) (b : Nat) : withBit (ns.set a x) q b = ns.set a (setBit x (q % 8) b) := by
  have e1 : q / 8 = a := by omega
  unfold withBit
  rw [e1, List.set_set]
  congr 2
  rw [List.getD_eq_getElem?_getD, List.getElem?_set_self ha]
  rfl
theorem set_split {ns : List Nat} {a : Nat} (ha : a < ns.length) (x : Nat) : ns.set a x = ns.take a ++ x :: ns.drop (a + 1) := by
  rw [List.set_eq_take_append_cons_drop, if_pos ha]
theorem crc_set {ns : List Nat} {a : Nat} (ha : a < ns.length) (x y : Nat) : crcN (ns.set a x) ^^^ crcN (ns.set a y) = Lc a (ns.length - 1 - a) (x ^^^ y) := by
  rw [set_split ha, set_split ha, crc_diff, List.length_take, List.length_drop, Nat.min_eq_left (Nat.le_of_lt ha)]
  congr 1
  omega
theorem chg_eq {n a i : Nat} (ha : a < n) (hi : i < 8) : chg n (8 * a + i) = Lc a (n - 1 - a) (2 ^ (7 - i)) := by
  unfold chg
  have hl : a < (List.replicate n 0).length := by rw [List.length_replicate]; exact ha
  have e0 : List.replicate n 0 = (List.replicate n 0).set a 0 := by
    refine List.ext_getElem? fun j => ?_
    by_cases h : a = j
    · subst h
      rw [List.getElem?_set_self hl, List.getElem?_replicate, if_pos ha]
    · rw [List.getElem?_set_ne h]
  have e1 : withBit (List.replicate n 0) (8 * a + i) 1 = (List.replicate n 0).set a (2 ^ (7 - i)) := by
    have h := withBit_set hl 0 (q := 8 * a + i) (by omega) (by omega) 1
    rw [← e0] at h
    rw [h, show (8 * a + i) % 8 = i by omega, setBit0 i hi]
  have h := crc_set hl 0 (2 ^ (7 - i))
  rw [List.length_replicate, Nat.zero_xor, ← e0] at h
  rw [e1]
  exact h
theorem lin_Lc (n m : Nat) : Lin (Lc n m) := ⟨Lc_lin n m, fun b hb h => Lc_inj n m hb h, Lc_lt n m⟩
theorem B_take {pl : List Nat} {i q : Nat} (h : pl[i]? = some q) : B (pl.take (i + 1)) = B (pl.take i) ^^^ 2 ^ (7 - q % 8) := by
  rw [take_succ h, B_append]
  congr 1
  rw [B_cons]
  exact Nat.xor_zero _
theorem set_place {a : Nat} {pl : List Nat} (h : Pl a 8 pl) {i q : Nat} (hq : pl[i]? = some q) : setBit (B (pl.take i)) (q % 8) 1 = B (pl.take (i + 1)) := by
  have mq := h.2 q (List.mem_of_getElem? hq)
  rw [B_take hq]
  refine setBit_xor _ (B_lt _) _ (Nat.mod_lt _ (by decide)) ?_
  refine B_high (a := a) (fun p m => h.2 p (List.mem_of_mem_take m)) q mq.1 mq.2 fun m => ?_
  have nd := h.1
  have hi := lt_of_get hq
  rw [← List.take_append_drop i pl] at nd
  rw [drop_get hq] at nd
  exact (List.nodup_append.mp nd).2.2 q m q List.mem_cons_self rfl
end K71
namespace K71
open PySem L2
def eight (a : Nat) : List Nat := (List.range 8).map fun i => 8 * a + i
theorem eight_get {a i : Nat} (h : i < 8) : (eight a)[i]? = some (8 * a + i) := by
  unfold eight
  rw [List.getElem?_map, List.getElem?_range h]
  rfl
theorem eight_len (a : Nat) : (eight a).length = 8 := by
  unfold eight
  rw [List.length_map, List.length_range]
theorem eight_of {a i x : Nat} (h : (eight a)[i]? = some x) : i < 8 ∧ x = 8 * a + i := by
  have hi := lt_of_get h
  rw [eight_len] at hi
  rw [eight_get hi] at h
  exact ⟨hi, (Option.some.inj h).symm⟩
section
variable {P : Program} {w : World} {K : PySem.W.Frag} {mg : Str → Option Value} {base : Heap}
/-- what is known of the class Span -/
structure SpanOk (P : Program) (w : World) (K : PySem.W.Frag) (mg : Str → Option Value) (base : Heap) (C : Addr) : Prop where
  cls : SpanCls K C
  gC : mg "Span" = some (.ref C)
  init : ∃ (f : Addr) (fd : FuncData), Mk K C f ∧ Binds K fd ["self"] [] ∧ FnOk P w K mg base CX0 1 f fd ["self"] (spInit C)
  red : Md P w K mg base C "reduced" 2 ["self", "number", "places"] (spRed K C)
  add : Md P w K mg base C "add" 3 ["self", "number", "place"] (spAdd K C)
/-! ### span_of -/
def spSpan (K : PySem.W.Frag) (C : Addr) : Sp := fun vs H Q _ => ∃ (av au : Addr) (ns : List Nat) (a v : Nat), vs = [.ref av, .ref au] ∧ SqL K H av (ivs ns) ∧ SqL K H au (ivs (eight a)) ∧ ns.length ≤ 1000 ∧ ns[a]? = some v ∧ v < 256 ∧
  ∀ (H' : Hp) (t l p d : Addr) (E : List Ent), Same H H' → H' t = some (.tup [.ref l, .ref p]) → SqL K H' l (ivs (ns.set a 0)) → SpanAt K C H' p d E → SpanInv (Lc a (ns.length - 1 - a)) a 8 E → Q (.ref t) H'
theorem ok_span {f C : Addr} {fd : FuncData} (F : Fun K "span_of" "span_of" sSpan f fd) (S : SpanOk P w K mg base C) (DW : Df P w K mg base "with_bit" 1 ["values", "place", "bit"] (spWith K)) (DC : Df P w K mg base "crc_change" 4 ["length", "place"] spChg)
    (gL : mg "len" = none) (gI : mg "list" = none) : FnOk P w K mg base CX0 5 f fd ["values", "unknown"] (spSpan K C) := by
  obtain ⟨T, gC, ⟨fI, fdI, M, bI, GI⟩, _, ⟨fA, fdA, mA, bA, GA⟩⟩ := S
  refine F.ok scSpan (fun vs H Q E h => ?_) (fun cdv A outer s H vs Q E hr h => ?_)
  · obtain ⟨av, au, ns, a, v, rfl, _⟩ := h
    rfl
  · obtain ⟨av, au, ns, a, v, rfl, hV, hU, hlen, hv, hv256, q⟩ := h
    have ha := lt_of_get hv
    have hr1 : Room 1 _ := hr.mono (by decide)
    have hr2 : Room 2 _ := hr.mono (by decide)
    have hr3 : Room 3 _ := hr.mono (by decide)
    refine ⟨_, pss_cons (ps_set (i := 2) scSpan.nd rfl (.inl rfl) (pe_callTy call_list_of (by rfl) gI (by decide +kernel) (pa_cons (pv 0) pa_nil)))
      (pss_cons (ps_set (i := 3) scSpan.nd rfl (.inl rfl) (pe_make0 M GI hr2 rfl gC bI .nil pass0))
      (pss_cons (ps_for PassesOwn.never rfl (pi_list (pv 1)) (pg_name (i := 4) scSpan.nd rfl (.inl rfl))
        (pss_cons (ps_set (i := 2) scSpan.nd rfl (.inl rfl) (pe_df DW hr1 rfl (pa_cons (pv 2) (pa_cons (pv 4) (pa_cons pe_int pa_nil)))))
        (pss_one (ps_expr (pe_meth (pv 3) T.cl mA GA hr3 bA .nil pass0 (pa_cons (pe_df DC hr rfl (pa_cons (pe_len K gL (pv 0)) (pa_cons (pv 4) pa_nil))) (pa_cons (pv 4) pa_nil)))))))
      (pss_one (ps_ret (pe_tup (pa_cons (pv 2) (pa_cons (pv 3) pa_nil))))))), ?_⟩
    refine ⟨_, rfl, av, ivs ns, rfl, .inl hV, fun l hl => ?_⟩
    have s1 : Same H (upd H l (.lst (ivs ns))) := same_upd hl
    have hl1 : (upd H l (.lst (ivs ns))) l = some (.lst (ivs ns)) := upd_same
    generalize upd H l (.lst (ivs ns)) = H1 at s1 hl1 ⊢
    intro p dx np ndx nex
    refine ⟨p, dx, rfl, upd_same, fun d hd => ⟨rfl, ?_⟩⟩
    have ndp : d ≠ p := fun e => by
      rw [e, upd_same] at hd
      cases hd
    have ndd : d ≠ dx := fun e => by
      rw [e, upd_ne nex, upd_same] at hd
      cases hd
    have hd1 : H1 d = none := by
      rw [upd_ne ndp, upd_ne ndd] at hd
      exact hd
    have s2 : Same H1 (upd (upd (upd (upd H1 dx (.own p)) p (.ins C dx [])) d (.dK [])) p (.ins C dx [("kept", .ref d)])) := fun b o e => by
      rw [upd_ne (ne_of_none e np), upd_ne (ne_of_none e hd1), upd_ne (ne_of_none e np), upd_ne (ne_of_none e ndx)]
      exact e
    have hsp : SpanAt K C (upd (upd (upd (upd H1 dx (.own p)) p (.ins C dx [])) d (.dK [])) p (.ins C dx [("kept", .ref d)])) p d [] :=
      ⟨dx, [], upd_same, by rw [upd_ne ndp]; exact upd_same, trivial⟩
    generalize upd (upd (upd (upd H1 dx (.own p)) p (.ins C dx [])) d (.dK [])) p (.ins C dx [("kept", .ref d)]) = H2 at s2 hsp ⊢
    have hdH : H d = none := s1.free hd1
    have hlc : ∀ i, clr v (i + 1) = setBit (clr v i) i 0 := fun i => rfl
    have e0 : ns.set a (clr v 0) = ns := by
      refine List.ext_getElem? fun j => ?_
      by_cases h : a = j
      · subst h
        rw [List.getElem?_set_self ha, hv]
        rfl
      · rw [List.getElem?_set_ne h]
    refine ⟨_, rfl, au, rfl, ⟨_, s2.seq (s1.seq hU)⟩, for_list (K := K) (a := au) (xs := ivs (eight a)) (fun i σ H' => ∃ (l' : Addr) (c : Option V) (E' : List Ent), σ = [some (.ref av), some (.ref au), some (.ref l'), some (.ref p), c] ∧ Same H H' ∧ SqL K H' l' (ivs (ns.set a (clr v i))) ∧ SpanAt K C H' p d E' ∧ SpanInv (Lc a (ns.length - 1 - a)) a i E')
      ⟨l, none, [], rfl, s1.trans s2, by rw [e0]; exact s2.seq (SqL.of hl1), hsp, SpanInv.nil _ _⟩ (fun i σ H' _ h => ?_) (fun i x σ H' hi h => ?_) (fun σ H' h => ?_)⟩
    · obtain ⟨_, _, _, _, s3, _⟩ := h
      exact s3.seq hU
    · obtain ⟨l', c, E', rfl, s3, hl', hsp', hI⟩ := h
      obtain ⟨y, hy, rfl⟩ := ivs_get hi
      obtain ⟨hi8, rfl⟩ := eight_of hy
      refine ⟨_, rfl, _, rfl, l', ns.set a (clr v i), 8 * a + i, 0, rfl, hl', by rw [List.length_set]; omega, fun l2 nl2 => ?_⟩
      have ew : withBit (ns.set a (clr v i)) (8 * a + i) 0 = ns.set a (clr v (i + 1)) := by
        rw [withBit_set ha _ (by omega) (by omega), hlc i, show (8 * a + i) % 8 = i by omega]
      rw [ew]
      have s4 : Same H' (upd H' l2 (.lst (ivs (ns.set a (clr v (i + 1)))))) := same_upd nl2
      have hl2 : SqL K (upd H' l2 (.lst (ivs (ns.set a (clr v (i + 1)))))) l2 (ivs (ns.set a (clr v (i + 1)))) := SqL.of upd_same
      generalize upd H' l2 (.lst (ivs (ns.set a (clr v (i + 1))))) = H3 at s4 hl2 ⊢
      obtain ⟨dx', kvs, hp', hd', hkv'⟩ := id hsp'
      refine ⟨_, rfl, p, dx', _, rfl, s4 _ _ hp', kept_no d (by decide +kernel), _, rfl, av, ivs ns, rfl, .inl ((s3.trans s4).seq hV), _, rfl, ns.length, 8 * a + i, by rw [List.length_map]; rfl, by omega, hlen, fun H4 s5 => ?_⟩
      rw [chg_eq ha hi8]
      refine ⟨_, rfl, p, d, E', Lc a (ns.length - 1 - a), a, i, rfl, hsp'.same (s4.trans s5), lin_Lc _ _, hI, hi8, fun H5 E5 bar hsp5 hI5 => ?_⟩
      refine ⟨l2, some (iv (8 * a + i)), E5, rfl, fun b o e => ?_, ?_, hsp5, hI5⟩
      · exact bar b o (ne_of_none e hdH) (s5 _ _ (s4 _ _ (s3 _ _ e)))
      · exact bar.seq (s5 _ _ (s4 _ _ hd')) (s5.seq hl2)
    · obtain ⟨l', c, E', rfl, s3, hl', hsp', hI⟩ := h
      rw [List.length_map, eight_len] at hI hl'
      rw [clr8 v hv256] at hl'
      refine ⟨_, rfl, _, rfl, (by show 2 ≤ sizeLine; decide), fun t nt => ?_⟩
      exact q _ t l' p d E' (s3.trans (same_upd nt)) upd_same ((same_upd nt).seq hl') (hsp'.same (same_upd nt)) hI
/-! ### solution_count -/
def Prob (K : PySem.W.Frag) (H : Hp) (av au : Addr) (ns : List Nat) (a v b : Nat) : Prop := SqL K H av (ivs ns) ∧ SqL K H au (ivs (eight a)) ∧ ns.length ≤ 1000 ∧ ns[a]? = some v ∧ v < 256 ∧ b < 256
def spCount (K : PySem.W.Frag) : Sp := fun vs H Q _ => ∃ (av au : Addr) (ns : List Nat) (a v b : Nat), vs = [.ref av, .ref au, iv (crcN (ns.set a b))] ∧ Prob K H av au ns a v b ∧ ∀ H', Same H H' → Q (iv 1) H'
theorem ok_count {f C : Addr} {fd : FuncData} (F : Fun K "solution_count" "solution_count" sCount f fd) (S : SpanOk P w K mg base C) (DD : Df P w K mg base "demand_unknown" 1 ["values", "unknown"] (spDem K)) (DS : Df P w K mg base "span_of" 5 ["values", "unknown"] (spSpan K C))
    (DX : Df P w K mg base "exclusive" 1 ["first", "second"] spExcl) (DC : Df P w K mg base "crc" 3 ["values"] (spCrc K)) (gP : Gt K mg "POWERS" (ivs pows)) (gL : mg "len" = none) : FnOk P w K mg base CX0 6 f fd ["values", "unknown", "wanted"] (spCount K) := by
  obtain ⟨aP, gP, tP⟩ := gP
  obtain ⟨T, _, _, ⟨fR, fdR, mR, bR, GR⟩, _⟩ := S
  refine F.ok scCount (fun vs H Q E h => ?_) (fun cdv A outer s H vs Q E hr h => ?_)
  · obtain ⟨av, au, ns, a, v, b, rfl, _⟩ := h
    rfl
  · obtain ⟨av, au, ns, a, v, b, rfl, ⟨hV, hU, hlen, hv, hv256, hb⟩, q⟩ := h
    have ha := lt_of_get hv
    have hr1 : Room 1 _ := hr.mono (by decide)
    have hr2 : Room 2 _ := hr.mono (by decide)
    have hr3 : Room 3 _ := hr.mono (by decide)
    refine ⟨_, pss_cons (ps_expr (pe_df DD hr1 rfl (pa_cons (pv 0) (pa_cons (pv 1) pa_nil))))
      (pss_cons (ps_asg (pe_df DS hr rfl (pa_cons (pv 0) (pa_cons (pv 1) pa_nil))) (pg_tup (by rfl) (pgs_cons (pg_name (i := 3) scCount.nd rfl (.inl rfl)) (pgs_cons (pg_name (i := 4) scCount.nd rfl (.inl rfl)) pgs_nil))))
      (pss_cons (ps_asg (pe_meth (pv 4) T.cl mR GR hr2 bR .nil pass0 (pa_cons (pe_df DX hr1 rfl (pa_cons (pe_df DC hr3 rfl (pa_cons (pv 3) pa_nil)) (pa_cons (pv 2) pa_nil))) (pa_cons (pe_lst pa_nil) pa_nil))) (pg_tup (by rfl) (pgs_cons (pg_name (i := 5) scCount.nd rfl (.inl rfl)) (pgs_cons (pg_name (i := 6) scCount.nd rfl (.inl rfl)) pgs_nil))))
      (pss_cons (ps_if (pt_cmpR op_gt (pv 5) pe_int (nomark _)) (pss_one (ps_ret pe_int)) pss_nil)
      (pss_one (ps_ret (pe_ix ix_tup (pe_glob (v := .ref aP) rfl gP rfl) (pe_op op_sub (pe_len K gL (pv 1)) (pe_callB call_lenD (by rfl) gL PySem.boot_len (pa_cons (pe_fld (pv 4) rfl) pa_nil))) (fun _ _ => rfl))))))), ?_⟩
    refine ⟨_, rfl, _, rfl, av, au, ivs ns, eight a, rfl, hV, hU, by rw [eight_len]; decide, by rw [List.length_map]; exact hlen, fun u m => ?_, fun i x y h1 h2 => ?_, fun H1 s1 => ?_⟩
    · obtain ⟨i, hi⟩ := List.getElem?_of_mem m
      obtain ⟨h8, rfl⟩ := eight_of hi
      rw [List.length_map]
      omega
    · obtain ⟨_, rfl⟩ := eight_of h1
      obtain ⟨_, rfl⟩ := eight_of h2
      omega
    refine ⟨_, rfl, _, rfl, av, au, ns, a, v, rfl, s1.seq hV, s1.seq hU, hlen, hv, hv256, fun H2 t l p d En s2 ht hl hsp hI => ?_⟩
    refine ⟨t, [.ref l, .ref p], rfl, SqT.of ht, rfl, .ref l, [.ref p], rfl, .ref p, [], rfl, rfl, ?_⟩
    obtain ⟨dx, kvs, hp, hd, hkv⟩ := id hsp
    refine ⟨_, rfl, p, dx, _, rfl, hp, kept_no d (by decide +kernel), _, rfl, l, ns.set a 0, rfl, hl, fun H3 s3 => ?_⟩
    refine ⟨_, rfl, crcN (ns.set a 0), crcN (ns.set a b), rfl, ?_⟩
    rw [crc_set ha, Nat.zero_xor]
    refine ⟨Nat.zero_le _, fun l2 nl2 => ?_⟩
    have s4 : Same H2 (upd H3 l2 (.lst [])) := s3.trans (same_upd nl2)
    refine ⟨p, d, l2, Lc a (ns.length - 1 - a) b, [], En, a, 8, rfl, hsp.same s4, SqL.of upd_same, Nat.le_refl _, by rw [hI.len]; decide, hI.top, ⟨List.nodup_nil, (fun _ h => by cases h)⟩, fun e m => (hI.pls e m).1, fun ds H4 t2 l3 hds hge s5 ht2 hl3 => ?_⟩
    obtain ⟨z1, z2, z3⟩ := hI.solve (lin_Lc _ _) hds hge hb
    rw [z1] at ht2
    refine ⟨t2, [iv 0, .ref l3], rfl, SqT.of ht2, rfl, iv 0, [.ref l3], rfl, .ref l3, [], rfl, rfl, ?_⟩
    refine ⟨_, rfl, _, _, rfl, rfl, _, rfl, iteF ?_⟩
    have s6 : Same H2 H4 := s4.trans s5
    refine ⟨_, rfl, au, ivs (eight a), rfl, .inl ((s1.trans (s2.trans s6)).seq hU), _, rfl, p, C, dx, _, _, rfl, s6 _ _ hp, T.cl, T.nK, kept_at d, d, kvs, rfl, s6 _ _ hd, _, _, rfl, rfl, aP, ivs pows, _, iv 1, rfl, rfl, tP.sq _, ?_, ?_⟩
    · rw [List.length_map, eight_len, hkv.len, hI.len]
      rfl
    · exact q _ (s1.trans (s2.trans s6))
end
end K71
namespace K71
open PySem L2
section
variable {P : Program} {w : World} {K : PySem.W.Frag} {mg : Str → Option Value} {base : Heap}
theorem Prob.same {H H' : Hp} {av au : Addr} {ns : List Nat} {a v b : Nat} (s : Same H H') (h : Prob K H av au ns a v b) : Prob K H' av au ns a v b :=
  ⟨s.seq h.1, s.seq h.2.1, h.2.2.1, h.2.2.2.1, h.2.2.2.2.1, h.2.2.2.2.2⟩
/-! ### solution -/
def spSol (K : PySem.W.Frag) : Sp := fun vs H Q _ => ∃ (av au : Addr) (ns : List Nat) (a v b : Nat), vs = [.ref av, .ref au, iv (crcN (ns.set a b))] ∧ Prob K H av au ns a v b ∧ ∀ H' l, Same H H' → SqL K H' l (ivs (ns.set a b)) → Q (.ref l) H'
theorem ok_sol {f C : Addr} {fd : FuncData} (F : Fun K "solution" "solution" sSol f fd) (S : SpanOk P w K mg base C) (DN : Df P w K mg base "solution_count" 6 ["values", "unknown", "wanted"] (spCount K)) (DS : Df P w K mg base "span_of" 5 ["values", "unknown"] (spSpan K C))
    (DX : Df P w K mg base "exclusive" 1 ["first", "second"] spExcl) (DC : Df P w K mg base "crc" 3 ["values"] (spCrc K)) (DW : Df P w K mg base "with_bit" 1 ["values", "place", "bit"] (spWith K)) : FnOk P w K mg base CX0 7 f fd ["values", "unknown", "wanted"] (spSol K) := by
  obtain ⟨T, _, _, ⟨fR, fdR, mR, bR, GR⟩, _⟩ := S
  refine F.ok scSol (fun vs H Q E h => ?_) (fun cdv A outer s H vs Q E hr h => ?_)
  · obtain ⟨av, au, ns, a, v, b, rfl, _⟩ := h
    rfl
  · obtain ⟨av, au, ns, a, v, b, rfl, hPr, q⟩ := h
    obtain ⟨hV, hU, hlen, hv, hv256, hb⟩ := id hPr
    have ha := lt_of_get hv
    have hr1 : Room 1 _ := hr.mono (by decide)
    have hr2 : Room 2 _ := hr.mono (by decide)
    have hr3 : Room 3 _ := hr.mono (by decide)
    have hr5 : Room 5 _ := hr.mono (by decide)
    refine ⟨_, pss_cons (ps_if (pt_cmpR op_ne (pe_df DN hr rfl (pa_cons (pv 0) (pa_cons (pv 1) (pa_cons (pv 2) pa_nil)))) pe_int (nomark _)) (pss_one (ps_ret pe_non)) pss_nil)
      (pss_cons (ps_asg (pe_df DS hr5 rfl (pa_cons (pv 0) (pa_cons (pv 1) pa_nil))) (pg_tup (by rfl) (pgs_cons (pg_name (i := 3) scSol.nd rfl (.inl rfl)) (pgs_cons (pg_name (i := 4) scSol.nd rfl (.inl rfl)) pgs_nil))))
      (pss_cons (ps_asg (pe_meth (pv 4) T.cl mR GR hr2 bR .nil pass0 (pa_cons (pe_df DX hr1 rfl (pa_cons (pe_df DC hr3 rfl (pa_cons (pv 3) pa_nil)) (pa_cons (pv 2) pa_nil))) (pa_cons (pe_lst pa_nil) pa_nil))) (pg_tup (by rfl) (pgs_cons (pg_name (i := 5) scSol.nd rfl (.inl rfl)) (pgs_cons (pg_name (i := 6) scSol.nd rfl (.inl rfl)) pgs_nil))))
      (pss_cons (ps_for PassesOwn.never rfl (pi_list (pv 6)) (pg_name (i := 7) scSol.nd rfl (.inl rfl)) (pss_one (ps_set (i := 3) scSol.nd rfl (.inl rfl) (pe_df DW hr1 rfl (pa_cons (pv 3) (pa_cons (pv 7) (pa_cons pe_int pa_nil)))))))
      (pss_one (ps_ret (pv 3)))))), ?_⟩
    refine ⟨_, rfl, _, rfl, _, rfl, av, au, ns, a, v, b, rfl, hPr, fun H1 s1 => ?_⟩
    refine ⟨rfl, _, rfl, iteF ?_⟩
    refine ⟨_, rfl, _, rfl, av, au, ns, a, v, rfl, s1.seq hV, s1.seq hU, hlen, hv, hv256, fun H2 t l p d En s2 ht hl hsp hI => ?_⟩
    refine ⟨t, [.ref l, .ref p], rfl, SqT.of ht, rfl, .ref l, [.ref p], rfl, .ref p, [], rfl, rfl, ?_⟩
    obtain ⟨dx, kvs, hp, hd, hkv⟩ := id hsp
    refine ⟨_, rfl, p, dx, _, rfl, hp, kept_no d (by decide +kernel), _, rfl, l, ns.set a 0, rfl, hl, fun H3 s3 => ?_⟩
    refine ⟨_, rfl, crcN (ns.set a 0), crcN (ns.set a b), rfl, ?_⟩
    rw [crc_set ha, Nat.zero_xor]
    refine ⟨Nat.zero_le _, fun l2 nl2 => ?_⟩
    have s4 : Same H2 (upd H3 l2 (.lst [])) := s3.trans (same_upd nl2)
    refine ⟨p, d, l2, Lc a (ns.length - 1 - a) b, [], En, a, 8, rfl, hsp.same s4, SqL.of upd_same, Nat.le_refl _, by rw [hI.len]; decide, hI.top, ⟨List.nodup_nil, (fun _ h => by cases h)⟩, fun e m => (hI.pls e m).1, fun ds H4 t2 l3 hds hge s5 ht2 hl3 => ?_⟩
    obtain ⟨z1, z2, z3⟩ := hI.solve (lin_Lc _ _) hds hge hb
    generalize redAll En ds (Lc a (ns.length - 1 - a) b, []) = st at z1 z2 z3 ht2 hl3
    obtain ⟨rest, pls⟩ := st
    have z2 : Pl a 8 pls := z2
    have z3 : B pls = b := z3
    have hl3 : SqL K H4 l3 (ivs pls) := hl3
    refine ⟨t2, [iv rest, .ref l3], rfl, SqT.of ht2, rfl, iv rest, [.ref l3], rfl, .ref l3, [], rfl, rfl, ?_⟩
    have s6 : Same H2 H4 := s4.trans s5
    refine ⟨_, rfl, l3, rfl, ⟨_, hl3⟩, for_list (K := K) (a := l3) (xs := ivs pls) (fun i σ H' => ∃ (l' : Addr) (c : Option V), σ = [some (.ref av), some (.ref au), some (iv (crcN (ns.set a b))), some (.ref l'), some (.ref p), some (iv rest), some (.ref l3), c] ∧ Same H4 H' ∧ SqL K H' l' (ivs (ns.set a (B (pls.take i)))))
      ⟨l, none, rfl, Same.refl _, s6.seq hl⟩ (fun i σ H' _ h => ?_) (fun i x σ H' hi h => ?_) (fun σ H' h => ?_)⟩
    · obtain ⟨_, _, _, s7, _⟩ := h
      exact s7.seq hl3
    · obtain ⟨l', c, rfl, s7, hl'⟩ := h
      obtain ⟨y, hy, rfl⟩ := ivs_get hi
      have my := z2.2 y (List.mem_of_getElem? hy)
      refine ⟨_, rfl, _, rfl, l', ns.set a (B (pls.take i)), y, 1, rfl, hl', by rw [List.length_set]; omega, fun l4 nl4 => ?_⟩
      refine ⟨l4, some (iv y), rfl, s7.trans (same_upd nl4), ?_⟩
      rw [withBit_set ha _ my.1 my.2, set_place z2 hy]
      exact SqL.of upd_same
    · obtain ⟨l', c, rfl, s7, hl'⟩ := h
      rw [List.length_map, List.take_length, z3] at hl'
      exact ⟨_, rfl, q H' l' (s1.trans (s2.trans (s6.trans s7))) hl'⟩
end
end K71
namespace K71
open PySem L2
theorem upd_idem {G : Hp} {p : Addr} {u : HO} (at_p : G p = some u) : upd G p u = G := by
  refine funext fun q => ?_
  by_cases e : q = p
  · subst e
    exact upd_same.trans at_p.symm
  · exact upd_ne e
/-- the pool: the script's copy, how many are used, the rest of the last one, how many were drawn, the salt -/
def poolL (l : Addr) (i : Nat) (c k s : Int) : List V := [.ref l, iv i, .int c, .int k, .int s]
theorem pool_ne {H : Hp} {a l : Addr} {i : Nat} {c k s : Int} {ns : List Int} (h : H a = some (.lst (poolL l i c k s))) (hl : H l = some (.lst (ns.map V.int))) : l ≠ a := by
  refine ne_of hl h (fun e => ?_)
  injection e with e1
  cases ns with
  | nil => cases e1
  | cons x r =>
    injection e1 with e2 _
    cases e2
section
variable {P : Program} {w : World} {K : PySem.W.Frag} {mg : Str → Option Value} {base : Heap}
/-! ### _law_pool -/
def spPool (K : PySem.W.Frag) : Sp := fun vs H Q _ => ∃ (a : Addr) (ns : List Int), vs = [.ref a] ∧ SqL K H a (ns.map V.int) ∧ ∀ (H' : Hp) (p l : Addr) (s : Int), Same H H' → H p = none → H l = none → H' p = some (.lst (poolL l 0 0 0 s)) → H' l = some (.lst (ns.map V.int)) → Q (.ref p) H'
theorem ok_pool {f : Addr} {fd : FuncData} (F : Fun K "_law_pool" "_law_pool" sPool f fd) (gN : mg "int" = none) (gI : mg "list" = none) : FnOk P w K mg base CX0 1 f fd ["_law_script"] (spPool K) := by
  refine F.ok scPool (fun vs H Q E h => ?_) (fun cdv A outer s H vs Q E hr h => ?_)
  · obtain ⟨a, ns, rfl, _⟩ := h
    rfl
  · obtain ⟨a, ns, rfl, hA, q⟩ := h
    refine ⟨_, pss_cons (ps_set (i := 1) scPool.nd rfl (.inl rfl) pe_int)
      (pss_cons (ps_for PassesOwn.never rfl (pi_list (pe_slice sl_list (pv 0) po_none (po_some pe_int))) (pg_name (i := 2) scPool.nd rfl (.inl rfl))
        (pss_one (ps_set (i := 1) scPool.nd rfl (.inl rfl) (pe_op op_mod (pe_callTy call_int1 (by rfl) gN (by decide +kernel) (pa_cons (pe_op op_add (pe_op op_mul (pv 1) pe_int) (pv 2)) pa_nil)) pe_int))))
      (pss_one (ps_ret (pe_lst (pa_cons (pe_callTy call_list_of (by rfl) gI (by decide +kernel) (pa_cons (pv 0) pa_nil)) (pa_cons pe_int (pa_cons pe_int (pa_cons pe_int (pa_cons (pv 1) pa_nil))))))))), ?_⟩
    refine ⟨_, rfl, 63, rfl, a, ns.map V.int, rfl, hA, fun p np => ?_⟩
    have e0 : cutV (ns.map V.int) none (some 63) = (ns.take 63).map V.int := (cut_take _ 63).trans List.map_take.symm
    rw [e0]
    have s1 : Same H (upd H p (.lst ((ns.take 63).map V.int))) := same_upd np
    refine ⟨p, rfl, ⟨_, SqL.of upd_same⟩, for_list (K := K) (a := p) (xs := (ns.take 63).map V.int) (fun i σ H' => ∃ (z : Int) (c : Option V), σ = [some (.ref a), some (.int z), c] ∧ H' = upd H p (.lst ((ns.take 63).map V.int))) ⟨7, none, rfl, rfl⟩ (fun i σ H' _ h => ?_) (fun i x σ H' hi h => ?_) (fun σ H' h => ?_)⟩
    · obtain ⟨_, _, _, rfl⟩ := h
      exact SqL.of upd_same
    · obtain ⟨z, c, rfl, rfl⟩ := h
      obtain ⟨y, hy, rfl⟩ : ∃ y, (ns.take 63)[i]? = some y ∧ x = V.int y := by
        rw [List.getElem?_map] at hi
        cases e : (ns.take 63)[i]? with
        | none => rw [e] at hi; cases hi
        | some u => rw [e] at hi; exact ⟨u, rfl, (Option.some.inj hi).symm⟩
      refine ⟨_, rfl, _, _, rfl, rfl, .inr ⟨by decide, by decide⟩, _, rfl, _, _, rfl, rfl, .inl ⟨_, rfl, _, _, rfl, rfl, (by show (0 : Int) < 1000003; decide), ?_⟩⟩
      exact ⟨_, _, rfl, rfl⟩
    · obtain ⟨z, c, rfl, rfl⟩ := h
      refine ⟨_, rfl, a, ns.map V.int, rfl, .inl (s1.seq hA), fun l hl => ⟨_, rfl, (by show 5 ≤ sizeLine; decide), fun p2 np2 => ?_⟩⟩
      have s2 : Same H (upd (upd H p (.lst ((ns.take 63).map V.int))) l (.lst (ns.map V.int))) := s1.trans (same_upd hl)
      refine q _ p2 l z (s2.trans (same_upd np2)) (s2.free np2) (s1.free hl) upd_same ?_
      exact same_upd np2 _ _ upd_same
/-! ### _law_spread -/
def spSpread : Sp := fun vs H Q _ => ∃ c : Int, vs = [.int c] ∧ ∀ v : Int, Q (.int v) H
theorem ok_spread {f : Addr} {fd : FuncData} (F : Fun K "_law_spread" "_law_spread" sSpread f fd) (gN : mg "int" = none) (gR : mg "range" = none) : FnOk P w K mg base CX0 1 f fd ["_law_cell"] spSpread := by
  refine F.ok scSpread (fun vs H Q E h => ?_) (fun cdv A outer s H vs Q E hr h => ?_)
  · obtain ⟨c, rfl, _⟩ := h
    rfl
  · obtain ⟨c, rfl, q⟩ := h
    refine ⟨_, pss_cons (ps_set (i := 1) scSpread.nd rfl (.inl rfl) (pe_op op_mod (pe_callTy call_int1 (by rfl) gN (by decide +kernel) (pa_cons (pv 0) pa_nil)) pe_int))
      (pss_cons (ps_set (i := 2) scSpread.nd rfl (.inl rfl) pe_int)
      (pss_cons (ps_for PassesOwn.never rfl (pi_range1 (by rfl) gR (pa_cons pe_int pa_nil)) (pg_name (i := 3) scSpread.nd rfl (.inl rfl))
        (pss_cons (ps_set (i := 1) scSpread.nd rfl (.inl rfl) (pe_op op_mod (pe_callTy call_int1 (by rfl) gN (by decide +kernel) (pa_cons (pe_op op_add (pe_op op_add (pe_op op_mul (pv 1) pe_int) pe_int) (pv 3)) pa_nil)) pe_int))
        (pss_one (ps_set (i := 2) scSpread.nd rfl (.inl rfl) (pe_op op_add (pe_op op_mul (pv 2) pe_int) (pv 1))))))
      (pss_one (ps_ret (pv 2))))), ?_⟩
    refine ⟨_, rfl, .inl ⟨_, rfl, _, _, rfl, rfl, (by show (0 : Int) < 2147483647; decide), ?_⟩⟩
    refine ⟨4, rfl, by decide, by decide, for_range (lo := 0) (n := 4) (fun i σ H' => ∃ (z y : Int) (c' : Option V), σ = [some (.int c), some (.int z), some (.int y), c'] ∧ H' = H) ⟨_, 1, none, rfl, rfl⟩ (fun i σ H' hi h => ?_) (fun σ H' h => ?_)⟩
    · obtain ⟨z, y, c', rfl, rfl⟩ := h
      refine ⟨_, rfl, _, _, rfl, rfl, .inr ⟨by decide, by decide⟩, _, _, rfl, rfl, _, rfl, _, _, rfl, rfl, .inl ⟨_, rfl, _, _, rfl, rfl, (by show (0 : Int) < 2147483647; decide), ?_⟩⟩
      refine ⟨_, rfl, _, _, rfl, rfl, .inr ⟨by decide, by decide⟩, _, rfl, _, _, rfl, rfl, ?_⟩
      exact ⟨_, _, _, rfl, rfl⟩
    · obtain ⟨z, y, c', rfl, rfl⟩ := h
      exact ⟨_, rfl, q y⟩
end
end K71
namespace K71
open PySem L2
theorem rest_iv (x : Int) {m : Nat} (hm : 0 < m) : ∃ v : Nat, x % (m : Int) = (v : Int) ∧ v < m := by
  have h1 := Int.emod_nonneg x (show (m : Int) ≠ 0 by omega)
  have h2 := Int.emod_lt_of_pos x (show (0 : Int) < (m : Int) by omega)
  exact ⟨(x % (m : Int)).toNat, by omega, by omega⟩
section
variable {P : Program} {w : World} {K : PySem.W.Frag} {mg : Str → Option Value} {base : Heap}
/-! ### _law_draw -/
def spDraw : Sp := fun vs H Q _ => ∃ (a l : Addr) (m i : Nat) (c k s : Int) (ns : List Int), vs = [.ref a, iv m] ∧ 0 < m ∧ m ≤ 1000 ∧ H a = some (.lst (poolL l i c k s)) ∧ H l = some (.lst (ns.map V.int)) ∧
  ∀ (v i' : Nat) (c' k' : Int), v < m → Q (iv v) (upd H a (.lst (poolL l i' c' k' s)))
theorem ok_draw {f : Addr} {fd : FuncData} (F : Fun K "_law_draw" "_law_draw" sDraw f fd) (DS : Df P w K mg base "_law_spread" 1 ["_law_cell"] spSpread) (gN : mg "int" = none) (gL : mg "len" = none) : FnOk P w K mg base CX0 2 f fd ["_law_pool_here", "_law_many"] spDraw := by
  refine F.ok scDraw (fun vs H Q E h => ?_) (fun cdv A outer s H vs Q E hr h => ?_)
  · obtain ⟨a, l, m, i, c, k, s, ns, rfl, _⟩ := h
    rfl
  · obtain ⟨a, l, m, i, c, k, s, ns, rfl, hm0, hm1, ha, hl, q⟩ := h
    have hla := pool_ne ha hl
    refine ⟨_, C8.pss_cut (ps_if (PW.pt (pw_and (pt_cmpR op_le (pe_ix ix_list (pv 0) pe_int (fun _ _ => rfl)) pe_int (nomark _)) (pw_and1 (pt_cmpR op_lt (pe_ix ix_list (pv 0) pe_int (fun _ _ => rfl)) (pe_len K gL (pe_ix ix_list (pv 0) pe_int (fun _ _ => rfl))) (nomark _)))))
        (pss_cons (ps_set (i := 2) scDraw.nd rfl (.inl rfl) (pe_ix ix_list (pe_ix ix_list (pv 0) pe_int (fun _ _ => rfl)) (pe_ix ix_list (pv 0) pe_int (fun _ _ => rfl)) (fun _ _ => rfl)))
        (pss_cons (ps_asg (pe_op op_add (pe_ix ix_list (pv 0) pe_int (fun _ _ => rfl)) pe_int) (pg_sub (pv 0) pe_int set_list))
        (pss_cons (ps_asg (pv 2) (pg_sub (pv 0) pe_int set_list))
        (pss_one (ps_if (pt_cmpR op_lt (pv 2) pe_int (nomark _)) (pss_one (ps_asg (pe_df DS hr rfl (pa_cons (pv 2) pa_nil)) (pg_sub (pv 0) pe_int set_list))) pss_nil))))) pss_nil)
      (pss_cons (ps_asg (pe_op op_add (pe_ix ix_list (pv 0) pe_int (fun _ _ => rfl)) pe_int) (pg_sub (pv 0) pe_int set_list))
      (pss_cons (ps_if (pt_cmpR op_le (pe_ix ix_list (pv 0) pe_int (fun _ _ => rfl)) pe_int (nomark _))
        (pss_cons (ps_set (i := 3) scDraw.nd rfl (.inl rfl) (pe_op op_mod (pe_callTy call_int1 (by rfl) gN (by decide +kernel) (pa_cons (pe_op op_add (pe_op op_add (pe_op op_mul (pe_ix ix_list (pv 0) pe_int (fun _ _ => rfl)) pe_int) (pe_op op_mul (pe_ix ix_list (pv 0) pe_int (fun _ _ => rfl)) pe_int)) pe_int) pa_nil)) pe_int))
        (pss_cons (ps_set (i := 3) scDraw.nd rfl (.inl rfl) (pe_op op_mod (pe_callTy call_int1 (by rfl) gN (by decide +kernel) (pa_cons (pe_op op_add (pe_op op_mul (pv 3) pe_int) (pe_ix ix_list (pv 0) pe_int (fun _ _ => rfl))) pa_nil)) pe_int))
        (pss_one (ps_ret (pe_op op_mod (pe_op op_fdiv (pv 3) pe_int) (pv 1)))))) pss_nil)
      (pss_cons (ps_set (i := 4) scDraw.nd rfl (.inl rfl) (pe_op op_mod (pe_callTy call_int1 (by rfl) gN (by decide +kernel) (pa_cons (pe_ix ix_list (pv 0) pe_int (fun _ _ => rfl)) pa_nil)) (pv 1)))
      (pss_cons (ps_asg (pe_op op_fdiv (pe_ix ix_list (pv 0) pe_int (fun _ _ => rfl)) (pv 1)) (pg_sub (pv 0) pe_int set_list))
      (pss_one (ps_ret (pv 4))))))), ?_⟩
    have at0 : ∀ {i c k s}, atI (poolL l i c k s) 0 = some (.ref l) := atI_nat (j := 0) rfl
    have at1 : ∀ {i c k s}, atI (poolL l i c k s) 1 = some (iv i) := atI_nat (j := 1) rfl
    have at2 : ∀ {i c k s}, atI (poolL l i c k s) 2 = some (.int c) := atI_nat (j := 2) rfl
    have at3 : ∀ {i c k s}, atI (poolL l i c k s) 3 = some (.int k) := atI_nat (j := 3) rfl
    have at4 : ∀ {i c k s}, atI (poolL l i c k s) 4 = some (.int s) := atI_nat (j := 4) rfl
    have sq : ∀ {i c k s H'}, SqL K (upd H' a (.lst (poolL l i c k s))) a (poolL l i c k s) := SqL.of upd_same
    refine ⟨fun σ' H' => ∃ (i' : Nat) (c' k' : Int) (x : Option V), σ' = [some (.ref a), some (iv m), x, none, none] ∧ H' = upd H a (.lst (poolL l i' c' k' s)), ?_, fun σ' H' h => ?_⟩
    · refine ⟨_, rfl, a, _, _, _, rfl, rfl, SqL.of ha, at2, _, _, rfl, rfl, _, rfl, ?_⟩
      have stay : ∃ (i' : Nat) (c' k' : Int) (x : Option V), (L2.start ["_law_pool_here", "_law_many", "_law_cell", "_law_mixed", "_law_value"] [V.ref a, iv m]) = [some (.ref a), some (iv m), x, none, none] ∧ H = upd H a (.lst (poolL l i' c' k' s)) := ⟨i, c, k, none, rfl, (upd_idem ha).symm⟩
      refine ite2 (fun _ => ?_) (fun _ => iteF stay)
      refine ⟨_, rfl, a, _, _, _, rfl, rfl, SqL.of ha, at1, _, rfl, a, _, _, _, rfl, rfl, SqL.of ha, at0, l, _, rfl, .inl (SqL.of hl), _, _, rfl, rfl, _, rfl, ?_⟩
      refine ite2 (fun z => ?_) (fun _ => stay)
      have z1 : (i : Int) < ((ns.map V.int).length : Int) := of_decide_eq_true z
      rw [List.length_map] at z1
      obtain ⟨x, hx⟩ : ∃ x, ns[i]? = some x := ⟨_, List.getElem?_eq_getElem (by omega)⟩
      have hxa : atI (ns.map V.int) (i : Int) = some (.int x) := atI_nat (by rw [List.getElem?_map, hx]; rfl)
      refine ⟨_, rfl, a, _, _, _, rfl, rfl, SqL.of ha, at0, _, rfl, a, _, _, _, rfl, rfl, SqL.of ha, at1, l, _, _, _, rfl, rfl, SqL.of hl, hxa, ?_⟩
      refine ⟨_, rfl, a, _, _, _, rfl, rfl, SqL.of ha, at1, _, _, rfl, rfl, _, rfl, a, _, _, 1, rfl, rfl, ha, rfl, ?_⟩
      refine ⟨_, rfl, _, rfl, a, _, _, 2, rfl, rfl, upd_same, rfl, ?_⟩
      rw [upd_upd]
      refine ⟨_, rfl, _, _, rfl, rfl, _, rfl, ite2 (fun _ => ?_) (fun _ => ?_)⟩
      · refine ⟨_, rfl, x, rfl, fun y => ?_⟩
        refine ⟨_, rfl, a, _, _, 2, rfl, rfl, upd_same, rfl, ?_⟩
        rw [upd_upd]
        exact ⟨i + 1, y, k, some (.int x), rfl, rfl⟩
      · exact ⟨i + 1, x, k, some (.int x), rfl, rfl⟩
    · obtain ⟨i', c', k', x, rfl, rfl⟩ := h
      refine ⟨_, rfl, a, _, _, _, rfl, rfl, sq, at3, _, _, rfl, rfl, _, rfl, a, _, _, 3, rfl, rfl, upd_same, rfl, ?_⟩
      rw [upd_upd]
      show tSeq _ _ _ _ (upd H a (.lst (poolL l i' c' (k' + 1) s)))
      refine ⟨_, rfl, a, _, _, _, rfl, rfl, sq, at2, _, _, rfl, rfl, _, rfl, ite2 (fun _ => ?_) (fun _ => ?_)⟩
      · refine ⟨_, rfl, a, _, _, _, rfl, rfl, sq, at4, _, _, rfl, rfl, .inr ⟨by decide, by decide⟩, _, rfl, a, _, _, _, rfl, rfl, sq, at3, _, _, rfl, rfl, .inr ⟨by decide, by decide⟩, _, _, rfl, rfl, _, _, rfl, rfl, .inl ⟨_, rfl, _, _, rfl, rfl, (by show (0 : Int) < 2147483647; decide), ?_⟩⟩
        refine ⟨_, rfl, _, _, rfl, rfl, .inr ⟨by decide, by decide⟩, _, rfl, a, _, _, _, rfl, rfl, sq, at3, _, _, rfl, rfl, .inl ⟨_, rfl, _, _, rfl, rfl, (by show (0 : Int) < 2147483629; decide), ?_⟩⟩
        refine ⟨_, rfl, _, _, rfl, rfl, ⟨by decide, by decide⟩, _, rfl, _, _, rfl, rfl, (by show (0 : Int) < (m : Int); omega), ?_⟩
        generalize ((s * 48271 + (k' + 1) * 69621 + 1) % 2147483647 * 16807 + (k' + 1)) % 2147483629 / 5 = y
        obtain ⟨v, hv, hvm⟩ := rest_iv y hm0
        show Q (V.int (y % (m : Int))) _
        rw [hv]
        exact q v i' c' (k' + 1) hvm
      · -- value = int(pool[2]) % many
        refine ⟨_, rfl, a, _, _, _, rfl, rfl, sq, at2, .inl ⟨_, rfl, _, rfl, _, _, rfl, rfl, (by show (0 : Int) < (m : Int); omega), ?_⟩⟩
        obtain ⟨v, hv, hvm⟩ := rest_iv c' hm0
        refine ⟨_, rfl, a, _, _, _, rfl, rfl, sq, at2, _, rfl, _, _, rfl, rfl, ⟨by omega, by omega⟩, _, rfl, a, _, _, 2, rfl, rfl, upd_same, rfl, ?_⟩
        rw [upd_upd]
        refine ⟨_, rfl, ?_⟩
        show Q (V.int (c' % (m : Int))) _
        rw [hv]
        exact q v i' _ (k' + 1) hvm
end
end K71
namespace K71
open PySem L2
theorem tyx_list {K : PySem.W.Frag} {H : Hp} {a : Addr} {xs : List V} (h : SqL K H a xs) : TyX K H (.ref a) (.type "list") := by
  rcases h with (h | ⟨o, h⟩) | ⟨o, its, n, h, hc, _⟩
  · exact .base (.lst h)
  · exact .base (.frz h)
  · exact .kList h hc
section
variable {X : Cx} {te : TE} {e : Expr} {x : Str} {T : String} {p p2 pos : Pos}
/-- isinstance(e, T), T a built-in class by its name -/
theorem pe_isi (he : PE X e te) (gI : X.mg "isinstance" = none) (gT : X.mg x = none) (hv : bootBuiltins x = some (.type T)) (hg : Gl X x := by rfl) (hgi : Gl X "isinstance" := by rfl) (hn : x ≠ "__name__" := by decide) (hd : (x == ("__debug__" : Str)) = false := by decide)
    (h1 : starEach [e, .Name x p2] X.env = (false, eval e X.env) :: starEach [.Name x p2] X.env := by rfl) (h2 : starEach [.Name x p2] X.env = (false, eval (.Name x p2) X.env) :: starEach [] X.env := by rfl) (hpl : (backTo pos (starEach [.Name x p2] X.env)).any (·.1) = false := by rfl) :
    PE X (.Call (.Name "isinstance" p) [e, .Name x p2] [] pos) (tCB (rIsi X.K) (tCons te (tCons (tC (.ty T)) tNil))) :=
  pe_callB call_isi hgi gI (by decide +kernel) (pa_cons he (pa_cons (pe_bltn (v := .ty T) hg gT hv rfl hn hd) pa_nil h2) h1) (he := h1) (hpl := hpl)
end
section
variable {P : Program} {w : World} {K : PySem.W.Frag} {mg : Str → Option Value} {base : Heap}
/-- the built-in names of _law_same -/
structure SameNames (mg : Str → Option Value) : Prop where
  isi : mg "isinstance" = none
  tup : mg "tuple" = none
  lst : mg "list" = none
  len : mg "len" = none
  rng : mg "range" = none
  bool : mg "bool" = none
  int : mg "int" = none
/-! ### _law_same of two ints -/
def spSame1 : Sp := fun vs H Q _ => ∃ i : Int, vs = [.int i, .int i] ∧ Q (.bl true) H
theorem ok_same1 {f : Addr} {fd : FuncData} (F : Fun K "_law_same" "_law_same" sSame f fd) (G : SameNames mg) : FnOk P w K mg base CX0 1 f fd ["_law_actual", "_law_due"] spSame1 := by
  refine F.ok scSame (fun vs H Q E h => ?_) (fun cdv A outer s H vs Q E hr h => ?_)
  · obtain ⟨i, rfl, _⟩ := h
    rfl
  · obtain ⟨i, rfl, q⟩ := h
    refine ⟨_, pss_cons (ps_if (PW.pt (pw_or (pt_val (pe_isi (T := "tuple") (pv 1) G.isi G.tup (by decide +kernel))) (pw_or1 (pt_val (pe_isi (T := "list") (pv 1) G.isi G.lst (by decide +kernel)))))) pss_never pss_nil)
      (pss_cons (ps_if (pt_cmpR op_isN (pv 1) pe_non (nomark _)) pss_never pss_nil)
      (pss_cons (ps_if (pt_val (pe_isi (T := "bool") (pv 1) G.isi G.bool (by decide +kernel))) pss_never pss_nil)
      (pss_cons (ps_if (pt_val (pe_isi (T := "int") (pv 1) G.isi G.int (by decide +kernel))) (pss_one (ps_ret (pe_and (pe_isi (T := "int") (pv 0) G.isi G.int (by decide +kernel)) (pe_and (pe_not (pe_isi (T := "bool") (pv 0) G.isi G.bool (by decide +kernel))) (pe_one (pe_cmpR op_eq (pv 0) (pv 1) (nomark _))))))) pss_nil) pss_never))), ?_⟩
    refine ⟨_, rfl, _, _, .type "int", .type "tuple", false, rfl, .ty _, .base (.int i), kit_ty (by decide +kernel), _, rfl, ?_⟩
    refine ⟨_, rfl, _, _, .type "int", .type "list", false, rfl, .ty _, .base (.int i), kit_ty (by decide +kernel), _, rfl, ?_⟩
    refine ⟨_, rfl, rfl, _, rfl, ?_⟩
    refine ⟨_, rfl, _, _, .type "int", .type "bool", false, rfl, .ty _, .base (.int i), kit_ty (by decide +kernel), _, rfl, ?_⟩
    refine ⟨_, rfl, _, _, .type "int", .type "int", true, rfl, .ty _, .base (.int i), kit_ty (by decide +kernel), _, rfl, ?_⟩
    refine ⟨_, rfl, _, _, .type "int", .type "int", true, rfl, .ty _, .base (.int i), kit_ty (by decide +kernel), _, rfl, ?_⟩
    refine ⟨_, rfl, _, _, .type "int", .type "bool", false, rfl, .ty _, .base (.int i), kit_ty (by decide +kernel), _, rfl, _, rfl, ?_⟩
    refine ⟨_, rfl, _, rfl, rfl, ?_⟩
    rw [decide_eq_true rfl]
    exact q
/-! ### _law_same of two lists of ints -/
def spSame2 (K : PySem.W.Frag) : Sp := fun vs H Q _ => ∃ (a b : Addr) (ns : List Nat), vs = [.ref a, .ref b] ∧ SqL K H a (ivs ns) ∧ SqL K H b (ivs ns) ∧ ns.length ≤ 1000 ∧ Q (.bl true) H
theorem ok_same2 {f : Addr} {fd : FuncData} (F : Fun K "_law_same" "_law_same" sSame f fd) (D1 : Df P w K mg base "_law_same" 1 ["_law_actual", "_law_due"] spSame1) (G : SameNames mg) : FnOk P w K mg base CX0 2 f fd ["_law_actual", "_law_due"] (spSame2 K) := by
  refine F.ok scSame (fun vs H Q E h => ?_) (fun cdv A outer s H vs Q E hr h => ?_)
  · obtain ⟨a, b, ns, rfl, _⟩ := h
    rfl
  · obtain ⟨a, b, ns, rfl, hA, hB, hlen, q⟩ := h
    refine ⟨_, pss_cons (ps_if (PW.pt (pw_or (pt_val (pe_isi (T := "tuple") (pv 1) G.isi G.tup (by decide +kernel))) (pw_or1 (pt_val (pe_isi (T := "list") (pv 1) G.isi G.lst (by decide +kernel))))))
        (pss_cons (ps_if (PW.pt (pw_or (pt_cmpR op_ne (pe_isi (T := "tuple") (pv 1) G.isi G.tup (by decide +kernel)) (pe_isi (T := "tuple") (pv 0) G.isi G.tup (by decide +kernel)) (nomark _)) (pw_or1 (pt_cmpR op_ne (pe_isi (T := "list") (pv 1) G.isi G.lst (by decide +kernel)) (pe_isi (T := "list") (pv 0) G.isi G.lst (by decide +kernel)) (nomark _))))) pss_never pss_nil)
        (pss_cons (ps_if (pt_cmpR op_ne (pe_len K G.len (pv 0)) (pe_len K G.len (pv 1)) (nomark _)) pss_never pss_nil)
        (pss_cons (ps_for PassesOwn.never rfl (pi_range1 (by rfl) G.rng (pa_cons (pe_len K G.len (pv 1)) pa_nil)) (pg_name (i := 2) scSame.nd rfl (.inl rfl))
          (pss_one (ps_if (pt_not (pt_val (pe_df D1 hr rfl (pa_cons (pe_ix ix_list (pv 0) (pv 2) (fun _ _ => rfl)) (pa_cons (pe_ix ix_list (pv 1) (pv 2) (fun _ _ => rfl)) pa_nil))))) pss_never pss_nil)))
        (pss_one (ps_ret pe_bl))))) pss_nil) pss_never, ?_⟩
    have kt : PySem.W.kitOne K (.type "list") (.type "tuple") = some false := kit_ty (by decide +kernel)
    have kl : PySem.W.kitOne K (.type "list") (.type "list") = some true := kit_ty (by decide +kernel)
    refine ⟨_, rfl, _, _, .type "list", .type "tuple", false, rfl, .ty _, tyx_list hB, kt, _, rfl, ?_⟩
    refine ⟨_, rfl, _, _, .type "list", .type "list", true, rfl, .ty _, tyx_list hB, kl, _, rfl, ?_⟩
    refine ⟨_, rfl, _, _, .type "list", .type "tuple", false, rfl, .ty _, tyx_list hB, kt, _, rfl, _, _, .type "list", .type "tuple", false, rfl, .ty _, tyx_list hA, kt, rfl, _, rfl, iteF ?_⟩
    refine ⟨_, rfl, _, _, .type "list", .type "list", true, rfl, .ty _, tyx_list hB, kl, _, rfl, _, _, .type "list", .type "list", true, rfl, .ty _, tyx_list hA, kl, rfl, _, rfl, iteF ?_⟩
    refine ⟨_, rfl, a, ivs ns, rfl, .inl hA, _, rfl, b, ivs ns, rfl, .inl hB, rfl, _, rfl, iteNS rfl ?_⟩
    refine ⟨_, rfl, b, ivs ns, rfl, .inl hB, ((ivs ns).length : Int), rfl, by rw [List.length_map]; omega, by rw [List.length_map]; omega, for_range (lo := 0) (n := (((ivs ns).length : Int)).toNat) (fun i σ H' => ∃ c : Option V, σ = [some (.ref a), some (.ref b), c] ∧ H' = H) ⟨none, rfl, rfl⟩ (fun i σ H' hi h => ?_) (fun σ H' h => ?_)⟩
    · obtain ⟨c, rfl, rfl⟩ := h
      rw [Int.toNat_natCast, List.length_map] at hi
      obtain ⟨y, hy⟩ : ∃ y, ns[i]? = some y := ⟨_, List.getElem?_eq_getElem hi⟩
      have e0 : (0 : Int) + (i : Int) = (i : Int) := by omega
      have hat : atI (ivs ns) (0 + (i : Int)) = some (iv y) := by
        rw [e0]
        exact atI_iv hy
      refine ⟨_, rfl, _, rfl, a, ivs ns, _, iv y, rfl, rfl, hA, hat, _, rfl, _, rfl, b, ivs ns, _, iv y, rfl, rfl, hB, hat, (y : Int), rfl, _, rfl, ?_⟩
      exact ⟨_, rfl, rfl⟩
    · obtain ⟨c, rfl, rfl⟩ := h
      exact q
end
end K71
namespace K71
/-! ### a list written twice is repeated -/
theorem twice_take (T : List Nat) {k : Nat} (h : k ≤ T.length) : (T ++ T).take k = T.take k := by
  rw [List.take_append_of_le_length h]
theorem twice_flat (T : List Nat) : (List.replicate 2 ((T ++ T).take T.length)).flatten = T ++ T := by
  rw [twice_take T (Nat.le_refl _), List.take_length]
  simp
theorem rep_twice {T : List Nat} (h : T.length = 32 ∨ T.length = 64) : repLen (T ++ T) ≤ T.length := by
  have hl : (T ++ T).length = T.length + T.length := List.length_append
  have hf := twice_flat T
  unfold repLen lens
  rcases h with h | h
  · rw [h] at hl hf ⊢
    rw [repL, hl, if_neg (by decide)]
    by_cases e : (List.replicate ((32 + 32) / 16) ((T ++ T).take 16)).flatten = T ++ T
    · rw [if_pos e]
      decide
    · rw [if_neg e, repL, hl, if_neg (by decide), if_pos hf]
      exact Nat.le_refl _
  · rw [h] at hl hf ⊢
    rw [repL, hl, if_neg (by decide)]
    by_cases e : (List.replicate ((64 + 64) / 16) ((T ++ T).take 16)).flatten = T ++ T
    · rw [if_pos e]
      decide
    · rw [if_neg e, repL, hl, if_neg (by decide)]
      by_cases e2 : (List.replicate ((64 + 64) / 32) ((T ++ T).take 32)).flatten = T ++ T
      · rw [if_pos e2]
        decide
      · rw [if_neg e2, repL, hl, if_neg (by decide), if_pos hf]
        exact Nat.le_refl _
/-! ### one item of a row is changed -/
theorem count_set : ∀ (l : List Nat) (k y t : Nat), l.count t ≤ (l.set k y).count t + 1
  | [], _, _, _ => by simp
  | a :: r, 0, y, t => by
    rw [List.set_cons_zero, List.count_cons, List.count_cons]
    split <;> split <;> omega
  | a :: r, k + 1, y, t => by
    have h := count_set r k y t
    rw [List.set_cons_succ, List.count_cons, List.count_cons]
    omega
theorem col_set (rows : List (List Nat)) (k : Nat) (r : List Nat) (x : Nat) : col (rows.set k r) x = (col rows x).set k (r.getD x 0) := by
  unfold col
  rw [List.map_set]
theorem col_keep {rows : List (List Nat)} {k : Nat} {r : List Nat} (hr : rows[k]? = some r) {x at_ v : Nat} (h : x ≠ at_) : col (rows.set k (r.set at_ v)) x = col rows x := by
  rw [col_set]
  have e : (r.set at_ v).getD x 0 = r.getD x 0 := by
    rw [List.getD_eq_getElem?_getD, List.getD_eq_getElem?_getD, List.getElem?_set_ne (fun q => h q.symm)]
  rw [e]
  have hk : (col rows x)[k]? = some (r.getD x 0) := by
    unfold col
    rw [List.getElem?_map, hr]
    rfl
  refine List.ext_getElem? fun j => ?_
  by_cases q : k = j
  · subst q
    rw [List.getElem?_set_self (lt_of_get hk), hk]
  · rw [List.getElem?_set_ne q]
theorem col_rep (T : List Nat) {x t : Nat} (h : T[x]? = some t) (n : Nat) : (col (List.replicate n T) x).count t = n := by
  unfold col
  rw [List.map_replicate, List.getD_eq_getElem?_getD, h]
  show (List.replicate n t).count t = n
  exact List.count_replicate_self
end K71
namespace K71
open PySem L2
/-! ### what stands while the law runs -/
def PoolAt (H : Hp) (p l : Addr) (s : Int) (ss : List Int) : Prop := ∃ (i : Nat) (c k : Int), H p = some (.lst (poolL l i c k s)) ∧ H l = some (.lst (ss.map V.int))
theorem PoolAt.off {H : Hp} {p l x : Addr} {s : Int} {ss : List Int} {o : HO} (h : PoolAt H p l s ss) (h1 : p ≠ x) (h2 : l ≠ x) : PoolAt (upd H x o) p l s ss := by
  obtain ⟨i, c, k, g1, g2⟩ := h
  exact ⟨i, c, k, by rw [upd_ne h1]; exact g1, by rw [upd_ne h2]; exact g2⟩
theorem PoolAt.new {H : Hp} {p l x : Addr} {s : Int} {ss : List Int} {o : HO} (h : PoolAt H p l s ss) (hx : H x = none) : PoolAt (upd H x o) p l s ss := by
  obtain ⟨i, c, k, g1, g2⟩ := id h
  exact h.off (ne_of_none g1 hx) (ne_of_none g2 hx)
theorem PoolAt.same {H H' : Hp} {p l : Addr} {s : Int} {ss : List Int} (e : Same H H') (h : PoolAt H p l s ss) : PoolAt H' p l s ss := by
  obtain ⟨i, c, k, g1, g2⟩ := h
  exact ⟨i, c, k, e _ _ g1, e _ _ g2⟩
theorem PoolAt.ne {H : Hp} {p l : Addr} {s : Int} {ss : List Int} (h : PoolAt H p l s ss) : l ≠ p := by
  obtain ⟨i, c, k, g1, g2⟩ := h
  exact pool_ne g1 g2
theorem PoolAt.drawn {H : Hp} {p l : Addr} {s : Int} {ss : List Int} (h : PoolAt H p l s ss) (i : Nat) (c k : Int) : PoolAt (upd H p (.lst (poolL l i c k s))) p l s ss := by
  have hn := h.ne
  obtain ⟨_, _, _, _, g2⟩ := h
  exact ⟨i, c, k, upd_same, by rw [upd_ne hn]; exact g2⟩
structure LawS (H : Hp) (p l tA dA : Addr) (s : Int) (ss : List Int) (bs : List Addr) (T : List Nat) (rows : List (List Nat)) : Prop where
  pool : PoolAt H p l s ss
  tr : H tA = some (.lst (ivs T))
  du : H dA = some (.lst (bs.map V.ref))
  len : bs.length = rows.length
  row : ∀ (k : Nat) (b : Addr), bs[k]? = some b → ∃ r, rows[k]? = some r ∧ r.length = T.length ∧ H b = some (.lst (ivs r))
  nd : bs.Nodup
  np : p ∉ bs
  nl : l ∉ bs
  nt : tA ∉ bs
  ndd : dA ∉ bs
  pt : p ≠ tA
  pd : p ≠ dA
section
variable {H H' : Hp} {p l tA dA : Addr} {s : Int} {ss : List Int} {bs : List Addr} {T : List Nat} {rows : List (List Nat)}
theorem mem_of {bs : List Addr} {k : Nat} {b : Addr} (h : bs[k]? = some b) : b ∈ bs := List.mem_of_getElem? h
theorem LawS.same (e : Same H H') (h : LawS H p l tA dA s ss bs T rows) : LawS H' p l tA dA s ss bs T rows :=
  ⟨h.pool.same e, e _ _ h.tr, e _ _ h.du, h.len, fun k b hb => by
    obtain ⟨r, h1, h2, h3⟩ := h.row k b hb
    exact ⟨r, h1, h2, e _ _ h3⟩, h.nd, h.np, h.nl, h.nt, h.ndd, h.pt, h.pd⟩
theorem LawS.drawn (h : LawS H p l tA dA s ss bs T rows) (i : Nat) (c k : Int) : LawS (upd H p (.lst (poolL l i c k s))) p l tA dA s ss bs T rows :=
  ⟨h.pool.drawn i c k, by rw [upd_ne h.pt.symm]; exact h.tr, by rw [upd_ne h.pd.symm]; exact h.du, h.len, fun k b hb => by
    obtain ⟨r, h1, h2, h3⟩ := h.row k b hb
    have hbp : b ≠ p := fun q => h.np (q ▸ mem_of hb)
    exact ⟨r, h1, h2, by rw [upd_ne hbp]; exact h3⟩, h.nd, h.np, h.nl, h.nt, h.ndd, h.pt, h.pd⟩
theorem LawS.put (h : LawS H p l tA dA s ss bs T rows) {k : Nat} {b : Addr} {r : List Nat} (hb : bs[k]? = some b) (hr : rows[k]? = some r) (x v : Nat) : LawS (upd H b (.lst (ivs (r.set x v)))) p l tA dA s ss bs T (rows.set k (r.set x v)) := by
  have mb := mem_of hb
  have hrl : r.length = T.length := by
    obtain ⟨r', h1, h2, _⟩ := h.row k b hb
    rw [hr] at h1
    cases h1
    exact h2
  have htb : tA ≠ b := fun q => h.nt (q ▸ mb)
  have hdb : dA ≠ b := fun q => h.ndd (q ▸ mb)
  refine ⟨h.pool.off (fun q => h.np (q ▸ mb)) (fun q => h.nl (q ▸ mb)), by rw [upd_ne htb]; exact h.tr, by rw [upd_ne hdb]; exact h.du, by rw [List.length_set]; exact h.len, fun j c hc => ?_, h.nd, h.np, h.nl, h.nt, h.ndd, h.pt, h.pd⟩
  by_cases e : k = j
  · subst e
    rw [hb] at hc
    cases hc
    exact ⟨r.set x v, List.getElem?_set_self (lt_of_get hr), by rw [List.length_set]; exact hrl, upd_same⟩
  · obtain ⟨r', h1, h2, h3⟩ := h.row j c hc
    have hcb : c ≠ b := fun q => e (nd_ix h.nd hb (q ▸ hc))
    exact ⟨r', by rw [List.getElem?_set_ne e]; exact h1, h2, by rw [upd_ne hcb]; exact h3⟩
theorem LawS.rows_ {K : PySem.W.Frag} (h : LawS H p l tA dA s ss bs T rows) : Rows K H bs rows T.length :=
  ⟨h.len, fun k b hb => by
    obtain ⟨r, h1, h2, h3⟩ := h.row k b hb
    exact ⟨r, h1, h2, SqL.of h3⟩⟩
end
/-- in each place more than half of the rows are right: j may be wrong in the places below x, and y in the place x itself -/
def Maj (T : List Nat) (rows : List (List Nat)) (many x y : Nat) : Prop := ∀ i t, T[i]? = some t → many ≤ (col rows i).count t + (if i < x then many / 2 else if i = x then y else 0)
theorem Maj.start (T : List Nat) (many : Nat) : Maj T (List.replicate many T) many 0 0 := fun i t h => by
  rw [col_rep T h]
  exact Nat.le_add_right _ _
theorem Maj.next {T : List Nat} {rows : List (List Nat)} {many x y : Nat} (h : Maj T rows many x y) (hy : y ≤ many / 2) : Maj T rows many (x + 1) 0 := fun i t ht => by
  have h1 := h i t ht
  by_cases e : i < x
  · rw [if_pos e] at h1
    rw [if_pos (by omega)]
    exact h1
  · by_cases e2 : i = x
    · rw [if_neg e, if_pos e2] at h1
      rw [if_pos (by omega)]
      omega
    · rw [if_neg e, if_neg e2] at h1
      rw [if_neg (by omega)]
      split <;> omega
theorem Maj.put {T : List Nat} {rows : List (List Nat)} {many x y k v : Nat} {r : List Nat} (h : Maj T rows many x y) (hr : rows[k]? = some r) : Maj T (rows.set k (r.set x v)) many x (y + 1) := fun i t ht => by
  have h1 := h i t ht
  by_cases e2 : i = x
  · rw [if_neg (by omega), if_pos e2] at h1 ⊢
    rw [col_set]
    have h2 := count_set (col rows i) k ((r.set x v).getD i 0) t
    omega
  · rw [col_keep hr e2]
    by_cases e : i < x
    · rw [if_pos e] at h1 ⊢
      exact h1
    · rw [if_neg e, if_neg e2] at h1 ⊢
      exact h1
end K71
namespace K71
open PySem L2
theorem pick_two (a b : Nat) {v : Nat} (h : v < 2) : ∃ n, (n = a ∨ n = b) ∧ atI [iv a, iv b] (v : Int) = some (iv n) := by
  rcases (show v = 0 ∨ v = 1 by omega) with rfl | rfl
  · exact ⟨a, .inl rfl, atI_nat (j := 0) rfl⟩
  · exact ⟨b, .inr rfl, atI_nat (j := 1) rfl⟩
theorem maj_end {T : List Nat} {rows : List (List Nat)} {many : Nat} (hm : many = 3 ∨ many = 5) (hl : rows.length = many) (h : Maj T rows many T.length 0) : ∀ i t, T[i]? = some t → rows.length < 2 * (col rows i).count t := fun i t ht => by
  have h1 := h i t ht
  rw [if_pos (lt_of_get ht)] at h1
  rcases hm with rfl | rfl <;> omega
section
variable {P : Program} {w : World} {K : PySem.W.Frag} {mg : Str → Option Value} {base : Heap}
abbrev nLaw : List Str := ["_law_script", "_law_pool_here", "_law_k", "_law_true", "_law_many", "_law_dumps", "_law_at", "_law_first", "_law_seen"]
def spLaw (K : PySem.W.Frag) : Sp := fun vs H Q _ => ∃ (a : Addr) (ns : List Int), vs = [.ref a] ∧ SqL K H a (ns.map V.int) ∧ ns.length ≤ 63 ∧ ∀ H', Q (.bl true) H'
/-- the defs that the law calls -/
structure LawDefs (P : Program) (w : World) (K : PySem.W.Frag) (mg : Str → Option Value) (base : Heap) : Prop where
  pool : Df P w K mg base "_law_pool" 1 ["_law_script"] (spPool K)
  draw : Df P w K mg base "_law_draw" 2 ["_law_pool_here", "_law_many"] spDraw
  same : Df P w K mg base "_law_same" 2 ["_law_actual", "_law_due"] (spSame2 K)
  merge : Df P w K mg base "merged" 2 ["dumps"] (spMerge K)
  trim : Df P w K mg base "trimmed" 4 ["dump"] (spTrim K)
  true : Df P w K mg base "true_length" 3 ["dump"] (spTrue K)
  sol : Df P w K mg base "solution" 7 ["values", "unknown", "wanted"] (spSol K)
  crc : Df P w K mg base "crc" 3 ["values"] (spCrc K)
  len : mg "len" = none
  rng : mg "range" = none
  lst : mg "list" = none
theorem ok_law {f : Addr} {fd : FuncData} (F : Fun K "law" "law" sLaw f fd) (L : LawDefs P w K mg base) : FnOk P w K mg base CX0 8 f fd ["_law_script"] (spLaw K) := by
  refine F.ok scLaw (fun vs H Q E h => ?_) (fun cdv A outer s H vs Q E hr h => ?_)
  · obtain ⟨a, ns, rfl, _⟩ := h
    rfl
  · obtain ⟨a, ns, rfl, hS, hlen, q⟩ := h
    have hr1 : Room 1 _ := hr.mono (by decide)
    have hr2 : Room 2 _ := hr.mono (by decide)
    have hr3 : Room 3 _ := hr.mono (by decide)
    have hr4 : Room 4 _ := hr.mono (by decide)
    refine ⟨_, pss_cons (ps_set (i := 1) scLaw.nd rfl (.inr rfl) (pe_df L.pool hr1 rfl (pa_cons (pv 0) pa_nil)))
      (pss_cons (ps_set (i := 3) scLaw.nd rfl (.inr rfl) (pe_lc (own := [("_law_k", 2)]) (g := gName 2) (tt := tYes) rfl scLaw.nd
          (pi_range1 (by rfl) L.rng (pa_cons (pe_ix ix_list (pe_lst (pa_cons pe_int (pa_cons pe_int pa_nil))) (pe_df L.draw hr2 rfl (pa_cons (pv 1) (pa_cons pe_int pa_nil))) (fun _ _ => rfl)) pa_nil))
          (blkOk_by (own := [("_law_k", 2)]) (N := nLaw) (sc := defScope sLaw) (by decide +kernel))
          (fun _ _ _ _ _ => pg_name (i := 2) scLaw.nd rfl (Or.inl rfl)) (fun _ _ _ _ _ => pts_nil) (fun _ _ _ _ _ => pe_df L.draw hr2 (by rfl) (pa_cons (pv 1) (pa_cons pe_int pa_nil)))))
      (pss_cons (ps_set (i := 4) scLaw.nd rfl (.inl rfl) (pe_ix ix_list (pe_lst (pa_cons pe_int (pa_cons pe_int pa_nil))) (pe_df L.draw hr2 rfl (pa_cons (pv 1) (pa_cons pe_int pa_nil))) (fun _ _ => rfl)))
      (pss_cons (ps_setLc (i := 5) (own := [("_law_k", 2)]) (g := gName 2) (tt := tYes) (te := tCB (fun xs H Q => ∃ p ys, xs = [.ref p] ∧ (SqL K H p ys ∨ SqT K H p ys) ∧ ∀ l, H l = none → Q (.ref l) (upd H l (.lst ys))) (tCons (tVar 3) tNil)) (by rfl) scLaw.nd rfl rfl (sw_true rfl rfl rfl (by decide +kernel)) (pi_range1 (by rfl) L.rng (pa_cons (pv 4) pa_nil))
          (blkOk_by (own := [("_law_k", 2)]) (N := nLaw) (sc := defScope sLaw) (by decide +kernel))
          (fun _ _ _ _ _ => pg_name (i := 2) scLaw.nd rfl (Or.inl rfl)) (fun _ _ _ _ _ => pts_nil) (fun _ _ _ _ _ => pe_callTy call_list_of (by rfl) L.lst (by decide +kernel) (pa_cons (pv 3) pa_nil)))
      (pss_cons (ps_for PassesOwn.never rfl (pi_range1 (by rfl) L.rng (pa_cons (pe_len K L.len (pv 3)) pa_nil)) (pg_name (i := 6) scLaw.nd rfl (.inl rfl))
        (pss_cons (ps_set (i := 7) scLaw.nd rfl (.inl rfl) (pe_df L.draw hr2 rfl (pa_cons (pv 1) (pa_cons (pv 4) pa_nil))))
        (pss_one (ps_for PassesOwn.never rfl (pi_range1 (by rfl) L.rng (pa_cons (pe_df L.draw hr2 rfl (pa_cons (pv 1) (pa_cons (pe_op op_add (pe_op op_fdiv (pv 4) pe_int) pe_int) pa_nil))) pa_nil)) (pg_name (i := 2) scLaw.nd rfl (.inl rfl))
          (pss_one (ps_asg (pe_df L.draw hr2 rfl (pa_cons (pv 1) (pa_cons pe_int pa_nil))) (pg_sub (pe_ix ix_list (pv 5) (pe_op op_mod (pe_op op_add (pv 7) (pv 2)) (pv 4)) (fun _ _ => rfl)) (pv 6) set_list)))))))
      (pss_cons (ps_if (pt_not (pt_val (pe_df L.same hr2 rfl (pa_cons (pe_df L.merge hr2 rfl (pa_cons (pv 5) pa_nil)) (pa_cons (pv 3) pa_nil))))) pss_never pss_nil)
      (pss_cons (ps_if (PW.pt (pw_or (pt_cmpR (op_neD hr.units) (pe_df L.trim hr4 rfl (pa_cons (pe_op op_cat (pv 3) (pv 3)) pa_nil)) (pe_slice sl_list (pv 3) po_none (po_some (pe_df L.true hr3 rfl (pa_cons (pe_op op_cat (pv 3) (pv 3)) pa_nil)))) (nomark _))
          (pw_or1 (pt_cmpR op_gt (pe_df L.true hr3 rfl (pa_cons (pe_op op_cat (pv 3) (pv 3)) pa_nil)) (pe_len K L.len (pv 3)) (nomark _))))) pss_never pss_nil)
      (pss_cons (ps_set (i := 6) scLaw.nd rfl (.inl rfl) (pe_df L.draw hr2 rfl (pa_cons (pv 1) (pa_cons (pe_len K L.len (pv 3)) pa_nil))))
      (pss_cons (ps_set (i := 8) scLaw.nd rfl (.inl rfl) (pe_op op_cat (pe_op op_cat (pe_slice sl_list (pv 3) po_none (po_some (pv 6))) (pe_lst (pa_cons (pe_df L.draw hr2 rfl (pa_cons (pv 1) (pa_cons pe_int pa_nil))) pa_nil))) (pe_slice sl_list (pv 3) (po_some (pe_op op_add (pv 6) pe_int)) po_none)))
      (pss_one (ps_ret (pe_df L.same hr2 rfl (pa_cons (pe_df L.sol hr rfl (pa_cons (pv 8) (pa_cons (pe_listRg rfl rfl L.lst (prg_2 rfl L.rng (pe_op op_mul pe_int (pv 6)) (pe_op op_add (pe_op op_mul pe_int (pv 6)) pe_int))) (pa_cons (pe_df L.crc hr3 rfl (pa_cons (pv 3) pa_nil)) pa_nil)))) (pa_cons (pv 3) pa_nil))))))))))))), ?_⟩
    refine ⟨_, rfl, a, ns, rfl, hS, fun H1 p l s _ _ _ hp hl => ?_⟩
    have hP : PoolAt H1 p l s ns := ⟨0, 0, 0, hp, hl⟩
    refine ⟨(by show 2 ≤ sizeLine; decide), fun q0 nq0 => ?_⟩
    have hP1 := hP.new (o := .lst [.int 32, .int 64]) nq0
    have hq0 : (upd H1 q0 (.lst [.int 32, .int 64])) q0 = some (.lst [iv 32, iv 64]) := upd_same
    generalize upd H1 q0 (.lst [.int 32, .int 64]) = H1' at hP1 hq0 ⊢
    obtain ⟨i1, c1, k1, hp1, hl1⟩ := id hP1
    refine ⟨_, rfl, p, l, 2, i1, c1, k1, s, ns, rfl, by decide, by decide, hp1, hl1, fun v i' c' k' hv => ?_⟩
    have hP2 := hP1.drawn i' c' k'
    have hq0p : q0 ≠ p := fun e => by
      rw [e, hp1] at hq0
      cases hq0
    have hq02 : (upd H1' p (.lst (poolL l i' c' k' s))) q0 = some (.lst [iv 32, iv 64]) := by
      rw [upd_ne hq0p]
      exact hq0
    generalize upd H1' p (.lst (poolL l i' c' k' s)) = H2 at hP2 hq02 ⊢
    obtain ⟨n, hn, hat⟩ := pick_two 32 64 hv
    refine ⟨q0, [iv 32, iv 64], _, iv n, rfl, rfl, SqL.of hq02, hat, (n : Int), rfl, by omega, by omega, fun tA htA => lc_range (lo := 0) (n := ((n : Int)).toNat)
      (fun i H' => ∃ T : List Nat, T.length = i ∧ (∀ t ∈ T, t < 256) ∧ H' tA = some (.lst (ivs T)) ∧ PoolAt H' p l s ns) ⟨[], rfl, (fun t m => by cases m), upd_same, hP2.new htA⟩ (fun i H' hi h => ?_) (fun H3 h => ?_)⟩
    · obtain ⟨T, hTl, hTb, hTA, hP'⟩ := h
      obtain ⟨i2, c2, k2, hp2, hl2⟩ := id hP'
      have hpt : tA ≠ p := fun e => by
        obtain ⟨_, _, _, g, _⟩ := hP2
        rw [e, g] at htA
        cases htA
      have hlt : l ≠ tA := fun e => by
        obtain ⟨_, _, _, _, g⟩ := hP2
        rw [← e, g] at htA
        cases htA
      refine ⟨rfl, _, rfl, p, l, 256, i2, c2, k2, s, ns, rfl, by decide, by decide, hp2, hl2, fun v i3 c3 k3 hv => ?_⟩
      refine ⟨_, by rw [upd_ne hpt]; exact hTA, ?_, T ++ [v], by rw [List.length_append, hTl]; rfl, fun t m => ?_, ?_, ?_⟩
      · rw [List.length_map]
        rw [Int.toNat_natCast] at hi
        exact small1000 (by omega)
      · rcases List.mem_append.mp m with m | m
        · exact hTb t m
        · rw [List.mem_singleton.mp m]
          exact hv
      · rw [upd_same]
        show _ = some (HO.lst (List.map iv (_ ++ [_])))
        rw [List.map_append]
        rfl
      · exact (hP'.drawn i3 c3 k3).off hpt.symm hlt
    obtain ⟨T, hTl, hTb, hTA, hP3⟩ := h
    rw [Int.toNat_natCast] at hTl
    have hT64 : T.length ≤ 64 := by omega
    have hTn : T.length = 32 ∨ T.length = 64 := by omega
    refine ⟨(by show 2 ≤ sizeLine; decide), fun q1 nq1 => ?_⟩
    have hP4 := hP3.new (o := .lst [.int 3, .int 5]) nq1
    have hq1 : (upd H3 q1 (.lst [.int 3, .int 5])) q1 = some (.lst [iv 3, iv 5]) := upd_same
    have hTA4 : (upd H3 q1 (.lst [.int 3, .int 5])) tA = some (.lst (ivs T)) := by
      rw [upd_ne (ne_of_none hTA nq1)]
      exact hTA
    generalize upd H3 q1 (.lst [.int 3, .int 5]) = H4 at hP4 hq1 hTA4 ⊢
    obtain ⟨i4, c4, k4, hp4, hl4⟩ := id hP4
    have hq1p : q1 ≠ p := fun e => by
      rw [e, hp4] at hq1
      cases hq1
    have hpt : p ≠ tA := fun e => by
      rw [← e, hp4] at hTA4
      have h5 := congrArg (fun o => match o with | some (HO.lst xs) => xs.length | _ => 0) hTA4
      have h5 : (poolL l i4 c4 k4 s).length = (ivs T).length := h5
      rw [List.length_map] at h5
      have h6 : (poolL l i4 c4 k4 s).length = 5 := rfl
      omega
    refine ⟨_, rfl, p, l, 2, i4, c4, k4, s, ns, rfl, by decide, by decide, hp4, hl4, fun v i' c' k' hv => ?_⟩
    have hP5 := hP4.drawn i' c' k'
    have hq15 : (upd H4 p (.lst (poolL l i' c' k' s))) q1 = some (.lst [iv 3, iv 5]) := by
      rw [upd_ne hq1p]
      exact hq1
    have hTA5 : (upd H4 p (.lst (poolL l i' c' k' s))) tA = some (.lst (ivs T)) := by
      rw [upd_ne hpt.symm]
      exact hTA4
    generalize upd H4 p (.lst (poolL l i' c' k' s)) = H5 at hP5 hq15 hTA5 ⊢
    obtain ⟨m, hm, hat⟩ := pick_two 3 5 hv
    refine ⟨q1, [iv 3, iv 5], _, iv m, rfl, rfl, SqL.of hq15, hat, ?_⟩
    refine ⟨_, rfl, (m : Int), rfl, by omega, by omega, fun dA hdA => lc_range (lo := 0) (n := ((m : Int)).toNat)
      (fun j H' => ∃ bs : List Addr, bs.length = j ∧ H' dA = some (.lst (bs.map V.ref)) ∧ (∀ b ∈ bs, H' b = some (.lst (ivs T)) ∧ H5 b = none ∧ b ≠ dA) ∧ bs.Nodup ∧ Same H5 H') ⟨[], rfl, upd_same, (fun b mb => by cases mb), List.nodup_nil, same_upd hdA⟩ (fun j H' hj h => ?_) (fun H6 h => ?_)⟩
    · obtain ⟨bs, hbl, hdu, hbs, hnd, s5⟩ := h
      refine ⟨rfl, _, rfl, tA, ivs T, rfl, .inl (SqL.of (s5 _ _ hTA5)), fun b nb => ?_⟩
      have hbd : b ≠ dA := fun e => by
        rw [e, hdu] at nb
        cases nb
      have hbn : b ∉ bs := fun mb => by
        rw [(hbs b mb).1] at nb
        cases nb
      refine ⟨_, by rw [upd_ne hbd.symm]; exact hdu, ?_, bs ++ [b], by rw [List.length_append, hbl]; rfl, ?_, fun x mx => ?_, nd_snoc hnd hbn, same_new (s5.trans (same_upd nb)) hdA⟩
      · rw [List.length_map]
        rw [Int.toNat_natCast] at hj
        exact small1000 (by omega)
      · rw [upd_same, List.map_append]
        rfl
      · rcases List.mem_append.mp mx with mx | mx
        · have h6 := hbs x mx
          have hxb : x ≠ b := fun e => hbn (e ▸ mx)
          refine ⟨?_, h6.2⟩
          rw [upd_ne h6.2.2, upd_ne hxb]
          exact h6.1
        · rw [List.mem_singleton.mp mx]
          exact ⟨by rw [upd_ne hbd]; exact upd_same, s5.free nb, hbd⟩
    obtain ⟨bs, hbl, hdu, hbs, hnd, s5⟩ := h
    rw [Int.toNat_natCast] at hbl
    have nin : ∀ x o, H5 x = some o → x ∉ bs := fun x o e mx => by
      rw [(hbs x mx).2.1] at e
      cases e
    obtain ⟨i5, c5, k5, hp5, hl5⟩ := id hP5
    have hL : LawS H6 p l tA dA s ns bs T (List.replicate m T) := by
      refine ⟨hP5.same s5, s5 _ _ hTA5, hdu, by rw [List.length_replicate]; exact hbl, fun k b hb => ?_, hnd, nin _ _ hp5, nin _ _ hl5, nin _ _ hTA5, fun mx => (hbs dA mx).2.2 rfl, hpt, ne_of_none hp5 hdA⟩
      refine ⟨T, ?_, rfl, (hbs b (mem_of hb)).1⟩
      rw [List.getElem?_replicate, if_pos (by have := lt_of_get hb; omega)]
    have hm0 : 0 < m := by omega
    have hm5 : m ≤ 5 := by omega
    refine ⟨_, rfl, tA, ivs T, rfl, .inl (SqL.of hL.tr), ((ivs T).length : Int), rfl, by rw [List.length_map]; omega, by rw [List.length_map]; omega, for_range (lo := 0) (n := (((ivs T).length : Int)).toNat)
      (fun x σ H' => ∃ (rows : List (List Nat)) (c2 c6 c7 : Option V), σ = [some (.ref a), some (.ref p), c2, some (.ref tA), some (iv m), some (.ref dA), c6, c7, none] ∧ rows.length = m ∧ LawS H' p l tA dA s ns bs T rows ∧ Maj T rows m x 0)
      ⟨List.replicate m T, none, none, none, rfl, List.length_replicate, hL, Maj.start T m⟩ (fun x σ H' hx h => ?_) (fun σ H' h => ?_)⟩
    · obtain ⟨rows, c2, c6, c7, rfl, hrl, hL', hM⟩ := h
      rw [Int.toNat_natCast, List.length_map] at hx
      have e0 : (0 : Int) + (x : Int) = (x : Int) := by omega
      rw [e0]
      obtain ⟨i6, c6', k6, hp6, hl6⟩ := hL'.pool
      refine ⟨_, rfl, _, rfl, p, l, m, i6, c6', k6, s, ns, rfl, hm0, by omega, hp6, hl6, fun v1 i' c' k' hv1 => ?_⟩
      have hL7 := hL'.drawn i' c' k'
      generalize upd H' p (.lst (poolL l i' c' k' s)) = H7 at hL7 ⊢
      obtain ⟨i7, c7', k7, hp7, hl7⟩ := hL7.pool
      refine ⟨_, rfl, _, rfl, _, _, rfl, rfl, ⟨by decide, by decide⟩, _, _, rfl, rfl, p, l, m / 2 + 1, i7, c7', k7, s, ns, rfl, by omega, by omega, hp7, hl7, fun v2 i' c' k' hv2 => ?_⟩
      have hL8 := hL7.drawn i' c' k'
      generalize upd H7 p (.lst (poolL l i' c' k' s)) = H8 at hL8 ⊢
      refine ⟨(v2 : Int), rfl, by omega, by omega, for_range (lo := 0) (n := ((v2 : Int)).toNat)
        (fun j σ H' => ∃ (rows : List (List Nat)) (c2 : Option V), σ = [some (.ref a), some (.ref p), c2, some (.ref tA), some (iv m), some (.ref dA), some (iv x), some (iv v1), none] ∧ rows.length = m ∧ LawS H' p l tA dA s ns bs T rows ∧ Maj T rows m x j)
        ⟨rows, c2, rfl, hrl, hL8, hM⟩ (fun j σ H' hj h => ?_) (fun σ H' h => ?_)⟩
      · obtain ⟨rows, c2, rfl, hrl, hL', hM⟩ := h
        obtain ⟨i9, c9, k9, hp9, hl9⟩ := hL'.pool
        refine ⟨_, rfl, p, l, 256, i9, c9, k9, s, ns, rfl, by decide, by decide, hp9, hl9, fun v i' c' k' hv => ?_⟩
        have hL9 := hL'.drawn i' c' k'
        generalize upd H' p (.lst (poolL l i' c' k' s)) = H9 at hL9 ⊢
        obtain ⟨z, hz, hzm⟩ := rest_iv ((v1 : Int) + (0 + (j : Int))) hm0
        obtain ⟨b, hb⟩ : ∃ b, bs[z]? = some b := ⟨_, List.getElem?_eq_getElem (by omega)⟩
        obtain ⟨r, hr1, hr2, hr3⟩ := hL9.row z b hb
        have hba : atI (bs.map V.ref) (((v1 : Int) + (0 + (j : Int))) % (m : Int)) = some (.ref b) := by
          rw [hz]
          exact atI_nat (by rw [List.getElem?_map, hb]; rfl)
        refine ⟨_, rfl, _, rfl, _, rfl, _, _, rfl, rfl, _, rfl, _, _, rfl, rfl, (by show (0 : Int) < (m : Int); omega), dA, bs.map V.ref, _, .ref b, rfl, rfl, SqL.of hL9.du, hba, _, rfl, b, ivs r, _, x, rfl, rfl, hr3, ixN_nat (i := x) (by rw [List.length_map]; omega), ?_⟩
        have e2 : (ivs r).set x (iv v) = ivs (r.set x v) := List.map_set.symm
        rw [e2]
        exact ⟨rows.set z (r.set x v), _, rfl, by rw [List.length_set]; exact hrl, hL9.put hb hr1 x v, hM.put hr1⟩
      · obtain ⟨rows, c2, rfl, hrl, hL', hM⟩ := h
        rw [Int.toNat_natCast] at hM
        exact ⟨rows, c2, _, _, rfl, hrl, hL', hM.next (by omega)⟩
    obtain ⟨rows, c2, c6, c7, rfl, hrl, hL7, hM⟩ := h
    rw [Int.toNat_natCast, List.length_map] at hM
    refine ⟨_, rfl, dA, bs, rows, T, rfl, SqL.of hL7.du, hL7.rows_, by omega, by omega, by omega, maj_end hm hrl hM, fun H8 q2 s8 hq2 => ?_⟩
    have hP8 := hL7.pool.same s8
    have hT8 := s8 _ _ hL7.tr
    refine ⟨_, rfl, q2, tA, T, rfl, SqL.of hq2, SqL.of hT8, by omega, _, rfl, iteF ?_⟩
    have hLe := rep_twice hTn
    have h2l : (T ++ T).length = T.length + T.length := List.length_append
    have hcat : ivs T ++ ivs T = ivs (T ++ T) := List.map_append.symm
    have hcl : (ivs T).length + (ivs T).length ≤ sizeLine := by
      rw [List.length_map]
      exact Nat.le_of_lt (small1000 (by omega))
    refine ⟨_, rfl, _, rfl, tA, tA, ivs T, ivs T, rfl, rfl, hT8, hT8, hcl, fun c1 nc1 => ?_⟩
    rw [hcat]
    refine ⟨c1, T ++ T, rfl, SqL.of upd_same, by omega, by omega, fun H9 t1 s9 ht1 => ?_⟩
    have s89 : Same H8 H9 := (same_upd nc1).trans s9
    have hT9 := s89 _ _ hT8
    refine ⟨_, rfl, _, rfl, _, rfl, tA, tA, ivs T, ivs T, rfl, rfl, hT9, hT9, hcl, fun c2' nc2 => ?_⟩
    rw [hcat]
    refine ⟨c2', T ++ T, rfl, SqL.of upd_same, by omega, by omega, fun H10 s10 => ?_⟩
    have s910 : Same H9 H10 := (same_upd nc2).trans s10
    have hT10 := s910 _ _ hT9
    refine ⟨(repLen (T ++ T) : Int), rfl, tA, ivs T, rfl, SqL.of hT10, fun p3 np3 => ?_⟩
    rw [cut_take, ivs_take]
    have ht1' : (upd H10 p3 (.lst (ivs (T.take (repLen (T ++ T)))))) t1 = some (.lst (ivs ((T ++ T).take (repLen (T ++ T))))) := same_upd np3 _ _ (s910 _ _ ht1)
    refine ⟨_, _, dp_ivs (SqL.of ht1'), dp_ivs (SqL.of upd_same), shaped_dts _, shaped_dts _, _, rfl, ?_⟩
    have ee : PyData.eqv (.list (dts ((T ++ T).take (repLen (T ++ T))))) (.list (dts (T.take (repLen (T ++ T))))) = true := by
      rw [twice_take T hLe]
      exact (eqv_dts _ _).trans (decide_eq_true rfl)
    rw [ee]
    refine iteF ?_
    have s811 : Same H8 (upd H10 p3 (.lst (ivs (T.take (repLen (T ++ T)))))) := s89.trans (s910.trans (same_upd np3))
    generalize upd H10 p3 (.lst (ivs (T.take (repLen (T ++ T))))) = H11 at s811 ⊢
    have hT11 := s811 _ _ hT8
    refine ⟨_, rfl, _, rfl, tA, tA, ivs T, ivs T, rfl, rfl, hT11, hT11, hcl, fun c3' nc3 => ?_⟩
    rw [hcat]
    refine ⟨c3', T ++ T, rfl, SqL.of upd_same, by omega, by omega, fun H12 s12 => ?_⟩
    have s812 : Same H8 H12 := s811.trans ((same_upd nc3).trans s12)
    have hT12 := s812 _ _ hT8
    refine ⟨_, rfl, tA, ivs T, rfl, .inl (SqL.of hT12), _, _, rfl, rfl, _, rfl, ?_⟩
    have eg : decide (((ivs T).length : Int) < (repLen (T ++ T) : Int)) = false := decide_eq_false (by rw [List.length_map]; omega)
    refine ite2 (fun z => ?_) (fun _ => ?_)
    · have z1 : decide (((ivs T).length : Int) < (repLen (T ++ T) : Int)) = true := z
      rw [eg] at z1
      cases z1
    have hP12 := hP8.same s812
    obtain ⟨i12, c12, k12, hp12, hl12⟩ := id hP12
    refine ⟨_, rfl, _, rfl, tA, ivs T, rfl, .inl (SqL.of hT12), p, l, T.length, i12, c12, k12, s, ns, by rw [List.length_map]; rfl, by omega, by omega, hp12, hl12, fun at_ i' c' k' hat_ => ?_⟩
    have hP13 := hP12.drawn i' c' k'
    have hT13 : (upd H12 p (.lst (poolL l i' c' k' s))) tA = some (.lst (ivs T)) := by
      rw [upd_ne hpt.symm]
      exact hT12
    generalize upd H12 p (.lst (poolL l i' c' k' s)) = H13 at hP13 hT13 ⊢
    refine ⟨_, rfl, _, rfl, (at_ : Int), rfl, tA, ivs T, rfl, SqL.of hT13, fun u1 nu1 => ?_⟩
    rw [cut_take, ivs_take]
    have hP14 := hP13.new (o := .lst (ivs (T.take at_))) nu1
    have hT14 : (upd H13 u1 (.lst (ivs (T.take at_)))) tA = some (.lst (ivs T)) := same_upd nu1 _ _ hT13
    have hu1 : (upd H13 u1 (.lst (ivs (T.take at_)))) u1 = some (.lst (ivs (T.take at_))) := upd_same
    have hu1p : u1 ≠ p := fun e => by
      obtain ⟨_, _, _, g, _⟩ := hP13
      rw [e, g] at nu1
      cases nu1
    generalize upd H13 u1 (.lst (ivs (T.take at_))) = H14 at hP14 hT14 hu1 ⊢
    obtain ⟨i14, c14, k14, hp14, hl14⟩ := id hP14
    refine ⟨_, rfl, p, l, 256, i14, c14, k14, s, ns, rfl, by decide, by decide, hp14, hl14, fun sn i' c' k' hsn => ?_⟩
    have hT15 : (upd H14 p (.lst (poolL l i' c' k' s))) tA = some (.lst (ivs T)) := by
      rw [upd_ne hpt.symm]
      exact hT14
    have hu15 : (upd H14 p (.lst (poolL l i' c' k' s))) u1 = some (.lst (ivs (T.take at_))) := by
      rw [upd_ne hu1p]
      exact hu1
    generalize upd H14 p (.lst (poolL l i' c' k' s)) = H15 at hT15 hu15 ⊢
    refine ⟨(by show 1 ≤ sizeLine; decide), fun u2 nu2 => ?_⟩
    have hsm : ∀ {ys : List Nat}, ys.length ≤ 200 → (ivs ys).length ≤ 200 := fun h => by
      rw [List.length_map]
      exact h
    have htk : (T.take at_).length = at_ := by rw [List.length_take]; omega
    refine ⟨u1, u2, ivs (T.take at_), ivs [sn], rfl, rfl, same_upd nu2 _ _ hu15, upd_same, ?_, fun u3 nu3 => ?_⟩
    · rw [List.length_map, List.length_map, htk]
      exact Nat.le_of_lt (small1000 (by show at_ + 1 ≤ 1000; omega))
    have ec1 : ivs (T.take at_) ++ ivs [sn] = ivs (T.take at_ ++ [sn]) := List.map_append.symm
    rw [ec1]
    have s16 : Same H15 (upd (upd H15 u2 (.lst [iv sn])) u3 (.lst (ivs (T.take at_ ++ [sn])))) := (same_upd nu2).trans (same_upd nu3)
    have hu3 : (upd (upd H15 u2 (.lst [iv sn])) u3 (.lst (ivs (T.take at_ ++ [sn])))) u3 = some (.lst (ivs (T.take at_ ++ [sn]))) := upd_same
    generalize upd (upd H15 u2 (.lst [iv sn])) u3 (.lst (ivs (T.take at_ ++ [sn]))) = H16 at s16 hu3 ⊢
    refine ⟨_, rfl, _, rfl, _, _, rfl, rfl, ((at_ + 1 : Nat) : Int), rfl, tA, ivs T, rfl, SqL.of (s16 _ _ hT15), fun u4 nu4 => ?_⟩
    rw [cut_drop, ivs_drop]
    refine ⟨u3, u4, _, _, rfl, rfl, same_upd nu4 _ _ hu3, upd_same, ?_, fun u5 nu5 => ?_⟩
    · rw [List.length_map, List.length_map, List.length_append, htk, List.length_drop]
      exact Nat.le_of_lt (small1000 (by show at_ + 1 + (T.length - (at_ + 1)) ≤ 1000; omega))
    have ec2 : ivs (T.take at_ ++ [sn]) ++ ivs (T.drop (at_ + 1)) = ivs (T.set at_ sn) := by
      rw [set_split hat_, ← List.map_append, List.append_assoc]
      rfl
    rw [ec2]
    have s17 : Same H16 (upd (upd H16 u4 (.lst (ivs (T.drop (at_ + 1))))) u5 (.lst (ivs (T.set at_ sn)))) := (same_upd nu4).trans (same_upd nu5)
    have hu5 : (upd (upd H16 u4 (.lst (ivs (T.drop (at_ + 1))))) u5 (.lst (ivs (T.set at_ sn)))) u5 = some (.lst (ivs (T.set at_ sn))) := upd_same
    generalize upd (upd H16 u4 (.lst (ivs (T.drop (at_ + 1))))) u5 (.lst (ivs (T.set at_ sn))) = H17 at s17 hu5 ⊢
    have hT17 := s17 _ _ (s16 _ _ hT15)
    refine ⟨_, rfl, _, rfl, _, _, rfl, rfl, .inl ⟨by decide, by decide⟩, _, rfl, _, _, rfl, rfl, .inl ⟨by decide, by decide⟩, _, _, rfl, rfl, _, _, rfl, rfl, ⟨by omega, by omega, by omega, by omega, by omega⟩, fun u6 nu6 => ?_⟩
    have er : rgV (8 * (at_ : Int)) (8 * (at_ : Int) + 8) = ivs (eight at_) := by
      unfold rgV eight
      have e8 : (8 * (at_ : Int) + 8 - 8 * (at_ : Int)).toNat = 8 := by omega
      rw [e8]
      show _ = List.map iv (List.map _ _)
      rw [List.map_map]
      rfl
    rw [er]
    have s18 : Same H17 (upd H17 u6 (.lst (ivs (eight at_)))) := same_upd nu6
    have hu6 : (upd H17 u6 (.lst (ivs (eight at_)))) u6 = some (.lst (ivs (eight at_))) := upd_same
    generalize upd H17 u6 (.lst (ivs (eight at_))) = H18 at s18 hu6 ⊢
    refine ⟨_, rfl, tA, T, rfl, SqL.of (s18 _ _ hT17), fun H19 s19 => ?_⟩
    obtain ⟨b0, hb0⟩ : ∃ b0, T[at_]? = some b0 := ⟨_, List.getElem?_eq_getElem hat_⟩
    have hset : (T.set at_ sn).set at_ b0 = T := by
      rw [List.set_set]
      refine List.ext_getElem? fun j => ?_
      by_cases e : at_ = j
      · subst e
        rw [List.getElem?_set_self hat_, hb0]
      · rw [List.getElem?_set_ne e]
    refine ⟨u5, u6, T.set at_ sn, at_, sn, b0, by rw [hset]; rfl, ⟨SqL.of (s19 _ _ (s18 _ _ hu5)), SqL.of (s19 _ _ hu6), by rw [List.length_set]; omega, List.getElem?_set_self hat_, hsn, hTb b0 (List.mem_of_getElem? hb0)⟩, fun H20 lf s20 hlf => ?_⟩
    rw [hset] at hlf
    refine ⟨_, rfl, lf, tA, T, rfl, hlf, SqL.of (s20 _ _ (s19 _ _ (s18 _ _ hT17))), by omega, ?_⟩
    exact q _
end
end K71
namespace K71
open PySem L2
theorem vals_abs : ∀ {xs : List V} {us : List Value}, us.map absV = xs.map some → Vals xs us
  | [], [], _ => .nil
  | x :: xs, u :: us, h => by
    rw [List.map_cons, List.map_cons] at h
    injection h with h1 h2
    refine .cons ?_ (vals_abs h2)
    cases u <;> simp only [absV] at h1 <;> first | (cases h1; rfl) | (cases h1; exact ⟨_, rfl⟩) | cases h1
  | [], _ :: _, h => by simp at h
  | _ :: _, [], h => by simp at h
theorem gt_of {K : PySem.W.Frag} {mg : Str → Option Value} {x : Str} {xs : List V} {a : Addr} {dd : Option Addr} {its : Array Value} {n : Nat} {sl : Array (Option Value)} (g : mg x = some (.ref a)) (l : K.lookup a = some ⟨.type "tuple", dd, .seq its n, sl⟩) (hz : its.size ≤ sizeLine) (v : its.toList.map absV = xs.map some) : Gt K mg x xs :=
  ⟨a, g, _, its, n, l, rfl, rfl, hz, vals_abs v⟩
theorem all_mk {l : PySem.W.OpenLaw} {w : World} {K : PySem.W.Frag} {h : Heap} {mg : Str → Option Value} {fa C : Addr} (X : K.In h) (G : h.Ns mainGlobals mg) (hfa : mg "law" = some (.ref fa))
    {f0 : Addr} {od0 an0 : Option Addr} {sl0 : Array (Option Value)} {oc0 kV0 dc0 pm0 cd0 ct0 : Value}
    (a0 : PySem.W.nsIn K mainGlobals "byte_bits" = some (some (.ref f0)))
    (l0 : K.lookup f0 = some ⟨oc0, od0, .func (PySem.W.fnOf "byte_bits" "byte_bits" (defArgs sBits) (defBody sBits) (defScope sBits) .none kV0 dc0 pm0 an0 cd0 ct0), sl0⟩)
    (c0 : PySem.W.codeIn K cd0 "byte_bits" = true)
    (k0 : PySem.W.keepIn K (.ref f0) = true)
    {f1 : Addr} {od1 an1 : Option Addr} {sl1 : Array (Option Value)} {oc1 kV1 dc1 pm1 cd1 ct1 : Value}
    (a1 : PySem.W.nsIn K mainGlobals "exclusive" = some (some (.ref f1)))
    (l1 : K.lookup f1 = some ⟨oc1, od1, .func (PySem.W.fnOf "exclusive" "exclusive" (defArgs sExcl) (defBody sExcl) (defScope sExcl) .none kV1 dc1 pm1 an1 cd1 ct1), sl1⟩)
    (c1 : PySem.W.codeIn K cd1 "exclusive" = true)
    (k1 : PySem.W.keepIn K (.ref f1) = true)
    {f2 : Addr} {od2 an2 : Option Addr} {sl2 : Array (Option Value)} {oc2 kV2 dc2 pm2 cd2 ct2 : Value}
    (a2 : PySem.W.nsIn K mainGlobals "step" = some (some (.ref f2)))
    (l2 : K.lookup f2 = some ⟨oc2, od2, .func (PySem.W.fnOf "step" "step" (defArgs sStep) (defBody sStep) (defScope sStep) .none kV2 dc2 pm2 an2 cd2 ct2), sl2⟩)
    (c2 : PySem.W.codeIn K cd2 "step" = true)
    (k2 : PySem.W.keepIn K (.ref f2) = true)
    {f3 : Addr} {od3 an3 : Option Addr} {sl3 : Array (Option Value)} {oc3 kV3 dc3 pm3 cd3 ct3 : Value}
    (a3 : PySem.W.nsIn K mainGlobals "crc" = some (some (.ref f3)))
    (l3 : K.lookup f3 = some ⟨oc3, od3, .func (PySem.W.fnOf "crc" "crc" (defArgs sCrc) (defBody sCrc) (defScope sCrc) .none kV3 dc3 pm3 an3 cd3 ct3), sl3⟩)
    (c3 : PySem.W.codeIn K cd3 "crc" = true)
    (k3 : PySem.W.keepIn K (.ref f3) = true)
    {f4 : Addr} {od4 an4 : Option Addr} {sl4 : Array (Option Value)} {oc4 kV4 dc4 pm4 cd4 ct4 : Value}
    (a4 : PySem.W.nsIn K mainGlobals "repeated_length" = some (some (.ref f4)))
    (l4 : K.lookup f4 = some ⟨oc4, od4, .func (PySem.W.fnOf "repeated_length" "repeated_length" (defArgs sRep) (defBody sRep) (defScope sRep) .none kV4 dc4 pm4 an4 cd4 ct4), sl4⟩)
    (c4 : PySem.W.codeIn K cd4 "repeated_length" = true)
    (k4 : PySem.W.keepIn K (.ref f4) = true)
    {f5 : Addr} {od5 an5 : Option Addr} {sl5 : Array (Option Value)} {oc5 kV5 dc5 pm5 cd5 ct5 : Value}
    (a5 : PySem.W.nsIn K mainGlobals "length_of" = some (some (.ref f5)))
    (l5 : K.lookup f5 = some ⟨oc5, od5, .func (PySem.W.fnOf "length_of" "length_of" (defArgs sLen) (defBody sLen) (defScope sLen) .none kV5 dc5 pm5 an5 cd5 ct5), sl5⟩)
    (c5 : PySem.W.codeIn K cd5 "length_of" = true)
    (k5 : PySem.W.keepIn K (.ref f5) = true)
    {f6 : Addr} {od6 an6 : Option Addr} {sl6 : Array (Option Value)} {oc6 kV6 dc6 pm6 cd6 ct6 : Value}
    (a6 : PySem.W.nsIn K mainGlobals "true_length" = some (some (.ref f6)))
    (l6 : K.lookup f6 = some ⟨oc6, od6, .func (PySem.W.fnOf "true_length" "true_length" (defArgs sTrue) (defBody sTrue) (defScope sTrue) .none kV6 dc6 pm6 an6 cd6 ct6), sl6⟩)
    (c6 : PySem.W.codeIn K cd6 "true_length" = true)
    (k6 : PySem.W.keepIn K (.ref f6) = true)
    {f7 : Addr} {od7 an7 : Option Addr} {sl7 : Array (Option Value)} {oc7 kV7 dc7 pm7 cd7 ct7 : Value}
    (a7 : PySem.W.nsIn K mainGlobals "trimmed" = some (some (.ref f7)))
    (l7 : K.lookup f7 = some ⟨oc7, od7, .func (PySem.W.fnOf "trimmed" "trimmed" (defArgs sTrim) (defBody sTrim) (defScope sTrim) .none kV7 dc7 pm7 an7 cd7 ct7), sl7⟩)
    (c7 : PySem.W.codeIn K cd7 "trimmed" = true)
    (k7 : PySem.W.keepIn K (.ref f7) = true)
    {f8 : Addr} {od8 an8 : Option Addr} {sl8 : Array (Option Value)} {oc8 kV8 dc8 pm8 cd8 ct8 : Value}
    (a8 : PySem.W.nsIn K mainGlobals "voted_byte" = some (some (.ref f8)))
    (l8 : K.lookup f8 = some ⟨oc8, od8, .func (PySem.W.fnOf "voted_byte" "voted_byte" (defArgs sVote) (defBody sVote) (defScope sVote) .none kV8 dc8 pm8 an8 cd8 ct8), sl8⟩)
    (c8 : PySem.W.codeIn K cd8 "voted_byte" = true)
    (k8 : PySem.W.keepIn K (.ref f8) = true)
    {f9 : Addr} {od9 an9 : Option Addr} {sl9 : Array (Option Value)} {oc9 kV9 dc9 pm9 cd9 ct9 : Value}
    (a9 : PySem.W.nsIn K mainGlobals "merged" = some (some (.ref f9)))
    (l9 : K.lookup f9 = some ⟨oc9, od9, .func (PySem.W.fnOf "merged" "merged" (defArgs sMerge) (defBody sMerge) (defScope sMerge) .none kV9 dc9 pm9 an9 cd9 ct9), sl9⟩)
    (c9 : PySem.W.codeIn K cd9 "merged" = true)
    (k9 : PySem.W.keepIn K (.ref f9) = true)
    {f10 : Addr} {od10 an10 : Option Addr} {sl10 : Array (Option Value)} {oc10 kV10 dc10 pm10 cd10 ct10 : Value}
    (a10 : PySem.W.nsIn K mainGlobals "with_bit" = some (some (.ref f10)))
    (l10 : K.lookup f10 = some ⟨oc10, od10, .func (PySem.W.fnOf "with_bit" "with_bit" (defArgs sWith) (defBody sWith) (defScope sWith) .none kV10 dc10 pm10 an10 cd10 ct10), sl10⟩)
    (c10 : PySem.W.codeIn K cd10 "with_bit" = true)
    (k10 : PySem.W.keepIn K (.ref f10) = true)
    {f11 : Addr} {od11 an11 : Option Addr} {sl11 : Array (Option Value)} {oc11 kV11 dc11 pm11 cd11 ct11 : Value}
    (a11 : PySem.W.nsIn K mainGlobals "crc_change" = some (some (.ref f11)))
    (l11 : K.lookup f11 = some ⟨oc11, od11, .func (PySem.W.fnOf "crc_change" "crc_change" (defArgs sChg) (defBody sChg) (defScope sChg) .none kV11 dc11 pm11 an11 cd11 ct11), sl11⟩)
    (c11 : PySem.W.codeIn K cd11 "crc_change" = true)
    (k11 : PySem.W.keepIn K (.ref f11) = true)
    {f12 : Addr} {od12 an12 : Option Addr} {sl12 : Array (Option Value)} {oc12 kV12 dc12 pm12 cd12 ct12 : Value}
    (a12 : PySem.W.nsIn K mainGlobals "demand_unknown" = some (some (.ref f12)))
    (l12 : K.lookup f12 = some ⟨oc12, od12, .func (PySem.W.fnOf "demand_unknown" "demand_unknown" (defArgs sDem) (defBody sDem) (defScope sDem) .none kV12 dc12 pm12 an12 cd12 ct12), sl12⟩)
    (c12 : PySem.W.codeIn K cd12 "demand_unknown" = true)
    (k12 : PySem.W.keepIn K (.ref f12) = true)
    {f13 : Addr} {od13 an13 : Option Addr} {sl13 : Array (Option Value)} {oc13 kV13 dc13 pm13 cd13 ct13 : Value}
    (a13 : PySem.W.nsIn K mainGlobals "span_of" = some (some (.ref f13)))
    (l13 : K.lookup f13 = some ⟨oc13, od13, .func (PySem.W.fnOf "span_of" "span_of" (defArgs sSpan) (defBody sSpan) (defScope sSpan) .none kV13 dc13 pm13 an13 cd13 ct13), sl13⟩)
    (c13 : PySem.W.codeIn K cd13 "span_of" = true)
    (k13 : PySem.W.keepIn K (.ref f13) = true)
    {f14 : Addr} {od14 an14 : Option Addr} {sl14 : Array (Option Value)} {oc14 kV14 dc14 pm14 cd14 ct14 : Value}
    (a14 : PySem.W.nsIn K mainGlobals "solution_count" = some (some (.ref f14)))
    (l14 : K.lookup f14 = some ⟨oc14, od14, .func (PySem.W.fnOf "solution_count" "solution_count" (defArgs sCount) (defBody sCount) (defScope sCount) .none kV14 dc14 pm14 an14 cd14 ct14), sl14⟩)
    (c14 : PySem.W.codeIn K cd14 "solution_count" = true)
    (k14 : PySem.W.keepIn K (.ref f14) = true)
    {f15 : Addr} {od15 an15 : Option Addr} {sl15 : Array (Option Value)} {oc15 kV15 dc15 pm15 cd15 ct15 : Value}
    (a15 : PySem.W.nsIn K mainGlobals "solution" = some (some (.ref f15)))
    (l15 : K.lookup f15 = some ⟨oc15, od15, .func (PySem.W.fnOf "solution" "solution" (defArgs sSol) (defBody sSol) (defScope sSol) .none kV15 dc15 pm15 an15 cd15 ct15), sl15⟩)
    (c15 : PySem.W.codeIn K cd15 "solution" = true)
    (k15 : PySem.W.keepIn K (.ref f15) = true)
    {f16 : Addr} {od16 an16 : Option Addr} {sl16 : Array (Option Value)} {oc16 kV16 dc16 pm16 cd16 ct16 : Value}
    (a16 : PySem.W.nsIn K mainGlobals "_law_pool" = some (some (.ref f16)))
    (l16 : K.lookup f16 = some ⟨oc16, od16, .func (PySem.W.fnOf "_law_pool" "_law_pool" (defArgs sPool) (defBody sPool) (defScope sPool) .none kV16 dc16 pm16 an16 cd16 ct16), sl16⟩)
    (c16 : PySem.W.codeIn K cd16 "_law_pool" = true)
    (k16 : PySem.W.keepIn K (.ref f16) = true)
    {f17 : Addr} {od17 an17 : Option Addr} {sl17 : Array (Option Value)} {oc17 kV17 dc17 pm17 cd17 ct17 : Value}
    (a17 : PySem.W.nsIn K mainGlobals "_law_spread" = some (some (.ref f17)))
    (l17 : K.lookup f17 = some ⟨oc17, od17, .func (PySem.W.fnOf "_law_spread" "_law_spread" (defArgs sSpread) (defBody sSpread) (defScope sSpread) .none kV17 dc17 pm17 an17 cd17 ct17), sl17⟩)
    (c17 : PySem.W.codeIn K cd17 "_law_spread" = true)
    (k17 : PySem.W.keepIn K (.ref f17) = true)
    {f18 : Addr} {od18 an18 : Option Addr} {sl18 : Array (Option Value)} {oc18 kV18 dc18 pm18 cd18 ct18 : Value}
    (a18 : PySem.W.nsIn K mainGlobals "_law_draw" = some (some (.ref f18)))
    (l18 : K.lookup f18 = some ⟨oc18, od18, .func (PySem.W.fnOf "_law_draw" "_law_draw" (defArgs sDraw) (defBody sDraw) (defScope sDraw) .none kV18 dc18 pm18 an18 cd18 ct18), sl18⟩)
    (c18 : PySem.W.codeIn K cd18 "_law_draw" = true)
    (k18 : PySem.W.keepIn K (.ref f18) = true)
    {f19 : Addr} {od19 an19 : Option Addr} {sl19 : Array (Option Value)} {oc19 kV19 dc19 pm19 cd19 ct19 : Value}
    (a19 : PySem.W.nsIn K mainGlobals "_law_same" = some (some (.ref f19)))
    (l19 : K.lookup f19 = some ⟨oc19, od19, .func (PySem.W.fnOf "_law_same" "_law_same" (defArgs sSame) (defBody sSame) (defScope sSame) .none kV19 dc19 pm19 an19 cd19 ct19), sl19⟩)
    (c19 : PySem.W.codeIn K cd19 "_law_same" = true)
    (k19 : PySem.W.keepIn K (.ref f19) = true)
    {f20 : Addr} {od20 an20 : Option Addr} {sl20 : Array (Option Value)} {oc20 kV20 dc20 pm20 cd20 ct20 : Value}
    (a20 : PySem.W.nsIn K mainGlobals "law" = some (some (.ref f20)))
    (l20 : K.lookup f20 = some ⟨oc20, od20, .func (PySem.W.fnOf "law" "law" (defArgs sLaw) (defBody sLaw) (defScope sLaw) .none kV20 dc20 pm20 an20 cd20 ct20), sl20⟩)
    (c20 : PySem.W.codeIn K cd20 "law" = true)
    (k20 : PySem.W.keepIn K (.ref f20) = true)
    (aC : PySem.W.nsIn K mainGlobals "Span" = some (some (.ref C)))
    {f30 : Addr} {od30 an30 : Option Addr} {sl30 : Array (Option Value)} {oc30 kV30 dc30 pm30 cd30 ct30 : Value}
    (a30 : PySem.W.findIn K (.ref C) "__init__" = some (some (.ref f30)))
    (i30 : PySem.W.isFn K (.ref f30) = true)
    (l30 : K.lookup f30 = some ⟨oc30, od30, .func (PySem.W.fnOf "__init__" "Span.__init__" (defArgs sInit) (defBody sInit) (defScope sInit) .none kV30 dc30 pm30 an30 cd30 ct30), sl30⟩)
    (c30 : PySem.W.codeIn K cd30 "Span.__init__" = true)
    (k30 : PySem.W.keepIn K (.ref f30) = true)
    {f31 : Addr} {od31 an31 : Option Addr} {sl31 : Array (Option Value)} {oc31 kV31 dc31 pm31 cd31 ct31 : Value}
    (a31 : PySem.W.findIn K (.ref C) "reduced" = some (some (.ref f31)))
    (i31 : PySem.W.isFn K (.ref f31) = true)
    (l31 : K.lookup f31 = some ⟨oc31, od31, .func (PySem.W.fnOf "reduced" "Span.reduced" (defArgs sRed) (defBody sRed) (defScope sRed) .none kV31 dc31 pm31 an31 cd31 ct31), sl31⟩)
    (c31 : PySem.W.codeIn K cd31 "Span.reduced" = true)
    (k31 : PySem.W.keepIn K (.ref f31) = true)
    {f32 : Addr} {od32 an32 : Option Addr} {sl32 : Array (Option Value)} {oc32 kV32 dc32 pm32 cd32 ct32 : Value}
    (a32 : PySem.W.findIn K (.ref C) "add" = some (some (.ref f32)))
    (i32 : PySem.W.isFn K (.ref f32) = true)
    (l32 : K.lookup f32 = some ⟨oc32, od32, .func (PySem.W.fnOf "add" "Span.add" (defArgs sAdd) (defBody sAdd) (defScope sAdd) .none kV32 dc32 pm32 an32 cd32 ct32), sl32⟩)
    (c32 : PySem.W.codeIn K cd32 "Span.add" = true)
    (k32 : PySem.W.keepIn K (.ref f32) = true)
    (pg : PySem.W.plainGet K C Str.empty = true)
    (hd : PySem.W.hasDictIn K C = true)
    (po : PySem.W.plainOver K C = true)
    (sa : PySem.W.findIn K (.ref C) "__setattr__" = some (some (.builtin "object.__setattr__")))
    (mk : PySem.W.makesIn K C = true)
    (kc : PySem.W.keepIn K (.ref C) = true)
    (nK : PySem.W.findIn K (.ref C) "kept" = some none)
    {tk0 : Tok}
    (n0 : PySem.W.nsIn K mainGlobals "TOP" = some (some (.int 32768 tk0)))
    {tk1 : Tok}
    (n1 : PySem.W.nsIn K mainGlobals "WORD" = some (some (.int 65536 tk1)))
    {tk2 : Tok}
    (n2 : PySem.W.nsIn K mainGlobals "CRC_MASK" = some (some (.int 4129 tk2)))
    {tk3 : Tok}
    (n3 : PySem.W.nsIn K mainGlobals "CRC_START" = some (some (.int 65535 tk3)))
    {tk4 : Tok}
    (n4 : PySem.W.nsIn K mainGlobals "SHORTEST" = some (some (.int 16 tk4)))
    {tk5 : Tok}
    (n5 : PySem.W.nsIn K mainGlobals "MOST_UNKNOWN" = some (some (.int 24 tk5)))
    {at0 : Addr} {dd0 : Option Addr} {its0 : Array Value} {tn0 : Nat} {ts0 : Array (Option Value)}
    (t0 : PySem.W.nsIn K mainGlobals "BIT_WEIGHTS" = some (some (.ref at0)))
    (u0 : K.lookup at0 = some ⟨.type "tuple", dd0, .seq its0 tn0, ts0⟩)
    (z0 : its0.size ≤ sizeLine) (v0 : its0.toList.map absV = (ivs weights).map some)
    {at1 : Addr} {dd1 : Option Addr} {its1 : Array Value} {tn1 : Nat} {ts1 : Array (Option Value)}
    (t1 : PySem.W.nsIn K mainGlobals "LENGTHS" = some (some (.ref at1)))
    (u1 : K.lookup at1 = some ⟨.type "tuple", dd1, .seq its1 tn1, ts1⟩)
    (z1 : its1.size ≤ sizeLine) (v1 : its1.toList.map absV = (ivs lens).map some)
    {at2 : Addr} {dd2 : Option Addr} {its2 : Array Value} {tn2 : Nat} {ts2 : Array (Option Value)}
    (t2 : PySem.W.nsIn K mainGlobals "POWERS" = some (some (.ref at2)))
    (u2 : K.lookup at2 = some ⟨.type "tuple", dd2, .seq its2 tn2, ts2⟩)
    (z2 : its2.size ≤ sizeLine) (v2 : its2.toList.map absV = (ivs pows).map some)
    (o0 : PySem.W.nsIn K mainGlobals "len" = some none)
    (o1 : PySem.W.nsIn K mainGlobals "list" = some none)
    (o2 : PySem.W.nsIn K mainGlobals "all" = some none)
    (o3 : PySem.W.nsIn K mainGlobals "range" = some none)
    (o4 : PySem.W.nsIn K mainGlobals "max" = some none)
    (o5 : PySem.W.nsIn K mainGlobals "sorted" = some none)
    (o6 : PySem.W.nsIn K mainGlobals "isinstance" = some none)
    (o7 : PySem.W.nsIn K mainGlobals "tuple" = some none)
    (o8 : PySem.W.nsIn K mainGlobals "bool" = some none)
    (o9 : PySem.W.nsIn K mainGlobals "int" = some none)
    : ∃ fd : FuncData, (∀ (s : Shared) (v : Value), BindsTo s fd ⟨[v], []⟩ [("_law_script", v)]) ∧ ∀ base : Heap, K.In base → base.Ns mainGlobals mg → FnOk l.prog w K mg base CX0 8 fa fd ["_law_script"] (spLaw K) := by
  have e := hfa.symm.trans (PySem.W.mg_of X G a20)
  cases e
  have F0 := fun_mk (st := sBits) l0 c0 k0
  have b0 := F0.binds (ps := ["value"]) fun _ _ _ _ _ _ us hl => match us, hl with | [_], _ => rfl
  have F1 := fun_mk (st := sExcl) l1 c1 k1
  have b1 := F1.binds (ps := ["first", "second"]) fun _ _ _ _ _ _ us hl => match us, hl with | [_, _], _ => rfl
  have F2 := fun_mk (st := sStep) l2 c2 k2
  have b2 := F2.binds (ps := ["number", "value"]) fun _ _ _ _ _ _ us hl => match us, hl with | [_, _], _ => rfl
  have F3 := fun_mk (st := sCrc) l3 c3 k3
  have b3 := F3.binds (ps := ["values"]) fun _ _ _ _ _ _ us hl => match us, hl with | [_], _ => rfl
  have F4 := fun_mk (st := sRep) l4 c4 k4
  have b4 := F4.binds (ps := ["dump"]) fun _ _ _ _ _ _ us hl => match us, hl with | [_], _ => rfl
  have F5 := fun_mk (st := sLen) l5 c5 k5
  have b5 := F5.binds (ps := ["dump"]) fun _ _ _ _ _ _ us hl => match us, hl with | [_], _ => rfl
  have F6 := fun_mk (st := sTrue) l6 c6 k6
  have b6 := F6.binds (ps := ["dump"]) fun _ _ _ _ _ _ us hl => match us, hl with | [_], _ => rfl
  have F7 := fun_mk (st := sTrim) l7 c7 k7
  have b7 := F7.binds (ps := ["dump"]) fun _ _ _ _ _ _ us hl => match us, hl with | [_], _ => rfl
  have F8 := fun_mk (st := sVote) l8 c8 k8
  have b8 := F8.binds (ps := ["values"]) fun _ _ _ _ _ _ us hl => match us, hl with | [_], _ => rfl
  have F9 := fun_mk (st := sMerge) l9 c9 k9
  have b9 := F9.binds (ps := ["dumps"]) fun _ _ _ _ _ _ us hl => match us, hl with | [_], _ => rfl
  have F10 := fun_mk (st := sWith) l10 c10 k10
  have b10 := F10.binds (ps := ["values", "place", "bit"]) fun _ _ _ _ _ _ us hl => match us, hl with | [_, _, _], _ => rfl
  have F11 := fun_mk (st := sChg) l11 c11 k11
  have b11 := F11.binds (ps := ["length", "place"]) fun _ _ _ _ _ _ us hl => match us, hl with | [_, _], _ => rfl
  have F12 := fun_mk (st := sDem) l12 c12 k12
  have b12 := F12.binds (ps := ["values", "unknown"]) fun _ _ _ _ _ _ us hl => match us, hl with | [_, _], _ => rfl
  have F13 := fun_mk (st := sSpan) l13 c13 k13
  have b13 := F13.binds (ps := ["values", "unknown"]) fun _ _ _ _ _ _ us hl => match us, hl with | [_, _], _ => rfl
  have F14 := fun_mk (st := sCount) l14 c14 k14
  have b14 := F14.binds (ps := ["values", "unknown", "wanted"]) fun _ _ _ _ _ _ us hl => match us, hl with | [_, _, _], _ => rfl
  have F15 := fun_mk (st := sSol) l15 c15 k15
  have b15 := F15.binds (ps := ["values", "unknown", "wanted"]) fun _ _ _ _ _ _ us hl => match us, hl with | [_, _, _], _ => rfl
  have F16 := fun_mk (st := sPool) l16 c16 k16
  have b16 := F16.binds (ps := ["_law_script"]) fun _ _ _ _ _ _ us hl => match us, hl with | [_], _ => rfl
  have F17 := fun_mk (st := sSpread) l17 c17 k17
  have b17 := F17.binds (ps := ["_law_cell"]) fun _ _ _ _ _ _ us hl => match us, hl with | [_], _ => rfl
  have F18 := fun_mk (st := sDraw) l18 c18 k18
  have b18 := F18.binds (ps := ["_law_pool_here", "_law_many"]) fun _ _ _ _ _ _ us hl => match us, hl with | [_, _], _ => rfl
  have F19 := fun_mk (st := sSame) l19 c19 k19
  have b19 := F19.binds (ps := ["_law_actual", "_law_due"]) fun _ _ _ _ _ _ us hl => match us, hl with | [_, _], _ => rfl
  have F20 := fun_mk (st := sLaw) l20 c20 k20
  have F30 := fun_mk (st := sInit) l30 c30 k30
  have b30 := F30.binds (ps := ["self"]) fun _ _ _ _ _ _ us hl => match us, hl with | [_], _ => rfl
  have F31 := fun_mk (st := sRed) l31 c31 k31
  have b31 := F31.binds (ps := ["self", "number", "places"]) fun _ _ _ _ _ _ us hl => match us, hl with | [_, _, _], _ => rfl
  have F32 := fun_mk (st := sAdd) l32 c32 k32
  have b32 := F32.binds (ps := ["self", "number", "place"]) fun _ _ _ _ _ _ us hl => match us, hl with | [_, _, _], _ => rfl
  refine ⟨PySem.W.fnOf "law" "law" (defArgs sLaw) (defBody sLaw) (defScope sLaw) .none kV20 dc20 pm20 an20 cd20 ct20, fun s v => .of_eq rfl, fun base _ _ => ?_⟩
  have D0 : Df l.prog w K mg base "byte_bits" 1 ["value"] spBits := ⟨⟨f0, _, PySem.W.mg_of X G a0, k0, b0, ok_bits F0 (gt_of (PySem.W.mg_of X G t0) u0 z0 v0)⟩⟩
  have D1 : Df l.prog w K mg base "exclusive" 1 ["first", "second"] spExcl := ⟨⟨f1, _, PySem.W.mg_of X G a1, k1, b1, ok_excl F1⟩⟩
  have D2 : Df l.prog w K mg base "step" 2 ["number", "value"] spStep := ⟨⟨f2, _, PySem.W.mg_of X G a2, k2, b2, ok_step F2 D0 D1 ⟨_, PySem.W.mg_of X G n0⟩ ⟨_, PySem.W.mg_of X G n1⟩ ⟨_, PySem.W.mg_of X G n2⟩⟩⟩
  have D3 : Df l.prog w K mg base "crc" 3 ["values"] (spCrc K) := ⟨⟨f3, _, PySem.W.mg_of X G a3, k3, b3, ok_crc F3 D2 ⟨_, PySem.W.mg_of X G n3⟩⟩⟩
  have D4 : Df l.prog w K mg base "repeated_length" 1 ["dump"] (spRep K) := ⟨⟨f4, _, PySem.W.mg_of X G a4, k4, b4, ok_rep F4 (gt_of (PySem.W.mg_of X G t1) u1 z1 v1) (PySem.W.mg_none_of X G o0)⟩⟩
  have D5 : Df l.prog w K mg base "length_of" 2 ["dump"] (spLen K) := ⟨⟨f5, _, PySem.W.mg_of X G a5, k5, b5, ok_len F5 D4 (PySem.W.mg_none_of X G o0) ⟨_, PySem.W.mg_of X G n4⟩⟩⟩
  have D6 : Df l.prog w K mg base "true_length" 3 ["dump"] (spTrue K) := ⟨⟨f6, _, PySem.W.mg_of X G a6, k6, b6, ok_true F6 D5 (gt_of (PySem.W.mg_of X G t1) u1 z1 v1) (PySem.W.mg_none_of X G o0) (PySem.W.mg_none_of X G o1)⟩⟩
  have D7 : Df l.prog w K mg base "trimmed" 4 ["dump"] (spTrim K) := ⟨⟨f7, _, PySem.W.mg_of X G a7, k7, b7, ok_trim F7 D6 (PySem.W.mg_none_of X G o1)⟩⟩
  have D8 : Df l.prog w K mg base "voted_byte" 1 ["values"] (spVote K) := ⟨⟨f8, _, PySem.W.mg_of X G a8, k8, b8, ok_vote F8 (PySem.W.mg_none_of X G o0) (PySem.W.mg_none_of X G o4)⟩⟩
  have D9 : Df l.prog w K mg base "merged" 2 ["dumps"] (spMerge K) := ⟨⟨f9, _, PySem.W.mg_of X G a9, k9, b9, ok_merge F9 D8 (PySem.W.mg_none_of X G o0) (PySem.W.mg_none_of X G o2) (PySem.W.mg_none_of X G o3)⟩⟩
  have D10 : Df l.prog w K mg base "with_bit" 1 ["values", "place", "bit"] (spWith K) := ⟨⟨f10, _, PySem.W.mg_of X G a10, k10, b10, ok_with F10 (gt_of (PySem.W.mg_of X G t0) u0 z0 v0) (PySem.W.mg_none_of X G o1)⟩⟩
  have D11 : Df l.prog w K mg base "crc_change" 4 ["length", "place"] spChg := ⟨⟨f11, _, PySem.W.mg_of X G a11, k11, b11, ok_chg F11 D1 D3 D10⟩⟩
  have D12 : Df l.prog w K mg base "demand_unknown" 1 ["values", "unknown"] (spDem K) := ⟨⟨f12, _, PySem.W.mg_of X G a12, k12, b12, ok_dem F12 ⟨_, PySem.W.mg_of X G n5⟩ (PySem.W.mg_none_of X G o0) (PySem.W.mg_none_of X G o2) (PySem.W.mg_none_of X G o3)⟩⟩
  have T : SpanCls K C := ⟨⟨pg, hd, po, sa⟩, nK⟩
  have MR : Md l.prog w K mg base C "reduced" 2 ["self", "number", "places"] (spRed K C) := ⟨f31, _, ⟨a31, i31, k31⟩, b31, ok_red F31 T D1 (gt_of (PySem.W.mg_of X G t2) u2 z2 v2) (PySem.W.mg_none_of X G o5)⟩
  have MA : Md l.prog w K mg base C "add" 3 ["self", "number", "place"] (spAdd K C) := ⟨f32, _, ⟨a32, i32, k32⟩, b32, ok_add F32 T MR (gt_of (PySem.W.mg_of X G t2) u2 z2 v2) (PySem.W.mg_none_of X G o4) (PySem.W.mg_none_of X G o3)⟩
  have S : SpanOk l.prog w K mg base C := ⟨T, PySem.W.mg_of X G aC, ⟨f30, _, ⟨mk, a30, i30, kc⟩, b30, ok_init F30 T⟩, MR, MA⟩
  have D13 : Df l.prog w K mg base "span_of" 5 ["values", "unknown"] (spSpan K C) := ⟨⟨f13, _, PySem.W.mg_of X G a13, k13, b13, ok_span F13 S D10 D11 (PySem.W.mg_none_of X G o0) (PySem.W.mg_none_of X G o1)⟩⟩
  have D14 : Df l.prog w K mg base "solution_count" 6 ["values", "unknown", "wanted"] (spCount K) := ⟨⟨f14, _, PySem.W.mg_of X G a14, k14, b14, ok_count F14 S D12 D13 D1 D3 (gt_of (PySem.W.mg_of X G t2) u2 z2 v2) (PySem.W.mg_none_of X G o0)⟩⟩
  have D15 : Df l.prog w K mg base "solution" 7 ["values", "unknown", "wanted"] (spSol K) := ⟨⟨f15, _, PySem.W.mg_of X G a15, k15, b15, ok_sol F15 S D14 D13 D1 D3 D10⟩⟩
  have D16 : Df l.prog w K mg base "_law_pool" 1 ["_law_script"] (spPool K) := ⟨⟨f16, _, PySem.W.mg_of X G a16, k16, b16, ok_pool F16 (PySem.W.mg_none_of X G o9) (PySem.W.mg_none_of X G o1)⟩⟩
  have D17 : Df l.prog w K mg base "_law_spread" 1 ["_law_cell"] spSpread := ⟨⟨f17, _, PySem.W.mg_of X G a17, k17, b17, ok_spread F17 (PySem.W.mg_none_of X G o9) (PySem.W.mg_none_of X G o3)⟩⟩
  have D18 : Df l.prog w K mg base "_law_draw" 2 ["_law_pool_here", "_law_many"] spDraw := ⟨⟨f18, _, PySem.W.mg_of X G a18, k18, b18, ok_draw F18 D17 (PySem.W.mg_none_of X G o9) (PySem.W.mg_none_of X G o0)⟩⟩
  have N : SameNames mg := ⟨(PySem.W.mg_none_of X G o6), (PySem.W.mg_none_of X G o7), (PySem.W.mg_none_of X G o1), (PySem.W.mg_none_of X G o0), (PySem.W.mg_none_of X G o3), (PySem.W.mg_none_of X G o8), (PySem.W.mg_none_of X G o9)⟩
  have D19 : Df l.prog w K mg base "_law_same" 1 ["_law_actual", "_law_due"] spSame1 := ⟨⟨f19, _, PySem.W.mg_of X G a19, k19, b19, ok_same1 F19 N⟩⟩
  have D20 : Df l.prog w K mg base "_law_same" 2 ["_law_actual", "_law_due"] (spSame2 K) := ⟨⟨f19, _, PySem.W.mg_of X G a19, k19, b19, ok_same2 F19 D19 N⟩⟩
  exact ok_law F20 ⟨D16, D18, D20, D9, D7, D6, D15, D3, (PySem.W.mg_none_of X G o0), (PySem.W.mg_none_of X G o3), (PySem.W.mg_none_of X G o1)⟩
theorem walk {l : PySem.W.OpenLaw} {q : Program} {loose : List Str} {XP : (Str → Option Value) → Heap → Prop} {YP : World → Heap → Prop} {d : DefRec} {K : Params → PySem.W.Frag} (hn : l.most = some 63) (hdf : d.params.defaults = [])
    (hY : ∀ (w : World) (h : Heap), YP w h → (K w.params).In h)
    (F : ∀ (w : World) (mg : Str → Option Value) (fa : Addr) (h : Heap), (K w.params).In h → h.Ns mainGlobals mg → mg d.name = some (.ref fa) →
      ∃ fd : FuncData, (∀ (s : Shared) (u : Value), BindsTo s fd ⟨[u], []⟩ [("_law_script", u)]) ∧ ∀ base : Heap, (K w.params).In base → base.Ns mainGlobals mg → FnOk l.prog w (K w.params) mg base CX0 8 fa fd ["_law_script"] (spLaw (K w.params))) :
    PySem.W.WalkO q loose XP YP l.row.toRowW d [] (fun f vs => PySem.call f vs) :=
  L2.walk_of (n := 63) (k := 8) (x := "_law_script") (CX := fun _ => CX0) (sp := fun w => spLaw (K w.params)) hn (by decide) hdf ⟨rfl, by decide, by decide⟩ hY F (fun _ _ a ns hl _ hS => ⟨a, ns, rfl, hS, hl, fun _ => rfl⟩) fun _ _ _ _ _ z => z
end K71
open PySem PySem.W PyProof.Rows in
set_option maxRecDepth 100000 in
set_option maxHeartbeats 0 in
theorem PySem.Challenge.cw_discwright_k71_whole_votes_give_the_true_holds : PySem.Challenge.rw_discwright_k71_whole_votes_give_the_true.Holds := by
  w_on; o_law; k_head; (case hw => w_witness2)
  k_fill
  refine K71.walk (l := PySem.Challenge.rw_discwright_k71_whole_votes_give_the_true) rfl rfl (fun w h Y => PySem.W.kIn_of Y) ?F
  case F =>
    intro w mg fa h KX G hmg
    refine' K71.all_mk KX G hmg ?a0 ?l0 ?c0 ?k0 ?a1 ?l1 ?c1 ?k1 ?a2 ?l2 ?c2 ?k2 ?a3 ?l3 ?c3 ?k3 ?a4 ?l4 ?c4 ?k4 ?a5 ?l5 ?c5 ?k5 ?a6 ?l6 ?c6 ?k6 ?a7 ?l7 ?c7 ?k7 ?a8 ?l8 ?c8 ?k8 ?a9 ?l9 ?c9 ?k9 ?a10 ?l10 ?c10 ?k10 ?a11 ?l11 ?c11 ?k11 ?a12 ?l12 ?c12 ?k12 ?a13 ?l13 ?c13 ?k13 ?a14 ?l14 ?c14 ?k14 ?a15 ?l15 ?c15 ?k15 ?a16 ?l16 ?c16 ?k16 ?a17 ?l17 ?c17 ?k17 ?a18 ?l18 ?c18 ?k18 ?a19 ?l19 ?c19 ?k19 ?a20 ?l20 ?c20 ?k20 ?aC ?a30 ?i30 ?l30 ?c30 ?k30 ?a31 ?i31 ?l31 ?c31 ?k31 ?a32 ?i32 ?l32 ?c32 ?k32 ?pg ?hd ?po ?sa ?mk ?kc ?nK ?n0 ?n1 ?n2 ?n3 ?n4 ?n5 ?t0 ?u0 ?z0 ?v0 ?t1 ?u1 ?z1 ?v1 ?t2 ?u2 ?z2 ?v2 ?o0 ?o1 ?o2 ?o3 ?o4 ?o5 ?o6 ?o7 ?o8 ?o9
    (case a0 => k_is)
    (case l0 => k_is)
    (case c0 => k_is)
    (case k0 => k_is)
    (case a1 => k_is)
    (case l1 => k_is)
    (case c1 => k_is)
    (case k1 => k_is)
    (case a2 => k_is)
    (case l2 => k_is)
    (case c2 => k_is)
    (case k2 => k_is)
    (case a3 => k_is)
    (case l3 => k_is)
    (case c3 => k_is)
    (case k3 => k_is)
    (case a4 => k_is)
    (case l4 => k_is)
    (case c4 => k_is)
    (case k4 => k_is)
    (case a5 => k_is)
    (case l5 => k_is)
    (case c5 => k_is)
    (case k5 => k_is)
    (case a6 => k_is)
    (case l6 => k_is)
    (case c6 => k_is)
    (case k6 => k_is)
    (case a7 => k_is)
    (case l7 => k_is)
    (case c7 => k_is)
    (case k7 => k_is)
    (case a8 => k_is)
    (case l8 => k_is)
    (case c8 => k_is)
    (case k8 => k_is)
    (case a9 => k_is)
    (case l9 => k_is)
    (case c9 => k_is)
    (case k9 => k_is)
    (case a10 => k_is)
    (case l10 => k_is)
    (case c10 => k_is)
    (case k10 => k_is)
    (case a11 => k_is)
    (case l11 => k_is)
    (case c11 => k_is)
    (case k11 => k_is)
    (case a12 => k_is)
    (case l12 => k_is)
    (case c12 => k_is)
    (case k12 => k_is)
    (case a13 => k_is)
    (case l13 => k_is)
    (case c13 => k_is)
    (case k13 => k_is)
    (case a14 => k_is)
    (case l14 => k_is)
    (case c14 => k_is)
    (case k14 => k_is)
    (case a15 => k_is)
    (case l15 => k_is)
    (case c15 => k_is)
    (case k15 => k_is)
    (case a16 => k_is)
    (case l16 => k_is)
    (case c16 => k_is)
    (case k16 => k_is)
    (case a17 => k_is)
    (case l17 => k_is)
    (case c17 => k_is)
    (case k17 => k_is)
    (case a18 => k_is)
    (case l18 => k_is)
    (case c18 => k_is)
    (case k18 => k_is)
    (case a19 => k_is)
    (case l19 => k_is)
    (case c19 => k_is)
    (case k19 => k_is)
    (case a20 => k_is)
    (case l20 => k_is)
    (case c20 => k_is)
    (case k20 => k_is)
    (case aC => k_is)
    (case a30 => k_is)
    (case i30 => k_is)
    (case l30 => k_is)
    (case c30 => k_is)
    (case k30 => k_is)
    (case a31 => k_is)
    (case i31 => k_is)
    (case l31 => k_is)
    (case c31 => k_is)
    (case k31 => k_is)
    (case a32 => k_is)
    (case i32 => k_is)
    (case l32 => k_is)
    (case c32 => k_is)
    (case k32 => k_is)
    (case pg => k_is)
    (case hd => k_is)
    (case po => k_is)
    (case sa => k_is)
    (case mk => k_is)
    (case kc => k_is)
    (case nK => k_is)
    (case n0 => k_is)
    (case n1 => k_is)
    (case n2 => k_is)
    (case n3 => k_is)
    (case n4 => k_is)
    (case n5 => k_is)
    (case t0 => k_is)
    (case u0 => k_is)
    (case z0 => decide)
    (case v0 => rfl)
    (case t1 => k_is)
    (case u1 => k_is)
    (case z1 => decide)
    (case v1 => rfl)
    (case t2 => k_is)
    (case u2 => k_is)
    (case z2 => decide)
    (case v2 => rfl)
    (case o0 => k_is)
    (case o1 => k_is)
    (case o2 => k_is)
    (case o3 => k_is)
    (case o4 => k_is)
    (case o5 => k_is)
    (case o6 => k_is)
    (case o7 => k_is)
    (case o8 => k_is)
    (case o9 => k_is)
