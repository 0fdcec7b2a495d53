import PyProof.Rows.All
import Wide.All
import OpenK.AllK
import Wide.FinOn
import PySem.Challenge.RW_pq0514_01
set_option Elab.async false
set_option compiler.extract_closed false
namespace Mine
section
noncomputable def lcp : List UInt8 → List UInt8 → Nat
  | x :: xs, y :: ys => if x = y then lcp xs ys + 1 else 0
  | [], _ => 0
  | _ :: _, [] => 0
theorem lcp_le_right : ∀ xs ys : List UInt8, lcp xs ys ≤ ys.length
  | [], _ => by simp [lcp]
  | _ :: _, [] => by simp [lcp]
  | x :: xs, y :: ys => by
    have := lcp_le_right xs ys
    unfold lcp
    split <;> simp only [List.length_cons] <;> omega
theorem lcp_take_iff : ∀ (n : Nat) (xs ys : List UInt8), n ≤ xs.length → n ≤ ys.length → (xs.take n = ys.take n ↔ n ≤ lcp xs ys)
  | 0, _, _, _, _ => by simp
  | n + 1, [], _, h, _ => by simp at h
  | n + 1, _ :: _, [], _, h => by simp at h
  | n + 1, x :: xs, y :: ys, h1, h2 => by
    have ih := lcp_take_iff n xs ys (by simpa using h1) (by simpa using h2)
    simp only [List.take_succ_cons, List.cons.injEq, lcp]
    by_cases e : x = y
    · simp only [e, true_and, if_true, ih]; omega
    · simp [e]
theorem lcp_get : ∀ (n : Nat) (xs ys : List UInt8), n < lcp xs ys → xs[n]? = ys[n]?
  | n, [], _, h => by simp [lcp] at h
  | n, _ :: _, [], h => by simp [lcp] at h
  | 0, x :: xs, y :: ys, h => by
    unfold lcp at h
    split at h
    · rename_i e; simp [e]
    · omega
  | n + 1, x :: xs, y :: ys, h => by
    unfold lcp at h
    split at h
    · simpa using lcp_get n xs ys (by omega)
    · omega
theorem lcp_next : ∀ (xs ys : List UInt8) (a c : UInt8), xs[lcp xs ys]? = some a → ys[lcp xs ys]? = some c → a ≠ c
  | [], _, _, _, h, _ => by simp at h
  | _ :: _, [], _, _, _, h => by simp at h
  | x :: xs, y :: ys, a, c, h1, h2 => by
    unfold lcp at h1 h2
    split at h1
    · rename_i e
      simp only [e, if_true] at h2
      exact lcp_next xs ys a c (by simpa using h1) (by simpa using h2)
    · rename_i e
      simp only [e, if_false] at h2
      simp at h1 h2
      rw [← h1, ← h2]; exact e
noncomputable def alike (b : Array UInt8) (bf a : Nat) : Nat := lcp (b.toList.drop bf) ((b.toList.drop a).take 258)
noncomputable def cutB (b : Array UInt8) (i j : Nat) : Array UInt8 := ((b.toList.drop i).take (j - i)).toArray
theorem alike_le (b : Array UInt8) (bf a : Nat) : alike b bf a ≤ 258 ∧ alike b bf a ≤ b.size - a := by
  have := lcp_le_right (b.toList.drop bf) ((b.toList.drop a).take 258)
  simp only [List.length_take, List.length_drop, Array.length_toList] at this
  unfold alike
  omega
theorem cut_iff {b : Array UInt8} {bf a n : Nat} (h1 : bf ≤ a) (h2 : n ≤ 258) (h3 : a + n ≤ b.size) : cutB b bf (bf + n) = cutB b a (a + n) ↔ n ≤ alike b bf a := by
  have e := lcp_take_iff n (b.toList.drop bf) ((b.toList.drop a).take 258) (by simp; omega) (by simp; omega)
  unfold alike cutB
  rw [← e]
  rw [List.take_take, Nat.min_eq_left h2, Nat.add_sub_cancel_left, Nat.add_sub_cancel_left]
  constructor
  · intro h; simpa using congrArg Array.toList h
  · intro h; rw [h]
theorem alike_char {b : Array UInt8} {bf a n : Nat} (h1 : bf ≤ a) (h2 : n < 258) (h3 : a + n < b.size) (h4 : n ≤ alike b bf a) : (b.toList.getD (bf + n) 0 = b.toList.getD (a + n) 0) ↔ n < alike b bf a := by
  have hb : (b.toList.drop bf)[n]? = b.toList[bf + n]? := by simp
  have ha : ((b.toList.drop a).take 258)[n]? = b.toList[a + n]? := by simp [h2]
  have e1 : b.toList[bf + n]? = some (b.toList.getD (bf + n) 0) := by
    rw [List.getD_eq_getElem?_getD, List.getElem?_eq_getElem (by simp; omega)]; rfl
  have e2 : b.toList[a + n]? = some (b.toList.getD (a + n) 0) := by
    rw [List.getD_eq_getElem?_getD, List.getElem?_eq_getElem (by simp; omega)]; rfl
  constructor
  · intro h
    rcases Nat.lt_or_ge n (alike b bf a) with h' | h'
    · exact h'
    · exfalso
      have en : n = alike b bf a := Nat.le_antisymm h4 h'
      unfold alike at en
      refine lcp_next (b.toList.drop bf) ((b.toList.drop a).take 258) _ _ (by rw [← en, hb, e1]) (by rw [← en, ha, e2]) h
  · intro h
    have := lcp_get n _ _ h
    rw [hb, ha, e1, e2] at this
    exact Option.some.inj this
noncomputable def keyOf (b : Array UInt8) (a n : Nat) : Int := ((b.toList.drop a).take n).foldl (fun (acc : Int) o => acc * 256 + ((o.toNat : Nat) : Int)) 0
theorem keyOf_zero (b : Array UInt8) (a : Nat) : keyOf b a 0 = 0 := by simp [keyOf]
theorem keyOf_succ {b : Array UInt8} {a n : Nat} (h : a + n < b.size) : keyOf b a (n + 1) = keyOf b a n * 256 + (((b.toList.getD (a + n) 0).toNat : Nat) : Int) := by
  unfold keyOf
  have hg : (b.toList.drop a)[n]? = some (b.toList.getD (a + n) 0) := by
    rw [List.getElem?_drop, List.getD_eq_getElem?_getD, List.getElem?_eq_getElem (by simp; omega)]; rfl
  rw [List.take_add_one, hg, List.foldl_append]
  rfl
theorem keyOf_bound (b : Array UInt8) (a : Nat) : ∀ n, a + n ≤ b.size → 0 ≤ keyOf b a n ∧ keyOf b a n < 256 ^ n
  | 0, _ => by simp [keyOf_zero]
  | n + 1, h => by
    have ih := keyOf_bound b a n (by omega)
    rw [keyOf_succ (by omega)]
    have hb := (b.toList.getD (a + n) 0).toNat_lt
    rw [Int.pow_succ]
    omega
noncomputable def pick (xs : List (Nat × Nat)) : Nat × Nat := xs.foldl (fun f x => if f.1 < x.1 then x else f) (0, 0)
noncomputable def mkP (b : Array UInt8) (a p : Nat) : Nat × Nat := (alike b p a, a - p)
structure LInv (b : Array UInt8) (a wd : Nat) (row : List Nat) (k : Nat) (l d : Int) : Prop where
  within : ∀ p ∈ row.reverse.take k, a - p ≤ wd
  best : (l, d) = (((pick ((row.reverse.take k).map (mkP b a))).1 : Int), ((pick ((row.reverse.take k).map (mkP b a))).2 : Int))
theorem LInv.start (b : Array UInt8) (a wd : Nat) (row : List Nat) : LInv b a wd row 0 0 0 := ⟨by simp, by simp [pick]⟩
theorem rev_get {row : List Nat} {k : Nat} (h : k < row.length) : row.reverse[k]? = some (row.getD (row.length - 1 - k) 0) := by
  rw [List.getElem?_reverse h, List.getD_eq_getElem?_getD, List.getElem?_eq_getElem (by omega)]; rfl
theorem LInv.next {b : Array UInt8} {a wd : Nat} {row : List Nat} {k : Nat} {l d : Int} (I : LInv b a wd row k l d) (h : k < row.length) (hw : a - row.getD (row.length - 1 - k) 0 ≤ wd) :
    LInv b a wd row (k + 1) (if l < (alike b (row.getD (row.length - 1 - k) 0) a : Nat) then (alike b (row.getD (row.length - 1 - k) 0) a : Nat) else l) (if l < (alike b (row.getD (row.length - 1 - k) 0) a : Nat) then ((a - row.getD (row.length - 1 - k) 0 : Nat) : Int) else d) := by
  have e : row.reverse.take (k + 1) = row.reverse.take k ++ [row.getD (row.length - 1 - k) 0] := by rw [List.take_add_one, rev_get h]; rfl
  obtain ⟨h1, h2⟩ := I
  injection h2 with hl hd
  refine ⟨?_, ?_⟩
  · rw [e]
    intro p hp
    rcases List.mem_append.mp hp with hp | hp
    · exact h1 p hp
    · rw [List.mem_singleton.mp hp]; exact hw
  · rw [e, List.map_append, pick, List.foldl_append]
    show _ = (((if (pick ((row.reverse.take k).map (mkP b a))).1 < (mkP b a (row.getD (row.length - 1 - k) 0)).1 then mkP b a (row.getD (row.length - 1 - k) 0) else pick ((row.reverse.take k).map (mkP b a))).1 : Int), _)
    show _ = (_, ((if (pick ((row.reverse.take k).map (mkP b a))).1 < (mkP b a (row.getD (row.length - 1 - k) 0)).1 then mkP b a (row.getD (row.length - 1 - k) 0) else pick ((row.reverse.take k).map (mkP b a))).2 : Int))
    rw [hl, hd]
    have e3 : ((pick ((row.reverse.take k).map (mkP b a))).1 : Int) < (alike b (row.getD (row.length - 1 - k) 0) a : Nat) ↔ (pick ((row.reverse.take k).map (mkP b a))).1 < (mkP b a (row.getD (row.length - 1 - k) 0)).1 := by
      show _ ↔ _ < alike b _ a
      omega
    simp only [e3]
    split <;> rfl
noncomputable def nearR (a wd : Nat) (row : List Nat) : List Nat := row.reverse.filter fun p => decide (a - p ≤ wd)
noncomputable def scan (b : Array UInt8) (a wd ch : Nat) (row : List Nat) : Nat × Nat := pick (((nearR a wd row).take ch).map (mkP b a))
theorem pick_keep (xs : List (Nat × Nat)) (f : Nat × Nat) (h : ∀ x ∈ xs, x.1 ≤ f.1) : xs.foldl (fun f x => if f.1 < x.1 then x else f) f = f := by
  induction xs with
  | nil => rfl
  | cons x r ih =>
    have hx := h x List.mem_cons_self
    rw [List.foldl_cons, if_neg (by omega)]
    exact ih fun y hy => h y (List.mem_cons_of_mem _ hy)
theorem filter_all {α : Type} {p : α → Bool} {xs : List α} (h : ∀ x ∈ xs, p x = true) : xs.filter p = xs := List.filter_eq_self.mpr h
theorem near_split {a wd : Nat} {row : List Nat} {k : Nat} (h : ∀ p ∈ row.reverse.take k, a - p ≤ wd) : nearR a wd row = row.reverse.take k ++ (row.reverse.drop k).filter fun p => decide (a - p ≤ wd) := by
  unfold nearR
  conv => lhs; rw [← List.take_append_drop k row.reverse]
  rw [List.filter_append, filter_all fun p hp => decide_eq_true (h p hp)]
theorem far_rest {a wd : Nat} {row : List Nat} {k : Nat} (hs : row.Pairwise (· < ·)) (hlt : ∀ p ∈ row, p < a) (hk : k < row.length) (hw : ¬ a - row.getD (row.length - 1 - k) 0 ≤ wd) : (row.reverse.drop k).filter (fun p => decide (a - p ≤ wd)) = [] := by
  rw [List.filter_eq_nil_iff]
  intro p hp
  have hrs : row.reverse.Pairwise (· > ·) := by rw [List.pairwise_reverse]; exact hs
  have e : row.reverse.drop k = row.getD (row.length - 1 - k) 0 :: row.reverse.drop (k + 1) := by
    have hk' : k < row.reverse.length := by rwa [List.length_reverse]
    rw [List.drop_eq_getElem_cons hk']
    congr 1
    have := rev_get hk
    rw [List.getElem?_eq_getElem hk'] at this
    exact Option.some.inj this
  have hle : p ≤ row.getD (row.length - 1 - k) 0 := by
    rw [e] at hp
    rcases List.mem_cons.mp hp with rfl | hp
    · exact Nat.le_refl _
    · have h2 : (row.reverse.drop k).Pairwise (· > ·) := hrs.sublist (List.drop_sublist _ _)
      rw [e] at h2
      exact Nat.le_of_lt ((List.pairwise_cons.mp h2).1 p hp)
  simp only [decide_eq_true_eq]
  omega
theorem scan_done {b : Array UInt8} {a wd ch : Nat} {row : List Nat} {k : Nat} {l d : Int} (I : LInv b a wd row k l d) (hs : row.Pairwise (· < ·)) (hlt : ∀ p ∈ row, p < a) (hkc : k ≤ ch) (hkl : k ≤ row.length)
    (hD : k = row.length ∨ k = ch ∨ (k < row.length ∧ ¬ a - row.getD (row.length - 1 - k) 0 ≤ wd) ∨ 258 ≤ l) : l = ((scan b a wd ch row).1 : Int) ∧ d = ((scan b a wd ch row).2 : Int) := by
  have hsp := near_split I.within
  have hlen : (row.reverse.take k).length = k := by simp; omega
  have key : scan b a wd ch row = pick ((row.reverse.take k).map (mkP b a)) := by
    unfold scan
    rw [hsp]
    rcases hD with h | h | h | h
    · rw [List.drop_of_length_le (by simp; omega), List.filter_nil, List.append_nil, List.take_of_length_le (by omega)]
    · rw [List.take_append_of_le_length (by omega), List.take_of_length_le (by omega)]
    · rw [far_rest hs hlt h.1 h.2, List.append_nil, List.take_of_length_le (by omega)]
    · rw [List.take_append, List.map_append, List.take_of_length_le (show (row.reverse.take k).length ≤ ch by omega)]
      unfold pick
      rw [List.foldl_append]
      refine pick_keep _ _ fun x hx => ?_
      obtain ⟨p, _, rfl⟩ := List.mem_map.mp hx
      have h1 := (alike_le b p a).1
      have h2 := I.best
      injection h2 with h2 h3
      unfold pick at h2
      show alike b p a ≤ _
      omega
  rw [key]
  have h2 := I.best
  injection h2 with h2 h3
  exact ⟨h2, h3⟩
theorem pick_ge {le : Nat} (hle : 0 < le) : ∀ (xs : List (Nat × Nat)), (∀ x ∈ xs, le ≤ x.1) → ∀ f : Nat × Nat, (f = (0, 0) ∨ le ≤ f.1) → ((xs = [] ∧ xs.foldl (fun f x => if f.1 < x.1 then x else f) f = f) ∨ le ≤ (xs.foldl (fun f x => if f.1 < x.1 then x else f) f).1)
  | [], _, _, _ => .inl ⟨rfl, rfl⟩
  | x :: r, h, f, hf => by
    right
    have hx := h x List.mem_cons_self
    rw [List.foldl_cons]
    have h1 : le ≤ (if f.1 < x.1 then x else f).1 := by
      rcases hf with rfl | hf
      · rw [if_pos (by show 0 < x.1; omega)]; exact hx
      · split <;> assumption
    rcases pick_ge hle r (fun y hy => h y (List.mem_cons_of_mem _ hy)) _ (.inr h1) with ⟨_, e⟩ | e
    · rw [e]; exact h1
    · exact e
theorem scan_ge {b : Array UInt8} {a wd ch le : Nat} {row : List Nat} (hle : 0 < le) (hg : ∀ p ∈ row, le ≤ alike b p a) : scan b a wd ch row = (0, 0) ∨ le ≤ (scan b a wd ch row).1 := by
  unfold scan
  rcases pick_ge hle (((nearR a wd row).take ch).map (mkP b a)) (fun x hx => by
    obtain ⟨p, hp, rfl⟩ := List.mem_map.mp hx
    have hp := (List.mem_filter.mp (List.mem_of_mem_take hp)).1
    exact hg p (List.mem_reverse.mp hp)) (0, 0) (.inl rfl) with ⟨_, e⟩ | e
  · exact .inl e
  · exact .inr e
theorem scan_int {b : Array UInt8} {a wd ch : Nat} {row : List Nat} {pl lo l d : Int} (h1 : 0 ≤ lo) (h2 : lo ≤ (ch : Int)) (h3 : lo ≤ (row.length : Int)) (h4 : pl = (row.length : Int) - 1 - lo) (I : LInv b a wd row lo.toNat l d) (hs : row.Pairwise (· < ·)) (hlt : ∀ p ∈ row, p < a)
    (hD : pl < 0 ∨ ¬ lo < (ch : Int) ∨ ¬ ((a : Int) - ((row.getD pl.toNat 0 : Nat) : Int) ≤ (wd : Int)) ∨ ¬ l < 258) : l = ((scan b a wd ch row).1 : Int) ∧ d = ((scan b a wd ch row).2 : Int) := by
  obtain ⟨k, rfl⟩ := Int.eq_ofNat_of_zero_le h1
  refine scan_done I hs hlt (by omega) (by simp only [Int.toNat_natCast]; omega) ?_
  simp only [Int.toNat_natCast]
  rcases hD with h | h | h | h
  · left; omega
  · right; left; omega
  · rcases Nat.lt_or_ge k row.length with hk | hk
    · right; right; left
      refine ⟨hk, fun hw => h ?_⟩
      have e : pl.toNat = row.length - 1 - k := by omega
      rw [e]
      omega
    · left; omega
  · right; right; right; omega
theorem scan_low {b : Array UInt8} {a wd ch le : Nat} {row : List Nat} {l d : Int} (h : l = ((scan b a wd ch row).1 : Int) ∧ d = ((scan b a wd ch row).2 : Int)) (hl : ¬ (le : Int) ≤ l) (hle : 0 < le) (hg : ∀ p ∈ row, le ≤ alike b p a) :
    (0 : Int) = ((scan b a wd ch row).1 : Int) ∧ (0 : Int) = ((scan b a wd ch row).2 : Int) := by
  rcases scan_ge (wd := wd) (ch := ch) hle hg with e | e
  · rw [e]; exact ⟨rfl, rfl⟩
  · omega
theorem step_up {b : Array UInt8} {a wd : Nat} {row : List Nat} {pl lo l d : Int} (h1 : 0 ≤ lo) (h4 : pl = (row.length : Int) - 1 - lo) (I : LInv b a wd row lo.toNat l d) (hlt : ∀ p ∈ row, p < a) (h5 : 0 ≤ pl)
    (hw : (a : Int) - ((row.getD pl.toNat 0 : Nat) : Int) ≤ (wd : Int)) (hl : l < ((alike b ((row.getD pl.toNat 0 : Nat) : Int).toNat a : Nat) : Int)) :
    LInv b a wd row (lo + 1).toNat ((alike b ((row.getD pl.toNat 0 : Nat) : Int).toNat a : Nat) : Int) ((a : Int) - ((row.getD pl.toNat 0 : Nat) : Int)) := by
  obtain ⟨k, rfl⟩ := Int.eq_ofNat_of_zero_le h1
  have e : pl.toNat = row.length - 1 - k := by omega
  have hk : k < row.length := by omega
  have hm : row.getD (row.length - 1 - k) 0 < a := by
    rw [List.getD_eq_getElem?_getD, List.getElem?_eq_getElem (by omega)]
    exact hlt _ (List.getElem_mem _)
  rw [e] at hw hl ⊢
  simp only [Int.toNat_natCast] at hw hl I ⊢
  have := I.next hk (by omega)
  rw [if_pos hl, if_pos hl] at this
  have e2 : ((k : Int) + 1).toNat = k + 1 := by omega
  have e3 : (a : Int) - ((row.getD (row.length - 1 - k) 0 : Nat) : Int) = ((a - row.getD (row.length - 1 - k) 0 : Nat) : Int) := by omega
  rw [e2, e3]
  exact this
theorem step_no {b : Array UInt8} {a wd : Nat} {row : List Nat} {pl lo l d : Int} (h1 : 0 ≤ lo) (h4 : pl = (row.length : Int) - 1 - lo) (I : LInv b a wd row lo.toNat l d) (hlt : ∀ p ∈ row, p < a) (h5 : 0 ≤ pl)
    (hw : (a : Int) - ((row.getD pl.toNat 0 : Nat) : Int) ≤ (wd : Int)) (hl : ¬ l < ((alike b ((row.getD pl.toNat 0 : Nat) : Int).toNat a : Nat) : Int)) :
    LInv b a wd row (lo + 1).toNat l d := by
  obtain ⟨k, rfl⟩ := Int.eq_ofNat_of_zero_le h1
  have e : pl.toNat = row.length - 1 - k := by omega
  have hk : k < row.length := by omega
  have hm : row.getD (row.length - 1 - k) 0 < a := by
    rw [List.getD_eq_getElem?_getD, List.getElem?_eq_getElem (by omega)]
    exact hlt _ (List.getElem_mem _)
  rw [e] at hw hl
  simp only [Int.toNat_natCast] at hw hl I ⊢
  have := I.next hk (by omega)
  rw [if_neg hl, if_neg hl] at this
  have e2 : ((k : Int) + 1).toNat = k + 1 := by omega
  rw [e2]
  exact this
theorem horner : ∀ (cs : List UInt8) (acc : Int), cs.foldl (fun (acc : Int) o => acc * 256 + ((o.toNat : Nat) : Int)) acc = acc * 256 ^ cs.length + (cs.mapIdx fun i x => ((x.toNat : Nat) : Int) * 256 ^ (cs.length - 1 - i)).sum
  | [], acc => by simp
  | c :: cs, acc => by
    have e : (fun (i : Nat) (x : UInt8) => ((x.toNat : Nat) : Int) * 256 ^ ((c :: cs).length - 1 - (i + 1))) = fun i x => ((x.toNat : Nat) : Int) * 256 ^ (cs.length - 1 - i) := by
      funext i x
      congr 2
      simp only [List.length_cons]
      omega
    rw [List.foldl_cons, horner cs, List.mapIdx_cons, List.sum_cons, e, List.length_cons]
    simp only [Nat.sub_zero, Nat.add_sub_cancel, Int.pow_succ, Int.add_mul, Int.mul_assoc]
    rw [Int.mul_comm 256 (256 ^ cs.length)]
    omega
theorem sum_key {b : Array UInt8} {a le : Nat} (h : a + le ≤ b.size) : ((cutB b a (a + le)).toList.mapIdx fun i x => ((x.toNat : Nat) : Int) * 256 ^ (le - 1 - i)).sum = keyOf b a le := by
  unfold cutB keyOf
  rw [horner]
  have hl : ((b.toList.drop a).take le).length = le := by simp; omega
  simp [hl]
end
open PySem PySem.W PyProof.Rows PySem.Spec PySem.Calls
section
set_option maxRecDepth 100000 in
set_option maxHeartbeats 8000000 in
open_top hd for PySem.Challenge.rw_pq0514_01
end
section
theorem ints_len {vs : List Value} {ns : List Int} (h : IntsAre vs ns) : vs.length = ns.length := by
  induction h with
  | nil => rfl
  | cons _ _ _ ih => simp [ih]
section
variable {prog : Program} {w : World} {A : Around} {E : Value → Shared → Prop} {s : Shared} {h₀ h : Heap} {L D : Addr} {m : Str → Option Value} {news news' : List (Addr × Obj)} {n : Nat}
theorem pop0 {v : Value} {vs : List Value} {u : Tok} {Q : Value → Shared → Prop} (F : Fr h₀ L s.heap m) (N : News h₀ L s.heap news) (U : Upd D (listOf (v :: vs).toArray n) (listOf vs.toArray (n + 1)) news news')
    (hz : vs.length ≤ 1000) (h : ∀ h', Fr h₀ L h' m → News h₀ L h' news' → Q v { s with heap := h' }) : wpAny (model prog w) A (call (.builtin "list.pop") [.ref D, .int 0 u]) Q E s := by
  refine kl_popAt (k := 0) (p := []) (y := v) (q := vs) F N rfl ?_ ?_ U ?_ h
  · simp only [List.size_toArray, List.length_cons]
    unfold seqIndex?
    simp
  · rfl
  · simp only [List.length_cons, sizeLine_eq]
    omega
theorem slice_mine {value slice : PySem.Expr} {b : Array UInt8} {t ti tj : Tok} {i j : Int} {Q : Value → Shared → Prop} (hF : Fr h₀ L s.heap m) (hN : News h₀ L s.heap news) (h0 : 0 ≤ i) (h1 : 0 ≤ j) (hz : b.size ≤ 16777216)
    (h : ∀ h' t' k, Fr h₀ L h' m → News h₀ L h' news → Q (.bytes (cutB b i.toNat j.toNat) t') { s with heap := h', toks := k })
    (hs : subscripted slice false (.bytes b t) (.ref s.heap.objs.size) = operate [.ref s.heap.objs.size, .bytes b t] (getItem (.bytes b t) (.ref s.heap.objs.size)) := by with_unfolding_all rfl)
    (ht : ∀ r, letTemporaryGo value (.bytes b t) r = pure () := by intro _; with_unfolding_all rfl) :
    wpAny (model prog w) A (subscriptTail value slice (.bytes b t) (.ref s.heap.objs.size)) Q E { s with heap := s.heap.push { cls := .type "slice", data := .fields #[.int i ti, .int j tj, .none] } } := by
  refine KBc.slice_K (lo := some i) (hi := some j) hF hN rfl (.int i ti) (.int j tj) (by rw [KBw.ints_length]; exact hz) (fun h' t' k F' N' _ => ?_) hs ht
  have e : KBy.picked b (some i) (some j) = cutB b i.toNat j.toNat := by
    rw [KBc.picked_eq]
    obtain ⟨i', rfl⟩ := Int.eq_ofNat_of_zero_le h0
    obtain ⟨j', rfl⟩ := Int.eq_ofNat_of_zero_le h1
    simp only [Option.elim, clipAt_nat, Int.toNat_natCast]
    unfold cutB
    rcases Nat.lt_or_ge i' b.size with hi | hi
    · rw [Nat.min_eq_left (Nat.le_of_lt hi)]
      rcases Nat.lt_or_ge j' b.size with hj | hj
      · rw [Nat.min_eq_left (Nat.le_of_lt hj)]
      · rw [Nat.min_eq_right hj, List.take_of_length_le (by simp), List.take_of_length_le (by simp; omega)]
    · rw [Nat.min_eq_right hi, List.drop_of_length_le (by simp), List.drop_of_length_le (by simpa using hi)]; simp
  rw [e]
  exact h h' t' k F' N'
theorem item_mine {value slice : PySem.Expr} {b : Array UInt8} {t ui : Tok} {i : Int} {Q : Value → Shared → Prop} (h0 : 0 ≤ i) (h1 : i < (b.size : Int)) (hz : b.size ≤ 16777216)
    (h : ∀ t' k, Q (.int (((b.toList.getD i.toNat 0).toNat : Nat) : Int) t') { s with toks := k })
    (hs : subscripted slice false (.bytes b t) (.int i ui) = operate [.bytes b t, .int i ui] (getItem (.bytes b t) (.int i ui)) := by with_unfolding_all rfl)
    (ht : ∀ r, letTemporaryGo value (.bytes b t) r = pure () := by intro _; with_unfolding_all rfl) : wpAny (model prog w) A (subscriptTail value slice (.bytes b t) (.int i ui)) Q E s := by
  have g : wpAny (model prog w) A (getItem (.bytes b t) (.int i ui)) Q E s := by
    refine getItem_gives (typeIs_bytes s _ t) (by decide) FB.slot_bytes_getitem FB.entry_bytes_getitem (FB.args_bytes_getitem_2 _ _) (gives_bytes_getitem _ i t ui (b.toList.getD i.toNat 0) ?_ ?_) ?_
    · simp only [Builtin.Bytes.fitsIndex, Bool.and_eq_true, decide_eq_true_eq]; omega
    · have hl : i.toNat < b.size := by omega
      have e : seqIndex? i b.size = some i.toNat := by
        have h2 : ¬ i < 0 := by omega
        simp [seqIndex?, h2, h0, h1]
      rw [e]; simp [hl]
    · exact h _ _
  exact tail_of_ItemOn ⟨"bytes", _, FB.slot_bytes_getitem.lookup, typeIs_bytes _ _ _, g⟩ hs ht
theorem ints_at {vs : List Value} {row : List Nat} (hI : IntsAre vs (row.map fun (p : Nat) => (p : Int))) {j : Nat} (h : j < row.length) : ∃ t, vs[j]? = some (.int ((row.getD j 0 : Nat) : Int) t) := by
  obtain ⟨t, e⟩ := hI.get j ((row.getD j 0 : Nat) : Int) (by
    rw [List.getElem?_map, List.getD_eq_getElem?_getD, List.getElem?_eq_getElem h]; rfl)
  exact ⟨t, e⟩
theorem item_row {value slice : PySem.Expr} {l : Addr} {vs : List Value} {c : Nat} {row : List Nat} {i : Int} {u : Tok} {Q : Value → Shared → Prop} (N : News h₀ L s.heap news) (hm : (l, listOf vs.toArray c) ∈ news) (hI : IntsAre vs (row.map fun (p : Nat) => (p : Int)))
    (h0 : 0 ≤ i) (h1 : i < (row.length : Int)) (hz : row.length ≤ 16777216) (h : ∀ t, Q (.int ((row.getD i.toNat 0 : Nat) : Int) t) s)
    (hs : subscripted slice false (.ref l) (.int i u) = operate [.ref l, .int i u] (getItem (.ref l) (.int i u)) := by with_unfolding_all rfl) :
    wpAny (model prog w) A (subscriptTail value slice (.ref l) (.int i u)) Q E s := by
  have hl : s.heap.IsList l vs.toArray := ⟨_, (N _ hm).1, rfl, c, rfl⟩
  obtain ⟨t, e⟩ := ints_at hI (j := i.toNat) (by omega)
  exact tail_any hl.typeIs slot_list_getitem.lookup (wpAny_getItem_list hl h0 (by omega) (by simpa using e) (h t)) hs
end
theorem slice_nat {prog : Program} {w : World} {A : Around} {E : Value → Shared → Prop} {s : Shared} {h₀ : Heap} {L : Addr} {m : Str → Option Value} {news : List (Addr × Obj)} {value slice : PySem.Expr} {b : Array UInt8} {t ti tj : Tok} {i j : Int} (i' j' : Nat) {Q : Value → Shared → Prop} (hF : Fr h₀ L s.heap m) (hN : News h₀ L s.heap news) (h0 : i = ((i' : Nat) : Int)) (h1 : j = ((j' : Nat) : Int)) (hz : b.size ≤ 16777216)
    (h : ∀ h' t' k, Fr h₀ L h' m → News h₀ L h' news → Q (.bytes (cutB b i' j') t') { s with heap := h', toks := k })
    (hs : subscripted slice false (.bytes b t) (.ref s.heap.objs.size) = operate [.ref s.heap.objs.size, .bytes b t] (getItem (.bytes b t) (.ref s.heap.objs.size)) := by with_unfolding_all rfl)
    (ht : ∀ r, letTemporaryGo value (.bytes b t) r = pure () := by intro _; with_unfolding_all rfl) :
    wpAny (model prog w) A (subscriptTail value slice (.bytes b t) (.ref s.heap.objs.size)) Q E { s with heap := s.heap.push { cls := .type "slice", data := .fields #[.int i ti, .int j tj, .none] } } := by
  subst h0 h1
  exact slice_mine hF hN (by omega) (by omega) hz (fun h' t' k F' N' => by simpa using h h' t' k F' N') hs ht
theorem cut_size (b : Array UInt8) (i j : Nat) : (cutB b i j).size = min (j - i) (b.size - i) := by simp [cutB]
inductive Pick (a : Addr) (o : Obj) : List (Addr × Obj) → List (Addr × Obj) → Prop
  | head {r : List (Addr × Obj)} : Pick a o ((a, o) :: r) r
  | tail {p : Addr × Obj} {r r' : List (Addr × Obj)} : Pick a o r r' → Pick a o (p :: r) (p :: r')
theorem Pick.sub {a : Addr} {o : Obj} : ∀ {l r : List (Addr × Obj)}, Pick a o l r → ∀ p ∈ (a, o) :: r, p ∈ l
  | _, _, .head, _, hp => hp
  | _, _, .tail (p := q) h, p, hp => by
    rcases List.mem_cons.mp hp with rfl | hp
    · exact .tail _ (h.sub _ (.head _))
    · rcases List.mem_cons.mp hp with rfl | hp
      · exact .head _
      · exact .tail _ (h.sub _ (.tail _ hp))
theorem Pick.two {a c : Addr} {o q : Obj} {l r r' : List (Addr × Obj)} (h : Pick a o l r) (k : Pick c q r r') : ∀ p ∈ (a, o) :: (c, q) :: r', p ∈ l := fun p hp => by
  rcases List.mem_cons.mp hp with rfl | hp
  · exact h.sub _ (.head _)
  · exact h.sub _ (.tail _ (k.sub p hp))
theorem off_nil {adr : List Addr} : OwnOff [] adr := fun _ h => nomatch h
theorem off_cons2 {p : Addr × Obj} {r : List (Addr × Obj)} {a c : Addr} (h1 : @Ne Nat p.1 a) (h2 : @Ne Nat p.1 c) (h : OwnOff r [a, c]) : OwnOff (p :: r) [a, c] := fun q hq b hb => by
  rcases List.mem_cons.mp hq with rfl | hq
  · rcases List.mem_cons.mp hb with rfl | hb
    · exact h1
    · rw [List.mem_singleton.mp hb]; exact h2
  · exact h q hq b hb
noncomputable abbrev tup2 (l : Int) (tl : Tok) (d : Int) (td : Tok) : Obj := { cls := .type "tuple", data := .seq [.int l tl, .int d td].toArray }
structure Stop (P : Prop) : Prop where
  go : P
theorem stopIt {P : Prop} (h : Stop P) : P := h.go
/-- the contract of a def of the text: f called with vs over the ledger news hands back what Ret says -/
def Ctr (w : World) (mean : ExcName → Option Value) (mg mb : Str → Option Value) (loose : List Str) (d : Nat) (f : Addr) (vs : List Value) (news : List (Addr × Obj)) (Ret : Value → List (Addr × Obj) → Prop) : Prop :=
  ∀ (dp un : Nat) (gd : Option (List Code)) (cn : Str) (cs : Scope) (a : Addr) (ccd : Value) (cl : List (Str × Addr)) (outer : List Env) (A₀ : Around) (base h₀ : Heap) (L : Addr) (m : Str → Option Value) (s : Shared) (Q E : Value → Shared → Prop),
    Below A₀ base outer h₀ → Fr h₀ L s.heap m → (hd.heap_39 w.params).In h₀ → News h₀ L s.heap news → Top hd.view_39 loose mean mg mb h₀ → cs.kind = .function → dp + 10 * d < recursionLimit → un + 400 * d < cLine →
    (∀ r news' h' tk', Ret r news' → Fr h₀ L h' m → News h₀ L h' news' → Q r { s with heap := h', toks := tk' }) →
    wpAny (model Challenge.rw_pq0514_01.row.prog w) (ktrTop dp un gd cn cs L a ccd cl outer) (call (.ref f) vs) Q E s
theorem Ctr.use {w : World} {mean : ExcName → Option Value} {mg mb : Str → Option Value} {loose : List Str} {d : Nat} {f : Addr} {vs : List Value} {news : List (Addr × Obj)} {Ret : Value → List (Addr × Obj) → Prop}
    {dp un : Nat} {gd : Option (List Code)} {cn : Str} {cs : Scope} {a : Addr} {ccd : Value} {cl : List (Str × Addr)} {outer : List Env} {A₀ : Around} {base h₀ : Heap} {L : Addr} {m : Str → Option Value} {s : Shared} {Q E : Value → Shared → Prop}
    (B : Below A₀ base outer h₀) (F : Fr h₀ L s.heap m) (X : (hd.heap_39 w.params).In h₀) (N : News h₀ L s.heap news) (T : Top hd.view_39 loose mean mg mb h₀) (hk : cs.kind = .function) (C : Ctr w mean mg mb loose d f vs news Ret) (hdp : dp + 10 * d < recursionLimit) (hun : un + 400 * d < cLine)
    (ret : ∀ r news' h' tk', Ret r news' → Fr h₀ L h' m → News h₀ L h' news' → Q r { s with heap := h', toks := tk' }) :
    wpAny (model Challenge.rw_pq0514_01.row.prog w) (ktrTop dp un gd cn cs L a ccd cl outer) (call (.ref f) vs) Q E s := C _ _ _ _ _ _ _ _ _ _ _ _ _ _ _ _ _ B F X N T hk hdp hun ret
end
local macro_rules | `(tactic| units_room) => `(tactic| ((have hcL9 := cLine_is); (try simp only [units_under_make, units_in1, units_deeper, Around.mark_units, units_caller]); (try dsimp only [ktrTop]); omega))
section
set_option maxRecDepth 100000 in
set_option maxHeartbeats 8000000 in
theorem draw_ctr {w : World} {loose : List Str} {mean : ExcName → Option Value} {mg mb : Str → Option Value}
   {st pool : Addr} {n n' : Nat} {vs : List Value} {ns : List Int} {c : Int} {tc : Tok} {many : Int} {tm : Tok} {rest : List (Addr × Obj)}
   (hne : @Ne Nat st pool) (hoff : OwnOff rest [st, pool]) (hI : IntsAre vs ns) (hlen : ns.length ≤ 63) (hmany : 0 < many) :
   Ctr w mean mg mb loose 1 71 [.ref st, .int many tm] ((st, listOf [.ref pool, .int c tc].toArray n) :: (pool, listOf vs.toArray n') :: rest)
     (fun r news' => ∃ x t c' tc' vs' ns' n1 n1', r = .int x t ∧ 0 ≤ x ∧ x < many ∧ IntsAre vs' ns' ∧ ns'.length ≤ 63 ∧ news' = (st, listOf [.ref pool, .int c' tc'].toArray n1) :: (pool, listOf vs'.toArray n1') :: rest) := by
  unfold Ctr
  intro dp un gd cn cs a ccd cl outer A₀ base h₀ L m s Q E B F X N T hk hdp hun hret
  refine wpAny_call ?_
  k_dflt ktr_enter
  k_steps
  · rename Fr h₀ L _ m => F9
    rename News h₀ L _ _ => N9
    exact hret _ _ _ _ ⟨_, _, _, _, _, _, _, _, rfl, Int.fmod_nonneg_of_pos _ hmany, Int.fmod_lt_of_pos _ hmany, hI, hlen, rfl⟩ F9 (fun p hp => N9 p (List.mem_cons_of_mem _ hp))
  · rename decide _ = false => hD
    cases hI with
    | nil => simp at hD
    | cons x t hI' =>
      rename Fr _ _ _ _ => F9
      rename News _ _ _ _ => N9
      k_dflt (refine' pop0 F9 N9 ?U ?z ?_; (case U => k_upd); (case z => (have := ints_len hI'; simp only [List.length_cons] at hlen; omega)))
      clear F9 N9
      intro h9 F9 N9
      k_steps
      rename Fr h₀ L _ m => F9
      rename News h₀ L _ _ => N9
      exact hret _ _ _ _ ⟨_, _, _, _, _, _, _, _, rfl, Int.fmod_nonneg_of_pos _ hmany, Int.fmod_lt_of_pos _ hmany, hI', by simp only [List.length_cons] at hlen; omega, rfl⟩ F9 (fun p hp => N9 p (List.mem_cons_of_mem _ hp))
end
section
theorem fdiv2 (a : Int) : a.fdiv 2 = a / 2 := Int.fdiv_eq_ediv_of_nonneg _ (by decide)
theorem mid_iff {b : Array UInt8} {bf a : Nat} {lo hi : Int} (h0 : bf ≤ a) (h1 : 0 ≤ lo) (h4 : hi ≤ 258) (h5 : hi ≤ (b.size : Int) - a) (h6 : lo < hi) :
    ((cutB b (bf : Int).toNat ((bf : Int) + (lo + hi + 1).fdiv 2).toNat).toList == (cutB b (a : Int).toNat ((a : Int) + (lo + hi + 1).fdiv 2).toNat).toList) = decide ((lo + hi + 1).fdiv 2 ≤ (alike b bf a : Nat)) := by
  rw [fdiv2]
  obtain ⟨n, hn⟩ := Int.eq_ofNat_of_zero_le (show 0 ≤ (lo + hi + 1) / 2 by omega)
  rw [hn]
  have e1 : ((bf : Int) + (n : Int)).toNat = bf + n := by omega
  have e2 : ((a : Int) + (n : Int)).toNat = a + n := by omega
  have e3 : ((n : Int) ≤ (alike b bf a : Nat)) ↔ n ≤ alike b bf a := by omega
  simp only [e1, e2, e3, Int.toNat_natCast, ← cut_iff h0 (show n ≤ 258 by omega) (show a + n ≤ b.size by omega)]
  rw [Bool.eq_iff_iff]
  simp [Array.toList_inj]
theorem st_up {b : Array UInt8} {bf a : Nat} {lo hi : Int} (h1 : 0 ≤ lo) (h3 : (alike b bf a : Nat) ≤ hi) (h4 : hi ≤ 258) (h5 : hi ≤ (b.size : Int) - a) (h6 : lo < hi)
    (e : ((cutB b (bf : Int).toNat ((bf : Int) + (lo + hi + 1).fdiv 2).toNat).toList == (cutB b (a : Int).toNat ((a : Int) + (lo + hi + 1).fdiv 2).toNat).toList) = true) (h0 : bf ≤ a) :
    0 ≤ (lo + hi + 1).fdiv 2 ∧ (lo + hi + 1).fdiv 2 ≤ (alike b bf a : Nat) ∧ (alike b bf a : Nat) ≤ hi ∧ hi ≤ 258 ∧ hi ≤ (b.size : Int) - a := by
  rw [mid_iff h0 h1 h4 h5 h6] at e
  have := of_decide_eq_true e
  rw [fdiv2] at this ⊢
  omega
theorem st_dn {b : Array UInt8} {bf a : Nat} {lo hi : Int} (h1 : 0 ≤ lo) (h2 : lo ≤ (alike b bf a : Nat)) (h4 : hi ≤ 258) (h5 : hi ≤ (b.size : Int) - a) (h6 : lo < hi)
    (e : ((cutB b (bf : Int).toNat ((bf : Int) + (lo + hi + 1).fdiv 2).toNat).toList == (cutB b (a : Int).toNat ((a : Int) + (lo + hi + 1).fdiv 2).toNat).toList) = false) (h0 : bf ≤ a) :
    0 ≤ lo ∧ lo ≤ (alike b bf a : Nat) ∧ (alike b bf a : Nat) ≤ (lo + hi + 1).fdiv 2 - 1 ∧ (lo + hi + 1).fdiv 2 - 1 ≤ 258 ∧ (lo + hi + 1).fdiv 2 - 1 ≤ (b.size : Int) - a := by
  rw [mid_iff h0 h1 h4 h5 h6] at e
  have := of_decide_eq_false e
  rw [fdiv2] at this ⊢
  omega
local macro_rules | `(tactic| walk_at "subscriptTail") => `(tactic| (k_here; (with_reducible show wpAny _ _ (subscriptTail _ (Expr.Slice _ _ none _) (Value.bytes _ _) (Value.ref _)) _ _ _); (with_reducible rename Fr _ _ _ _ => F'); (with_reducible rename News _ _ _ _ => N'); (refine slice_mine (s := ⟨_, _, _, _, _⟩) F' N' (by first | omega | (simp only [fdiv2]; omega)) (by first | omega | (simp only [fdiv2]; omega)) (by omega) ?_); intro _ _ _ _ _))
set_option maxRecDepth 100000 in
set_option maxHeartbeats 8000000 in
theorem alike_ctr (w : World) (loose : List Str) (mean : ExcName → Option Value) (mg mb : Str → Option Value)
   (b : Array UInt8) (bf at' : Nat) (tb t1 t2 : Tok) (news : List (Addr × Obj)) (hsz : b.size ≤ 300) (hbf : bf ≤ at') (hat : at' ≤ b.size) :
   Ctr w mean mg mb loose 1 83 [.bytes b tb, .int (bf : Int) t1, .int (at' : Int) t2] news (fun r news' => news' = news ∧ ∃ t, r = .int (alike b bf at' : Nat) t) := by
  unfold Ctr
  intro dp un gd cn cs a ccd cl outer A₀ base h₀ L m s Q E B F X N T hk hdp hun hret
  have hal := alike_le b bf at'
  refine wpAny_call ?_
  k_dflt ktr_enter
  k_with "exec While Compare cons nil" => k_while (fun _ low high => 0 ≤ low ∧ low ≤ (alike b bf at' : Nat) ∧ (alike b bf at' : Nat) ≤ high ∧ high ≤ 258 ∧ high ≤ (b.size : Int) - at') (fun _ low high => (high - low).toNat) "low" "high"
  k_with "state" => (first | omega | exact st_up (by assumption) (by assumption) (by assumption) (by assumption) (by assumption) (by assumption) (by assumption) | exact st_dn (by assumption) (by assumption) (by assumption) (by assumption) (by assumption) (by assumption) (by assumption))
  k_with "measure" => (simp only [fdiv2]; omega)
  k_steps
  k_with_none
  rename Fr h₀ L _ m => F9
  rename News h₀ L _ _ => N9
  exact hret _ news _ _ ⟨rfl, ⟨_, congrArg (fun z => Value.int z _) (by omega)⟩⟩ F9 (fun p hp => N9 p (List.mem_cons_of_mem _ hp))
end
section
noncomputable abbrev finD (P : Params) (t1 t2 t3 t4 t5 : Tok) (b : Array UInt8) (tb : Tok) (wd : Int) (twd : Tok) (ch : Int) (tch : Tok) (le : Nat) (tle : Tok) (pd : Addr) : Obj :=
  dictOf [⟨PyData.keyHash P (Str.ofString "octets"), .str (Str.ofString "octets") t1, .bytes b tb⟩, ⟨PyData.keyHash P (Str.ofString "window"), .str (Str.ofString "window") t2, .int wd twd⟩,
    ⟨PyData.keyHash P (Str.ofString "chain"), .str (Str.ofString "chain") t3, .int ch tch⟩, ⟨PyData.keyHash P (Str.ofString "least"), .str (Str.ofString "least") t4, .int (le : Int) tle⟩, ⟨PyData.keyHash P (Str.ofString "places"), .str (Str.ofString "places") t5, .ref pd⟩] 5
theorem key_step {b : Array UInt8} {a le : Nat} {pre : List Int} {k found : Int} (h1 : found = keyOf b a pre.length) (hk : k = (a : Int) + (pre.length : Nat)) (hlt : pre.length < le) (hle : a + le ≤ b.size) :
    (pre ++ [k]).length ≤ le ∧ found * 256 + (((b.toList.getD k.toNat 0).toNat : Nat) : Int) = keyOf b a (pre ++ [k]).length ∧ 0 ≤ found * 256 + (((b.toList.getD k.toNat 0).toNat : Nat) : Int) ∧ found * 256 + (((b.toList.getD k.toNat 0).toNat : Nat) : Int) < 256 ^ (pre ++ [k]).length := by
  have e : k.toNat = a + pre.length := by omega
  have e2 : (pre ++ [k]).length = pre.length + 1 := by simp
  have hs := keyOf_succ (b := b) (a := a) (n := pre.length) (by omega)
  have hb := keyOf_bound b a (pre.length + 1) (by omega)
  rw [e, e2, h1, ← hs]
  exact ⟨hlt, rfl, hb.1, hb.2⟩
theorem key_start (b : Array UInt8) (a le : Nat) : ([] : List Int).length ≤ le ∧ (0 : Int) = keyOf b a ([] : List Int).length ∧ (0 : Int) ≤ 0 ∧ (0 : Int) < 256 ^ ([] : List Int).length := by
  simp [keyOf_zero]
local macro_rules | `(tactic| walk_at "subscriptTail") => `(tactic| (k_here; (with_reducible show wpAny _ _ (subscriptTail _ _ (Value.bytes _ _) (Value.int _ _)) _ _ _); (refine item_mine (by omega) (by omega) (by omega) ?_); intro _ _))
local macro_rules | `(tactic| walk_at "pyIter ref") => `(tactic| (k_here; refine stopIt ?_))
set_option maxRecDepth 100000 in
set_option maxHeartbeats 8000000 in
theorem key_ctr (w : World) (loose : List Str) (mean : ExcName → Option Value) (mg mb : Str → Option Value)
   (x dx pd : Addr) (t1 t2 t3 t4 t5 : Tok) (b : Array UInt8) (tb : Tok) (wd : Int) (twd : Tok) (ch : Int) (tch : Tok) (le : Nat) (tle : Tok)
   (at' : Nat) (ta : Tok) (news : List (Addr × Obj)) (hsz : b.size ≤ 300) (hat : at' ≤ b.size) (hle : 3 ≤ le) (hle2 : le ≤ 6)
   (hx : (x, instObj 60 dx) ∈ news) (hdx : (dx, finD w.params t1 t2 t3 t4 t5 b tb wd twd ch tch le tle pd) ∈ news) :
   Ctr w mean mg mb loose 1 36 [.ref x, .int (at' : Int) ta] news (fun r news' => news' = news ∧ if at' + le ≤ b.size then ∃ t, r = .int (keyOf b at' le) t else r = .none) := by
  unfold Ctr
  intro dp un gd cn cs a ccd cl outer A₀ base h₀ L m s Q E B F X N T hk hdp hun hret
  refine wpAny_call ?_
  k_dflt ktr_enter
  k_steps
  rotate_left
  focus
    refine ⟨?_⟩
    k_with "state" => first | exact key_start _ _ _ | exact key_step (by assumption) (by omega) (by omega) (by omega)
    k_state (fun pre found => pre.length ≤ le ∧ found = keyOf b at' pre.length ∧ 0 ≤ found ∧ found < 256 ^ pre.length) "found"
    k_steps
    k_with_none
    rename Fr h₀ L _ m => F9
    rename News h₀ L _ _ => N9
    rename _ = keyOf _ _ _ => hK9
    refine hret _ _ _ _ ⟨rfl, ?_⟩ F9 N9
    rw [if_pos (by omega)]
    refine ⟨_, congrArg (fun z => Value.int z _) ?_⟩
    rw [hK9, rangeKs_length]
    congr 1
    omega
  rename Fr h₀ L _ m => F9
  rename News h₀ L _ _ => N9
  refine hret _ _ _ _ ⟨rfl, ?_⟩ F9 N9
  rw [if_neg (by omega)]
section
variable {w : World} {loose : List Str} {mean : ExcName → Option Value} {mg mb : Str → Option Value}
   {x dx pd : Addr} {t1 t2 t3 t4 t5 : Tok} {b : Array UInt8} {tb : Tok} {wd : Int} {twd : Tok} {ch : Int} {tch : Tok} {le : Nat} {tle : Tok} {ta : Tok} {news : List (Addr × Obj)} {at' : Nat}
theorem key_some (hx : (x, instObj 60 dx) ∈ news) (hdx : (dx, finD w.params t1 t2 t3 t4 t5 b tb wd twd ch tch le tle pd) ∈ news) (hsz : b.size ≤ 300) (hat : at' ≤ b.size) (hle : 3 ≤ le) (hle2 : le ≤ 6) (h : at' + le ≤ b.size) :
   Ctr w mean mg mb loose 1 36 [.ref x, .int (at' : Int) ta] news (fun r news' => news' = news ∧ ∃ t, r = .int (keyOf b at' le) t) := by
  have := key_ctr w loose mean mg mb x dx pd t1 t2 t3 t4 t5 b tb wd twd ch tch le tle at' ta news hsz hat hle hle2 hx hdx
  simpa only [if_pos h] using this
theorem key_none (hx : (x, instObj 60 dx) ∈ news) (hdx : (dx, finD w.params t1 t2 t3 t4 t5 b tb wd twd ch tch le tle pd) ∈ news) (hsz : b.size ≤ 300) (hat : at' ≤ b.size) (hle : 3 ≤ le) (hle2 : le ≤ 6) (h : ¬ at' + le ≤ b.size) :
   Ctr w mean mg mb loose 1 36 [.ref x, .int (at' : Int) ta] news (fun r news' => news' = news ∧ r = .none) := by
  have := key_ctr w loose mean mg mb x dx pd t1 t2 t3 t4 t5 b tb wd twd ch tch le tle at' ta news hsz hat hle hle2 hx hdx
  simpa only [if_neg h] using this
end
theorem len_iff {b : Array UInt8} {bf a : Nat} {f : Int} (h1 : 0 ≤ f) (h2 : f ≤ (alike b bf a : Nat)) (h3 : f < if (b.size : Int) - (a : Int) < 258 then (b.size : Int) - (a : Int) else 258) (h0 : bf ≤ a) :
    ((((b.toList.getD ((bf : Int) + f).toNat 0).toNat : Nat) : Int) = (((b.toList.getD ((a : Int) + f).toNat 0).toNat : Nat) : Int)) ↔ f < (alike b bf a : Nat) := by
  obtain ⟨n, rfl⟩ := Int.eq_ofNat_of_zero_le h1
  have h4 : n < 258 ∧ a + n < b.size := by split at h3 <;> omega
  have e1 : ((bf : Int) + (n : Int)).toNat = bf + n := by omega
  have e2 : ((a : Int) + (n : Int)).toNat = a + n := by omega
  rw [e1, e2]
  have hc := alike_char h0 h4.1 h4.2 (show n ≤ alike b bf a by omega)
  constructor
  · intro h
    have := hc.mp (UInt8.toNat_inj.mp (by omega))
    omega
  · intro h
    rw [hc.mpr (by omega)]
theorem len_up {b : Array UInt8} {bf a : Nat} {f : Int} (h1 : 0 ≤ f) (h2 : f ≤ (alike b bf a : Nat)) (h3 : f < if (b.size : Int) - (a : Int) < 258 then (b.size : Int) - (a : Int) else 258)
    (e : (((b.toList.getD ((bf : Int) + f).toNat 0).toNat : Nat) : Int) = (((b.toList.getD ((a : Int) + f).toNat 0).toNat : Nat) : Int)) (h0 : bf ≤ a) : 0 ≤ f + 1 ∧ f + 1 ≤ (alike b bf a : Nat) := by
  have := (len_iff h1 h2 h3 h0).mp e
  omega
theorem len_ne {b : Array UInt8} {bf a : Nat} {f : Int} (h1 : 0 ≤ f) (h2 : f ≤ (alike b bf a : Nat)) (h3 : f < if (b.size : Int) - (a : Int) < 258 then (b.size : Int) - (a : Int) else 258)
    (e : (((b.toList.getD ((bf : Int) + f).toNat 0).toNat : Nat) : Int) ≠ (((b.toList.getD ((a : Int) + f).toNat 0).toNat : Nat) : Int)) (h0 : bf ≤ a) : f = (alike b bf a : Nat) := by
  have h5 : ¬ f < (alike b bf a : Nat) := fun h => e ((len_iff h1 h2 h3 h0).mpr h)
  omega
theorem len_end {b : Array UInt8} {bf a : Nat} {f : Int} (h2 : f ≤ (alike b bf a : Nat)) (h3 : ¬ f < if (b.size : Int) - (a : Int) < 258 then (b.size : Int) - (a : Int) else 258) (h4 : a ≤ b.size) : f = (alike b bf a : Nat) := by
  have := alike_le b bf a
  split at h3 <;> omega
local macro_rules | `(tactic| walk_at "exec While BoolOp cons nil") => `(tactic| (k_here; refine stopIt ?_))
set_option maxRecDepth 100000 in
set_option maxHeartbeats 8000000 in
theorem len_ctr (w : World) (loose : List Str) (mean : ExcName → Option Value) (mg mb : Str → Option Value)
   (x dx pd : Addr) (t1 t2 t3 t4 t5 : Tok) (b : Array UInt8) (tb : Tok) (wd : Int) (twd : Tok) (ch : Int) (tch : Tok) (le : Nat) (tle : Tok)
   (bf at' : Nat) (tbf ta : Tok) (news : List (Addr × Obj)) (hsz : b.size ≤ 300) (hbf : bf ≤ at') (hat : at' ≤ b.size)
   (hx : (x, instObj 60 dx) ∈ news) (hdx : (dx, finD w.params t1 t2 t3 t4 t5 b tb wd twd ch tch le tle pd) ∈ news) :
   Ctr w mean mg mb loose 1 50 [.ref x, .int (bf : Int) tbf, .int (at' : Int) ta] news (fun r news' => news' = news ∧ ∃ t, r = .int (alike b bf at' : Nat) t) := by
  unfold Ctr
  intro dp un gd cn cs a ccd cl outer A₀ base h₀ L m s Q E B F X N T hk hdp hun hret
  have hal := alike_le b bf at'
  refine wpAny_call ?_
  k_dflt ktr_enter
  k_steps
  focus
    refine ⟨?_⟩
    k_with "state" => first | omega | exact len_up (by assumption) (by assumption) (by assumption) (by assumption) (by assumption)
    k_while (fun _ found => 0 ≤ found ∧ found ≤ (alike b bf at' : Nat)) (fun _ found => (258 - found).toNat) "found"
    k_steps
    k_with_none
    all_goals
      rename Fr h₀ L _ m => F9
      rename News h₀ L _ _ => N9
    · exact hret _ _ _ _ ⟨rfl, _, congrArg (fun z => Value.int z _) (len_ne (by assumption) (by assumption) (by assumption) (by assumption) (by assumption))⟩ F9 N9
    · exact hret _ _ _ _ ⟨rfl, _, congrArg (fun z => Value.int z _) (len_end (by assumption) (by assumption) (by assumption))⟩ F9 N9
theorem len_int {w : World} {loose : List Str} {mean : ExcName → Option Value} {mg mb : Str → Option Value}
   {x dx pd : Addr} {t1 t2 t3 t4 t5 : Tok} {b : Array UInt8} {tb : Tok} {wd : Int} {twd : Tok} {ch : Int} {tch : Tok} {le : Nat} {tle : Tok} {bf : Int} {at' : Nat} {tbf ta : Tok} {news : List (Addr × Obj)}
   (hx : (x, instObj 60 dx) ∈ news) (hdx : (dx, finD w.params t1 t2 t3 t4 t5 b tb wd twd ch tch le tle pd) ∈ news) (hsz : b.size ≤ 300) (hbf0 : 0 ≤ bf) (hbf : bf ≤ (at' : Int)) (hat : at' ≤ b.size) :
   Ctr w mean mg mb loose 1 50 [.ref x, .int bf tbf, .int (at' : Int) ta] news (fun r news' => news' = news ∧ ∃ t, r = .int (alike b bf.toNat at' : Nat) t) := by
  obtain ⟨n, rfl⟩ := Int.eq_ofNat_of_zero_le hbf0
  exact len_ctr w loose mean mg mb x dx pd t1 t2 t3 t4 t5 b tb wd twd ch tch le tle n at' tbf ta news hsz (by omega) hat hx hdx
end
section
section
variable {prog : Program} {w : World} {K : Type} [DecidableEq K] {knd : KeyKind prog w K} {A : Around} {E : Value → Shared → Prop} {s : Shared} {h₀ : Heap} {L d : Addr} {news : List (Addr × Obj)} {o : Obj} {kvs : List (K × Value)} {k : K} {key : Value}
theorem kda_notin_mine {Q : Value → Shared → Prop} (N : News h₀ L s.heap news) (hp : (d, o) ∈ news) (hd : o.IsDictOf knd kvs) (lo : (d == sysModules) = false) (hkey : knd.is k key = true) (b : Bool) (hb : (valueAt kvs k).isSome = b) (h : Q (.bool (!b)) { s with toks := s.toks + 1 }) :
    wpAny (model prog w) A (compareOp .NotIn key (.ref d)) Q E s := wpAny_notIn_of hkey lo (kda_dict N hp hd).mapOf (by rw [hb]; exact h)
end
local macro_rules | `(tactic| k_mem) => `(tactic| assumption)
local macro_rules | `(tactic| walk_at "call ref") => `(tactic| (k_here; (with_reducible show wpAny _ _ (call (Value.ref 36) _) _ _ _); k_dflt (refine' Ctr.use ?k1 ?k2 ?k3 ?k4 ?k5 ?kK (key_none ?c1 ?c2 ?c3 ?c4 ?c5 ?c6 ?c7) ?kd ?ku ?_; (case k1 => k_asm); (case k2 => k_asm); (case k3 => k_asm); (case k4 => k_asm); (case k5 => k_asm); (case kK => first | exact rfl | assumption); (case c1 => first | assumption | k_mem); (case c2 => first | assumption | k_mem); (case c3 => omega); (case c4 => omega); (case c5 => omega); (case c6 => omega); (case c7 => omega); (case kd => ktr_room); (case ku => ktr_units)); intro r9 news9 h9 tk9 hR9 F9 N9; obtain ⟨hn9, hr9⟩ := hR9; subst hn9; subst hr9; (try dsimp only); (try k_fold)))
local macro_rules | `(tactic| walk_at "call ref") => `(tactic| (k_here; (with_reducible show wpAny _ _ (call (Value.ref 36) _) _ _ _); k_dflt (refine' Ctr.use ?k1 ?k2 ?k3 ?k4 ?k5 ?kK (key_some ?c1 ?c2 ?c3 ?c4 ?c5 ?c6 ?c7) ?kd ?ku ?_; (case k1 => k_asm); (case k2 => k_asm); (case k3 => k_asm); (case k4 => k_asm); (case k5 => k_asm); (case kK => first | exact rfl | assumption); (case c1 => first | assumption | k_mem); (case c2 => first | assumption | k_mem); (case c3 => omega); (case c4 => omega); (case c5 => omega); (case c6 => omega); (case c7 => omega); (case kd => ktr_room); (case ku => ktr_units)); intro r9 news9 h9 tk9 hR9 F9 N9; obtain ⟨hn9, t9, hr9⟩ := hR9; subst hn9; subst hr9; (try dsimp only); (try k_fold)))
local macro_rules | `(tactic| walk_at "exec While BoolOp cons nil") => `(tactic| (k_here; refine stopIt ?_))
set_option maxRecDepth 100000 in
set_option maxHeartbeats 8000000 in
theorem longest_none (w : World) (loose : List Str) (mean : ExcName → Option Value) (mg mb : Str → Option Value)
   (x dx pd : Addr) (t1 t2 t3 t4 t5 : Tok) (b : Array UInt8) (tb : Tok) (wd : Int) (twd : Tok) (ch : Int) (tch : Tok) (le : Nat) (tle : Tok)
   (at' : Nat) (ta : Tok) (news : List (Addr × Obj)) (hsz : b.size ≤ 300) (hat : at' ≤ b.size) (hle : 3 ≤ le) (hle2 : le ≤ 6)
   (hx : (x, instObj 60 dx) ∈ news) (hdx : (dx, finD w.params t1 t2 t3 t4 t5 b tb wd twd ch tch le tle pd) ∈ news) (h : ¬ at' + le ≤ b.size) :
   Ctr w mean mg mb loose 2 57 [.ref x, .int (at' : Int) ta] news (fun r news' => ∃ f t t', r = .ref f ∧ news' = (f, { cls := .type "tuple", data := .seq [.int 0 t, .int 0 t'].toArray }) :: news) := by
  unfold Ctr
  intro dp un gd cn cs a ccd cl outer A₀ base h₀ L m s Q E B F X N T hk hdp hun hret
  refine wpAny_call ?_
  k_dflt ktr_enter
  k_steps
  rename Fr h₀ L _ m => F9
  rename News h₀ L _ _ => N9
  exact hret _ _ _ _ ⟨_, _, _, rfl, rfl⟩ F9 N9
local macro_rules | `(tactic| walk_at "compareOp NotIn int ref") => `(tactic| (k_here; k_dflt (refine' kda_notin_mine (knd := PySem.intKind _ _) ?N ?hp ?hd ?lo (intKind_is _ _ _ _) _ ?hb ?_; (case N => k_asm); (case hp => k_mem); (case hd => assumption); (case lo => assumption); (case hb => assumption))))
local macro_rules | `(tactic| walk_at "subscriptTail") => `(tactic| (k_here; (with_reducible show wpAny _ _ (subscriptTail _ _ (Value.ref _) (Value.int _ _)) _ _ _); k_dflt (refine' kda_item (knd := PySem.intKind _ _) ?N ?hp ?hd (intKind_is _ _ _ _) ?hl ?_; (case N => k_asm); (case hp => k_mem); (case hd => assumption); (case hl => assumption))))
set_option maxRecDepth 100000 in
set_option maxHeartbeats 8000000 in
theorem longest_out (w : World) (loose : List Str) (mean : ExcName → Option Value) (mg mb : Str → Option Value)
   (x dx pd : Addr) (t1 t2 t3 t4 t5 : Tok) (b : Array UInt8) (tb : Tok) (wd : Int) (twd : Tok) (ch : Int) (tch : Tok) (le : Nat) (tle : Tok)
   (at' : Nat) (ta : Tok) (news : List (Addr × Obj)) (hsz : b.size ≤ 300) (hat : at' ≤ b.size) (hle : 3 ≤ le) (hle2 : le ≤ 6)
   (hx : (x, instObj 60 dx) ∈ news) (hdx : (dx, finD w.params t1 t2 t3 t4 t5 b tb wd twd ch tch le tle pd) ∈ news) (h : at' + le ≤ b.size)
   (o : Obj) (kvs : List (Int × Value)) (ho : (pd, o) ∈ news) (hdo : o.IsDictOf (PySem.intKind Challenge.rw_pq0514_01.row.prog w) kvs) (hlo : (pd == sysModules) = false) (hv : (valueAt kvs (keyOf b at' le)).isSome = false) :
   Ctr w mean mg mb loose 2 57 [.ref x, .int (at' : Int) ta] news (fun r news' => ∃ f t t', r = .ref f ∧ news' = (f, { cls := .type "tuple", data := .seq [.int 0 t, .int 0 t'].toArray }) :: news) := by
  unfold Ctr
  intro dp un gd cn cs a ccd cl outer A₀ base h₀ L m s Q E B F X N T hk hdp hun hret
  refine wpAny_call ?_
  k_dflt ktr_enter
  k_steps
  rename Fr h₀ L _ m => F9
  rename News h₀ L _ _ => N9
  exact hret _ _ _ _ ⟨_, _, _, rfl, rfl⟩ F9 N9
local macro_rules | `(tactic| walk_at "subscriptTail") => `(tactic| (k_here; (with_reducible show wpAny _ _ (subscriptTail _ _ (Value.ref _) (Value.int _ _)) _ _ _); k_dflt (refine' item_row ?N ?hm ?hI ?h0 ?h1 ?hz ?_; (case N => k_asm); (case hm => k_mem); (case hI => assumption); (case h0 => omega); (case h1 => omega); (case hz => omega)); intro _))
local macro_rules | `(tactic| walk_at "call builtin:len") => `(tactic| (k_here; (with_reducible show wpAny _ _ (call (Value.builtin "len") [Value.ref _]) _ _ _); k_dflt (refine' kst_len ?k1 ?k2 ?k3 ?k4 ?_; (case k1 => k_asm); (case k2 => k_mem); (case k3 => assumption); (case k4 => omega))))
local macro_rules | `(tactic| walk_at "call ref") => `(tactic| (k_here; (with_reducible show wpAny _ _ (call (Value.ref 50) _) _ _ _); k_dflt (refine' Ctr.use ?k1 ?k2 ?k3 ?k4 ?k5 ?kK (len_int ?c1 ?c2 ?c3 ?c4 ?c5 ?c6) ?kd ?ku ?_; (case k1 => k_asm); (case k2 => k_asm); (case k3 => k_asm); (case k4 => k_asm); (case k5 => k_asm); (case kK => first | exact rfl | assumption); (case c1 => k_mem); (case c2 => k_mem); (case c3 => omega); (case c4 => omega); (case c5 => omega); (case c6 => omega); (case kd => ktr_room); (case ku => ktr_units)); intro r9 news9 h9 tk9 hR9 F9 N9; obtain ⟨hn9, t9, hr9⟩ := hR9; subst hn9; subst hr9; (try dsimp only); (try k_fold)))
structure LS where
  f : Addr
  l : Int
  tl : Tok
  d : Int
  td : Tok
  pl : Int
  tp : Tok
  lo : Int
  tlo : Tok
set_option maxRecDepth 100000 in
set_option maxHeartbeats 8000000 in
theorem longest_in (w : World) (loose : List Str) (mean : ExcName → Option Value) (mg mb : Str → Option Value)
   (x dx pd : Addr) (t1 t2 t3 t4 t5 : Tok) (b : Array UInt8) (tb : Tok) (wd : Nat) (twd : Tok) (ch : Nat) (tch : Tok) (le : Nat) (tle : Tok)
   (at' : Nat) (ta : Tok) (news : List (Addr × Obj)) (hsz : b.size ≤ 300) (hat : at' ≤ b.size) (hle : 3 ≤ le) (hle2 : le ≤ 6)
   (hx : (x, instObj 60 dx) ∈ news) (hdx : (dx, finD w.params t1 t2 t3 t4 t5 b tb (wd : Int) twd (ch : Int) tch le tle pd) ∈ news) (h : at' + le ≤ b.size)
   (o : Obj) (kvs : List (Int × Value)) (ho : (pd, o) ∈ news) (hdo : o.IsDictOf (PySem.intKind Challenge.rw_pq0514_01.row.prog w) kvs) (hlo : (pd == sysModules) = false)
   (r : Addr) (vs : List Value) (n : Nat) (row : List Nat) (hv : valueAt kvs (keyOf b at' le) = some (.ref r)) (hvs : (valueAt kvs (keyOf b at' le)).isSome = true) (hr : (r, listOf vs.toArray n) ∈ news) (hI : IntsAre vs (row.map fun (p : Nat) => (p : Int))) (hlen : vs.length = row.length) (hlen3 : row.length ≤ 300) (hlt : ∀ p ∈ row, p < at') (hso : row.Pairwise (· < ·)) (hgood : ∀ p ∈ row, le ≤ alike b p at') :
   Ctr w mean mg mb loose 2 57 [.ref x, .int (at' : Int) ta] news (fun r news' => ∃ f t t', r = .ref f ∧ news' = (f, tup2 ((scan b at' wd ch row).1 : Int) t ((scan b at' wd ch row).2 : Int) t') :: news) := by
  have hget : ∀ i : Int, 0 ≤ i → i < (row.length : Int) → row.getD i.toNat 0 < at' := fun i h0 h1 => by
    rw [List.getD_eq_getElem?_getD, List.getElem?_eq_getElem (by omega)]
    exact hlt _ (List.getElem_mem _)
  unfold Ctr
  intro dp un gd cn cs a ccd cl outer A₀ base h₀ L m s Q E B F X N T hk hdp hun hret
  refine wpAny_call ?_
  k_dflt ktr_enter
  k_steps
  refine ⟨?_⟩
  rename Fr _ _ _ _ => F9
  rename News _ _ _ _ => N9
  k_dflt (refine' ksw_while (σ := LS) (fun c => (c.f, tup2 c.l c.tl c.d c.td) :: news) (fun c => [(Str.ofString "found", .ref c.f), (Str.ofString "place", .int c.pl c.tp), (Str.ofString "looked", .int c.lo c.tlo)]) (fun _ => True) [Str.ofString "length"] (fun c => 0 ≤ c.lo ∧ c.lo ≤ (ch : Int) ∧ c.lo ≤ (row.length : Int) ∧ c.pl = (row.length : Int) - 1 - c.lo ∧ LInv b at' wd row c.lo.toNat c.l c.d) (fun c => (c.pl + 1).toNat) ⟨_, 0, _, 0, _, (row.length : Int) - 1, _, 0, _⟩ F9 N9 trivial ?hk ?hp ?turn)
  case hk => kst_all
  case hp => dsimp only; exact ⟨by omega, by omega, by omega, by omega, LInv.start _ _ _ _⟩
  rintro ⟨f, l, tl, d, td, pl, tp, lo, tlo⟩ u h9 tk9 _ ⟨hp1, hp2, hp3, hp4, hp5⟩ F8 N8
  clear F9 N9
  dsimp only [kstB] at hp1 hp2 hp3 hp4 hp5 F8 N8
  have hget9 := hget pl
  k_steps
  all_goals try (
    rename Fr h₀ L _ m => F9
    rename News h₀ L _ _ => N9
    have e := scan_int hp1 hp2 hp3 hp4 hp5 hso hlt (by omega)
    first
    | (exact hret _ _ _ _ ⟨f, tl, td, rfl, rfl⟩ F9 (by rw [← e.1, ← e.2]; exact N9))
    | (have e2 := scan_low e (by omega) (by omega) hgood
       exact hret _ _ _ _ ⟨_, _, _, rfl, rfl⟩ F9 (by rw [← e2.1, ← e2.2]; exact fun p hp => N9 p (by
        rcases List.mem_cons.mp hp with rfl | hp
        · exact List.mem_cons_self
        · exact List.mem_cons_of_mem _ (List.mem_cons_of_mem _ hp)))))
  · rename Fr _ _ _ _ => F9
    rename News _ _ _ _ => N9
    k_dflt (refine' ksw_end ⟨_, ((alike b ((row.getD pl.toNat 0 : Nat) : Int).toNat at' : Nat) : Int), _, ((at' : Int) - ((row.getD pl.toNat 0 : Nat) : Int)), _, pl - 1, _, lo + 1, _⟩ F9 N9 ?hn trivial ?hk ?hr ?hp ?hm)
    case hk => kst_all
    case hn => refine' List.forall_mem_cons.mpr ⟨?aa, fun p hp => .tail _ (.tail _ hp)⟩; case aa => dsimp only; exact .head _
    case hr => ksw_same
    case hp => dsimp only; exact ⟨by omega, by omega, by omega, by omega, step_up hp1 hp4 hp5 hlt (by omega) (by omega) (by omega)⟩
    case hm => dsimp only; omega
  · rename Fr _ _ _ _ => F9
    rename News _ _ _ _ => N9
    k_dflt (refine' ksw_end ⟨f, l, tl, d, td, pl - 1, _, lo + 1, _⟩ F9 N9 ?hn trivial ?hk ?hr ?hp ?hm)
    case hk => kst_all
    case hn => exact fun p hp => hp
    case hr => ksw_same
    case hp => dsimp only; exact ⟨by omega, by omega, by omega, by omega, step_no hp1 hp4 hp5 hlt (by omega) (by omega) (by omega)⟩
    case hm => dsimp only; omega
theorem valueAt_same {kvs : List (Int × Value)} {k : Int} (h : valueAt kvs k = none) (v : Value) : valueAt (stored kvs k v) k = some v := by
  have h1 : kvs.find? (fun kv => decide (kv.1 = k)) = none := by
    unfold valueAt at h
    simpa using h
  have h2 : kvs.any (fun kv => decide (kv.1 = k)) = false := by
    rw [List.any_eq_false]
    intro x hx
    have := List.find?_eq_none.mp h1 x hx
    simpa using this
  unfold stored
  rw [h2]
  unfold valueAt
  simp [List.find?_append, h1]
theorem kda_getItem {prog : Program} {w : World} {K : Type} [DecidableEq K] {knd : KeyKind prog w K} {A : Around} {E : Value → Shared → Prop} {s : Shared} {h₀ : Heap} {L d : Addr} {news : List (Addr × Obj)} {o : Obj} {kvs : List (K × Value)} {k : K} {key v : Value}
    {Q : Value → Shared → Prop} (N : News h₀ L s.heap news) (hp : (d, o) ∈ news) (hd : o.IsDictOf knd kvs) (hkey : knd.is k key = true) (hl : valueAt kvs k = some v) (h : Q v { s with toks := s.toks + 1 }) :
    wpAny (model prog w) A (getItem (.ref d) key) Q E s := wpAny_getItem_of hkey (kda_dict N hp hd).mapOf hl h
local macro_rules | `(tactic| k_all) => `(tactic| exact fun p9 h9 => Nat.ne_of_lt (kst_ltOf (And.right (by assumption)) p9 h9))
local macro_rules | `(tactic| k_all) => `(tactic| assumption)
local macro_rules | `(tactic| walk_at "call ref") => `(tactic| (k_here; (with_reducible show wpAny _ _ (call (Value.ref 36) _) _ _ _); k_dflt (refine' Ctr.use ?k1 ?k2 ?k3 ?k4 ?k5 ?kK (key_none ?c1 ?c2 ?c3 ?c4 ?c5 ?c6 ?c7) ?kd ?ku ?_; (case k1 => k_asm); (case k2 => k_asm); (case k3 => k_asm); (case k4 => k_asm); (case k5 => k_asm); (case kK => first | exact rfl | assumption); (case c1 => k_mem); (case c2 => k_mem); (case c3 => omega); (case c4 => omega); (case c5 => omega); (case c6 => omega); (case c7 => omega); (case kd => ktr_room); (case ku => ktr_units)); intro r9 news9 h9 tk9 hR9 F9 N9; obtain ⟨hn9, hr9⟩ := hR9; subst hn9; subst hr9; (try dsimp only); (try k_fold)))
local macro_rules | `(tactic| walk_at "call ref") => `(tactic| (k_here; (with_reducible show wpAny _ _ (call (Value.ref 36) _) _ _ _); k_dflt (refine' Ctr.use ?k1 ?k2 ?k3 ?k4 ?k5 ?kK (key_some ?c1 ?c2 ?c3 ?c4 ?c5 ?c6 ?c7) ?kd ?ku ?_; (case k1 => k_asm); (case k2 => k_asm); (case k3 => k_asm); (case k4 => k_asm); (case k5 => k_asm); (case kK => first | exact rfl | assumption); (case c1 => k_mem); (case c2 => k_mem); (case c3 => omega); (case c4 => omega); (case c5 => omega); (case c6 => omega); (case c7 => omega); (case kd => ktr_room); (case ku => ktr_units)); intro r9 news9 h9 tk9 hR9 F9 N9; obtain ⟨hn9, t9, hr9⟩ := hR9; subst hn9; subst hr9; (try dsimp only); (try k_fold)))
local macro_rules | `(tactic| walk_at "subscriptTail") => `(tactic| (k_here; (with_reducible show wpAny _ _ (subscriptTail _ _ (Value.ref _) (Value.int _ _)) _ _ _); k_dflt (refine' kda_item (knd := PySem.intKind _ _) ?N ?hp ?hd (intKind_is _ _ _ _) ?hl ?_; (case N => k_asm); (case hp => k_mem); (case hd => assumption); (case hl => first | assumption | exact valueAt_same (by assumption) _))))
local macro_rules | `(tactic| walk_at "getItem ref int") => `(tactic| (k_here; k_dflt (refine' kda_getItem (knd := PySem.intKind _ _) ?N ?hp ?hd (intKind_is _ _ _ _) ?hl ?_; (case N => k_asm); (case hp => k_mem); (case hd => assumption); (case hl => first | assumption | exact valueAt_same (by assumption) _))))
local macro_rules | `(tactic| walk_at "setItem ref int") => `(tactic| (k_here; k_dflt (refine' kda_set (knd := PySem.intKind _ _) ?F ?N ?U ?d (intKind_is _ _ _ _) ?z ?_; (case F => k_asm); (case N => k_asm); (case U => k_updF); (case d => assumption); (case z => rw [sizeLine_eq]; omega)); intro h' o' F' N' hd'; (try dsimp only at N')))
set_option maxRecDepth 100000 in
set_option maxHeartbeats 8000000 in
theorem note_none (w : World) (loose : List Str) (mean : ExcName → Option Value) (mg mb : Str → Option Value)
   (x dx pd : Addr) (t1 t2 t3 t4 t5 : Tok) (b : Array UInt8) (tb : Tok) (wd : Int) (twd : Tok) (ch : Int) (tch : Tok) (le : Nat) (tle : Tok)
   (at' : Nat) (ta : Tok) (news : List (Addr × Obj)) (hsz : b.size ≤ 300) (hat : at' ≤ b.size) (hle : 3 ≤ le) (hle2 : le ≤ 6)
   (hx : (x, instObj 60 dx) ∈ news) (hdx : (dx, finD w.params t1 t2 t3 t4 t5 b tb wd twd ch tch le tle pd) ∈ news) (h : ¬ at' + le ≤ b.size) :
   Ctr w mean mg mb loose 2 43 [.ref x, .int (at' : Int) ta] news (fun r news' => r = .none ∧ news' = news) := by
  unfold Ctr
  intro dp un gd cn cs a ccd cl outer A₀ base h₀ L m s Q E B F X N T hk hdp hun hret
  refine wpAny_call ?_
  k_dflt ktr_enter
  k_steps
  rename Fr h₀ L _ m => F9
  rename News h₀ L _ _ => N9
  exact hret _ _ _ _ ⟨rfl, rfl⟩ F9 N9
set_option maxRecDepth 100000 in
set_option maxHeartbeats 8000000 in
theorem note_old (w : World) (loose : List Str) (mean : ExcName → Option Value) (mg mb : Str → Option Value)
   (x dx pd : Addr) (t1 t2 t3 t4 t5 : Tok) (b : Array UInt8) (tb : Tok) (wd : Int) (twd : Tok) (ch : Int) (tch : Tok) (le : Nat) (tle : Tok)
   (at' : Nat) (ta : Tok) (news news2 : List (Addr × Obj)) (hsz : b.size ≤ 300) (hat : at' ≤ b.size) (hle : 3 ≤ le) (hle2 : le ≤ 6)
   (hx : (x, instObj 60 dx) ∈ news) (hdx : (dx, finD w.params t1 t2 t3 t4 t5 b tb wd twd ch tch le tle pd) ∈ news) (h : at' + le ≤ b.size)
   (o : Obj) (kvs : List (Int × Value)) (ho : (pd, o) ∈ news) (hdo : o.IsDictOf (PySem.intKind Challenge.rw_pq0514_01.row.prog w) kvs) (hlo : (pd == sysModules) = false)
   (r : Addr) (vs : List Value) (n : Nat) (hv : valueAt kvs (keyOf b at' le) = some (.ref r)) (hvs : (valueAt kvs (keyOf b at' le)).isSome = true) (hr : (r, listOf vs.toArray n) ∈ news) (hlen : vs.length ≤ 1000)
   (U : Upd r (listOf vs.toArray n) (listOf (vs.toArray.push (.int (at' : Int) ta)) (n + 1)) news news2) :
   Ctr w mean mg mb loose 2 43 [.ref x, .int (at' : Int) ta] news (fun r news' => r = .none ∧ news' = news2) := by
  unfold Ctr
  intro dp un gd cn cs a ccd cl outer A₀ base h₀ L m s Q E B F X N T hk hdp hun hret
  refine wpAny_call ?_
  k_dflt ktr_enter
  k_steps
  rename Fr _ _ _ _ => F9
  rename News _ _ _ _ => N9
  k_dflt (refine' append_K F9 N9 U ?_ ?z; (case z => rw [sizeLine_eq]; simp only [List.size_toArray]; omega))
  clear F9 N9
  intro h9 F9 N9
  k_steps
  rename Fr h₀ L _ m => F9
  rename News h₀ L _ _ => N9
  exact hret _ _ _ _ ⟨rfl, rfl⟩ F9 N9
local macro_rules | `(tactic| walk_at "call builtin:list.append") => `(tactic| refine stopIt ?_)
set_option maxRecDepth 100000 in
set_option maxHeartbeats 8000000 in
theorem note_new (w : World) (loose : List Str) (mean : ExcName → Option Value) (mg mb : Str → Option Value)
   (x dx pd : Addr) (t1 t2 t3 t4 t5 : Tok) (b : Array UInt8) (tb : Tok) (wd : Int) (twd : Tok) (ch : Int) (tch : Tok) (le : Nat) (tle : Tok)
   (at' : Nat) (ta : Tok) (news : List (Addr × Obj)) (hsz : b.size ≤ 300) (hat : at' ≤ b.size) (hle : 3 ≤ le) (hle2 : le ≤ 6)
   (hx : (x, instObj 60 dx) ∈ news) (hdx : (dx, finD w.params t1 t2 t3 t4 t5 b tb wd twd ch tch le tle pd) ∈ news) (h : at' + le ≤ b.size)
   (o : Obj) (kvs : List (Int × Value)) (hoff : ∀ p ∈ news, p.1 ≠ pd) (hdo : o.IsDictOf (PySem.intKind Challenge.rw_pq0514_01.row.prog w) kvs) (hlo : (pd == sysModules) = false)
   (hv : valueAt kvs (keyOf b at' le) = none) (hvs : (valueAt kvs (keyOf b at' le)).isSome = false) (hlen : kvs.length ≤ 1000) :
   Ctr w mean mg mb loose 2 43 [.ref x, .int (at' : Int) ta] ((pd, o) :: news) (fun r news' => r = .none ∧ ∃ l' o', news' = (l', listOf [.int (at' : Int) ta].toArray 1) :: (pd, o') :: news ∧ o'.IsDictOf (PySem.intKind Challenge.rw_pq0514_01.row.prog w) (stored kvs (keyOf b at' le) (.ref l')) ∧ (@LT.lt Nat _ pd l') ∧ AllLt l' news) := by
  unfold Ctr
  intro dp un gd cn cs a ccd cl outer A₀ base h₀ L m s Q E B F X N T hk hdp hun hret
  refine wpAny_call ?_
  k_dflt ktr_enter
  k_steps
  refine ⟨?_⟩
  rename Fr _ _ _ _ => F9
  rename News _ _ _ _ => N9
  rename _ ∧ AllLt _ _ => hl9
  rename Obj.IsDictOf _ _ (stored _ _ _) => hd9
  k_dflt (refine' append_K F9 N9 (.head ?U) ?_ ?z)
  case U => exact List.forall_mem_cons.mpr ⟨neN (by dsimp only; omega), fun p hp => Nat.ne_of_lt (kst_ltOf hl9.2 p hp)⟩
  case z => rw [sizeLine_eq]; simp only [List.size_toArray, List.length_nil]; omega
  clear F9 N9
  intro h9 F9 N9
  k_steps
  rename Fr h₀ L _ m => F9
  rename News h₀ L _ _ => N9
  exact hret _ _ _ _ ⟨rfl, _, _, rfl, hd9, hl9.1, hl9.2⟩ F9 N9
end
section
open Builtin in
section
variable {prog : Program} {w : World} {A : Around} {E : Value → Shared → Prop} {s : Shared} {b : Array UInt8} {t : Tok}
theorem nextOf_bytes_item {it : Addr} {i : Nat} {c : UInt8} {Q : Value → Shared → Prop} (hit : KBw.IsBytesIter s.heap it b t i) (hx : b[i]? = some c)
    (hQ : ∀ h', KBw.IsBytesIter h' it b t (i + 1) → Heap.SameBut it s.heap h' → Q (.int (c.toNat : Int) s.toks) { s with heap := h', toks := s.toks + 1 }) :
    wpAny (model prog w) A (Builtin.SmallTypes.nextOf (.ref it)) Q E s := by
  obtain ⟨o, ho, hc, hd⟩ := id hit
  unfold Builtin.SmallTypes.nextOf
  refine wpAny_bind (wpAny_callSpecial?_slot (name := PySem.Str.ofString "__next__") (KBw.iter_typeIs hit) KBw.slot_next
    (wpAny_call_entry KBw.slot_next (KBw.iter_typeIs hit) KBw.entry_next ?_ (KBw.args_next _)))
  show wpAny _ _ (field (.ref it) 0 >>= _) _ _ s
  refine wpAny_bind (wpAny_field ho hd (x := .bytes b t) rfl ?_)
  show wpAny _ _ (if (Value.bytes b t == Value.none) = true then _ else _) _ _ s
  rw [if_neg (show ¬ ((Value.bytes b t == Value.none) = true) from Bool.false_ne_true)]
  show wpAny _ _ (field (.ref it) 1 >>= _) _ _ s
  refine wpAny_bind (wpAny_field ho hd (x := .int i 0) rfl ?_)
  refine wpAny_bind (wpAny_of_eq (a := b) rfl ?_)
  simp only [Int.toNat_natCast, hx]
  refine wpAny_bind (wpAny_setField ho hd (by simp) (wpAny_bind (wpAny_mkInt (wpAny_pure ⟨_, rfl, wpAny_pure (hQ _ ?_ (Heap.SameBut.update ..))⟩))))
  exact ⟨_, Heap.get?_update_self _ ho (Obj.isFreed_of_fields (Obj.data_mapFields hd _)), (Obj.cls_mapFields ..).trans hc, by
    rw [Obj.data_mapFields hd]; simp [rawInt]⟩
theorem nextOf_bytes_end {it : Addr} {i : Nat} {Q : Value → Shared → Prop} (hh : A.handled = none) (hit : KBw.IsBytesIter s.heap it b t i) (hx : b[i]? = none)
    (hE : ∀ h' e, Heap.ExtBut it s.heap h' → (∃ o, h'.get? e = some o ∧ o.cls = .type "StopIteration") → E (.ref e) { s with heap := h' }) :
    wpAny (model prog w) A (Builtin.SmallTypes.nextOf (.ref it)) Q E s := by
  obtain ⟨o, ho, hc, hd⟩ := id hit
  unfold Builtin.SmallTypes.nextOf
  refine wpAny_bind (wpAny_callSpecial?_slot (name := PySem.Str.ofString "__next__") (KBw.iter_typeIs hit) KBw.slot_next
    (wpAny_call_entry KBw.slot_next (KBw.iter_typeIs hit) KBw.entry_next ?_ (KBw.args_next _)))
  show wpAny _ _ (field (.ref it) 0 >>= _) _ _ s
  refine wpAny_bind (wpAny_field ho hd (x := .bytes b t) rfl ?_)
  show wpAny _ _ (if (Value.bytes b t == Value.none) = true then _ else _) _ _ s
  rw [if_neg (show ¬ ((Value.bytes b t == Value.none) = true) from Bool.false_ne_true)]
  show wpAny _ _ (field (.ref it) 1 >>= _) _ _ s
  refine wpAny_bind (wpAny_field ho hd (x := .int i 0) rfl ?_)
  refine wpAny_bind (wpAny_of_eq (a := b) rfl ?_)
  simp only [Int.toNat_natCast, hx]
  refine wpAny_bind (wpAny_rule (wpAny_bind (wpAny_setField ho hd (by simp) ?_)))
  show wpAny _ _ (newExc (.type "StopIteration") [] >>= _) _ _ _
  refine wpAny_bind ?_
  simp only [newExc, newTuple]
  refine wpAny_bind (wpAny_newObj_type ?_ (by size_fits))
  refine wpAny_bind (m := firstArgMember _ _) (wpAny_of_eq (a := Value.none) (by first | rfl | (simp only [firstArgMember]; rfl)) ?_)
  refine wpAny_newObj_type ?_ (by size_fits)
  simp only [raiseNew]
  refine wpAny_bind (wpAny_handled ?_)
  first | rw [show A.in1.handled = none from hh] | rw [hh]
  refine wpAny_bind (wpAny_pure (wpAny_throw ?_))
  exact hE _ _ (((Heap.SameBut.update ..).extBut.push _).push _) ⟨_, Heap.get?_push_size _ rfl, rfl⟩
end
theorem draws_bytes {prog : Program} {w : World} {A : Around} (hh : A.handled = none) (it : Addr) (b : Array UInt8) (t : Tok) :
    Draws prog w A it [it] b.size (fun i v => ∃ c u, b[i]? = some c ∧ v = .int ((c.toNat : Nat) : Int) u) (fun i h => KBw.IsBytesIter h it b t i) where
  live := fun _ _ st => let ⟨o, ho, _⟩ := st; ⟨o, ho⟩
  frame := fun _ _ _ st hk => let ⟨o, ho, r⟩ := st; ⟨o, hk it (by simp) o ho, r⟩
  item := fun i s Q E hi st hQ => by
    refine nextOf_bytes_item st (c := b[i]) (by simp [hi]) fun h' hit' hs' => ?_
    exact hQ _ h' (s.toks + 1) ⟨_, _, by simp [hi], rfl⟩ hit' hs'
  done := fun s Q E st hE => nextOf_bytes_end hh st (by simp) hE
set_option maxHeartbeats 1000000 in
theorem meets_enumerate_newB (b : Array UInt8) (t : Tok) :
    Meets (Builtin.«enumerate.__new__» ⟨[.type "enumerate", .bytes b t], []⟩) (fun _ R s =>
      R (.ok (.ret (.ref (s.heap.push { cls := .type "bytes_iterator", data := .fields #[.bytes b t, .int 0 0] }).objs.size)))
        { s with heap := (s.heap.push { cls := .type "bytes_iterator", data := .fields #[.bytes b t, .int 0 0] }).push { cls := .type "enumerate", data := .fields #[.none, .bool false, .ref s.heap.objs.size, rawInt 0, .none, .none] } }) :=
  .of_wp fun prog w A R s h => by
    obtain ⟨hp, g, d, tk, os⟩ := s
    have hsub := sub_enumerate
    wp_walk
    refine wpAny_stack_any fun st => wpAny_pure ?_
    split
    · rename_i c _ _ _ _ _
      cases (c == Value.type "enumerate")
      · wp_walk using KBw.pyIter_bytes
        exact ⟨_, rfl, h⟩
      · wp_walk using KBw.pyIter_bytes
        exact ⟨_, rfl, h⟩
    · wp_walk using KBw.pyIter_bytes
      exact ⟨_, rfl, h⟩
theorem call_enumerate_bytes {prog : Program} {w : World} {A : Around} {E : Value → Shared → Prop} {s : Shared} {b : Array UInt8} {t : Tok} {Q : Value → Shared → Prop}
    (h : ∀ h', IsEnum h' (s.heap.objs.size + 1) s.heap.objs.size 0 .none → KBw.IsBytesIter h' s.heap.objs.size b t 0 → h'.objs.size = s.heap.objs.size + 2 →
      (∀ b o, s.heap.get? b = some o → h'.get? b = some o) → Q (.ref (s.heap.objs.size + 1)) { s with heap := h' }) :
    wpAny (model prog w) A (call (.type "enumerate") [.bytes b t]) Q E s := by
  refine callType_new F.called_enumerate (by decide) (F.typeCall_enumerate_1 _) (F.newCall_enumerate_1 _) (fun obj => F.args_object_init_2 obj _) F.entry_enumerate_new
    (meets_enumerate_newB b t) ?_
  have hz : (s.heap.push { cls := .type "bytes_iterator", data := .fields #[.bytes b t, .int 0 0] }).objs.size = s.heap.objs.size + 1 := Heap.size_push ..
  show _ ∧ _
  rw [hz]
  have he : IsEnum ((s.heap.push { cls := .type "bytes_iterator", data := .fields #[.bytes b t, .int 0 0] }).push
      { cls := .type "enumerate", data := .fields #[.none, .bool false, .ref s.heap.objs.size, rawInt 0, .none, .none] }) (s.heap.objs.size + 1) s.heap.objs.size 0 .none := by
    have := Heap.get?_push_size (s.heap.push { cls := .type "bytes_iterator", data := .fields #[.bytes b t, .int 0 0] })
      (o := { cls := .type "enumerate", data := .fields #[.none, .bool false, .ref s.heap.objs.size, rawInt 0, .none, .none] }) rfl
    rw [hz] at this; exact this
  refine ⟨⟨_, he, rfl⟩, h _ he ⟨_, Heap.get?_push_of_some _ (Heap.get?_push_size _ rfl), rfl, rfl⟩ (by rw [Heap.size_push, hz]) fun b o y => Heap.get?_push_of_some _ (Heap.get?_push_of_some _ y)⟩
open LCg in
theorem enum_block {prog : Program} {w : World} {A : Around} {E : Value → Shared → Prop} {h₀ : Heap} {L : Addr} {m : Str → Option Value} {env : Env} {elt iter : PySem.Expr} {a c : Str} {pa pc tp : Pos} {kk : Nat} {scope : Scope} {cl : List (Str × Addr)} {pos : Pos} {s₂ : Shared}
    {I J : Addr} {b : Array UInt8} {tb : Tok} {g : Nat → UInt8 → Int} {news : List (Addr × Obj)} {RR : Value → Addr → Result → Shared → Prop}
    (hh : A.handled = none) (hIJ : I ≠ J) (hsz : b.size ≤ sizeLine) (hI : IsEnum s₂.heap I J ((0 : Nat) : Int) .none) (hJ : KBw.IsBytesIter s₂.heap J b tb 0)
    (hcell : ∀ y ∈ scope.names, y.2 ≠ .cell) (hkind : scope.kind = .function) (hxa : scope.names.lookup a = some .local) (hxc : scope.names.lookup c = some .local) (hac : ¬ a = c)
    (F : Fr h₀ L s₂.heap m) (N : News h₀ L s₂.heap news) (hIL : L ≠ I) (hJL : L ≠ J) (hI₀ : h₀.get? I = none) (hJ₀ : h₀.get? J = none) (off : ∀ p ∈ news, p.1 ≠ I ∧ p.1 ≠ J)
    (turn : ∀ i x t u C oC D oD m₂ h tk (E' : Value → Shared → Prop), b[i]? = some x → NsObj oC m₂ → m₂ a = some (.int ((i : Nat) : Int) t) → m₂ c = some (.int ((x.toNat : Nat) : Int) u) → Fr h₀ L h m → News h₀ L h ((C, oC) :: (D, oD) :: news) →
      wpAny (model prog w) A (eval elt (compEnvC scope cl C env)) (fun y s' => ∃ tk' t', s' = { s₂ with heap := h, toks := tk' } ∧ y = .int (g i x) t') E' { s₂ with heap := h, toks := tk })
    (hRR : ∀ D C h tk m' ys, Fr h₀ L h m → News h₀ L h ((D, lst ys) :: news) → Off1 D news → h.Ns C m' → h₀.get? C = none → h₀.get? D = none → C ≠ L → D ≠ L → C ≠ D → (∀ p ∈ news, p.1 ≠ C) → IntsAre ys (b.toList.mapIdx g) → RR (.ref D) C (.ok .next) { s₂ with heap := h, toks := tk }) :
    wpAny (model prog w) A (newList []) (fun acc s₃ => wpAny (model prog w) A (newFunctionEnv scope env.globals cl [] env.qual none .none (some env)) (fun cenv s₄ =>
      codeAny (model prog w) A (.compStart (.ListComp elt [⟨.Tuple [.Name a pa, .Name c pc] kk tp, iter, [], 0⟩] scope pos) 0 (.ref I) acc { cenv with scope := relabel scope env }) (RR acc cenv.locals) s₄) E s₃) E s₂ := by
  refine wpAny_newObj_type (wpAny_newFunctionEnv hcell (by intro y hy; simp at hy) (fun h₁ hns₁ hsb₁ => ?_) hkind)
  dsimp only at hns₁ hsb₁ ⊢
  generalize hH2 : s₂.heap.push { cls := .type "list", dict := none, data := .seq ([] : List Value).toArray } = H2 at hns₁ hsb₁ ⊢
  have hC : H2.objs.size = s₂.heap.objs.size + 1 := by rw [← hH2, Heap.size_push]
  have hDC : s₂.heap.objs.size ≠ H2.objs.size := by rw [hC]; exact Nat.ne_of_lt (Nat.lt_succ_self _)
  have below : ∀ b, b < s₂.heap.objs.size → b ≠ H2.objs.size ∧ b ≠ s₂.heap.objs.size := fun b hb => ⟨by rw [hC]; exact Nat.ne_of_lt (Nat.lt_succ_of_lt hb), Nat.ne_of_lt hb⟩
  have hIlt : I < s₂.heap.objs.size := Heap.lt_size hI
  have hJlt : J < s₂.heap.objs.size := by obtain ⟨_, e, _⟩ := hJ; exact Heap.lt_size e
  have old : ∀ b o, s₂.heap.get? b = some o → h₁.get? b = some o := fun b o e => hsb₁.extBut b o (below b (Heap.lt_size e)).1 (Heap.get?_push_of_some _ (hH2 ▸ Heap.get?_push_of_some _ e))
  have hacc : h₁.get? s₂.heap.objs.size = some (lst []) := hsb₁.extBut _ _ hDC (Heap.get?_push_of_some _ (hH2 ▸ Heap.get?_push_size _ rfl))
  have hI₁ : IsEnum h₁ I J ((0 : Nat) : Int) .none := old _ _ hI
  have hJ₁ : KBw.IsBytesIter h₁ J b tb 0 := by obtain ⟨o, e, r⟩ := hJ; exact ⟨o, old _ _ e, r⟩
  have fresh₀ : ∀ a, s₂.heap.objs.size ≤ a → h₀.get? a = none := fun a ha => by
    cases e : h₀.get? a with
    | none => rfl
    | some o' => exact absurd (Heap.lt_size (F.keep a o' e)) (Nat.not_lt.mpr ha)
  have hD₀ : h₀.get? s₂.heap.objs.size = none := fresh₀ _ (Nat.le_refl _)
  have hC₀ : h₀.get? H2.objs.size = none := fresh₀ _ (by rw [hC]; exact Nat.le_succ _)
  have hLlt : L < s₂.heap.objs.size := F.ns.lt
  have hDL : s₂.heap.objs.size ≠ L := Ne.symm (below L hLlt).2
  have hCL : H2.objs.size ≠ L := Ne.symm (below L hLlt).1
  have hCI : I ≠ H2.objs.size := (below I hIlt).1
  have hDI : I ≠ s₂.heap.objs.size := (below I hIlt).2
  have hCJ : J ≠ H2.objs.size := (below J hJlt).1
  have hDJ : J ≠ s₂.heap.objs.size := (below J hJlt).2
  have offC : ∀ p ∈ news, p.1 ≠ H2.objs.size ∧ p.1 ≠ s₂.heap.objs.size := fun p hp => below _ (Heap.lt_size (N p hp).1)
  have hoff1 : Off1 s₂.heap.objs.size news := Off3.one (I := I) (C := H2.objs.size) (Off3.of fun p hp => ⟨(off p hp).1, offC p hp⟩)
  have W := WalksT.enumerateD (draws_bytes (prog := prog) (w := w) (A := A.in1) hh J b tb) I hIJ (by simpa using hIJ) (by simp)
  have loop : ∀ s₃ : Shared, s₃ = { s₂ with heap := h₁, toks := s₂.toks + ([] : List (Str × Value)).length } →
      codeAny (model prog w) A (.compLoop (.ListComp elt [⟨.Tuple [.Name a pa, .Name c pc] kk tp, iter, [], 0⟩] scope pos) 0 (.ref I) (.ref s₂.heap.objs.size) (compEnvC scope cl H2.objs.size env))
        (RR (.ref s₂.heap.objs.size) H2.objs.size) s₃ := by
    rintro s₃ rfl
    refine kcp_loop
      (fun k s' => ∃ h' tk i ys m', s' = { s₂ with heap := h', toks := tk } ∧ i ≤ b.size ∧ k = b.size + 1 - i ∧ ys.length = i ∧ ((∃ old, IsEnum h' I J ((i : Nat) : Int) old) ∧ KBw.IsBytesIter h' J b tb i) ∧ Fr h₀ L h' m ∧ h'.Ns H2.objs.size m' ∧
        News h₀ L h' ((s₂.heap.objs.size, lst ys) :: news) ∧ IntsAre ys ((b.toList.mapIdx g).take i)) ?_ (b.size + 1)
      ⟨h₁, _, 0, [], _, rfl, Nat.zero_le _, rfl, rfl, ⟨⟨_, hI₁⟩, hJ₁⟩, F.keeps old, hns₁, fun p hp => ?_, .nil⟩
    · rintro k s' ⟨h', tk, i, ys, m', rfl, hi, rfl, hyl, hst', F', hn', N', hys⟩
      by_cases hlt : i < b.size
      · refine W.item i _ _ _ hlt hst' fun T vals h₂ tk₂ hPt _ hT hMid hk₂ => ?_
        refine W.go _ _ _ i T _ _ _ hMid fun h₃ hst₃ hk₃ => ?_
        obtain ⟨t, v, ⟨x, u, hx, rfl⟩, rfl⟩ := hPt
        have hT₃ : h₃.IsTuple T #[.int ((i : Nat) : Int) t, .int ((x.toNat : Nat) : Int) u] := by
          obtain ⟨o, e, r⟩ := hT
          exact ⟨o, hk₃ _ _ (W.apart _ _ _ hMid) e, r⟩
        have up₃ : ∀ d o, d ≠ I → d ≠ J → h'.get? d = some o → h₃.get? d = some o := fun d o h1 h2 e => hk₃ d o (by simp [h1, h2]) (hk₂ d o (by simp [h1, h2]) e)
        refine kcp_assign (env := compEnvC scope cl H2.objs.size env) hh hT₃ (lookup_relabel_local hxa) (lookup_relabel_local hxc) (by simp [compEnvC, relabel, hkind]) (hn'.at' fun o e => up₃ _ o (Ne.symm hCI) (Ne.symm hCJ) e) fun h₄ tk₄ hn₄ hs₄ => ?_
        have up : ∀ d o, d ≠ I → d ≠ J → d ≠ H2.objs.size → h'.get? d = some o → h₄.get? d = some o := fun d o h1 h2 h3 e => hs₄ d o h3 (up₃ d o h1 h2 e)
        have hst₄ := W.frame _ _ h₄ hst₃ fun d hd o e => hs₄ d o (by
          rcases List.mem_cons.mp hd with rfl | hd
          · exact hCI
          · rw [List.mem_singleton.mp hd]; exact hCJ) e
        obtain ⟨oC, heC, hoC⟩ := ns_obj hn₄
        have F₄ : Fr h₀ L h₄ m := ⟨F'.ns.at' fun o e => up _ o hIL hJL (Ne.symm hCL) e, fun d o e => up d o (fun q => by rw [q, hI₀] at e; cases e) (fun q => by rw [q, hJ₀] at e; cases e) (fun q => by rw [q, hC₀] at e; cases e) (F'.keep d o e), F'.above⟩
        have N₄ : News h₀ L h₄ ((H2.objs.size, oC) :: (s₂.heap.objs.size, lst ys) :: news) := fun q hq => by
          rcases List.mem_cons.mp hq with rfl | hq
          · exact ⟨heC, hCL, hC₀⟩
          · have z := N' q hq
            rcases List.mem_cons.mp hq with rfl | hq
            · exact ⟨up _ _ (Ne.symm hDI) (Ne.symm hDJ) hDC z.1, z.2⟩
            · exact ⟨up _ _ (off q hq).1 (off q hq).2 (offC q hq).1 z.1, z.2⟩
        refine wpAny_mono (turn i x t u H2.objs.size oC s₂.heap.objs.size (lst ys) _ h₄ _ _ hx hoC (by simp [hac]) (by simp) F₄ N₄) (fun y s₅ h₅ => ?_) fun _ _ e => e
        obtain ⟨tk₅, t₅, rfl, rfl⟩ := h₅
        refine append_at (hsz := by show ys.toArray.size ≤ sizeLine; rw [List.size_toArray, hyl]; exact Nat.le_trans hi hsz) (N₄ (s₂.heap.objs.size, lst ys) (.tail _ (.head _))).1 fun h₆ hs₆ hD₆ => ?_
        refine ⟨b.size + 1 - (i + 1), by omega, h₆, tk₅, i + 1, ys ++ [.int (g i x) t₅], _, rfl, hlt, rfl, by rw [List.length_append, List.length_singleton, hyl], ?_, F₄.change hs₆ hDL hD₀,
          hn₄.sameBut hs₆ (Ne.symm hDC), fun q hq => ?_, ?_⟩
        · exact W.frame _ _ h₆ hst₄ fun d hd o e => hs₆.extBut d o (by
            rcases List.mem_cons.mp hd with rfl | hd
            · exact hDI
            · rw [List.mem_singleton.mp hd]; exact hDJ) e
        · rcases List.mem_cons.mp hq with rfl | hq
          · exact ⟨hD₆.trans (congrArg some (lst_snoc ys _)), hDL, hD₀⟩
          · exact ⟨hs₆.extBut _ _ (offC q hq).2 (N₄ q (.tail _ (.tail _ hq))).1, (N₄ q (.tail _ (.tail _ hq))).2⟩
        · have e1 : (b.toList.mapIdx g)[i]? = some (g i x) := by
            rw [List.getElem?_mapIdx, Array.getElem?_toList, hx]; rfl
          rw [List.take_add_one, e1]
          exact IntsAre.append hys (.cons _ _ .nil)
      · have hin : i = b.size := Nat.le_antisymm hi (Nat.not_lt.mp hlt)
        subst hin
        rw [List.take_of_length_le (by simp)] at hys
        refine W.done _ _ _ hst' fun h₂ tk₂ hk₂ => ?_
        have up₂ : ∀ d o, d ≠ I → d ≠ J → h'.get? d = some o → h₂.get? d = some o := fun d o h1 h2 e => hk₂ d o (by simp [h1, h2]) e
        refine hRR _ _ h₂ tk₂ _ ys ⟨F'.ns.at' fun o e => up₂ _ o hIL hJL e, fun d o e => up₂ d o (fun q => by rw [q, hI₀] at e; cases e) (fun q => by rw [q, hJ₀] at e; cases e) (F'.keep d o e), F'.above⟩ (fun q hq => ?_) hoff1 (hn'.at' fun o e => up₂ _ o (Ne.symm hCI) (Ne.symm hCJ) e) hC₀ hD₀ hCL hDL (Ne.symm hDC) (fun p hp => (offC p hp).1) hys
        have z := N' q hq
        rcases List.mem_cons.mp hq with rfl | hq
        · exact ⟨up₂ _ _ (Ne.symm hDI) (Ne.symm hDJ) z.1, z.2⟩
        · exact ⟨up₂ _ _ (off q hq).1 (off q hq).2 z.1, z.2⟩
    · rcases List.mem_cons.mp hp with rfl | hp
      · exact ⟨hacc, hDL, hD₀⟩
      · exact ⟨old _ _ (N p hp).1, (N p hp).2⟩
  exact codeAny_compStart_list (loop _ rfl) (wpAny_pyIter_enum hI₁ (loop _ rfl))
open LCg in
def EnSrc (prog : Program) (w : World) (A : Around) (h₀ : Heap) (L : Addr) (m : Str → Option Value) (env : Env) (elt : PySem.Expr) (a c : Str) (scope : Scope) (cl : List (Str × Addr)) (Q : Value → Shared → Prop) (xv : Value) (s₁ : Shared) : Prop :=
  ∃ (I J : Addr) (b : Array UInt8) (tb : Tok) (g : Nat → UInt8 → Int) (news : List (Addr × Obj)), xv = .ref I ∧ A.handled = none ∧ I ≠ J ∧ b.size ≤ sizeLine ∧ IsEnum s₁.heap I J ((0 : Nat) : Int) .none ∧ KBw.IsBytesIter s₁.heap J b tb 0 ∧
    Fr h₀ L s₁.heap m ∧ News h₀ L s₁.heap news ∧ L ≠ I ∧ L ≠ J ∧ h₀.get? I = none ∧ h₀.get? J = none ∧ (∀ p ∈ news, p.1 ≠ I ∧ p.1 ≠ J) ∧
    (∀ i x t u C oC D oD m₂ h tk (E' : Value → Shared → Prop), b[i]? = some x → NsObj oC m₂ → m₂ a = some (.int ((i : Nat) : Int) t) → m₂ c = some (.int ((x.toNat : Nat) : Int) u) → Fr h₀ L h m → News h₀ L h ((C, oC) :: (D, oD) :: news) →
      wpAny (model prog w) A (eval elt (compEnvC scope cl C env)) (fun y s' => ∃ tk' t', s' = { s₁ with heap := h, toks := tk' } ∧ y = .int (g i x) t') E' { s₁ with heap := h, toks := tk }) ∧
    (∀ D h tk ys, Fr h₀ L h m → News h₀ L h ((D, lst ys) :: news) → Off1 D news → IntsAre ys (b.toList.mapIdx g) → Q (.ref D) { s₁ with heap := h, toks := tk })
theorem enum_comp {prog : Program} {w : World} {A : Around} {E : Value → Shared → Prop} {s : Shared} {h₀ : Heap} {L : Addr} {m : Str → Option Value} {env : Env} {elt iter : PySem.Expr} {a c : Str} {pa pc tp : Pos} {kk : Nat} {scope : Scope} {cl : List (Str × Addr)} {pos : Pos} {Q : Value → Shared → Prop} (_F₀ : Fr h₀ L s.heap m)
    (hclos : closureFor scope env = pure cl) (hcell : ∀ y ∈ scope.names, y.2 ≠ .cell) (hkind : scope.kind = .function)
    (hnames : ∀ y ∈ scope.names, y.2 = .local → scope.names.lookup y.1 = some .local) (hxa : scope.names.lookup a = some .local) (hxc : scope.names.lookup c = some .local) (hac : ¬ a = c)
    (h : wpAny (model prog w) A (eval iter env) (EnSrc prog w A h₀ L m env elt a c scope cl Q) E s)
    (hs : ∀ x, foldedSetIterable iter env x = pure x := by intro _; rfl) :
    wpAny (model prog w) A (eval (.ListComp elt [⟨.Tuple [.Name a pa, .Name c pc] kk tp, iter, [], 0⟩] scope pos) env) Q E s := by
  rw [eval_ListComp]
  refine wpAny_comprehension_free (use := none) rfl hs hclos hkind hnames (wpAny_mono h (fun xv s₁ h₁ => ?_) fun _ _ e => e)
  obtain ⟨I, J, b, tb, g, news, rfl, hh, hIJ, hsz, hI, hJ, F, N, hIL, hJL, hI₀, hJ₀, off, turn, done⟩ := h₁
  refine wpAny_pyIter_enum hI ?_
  refine enum_block hh hIJ hsz hI hJ hcell hkind hxa hxc hac F N hIL hJL hI₀ hJ₀ off turn ?_
  intro D C h tk m' ys F' N' o1 hn hC₀ hD₀ hCL hDL hCD offC hys
  refine ⟨m', hn, fun h'' hs'' => done D h'' tk ys (F'.change hs'' hCL hC₀) (fun p hp => ?_) o1 hys⟩
  refine ⟨hs''.extBut _ _ ?_ (N' p hp).1, (N' p hp).2⟩
  rcases List.mem_cons.mp hp with rfl | hp
  · exact Ne.symm hCD
  · exact offC p hp
open LCg in
theorem enum_call {prog : Program} {w : World} {A : Around} {E : Value → Shared → Prop} {s : Shared} {h₀ : Heap} {L : Addr} {m : Str → Option Value} {env : Env} {elt : PySem.Expr} {a c : Str} {scope : Scope} {cl : List (Str × Addr)} {Q : Value → Shared → Prop} {b : Array UInt8} {tb : Tok} {news : List (Addr × Obj)} (g : Nat → UInt8 → Int)
    (F : Fr h₀ L s.heap m) (N : News h₀ L s.heap news) (hh : A.handled = none) (hsz : b.size ≤ sizeLine)
    (turn : ∀ i x t u C oC D oD m₂ h tk (E' : Value → Shared → Prop), b[i]? = some x → NsObj oC m₂ → m₂ a = some (.int ((i : Nat) : Int) t) → m₂ c = some (.int ((x.toNat : Nat) : Int) u) → Fr h₀ L h m → News h₀ L h ((C, oC) :: (D, oD) :: news) →
      wpAny (model prog w) A (eval elt (compEnvC scope cl C env)) (fun y s' => ∃ tk' t', s' = { s with heap := h, toks := tk' } ∧ y = .int (g i x) t') E' { s with heap := h, toks := tk })
    (done : ∀ D h tk ys, Fr h₀ L h m → News h₀ L h ((D, lst ys) :: news) → Off1 D news → IntsAre ys (b.toList.mapIdx g) → Q (.ref D) { s with heap := h, toks := tk }) :
    wpAny (model prog w) A (call (.type "enumerate") [.bytes b tb]) (EnSrc prog w A h₀ L m env elt a c scope cl Q) E s := by
  refine call_enumerate_bytes fun h8 hE hB hz8 hk8 => ?_
  have none₀ : ∀ a, s.heap.objs.size ≤ a → h₀.get? a = none := fun a ha => by
    cases e : h₀.get? a with
    | none => rfl
    | some o' => exact absurd (Heap.lt_size (F.keep a o' e)) (Nat.not_lt.mpr ha)
  have hl := F.ns.lt
  refine ⟨_, _, b, tb, g, news, rfl, hh, Nat.succ_ne_self _, hsz, hE, hB, Fr.keeps F hk8, News.grown N hk8, Nat.ne_of_lt (Nat.lt_succ_of_lt hl), Nat.ne_of_lt hl, none₀ _ (Nat.le_succ _), none₀ _ (Nat.le_refl _), fun p hp => ?_, turn, done⟩
  have := Heap.lt_size (N p hp).1
  exact ⟨Nat.ne_of_lt (Nat.lt_succ_of_lt this), Nat.ne_of_lt this⟩
end
section
/-- ys are references to pairs ps, each of them written in the ledger led -/
def TupsAre (ys : List Value) (ps : List (Nat × Nat)) (led : List (Addr × Obj)) : Prop := ys.length = ps.length ∧ ∀ (i : Nat) (p : Nat × Nat), ps[i]? = some p → ∃ (a : Addr) (t t' : Tok), ys[i]? = some (Value.ref a) ∧ (a, tup2 (p.1 : Int) t (p.2 : Int) t') ∈ led
def AllTup (nw : List (Addr × Obj)) : Prop := ∀ p ∈ nw, ∃ l t d t', p.2 = tup2 l t d t'
theorem AllTup.nil : AllTup [] := fun _ h => nomatch h
theorem AllTup.cons {nw : List (Addr × Obj)} {a : Addr} {l d : Int} {t t' : Tok} (h : AllTup nw) : AllTup ((a, tup2 l t d t') :: nw) := fun p hp => by
  rcases List.mem_cons.mp hp with rfl | hp
  · exact ⟨_, _, _, _, rfl⟩
  · exact h p hp
def NoCell (nw led : List (Addr × Obj)) : Prop := ∀ c o x, (c, o) ∈ led → o.data = .cell x → ∀ p ∈ nw, p.1 ≠ c
theorem NoCell.of {h₀ h : Heap} {L : Addr} {nw led : List (Addr × Obj)} (N : News h₀ L h led) (hs : ∀ p ∈ nw, p ∈ led) (ht : AllTup nw) : NoCell nw led := fun c o x hm ho p hp e => by
  have h1 := (N _ hm).1
  have h2 := (N _ (hs p hp)).1
  rw [e, h1] at h2
  obtain ⟨l, t, d, t', e2⟩ := ht p hp
  have e3 : o = tup2 l t d t' := (Option.some.inj h2).trans e2
  subst e3
  cases ho
theorem all_app {news nw led : List (Addr × Obj)} {c : Addr} {o : Obj} {x : Option Value} (h1 : ∀ p ∈ news, p.1 ≠ c) (hn : NoCell nw led) (hm : (c, o) ∈ led) (ho : o.data = .cell x) : ∀ p ∈ news ++ nw, p.1 ≠ c := fun p hp =>
  (List.mem_append.mp hp).elim (h1 p) (hn c o x hm ho p)
theorem TupsAre.nil (led : List (Addr × Obj)) : TupsAre [] [] led := ⟨rfl, fun i p h => by simp at h⟩
theorem TupsAre.mono {ys : List Value} {ps : List (Nat × Nat)} {led led' : List (Addr × Obj)} (h : TupsAre ys ps led) (hs : ∀ p ∈ led, p ∈ led') : TupsAre ys ps led' :=
  ⟨h.1, fun i p hp => let ⟨a, t, t', e, m⟩ := h.2 i p hp; ⟨a, t, t', e, hs _ m⟩⟩
theorem TupsAre.snoc {ys : List Value} {ps : List (Nat × Nat)} {led : List (Addr × Obj)} (h : TupsAre ys ps led) {a : Addr} {p : Nat × Nat} {t t' : Tok} (hm : (a, tup2 (p.1 : Int) t (p.2 : Int) t') ∈ led) : TupsAre (ys ++ [Value.ref a]) (ps ++ [p]) led := by
  refine ⟨by simp [h.1], fun i q hq => ?_⟩
  rcases Nat.lt_or_ge i ps.length with hi | hi
  · rw [List.getElem?_append_left hi] at hq
    obtain ⟨b, u, u', e, m⟩ := h.2 i q hq
    exact ⟨b, u, u', by rw [List.getElem?_append_left (by rw [h.1]; exact hi)]; exact e, m⟩
  · rw [List.getElem?_append_right hi] at hq
    have hi0 : i - ps.length = 0 := by
      rcases Nat.eq_zero_or_pos (i - ps.length) with h0 | h0
      · exact h0
      · rw [List.getElem?_eq_none (by simp only [List.length_cons, List.length_nil]; omega)] at hq; cases hq
    rw [hi0] at hq
    cases hq
    exact ⟨a, t, t', by rw [List.getElem?_append_right (by rw [h.1]; exact hi), h.1, hi0]; rfl, hm⟩
section
variable {prog : Program} {w : World} {A : Around} {h₀ : Heap} {L : Addr} {m : Str → Option Value} {env : Env} {ct elt : Expr} {x x₂ : Str} {scope : Scope} {cl : List (Str × Addr)} {s : Shared} {S : List (Addr × Obj) → Prop} {Fin : List Value → List (Addr × Obj) → Prop} {news : List (Addr × Obj)}
open LCg in
theorem restT_ints {rows : List Nat} {vs : List Value} (hI : IntsAre vs (rows.map fun (p : Nat) => (p : Int))) (p : Nat → Bool)
    (turn : ∀ (k : Nat) t I oI C oC D m₂ ys h tk (E' : Value → Shared → Prop), k ∈ rows → NsObj oC m₂ → m₂ x = some (.int (k : Int) t) → Fr h₀ L h m → News h₀ L h ((I, oI) :: (C, oC) :: (D, lst ys) :: news) → Off3 I C D news → ((@Ne Nat I C) ∧ (@Ne Nat I D) ∧ (@Ne Nat C D)) →
      wpAny (model prog w) A (isTrue ct (compEnvC scope cl C env) (eval ct (compEnvC scope cl C env))) (fun ok s' => if ok = true then
        wpAny (model prog w) A (eval elt (compEnvC scope cl C env)) (CompEnd h₀ L m { s with heap := h, toks := tk } I oI C oC D (lst ys) S (fun y news' => news' = news ∧ p k = true ∧ ∃ t, y = .int (k : Int) t)) E' s'
        else CompEnd h₀ L m { s with heap := h, toks := tk } I oI C oC D (lst ys) S (fun _ news' => news' = news ∧ p k = false) Value.none s') E' { s with heap := h, toks := tk })
    (fin : ∀ ys, IntsAre ys ((rows.filter p).map fun (p : Nat) => (p : Int)) → Fin ys news) :
    LCt.CompRestT prog w A h₀ L m env ct elt x scope cl s S (fun i v => vs.toArray[i]? = some v) Fin vs.toArray.size 0 [] news := by
  have key : ∀ (j i : Nat) (ys : List Value), i + j = rows.length → IntsAre ys (((rows.take i).filter p).map fun (p : Nat) => (p : Int)) → LCt.CompRestT prog w A h₀ L m env ct elt x scope cl s S (fun i v => vs.toArray[i]? = some v) Fin j i ys news := by
    intro j
    induction j with
    | zero =>
      intro i ys hi hy
      have e : i = rows.length := by omega
      subst e
      rw [List.take_length] at hy
      exact fin ys hy
    | succ j ih =>
      intro i ys hi hy
      refine LCt.CompRestT.succ ?_
      intro v I oI C oC D m₂ h tk E' hv hC hx F N off ne
      have hlt : i < rows.length := by omega
      obtain ⟨t, e⟩ := ints_at hI hlt
      have hv' : v = .int ((rows.getD i 0 : Nat) : Int) t := by
        have : vs[i]? = some v := by simpa using hv
        rw [e] at this
        exact (Option.some.inj this).symm
      subst hv'
      have hg : rows[i]? = some (rows.getD i 0) := by rw [List.getD_eq_getElem?_getD, List.getElem?_eq_getElem hlt]; rfl
      have ht : rows.take (i + 1) = rows.take i ++ [rows.getD i 0] := by rw [List.take_add_one, hg]; rfl
      refine wpAny_mono (turn (rows.getD i 0) t I oI C oC D m₂ ys h tk E' (List.mem_of_getElem? hg) hC hx F N off ne) (fun ok s' hq => ?_) fun _ _ e => e
      cases ok with
      | true =>
        simp only [if_true] at hq ⊢
        refine wpAny_mono hq (fun y s'' hq => ?_) fun _ _ e => e
        obtain ⟨h', tk', nw, e', F', N', off', hS, hn, hp, t', hy'⟩ := hq
        subst hn hy'
        refine ⟨h', tk', _, e', F', N', off', hS, ih (i + 1) _ (by omega) ?_⟩
        rw [ht, List.filter_append]
        simp only [List.filter_cons, hp, if_true, List.filter_nil, List.map_append]
        exact IntsAre.append hy (.cons _ _ .nil)
      | false =>
        simp only [Bool.false_eq_true, if_false] at hq ⊢
        obtain ⟨h', tk', nw, e', F', N', off', hS, hn, hp⟩ := hq
        subst hn
        refine ⟨h', tk', _, e', F', N', off', hS, ih (i + 1) _ (by omega) ?_⟩
        rw [ht, List.filter_append]
        simp only [List.filter_cons, hp, Bool.false_eq_true, if_false, List.filter_nil, List.append_nil]
        exact hy
  have hl : vs.toArray.size = rows.length := by rw [List.size_toArray, ints_len hI, List.length_map]
  rw [hl]
  exact key rows.length 0 [] (by omega) (by simp only [List.take_zero, List.filter_nil, List.map_nil]; exact .nil)
open LCg in
theorem restU_tups {rows : List Nat} {vs : List Value} (hI : IntsAre vs (rows.map fun (p : Nat) => (p : Int))) (f : Nat → Nat × Nat)
    (turn : ∀ (k : Nat) t I oI C oC D m₂ ys nw h tk (E' : Value → Shared → Prop), k ∈ rows → NsObj oC m₂ → m₂ x = some (.int (k : Int) t) → Fr h₀ L h m → News h₀ L h ((I, oI) :: (C, oC) :: (D, lst ys) :: (news ++ nw)) → Off3 I C D (news ++ nw) → ((@Ne Nat I C) ∧ (@Ne Nat I D) ∧ (@Ne Nat C D)) →
      wpAny (model prog w) A (eval elt (compEnvC scope cl C env)) (CompEnd h₀ L m { s with heap := h, toks := tk } I oI C oC D (lst ys) S (fun y news' => ∃ (a : Addr) (t t' : Tok), y = Value.ref a ∧ news' = (a, tup2 ((f k).1 : Int) t ((f k).2 : Int) t') :: (news ++ nw))) E' { s with heap := h, toks := tk })
    (mono : ∀ l l' : List (Addr × Obj), (∀ p ∈ l, p ∈ l') → S l → S l')
    (fin : ∀ ys nw, TupsAre ys (rows.map f) nw → AllTup nw → Fin ys (news ++ nw)) :
    CompRest prog w A h₀ L m env elt x scope cl s S (fun i v => vs.toArray[i]? = some v) Fin vs.toArray.size 0 [] news := by
  have key : ∀ (j i : Nat) (ys : List Value) (nw : List (Addr × Obj)), i + j = rows.length → TupsAre ys ((rows.take i).map f) nw → AllTup nw → CompRest prog w A h₀ L m env elt x scope cl s S (fun i v => vs.toArray[i]? = some v) Fin j i ys (news ++ nw) := by
    intro j
    induction j with
    | zero =>
      intro i ys nw hi hy hat
      have e : i = rows.length := by omega
      subst e
      rw [List.take_length] at hy
      exact fin ys nw hy hat
    | succ j ih =>
      intro i ys nw hi hy hat
      refine CompRest.succ ?_
      intro v I oI C oC D m₂ h tk E' hv hC hx F N off ne
      have hlt : i < rows.length := by omega
      obtain ⟨t, e⟩ := ints_at hI hlt
      have hv' : v = .int ((rows.getD i 0 : Nat) : Int) t := by
        have : vs[i]? = some v := by simpa using hv
        rw [e] at this
        exact (Option.some.inj this).symm
      subst hv'
      have hg : rows[i]? = some (rows.getD i 0) := by rw [List.getD_eq_getElem?_getD, List.getElem?_eq_getElem hlt]; rfl
      have ht : rows.take (i + 1) = rows.take i ++ [rows.getD i 0] := by rw [List.take_add_one, hg]; rfl
      refine wpAny_mono (turn (rows.getD i 0) t I oI C oC D m₂ ys nw h tk E' (List.mem_of_getElem? hg) hC hx F N off ne) (fun y s'' hq => ?_) fun _ _ e => e
      obtain ⟨h', tk', nw', e', F', N', off', hS, a, u, u', hy', hn⟩ := hq
      subst hn hy'
      have sub : ∀ p ∈ (a, tup2 ((f (rows.getD i 0)).1 : Int) u ((f (rows.getD i 0)).2 : Int) u') :: (news ++ nw), p ∈ news ++ ((a, tup2 ((f (rows.getD i 0)).1 : Int) u ((f (rows.getD i 0)).2 : Int) u') :: nw) := fun p hp => by
        rcases List.mem_cons.mp hp with rfl | hp
        · exact List.mem_append_right _ (.head _)
        · exact (List.mem_append.mp hp).elim (fun x => List.mem_append_left _ x) fun x => List.mem_append_right _ (.tail _ x)
      have sub' : ∀ p ∈ news ++ ((a, tup2 ((f (rows.getD i 0)).1 : Int) u ((f (rows.getD i 0)).2 : Int) u') :: nw), p ∈ (a, tup2 ((f (rows.getD i 0)).1 : Int) u ((f (rows.getD i 0)).2 : Int) u') :: (news ++ nw) := fun p hp => by
        rcases List.mem_append.mp hp with hp | hp
        · exact .tail _ (List.mem_append_left _ hp)
        · rcases List.mem_cons.mp hp with rfl | hp
          · exact .head _
          · exact .tail _ (List.mem_append_right _ hp)
      refine ⟨h', tk', _, e', F', ?_, Off3.of fun p hp => off'.mem p (sub' p hp), mono _ _ sub hS, ?_⟩
      · intro p hp
        rcases List.mem_cons.mp hp with rfl | hp
        · exact N' _ (.head _)
        · rcases List.mem_cons.mp hp with rfl | hp
          · exact N' _ (.tail _ (.head _))
          · rcases List.mem_cons.mp hp with rfl | hp
            · exact N' _ (.tail _ (.tail _ (.head _)))
            · exact N' _ (.tail _ (.tail _ (.tail _ (sub' p hp))))
      refine ih (i + 1) _ _ (by omega) ?_ hat.cons
      rw [ht, List.map_append]
      exact (hy.mono fun p hp => .tail _ hp).snoc (.head _)
  have hl : vs.toArray.size = rows.length := by rw [List.size_toArray, ints_len hI, List.length_map]
  rw [hl]
  have := key rows.length 0 [] [] (by omega) (by simp only [List.take_zero, List.map_nil]; exact TupsAre.nil _) AllTup.nil
  rw [List.append_nil] at this
  exact this
open LCg in
theorem restP_fst {ps : List (Nat × Nat)} {vs : List Value} (hT : TupsAre vs ps news)
    (turn : ∀ (q : Nat × Nat) t t' I oI C oC D m₂ ys h tk (E' : Value → Shared → Prop), q ∈ ps → NsObj oC m₂ → m₂ x = some (.int (q.1 : Int) t) → m₂ x₂ = some (.int (q.2 : Int) t') → Fr h₀ L h m → News h₀ L h ((I, oI) :: (C, oC) :: (D, lst ys) :: news) → Off3 I C D news → ((@Ne Nat I C) ∧ (@Ne Nat I D) ∧ (@Ne Nat C D)) →
      wpAny (model prog w) A (eval elt (compEnvC scope cl C env)) (CompEnd h₀ L m { s with heap := h, toks := tk } I oI C oC D (lst ys) S (fun y news' => news' = news ∧ ∃ t, y = .int (q.1 : Int) t)) E' { s with heap := h, toks := tk })
    (fin : ∀ ys, IntsAre ys (ps.map fun (q : Nat × Nat) => (q.1 : Int)) → Fin ys news) :
    LCp.CompRestP prog w A h₀ L m env elt x x₂ scope cl s S (fun i v => vs.toArray[i]? = some v) Fin vs.toArray.size 0 [] news := by
  have key : ∀ (j i : Nat) (ys : List Value), i + j = ps.length → IntsAre ys ((ps.take i).map fun (q : Nat × Nat) => (q.1 : Int)) → LCp.CompRestP prog w A h₀ L m env elt x x₂ scope cl s S (fun i v => vs.toArray[i]? = some v) Fin j i ys news := by
    intro j
    induction j with
    | zero =>
      intro i ys hi hy
      have e : i = ps.length := by omega
      subst e
      rw [List.take_length] at hy
      exact fin ys hy
    | succ j ih =>
      intro i ys hi hy
      refine LCp.CompRestP.succ ?_
      intro v hv
      have hlt : i < ps.length := by omega
      have hg : ps[i]? = some (ps.getD i (0, 0)) := by rw [List.getD_eq_getElem?_getD, List.getElem?_eq_getElem hlt]; rfl
      obtain ⟨a, t, t', e, hm⟩ := hT.2 i _ hg
      have hv' : v = .ref a := by
        have : vs[i]? = some v := by simpa using hv
        rw [e] at this
        exact (Option.some.inj this).symm
      have ht : ps.take (i + 1) = ps.take i ++ [ps.getD i (0, 0)] := by rw [List.take_add_one, hg]; rfl
      refine ⟨a, _, _, _, _, hv', hm, rfl, rfl, ?_⟩
      intro I oI C oC D m₂ h tk E' hC hx hx₂ F N off ne
      refine wpAny_mono (turn (ps.getD i (0, 0)) t t' I oI C oC D m₂ ys h tk E' (List.mem_of_getElem? hg) hC hx hx₂ F N off ne) (fun y s'' hq => ?_) fun _ _ e => e
      obtain ⟨h', tk', nw', e', F', N', off', hS, hn, u, hy'⟩ := hq
      subst hn hy'
      refine ⟨h', tk', _, e', F', N', off', hS, ih (i + 1) _ (by omega) ?_⟩
      rw [ht, List.map_append]
      exact IntsAre.append hy (.cons _ _ .nil)
  have hl : vs.toArray.size = ps.length := by rw [List.size_toArray, hT.1]
  rw [hl]
  exact key ps.length 0 [] (by omega) (by simp only [List.take_zero, List.map_nil]; exact .nil)
open LCg in
theorem restT_tups {ps : List (Nat × Nat)} {vs : List Value} (hT : TupsAre vs ps news) (p : Nat × Nat → Bool)
    (turn : ∀ (q : Nat × Nat) (r : Addr) t t' I oI C oC D m₂ ys h tk (E' : Value → Shared → Prop), q ∈ ps → (r, tup2 (q.1 : Int) t (q.2 : Int) t') ∈ news → NsObj oC m₂ → m₂ x = some (.ref r) → Fr h₀ L h m → News h₀ L h ((I, oI) :: (C, oC) :: (D, lst ys) :: news) → Off3 I C D news → ((@Ne Nat I C) ∧ (@Ne Nat I D) ∧ (@Ne Nat C D)) →
      wpAny (model prog w) A (isTrue ct (compEnvC scope cl C env) (eval ct (compEnvC scope cl C env))) (fun ok s' => if ok = true then
        wpAny (model prog w) A (eval elt (compEnvC scope cl C env)) (CompEnd h₀ L m { s with heap := h, toks := tk } I oI C oC D (lst ys) S (fun y news' => news' = news ∧ p q = true ∧ y = .ref r)) E' s'
        else CompEnd h₀ L m { s with heap := h, toks := tk } I oI C oC D (lst ys) S (fun _ news' => news' = news ∧ p q = false) Value.none s') E' { s with heap := h, toks := tk })
    (fin : ∀ ys, TupsAre ys (ps.filter p) news → Fin ys news) :
    LCt.CompRestT prog w A h₀ L m env ct elt x scope cl s S (fun i v => vs.toArray[i]? = some v) Fin vs.toArray.size 0 [] news := by
  have key : ∀ (j i : Nat) (ys : List Value), i + j = ps.length → TupsAre ys ((ps.take i).filter p) news → LCt.CompRestT prog w A h₀ L m env ct elt x scope cl s S (fun i v => vs.toArray[i]? = some v) Fin j i ys news := by
    intro j
    induction j with
    | zero =>
      intro i ys hi hy
      have e : i = ps.length := by omega
      subst e
      rw [List.take_length] at hy
      exact fin ys hy
    | succ j ih =>
      intro i ys hi hy
      refine LCt.CompRestT.succ ?_
      intro v I oI C oC D m₂ h tk E' hv hC hx F N off ne
      have hlt : i < ps.length := by omega
      have hg : ps[i]? = some (ps.getD i (0, 0)) := by rw [List.getD_eq_getElem?_getD, List.getElem?_eq_getElem hlt]; rfl
      obtain ⟨a, t, t', e, hm⟩ := hT.2 i _ hg
      have hv' : v = .ref a := by
        have : vs[i]? = some v := by simpa using hv
        rw [e] at this
        exact (Option.some.inj this).symm
      subst hv'
      have ht : ps.take (i + 1) = ps.take i ++ [ps.getD i (0, 0)] := by rw [List.take_add_one, hg]; rfl
      refine wpAny_mono (turn (ps.getD i (0, 0)) a t t' I oI C oC D m₂ ys h tk E' (List.mem_of_getElem? hg) hm hC hx F N off ne) (fun ok s' hq => ?_) fun _ _ e => e
      cases ok with
      | true =>
        simp only [if_true] at hq ⊢
        refine wpAny_mono hq (fun y s'' hq => ?_) fun _ _ e => e
        obtain ⟨h', tk', nw, e', F', N', off', hS, hn, hp, hy'⟩ := hq
        subst hn hy'
        refine ⟨h', tk', _, e', F', N', off', hS, ih (i + 1) _ (by omega) ?_⟩
        rw [ht, List.filter_append]
        simp only [List.filter_cons, hp, if_true, List.filter_nil]
        exact hy.snoc hm
      | false =>
        simp only [Bool.false_eq_true, if_false] at hq ⊢
        obtain ⟨h', tk', nw, e', F', N', off', hS, hn, hp⟩ := hq
        subst hn
        refine ⟨h', tk', _, e', F', N', off', hS, ih (i + 1) _ (by omega) ?_⟩
        rw [ht, List.filter_append]
        simp only [List.filter_cons, hp, Bool.false_eq_true, if_false, List.filter_nil, List.append_nil]
        exact hy
  have hl : vs.toArray.size = ps.length := by rw [List.size_toArray, hT.1]
  rw [hl]
  exact key ps.length 0 [] (by omega) (by simp only [List.take_zero, List.filter_nil]; exact TupsAre.nil _)
end
section
variable {prog : Program} {w : World} {A : Around} {E : Value → Shared → Prop} {s : Shared} {h₀ h : Heap} {L l : Addr} {m : Str → Option Value} {news : List (Addr × Obj)} {Q : Value → Shared → Prop}
theorem slice_take {value slice : PySem.Expr} {vs : List Value} {rows : List Nat} {ch c : Nat} {t : Tok} (F : Fr h₀ L s.heap m) (N : News h₀ L s.heap news) (hm : (l, listOf vs.toArray c) ∈ news) (hI : IntsAre vs (rows.map fun (p : Nat) => (p : Int))) (hz : rows.length ≤ 1000)
    (h : ∀ D ws h', Fr h₀ L h' m → News h₀ L h' ((D, listOf (List.toArray ws) 0) :: news) → (∀ p ∈ news, p.1 < D) → IntsAre ws ((rows.take ch).map fun (p : Nat) => (p : Int)) → Q (.ref D) { s with heap := h' })
    (hs : subscripted slice false (.ref l) (.ref s.heap.objs.size) = operate [.ref s.heap.objs.size, .ref l] (getItem (.ref l) (.ref s.heap.objs.size)) := by with_unfolding_all rfl) (ht : ∀ r, letTemporaryGo value (.ref l) r = pure () := by intro _; with_unfolding_all rfl) :
    wpAny (model prog w) A (subscriptTail value slice (.ref l) (.ref s.heap.objs.size)) Q E { s with heap := s.heap.push { cls := .type "slice", data := .fields #[.none, .int (ch : Int) t, .none] } } := by
  have hl : s.heap.IsList l vs.toArray := ⟨_, (N _ hm).1, rfl, c, rfl⟩
  refine kmk_slice_ints (c := (rows.take ch).length) F N hl .none (.int _ _) hI (kmk_upto hI (by omega)) (by rw [← List.map_take]; simp) (fun D ws h' F' N' l1 hi _ _ => h D ws h' F' N' l1 ?_) hs ht ?_
  · rw [List.map_take]; simpa using hi
  · rw [sizeLine_eq, List.size_toArray, ints_len hI, List.length_map]; omega
theorem ne_empty {a b : Addr} {ys : List Value} (ha : s.heap.IsList a ys.toArray) (hb : s.heap.IsList b (List.toArray [])) (hu : A.units + 64 < cLine) (h : Q (.bool (!ys.isEmpty)) s) : wpAny (model prog w) A (compareOp .NotEq (.ref a) (.ref b)) Q E s := by
  cases ys with
  | nil => exact ke_ne_ints ha hb .nil .nil hu (by simpa using h)
  | cons y r => exact EqBoolInt.of_rcne (SeqAt.RcNeAt.lists_lengths ha hb (by simp) (by omega)) h
theorem item_tups {value slice : PySem.Expr} {vs : List Value} {ps : List (Nat × Nat)} {c : Nat} {q : Nat × Nat} {u : Tok} (N : News h₀ L s.heap news) (hm : (l, listOf vs.toArray c) ∈ news) (hT : TupsAre vs ps news)
    (hq : ps[0]? = some q) (h : ∀ a t t', (a, tup2 (q.1 : Int) t (q.2 : Int) t') ∈ news → Q (.ref a) s)
    (hs : subscripted slice false (.ref l) (.int 0 u) = operate [.ref l, .int 0 u] (getItem (.ref l) (.int 0 u)) := by with_unfolding_all rfl) :
    wpAny (model prog w) A (subscriptTail value slice (.ref l) (.int 0 u)) Q E s := by
  have hl : s.heap.IsList l vs.toArray := ⟨_, (N _ hm).1, rfl, c, rfl⟩
  obtain ⟨a, t, t', e, hm'⟩ := hT.2 0 q hq
  exact tail_any hl.typeIs slot_list_getitem.lookup (wpAny_getItem_list hl (by decide) (by decide) (by simpa using e) (h a t t' hm')) hs
end
theorem pick_first : ∀ (xs : List (Nat × Nat)) (f r : Nat × Nat), xs.foldl (fun f x => if f.1 < x.1 then x else f) f = r →
    (∀ x ∈ xs, x.1 ≤ r.1) ∧ f.1 ≤ r.1 ∧ ((r = f ∧ ∀ x ∈ xs, x.1 ≤ f.1) ∨ ((xs.filter fun q => decide (q.1 = r.1))[0]? = some r ∧ f.1 < r.1))
  | [], f, r, h => by subst h; exact ⟨by simp, Nat.le_refl _, .inl ⟨rfl, by simp⟩⟩
  | x :: t, f, r, h => by
    rw [List.foldl_cons] at h
    by_cases hx : f.1 < x.1
    · rw [if_pos hx] at h
      obtain ⟨h1, h2, h3⟩ := pick_first t x r h
      refine ⟨fun y hy => ?_, by omega, .inr ?_⟩
      · rcases List.mem_cons.mp hy with rfl | hy
        · exact h2
        · exact h1 y hy
      · rcases h3 with ⟨e, h4⟩ | ⟨e, h4⟩
        · rw [e]
          exact ⟨by simp, hx⟩
        · refine ⟨?_, by omega⟩
          rw [List.filter_cons, if_neg (by simp only [decide_eq_true_eq]; omega)]
          exact e
    · rw [if_neg hx] at h
      obtain ⟨h1, h2, h3⟩ := pick_first t f r h
      refine ⟨fun y hy => ?_, h2, ?_⟩
      · rcases List.mem_cons.mp hy with rfl | hy
        · omega
        · exact h1 y hy
      · rcases h3 with ⟨e, h4⟩ | ⟨e, h4⟩
        · left
          refine ⟨e, fun y hy => ?_⟩
          rcases List.mem_cons.mp hy with rfl | hy
          · omega
          · exact h4 y hy
        · right
          refine ⟨?_, h4⟩
          rw [List.filter_cons, if_neg (by simp only [decide_eq_true_eq]; omega)]
          exact e
theorem pick_head {ps : List (Nat × Nat)} {M : Int} (hne : ps ≠ []) (hpos : ∀ x ∈ ps, 0 < x.1) (hM : M = 0 ∨ M ∈ ps.map fun (q : Nat × Nat) => (q.1 : Int)) (hle : ∀ x ∈ ps, (x.1 : Int) ≤ M) : (ps.filter fun q => decide ((q.1 : Int) = M))[0]? = some (pick ps) := by
  obtain ⟨h1, h2, h3⟩ := pick_first ps (0, 0) (pick ps) rfl
  have e : M = ((pick ps).1 : Int) := by
    have hx : ∀ x ∈ ps, x.1 ≤ (pick ps).1 := h1
    have hr : (pick ps).1 = 0 ∨ ∃ x ∈ ps, x.1 = (pick ps).1 := by
      rcases h3 with ⟨e, _⟩ | ⟨e, _⟩
      · left; rw [e]
      · right; exact ⟨pick ps, (List.mem_filter.mp (List.mem_of_getElem? e)).1, rfl⟩
    have ha : M ≤ ((pick ps).1 : Int) := by
      rcases hM with h | h
      · omega
      · obtain ⟨x, hx', rfl⟩ := List.mem_map.mp h
        have := hx x hx'
        omega
    have hb : ((pick ps).1 : Int) ≤ M := by
      rcases hr with h | ⟨x, hx', h⟩
      · cases ps with
        | nil => exact absurd rfl hne
        | cons y r =>
          have := hle y List.mem_cons_self
          omega
      · have := hle x hx'
        omega
    omega
  rw [e]
  rcases h3 with ⟨_, h⟩ | ⟨h, _⟩
  · cases ps with
    | nil => exact absurd rfl hne
    | cons y r =>
      have h4 := h y List.mem_cons_self
      have h5 := hpos y List.mem_cons_self
      exact absurd h4 (by show ¬ y.1 ≤ 0; omega)
  · have e2 : (fun (q : Nat × Nat) => decide ((q.1 : Int) = ((pick ps).1 : Int))) = fun q => decide (q.1 = (pick ps).1) := by
      funext q
      congr 1
      exact propext (by omega)
    rw [e2]
    exact h
theorem rot4 {α : Type} {a i c d : α} {r : List α} : ∀ p ∈ i :: c :: d :: a :: r, p ∈ a :: i :: c :: d :: r := fun p hp => by
  simp only [List.mem_cons] at hp ⊢
  rcases hp with h | h | h | h | h
  · exact .inr (.inl h)
  · exact .inr (.inr (.inl h))
  · exact .inr (.inr (.inr (.inl h)))
  · exact .inl h
  · exact .inr (.inr (.inr (.inr h)))
open LCg in
theorem off3_cons {I C D a : Addr} {o : Obj} {r : List (Addr × Obj)} (h1 : @LT.lt Nat _ I a) (h2 : @LT.lt Nat _ C a) (h3 : @LT.lt Nat _ D a) (h : Off3 I C D r) : Off3 I C D ((a, o) :: r) := Off3.of fun p hp => by
  rcases List.mem_cons.mp hp with rfl | hp
  · exact ⟨Nat.ne_of_gt h1, Nat.ne_of_gt h2, Nat.ne_of_gt h3⟩
  · exact h.mem p hp
theorem led_head {h₀ h : Heap} {L D : Addr} {o : Obj} {rest : List (Addr × Obj)} (news : List (Addr × Obj)) (N : News h₀ L h ((D, o) :: rest)) (hs : ∀ p ∈ news, p ∈ rest) : News h₀ L h ((D, o) :: news) := fun p hp => N p (by
  rcases List.mem_cons.mp hp with rfl | hp
  · exact .head _
  · exact .tail _ (hs p hp))
theorem led_mem {h₀ h : Heap} {L D : Addr} {o : Obj} {rest : List (Addr × Obj)} (news : List (Addr × Obj)) (N : News h₀ L h rest) (hm : (D, o) ∈ rest) (hs : ∀ p ∈ news, p ∈ rest) : News h₀ L h ((D, o) :: news) := fun p hp => N p (by
  rcases List.mem_cons.mp hp with rfl | hp
  · exact hm
  · exact hs p hp)
end
section
local macro_rules | `(tactic| walk_at "subscriptTail") => `(tactic| (k_here; (with_reducible show wpAny _ _ (subscriptTail _ (Expr.Slice _ _ none _) (Value.bytes _ _) (Value.ref _)) _ _ _); refine stopIt ?_))
local macro_rules | `(tactic| walk_at "call builtin:len") => `(tactic| (k_here; (with_reducible show wpAny _ _ (call (Value.builtin "len") [Value.bytes _ _]) _ _ _); refine len_bytes (by omega) ?_))
local macro_rules | `(tactic| ktr_enter) => `(tactic| (refine' code_defC ?k1 ?k2 ?k3 ?k4 ?k5 ?kA ?kF ?kK ?k6 ?k7 ?k8 ?k9 ?kB ?kD ?_ ?c2 ?c3 ?c4; (case kA => exact rfl); (case kF => exact rfl); (case kK => assumption); (case k1 => k_asm); (case k2 => k_asm); (case k3 => k_asm); (case k4 => k_asm); (case k5 => k_asm); (case k6 => k_is); (case k7 => k_is); (case k8 => ktr_room); (case k9 => exact BindsTo.of_eq rfl); (case kB => exact rfl); (case kD => decide +kernel); (case c2 => exact rfl); (case c3 => exact rfl); (case c4 => exact rfl); k_whole; intro g' L' h' tk' cells' FG' F' N' Y' B' X' T' l1; (try k_lt l1); k_cells Y'; (try simp only [List.cons_append, List.nil_append] at N'); (try dsimp only); (try k_fold)))
local macro_rules | `(tactic| walk_at "CompSrc") => `(tactic| refine stopIt ?_)
section
local macro_rules | `(tactic| walk_at "eval ListComp") => `(tactic| (k_here; k_dflt (refine enum_comp (by k_asm) (by with_unfolding_all rfl) (by decide) (by rfl) (by decide) (by rfl) (by rfl) (by decide) ?_)))
local macro_rules | `(tactic| walk_at "binaryOp Mult int int") => `(tactic| (refine PyProof.Rows.mul_int ?_ (IntMulOk.of_left (intBits_le_64 (by omega) (by omega)))))
local macro_rules | `(tactic| walk_at "call type:enumerate") => `(tactic| (refine stopIt ?_))
set_option maxRecDepth 100000 in
set_option maxHeartbeats 8000000 in
theorem number_ctr (w : World) (loose : List Str) (mean : ExcName → Option Value) (mg mb : Str → Option Value)
   (b : Array UInt8) (at' : Nat) (tb t1 t2 : Tok) (le : Nat) (news : List (Addr × Obj)) (hsz : b.size ≤ 300) (hat : at' ≤ b.size) (hle : 3 ≤ le) (hle2 : le ≤ 6) :
   Ctr w mean mg mb loose 1 93 [.bytes b tb, .int (at' : Int) t1, .int (le : Int) t2] news (fun r news' => news' = news ∧ if at' + le ≤ b.size then ∃ t, r = .int (keyOf b at' le) t else r = .none) := by
  unfold Ctr
  intro dp un gd cn cs a ccd cl outer A₀ base h₀ L m s Q E B F X N T hk hdp hun hret
  refine wpAny_call ?_
  k_dflt ktr_enter
  k_steps
  refine ⟨?_⟩
  rename Fr _ _ _ _ => F9
  rename News _ _ _ _ => N9
  refine slice_nat (s := ⟨_, _, _, _, _⟩) at' (at' + le) F9 N9 rfl (by omega) (by omega) ?_
  clear F9 N9
  intro h9 t9 k9 F9 N9
  have hcs := cut_size b at' (at' + le)
  generalize hcb : cutB b at' (at' + le) = cb at hcs
  k_steps
  · rename Fr h₀ L _ m => F9
    rename News h₀ L _ _ => N9
    refine hret _ _ _ _ ⟨rfl, ?_⟩ F9 (fun p hp => N9 p (List.mem_cons_of_mem _ hp))
    rw [if_neg (by omega)]
  · refine ⟨?_⟩
    rename Fr _ _ _ _ => F9
    rename News _ _ _ _ => N9
    refine enum_call (fun i x => ((x.toNat : Nat) : Int) * 256 ^ (le - 1 - i)) F9 N9 rfl (by rw [sizeLine_eq]; omega) ?_ ?_
    · intro i x t u C oC D oD m₂ h8 tk8 E' hx hC ha hc F8 N8
      clear F9 N9
      have hi : i < cb.size := by
        rcases Nat.lt_or_ge i cb.size with h | h
        · exact h
        · rw [Array.getElem?_eq_none h] at hx; cases hx
      have hx256 := x.toNat_lt
      k_steps
      have e9 : ((le : Int) - 1 - (i : Int)).toNat = le - 1 - i := by omega
      first
        | exact congrArg (fun z => Value.int (((x.toNat : Nat) : Int) * 256 ^ z) _) e9
        | (rw [e9])
    · intro D h8 tk8 ys F8 N8 o8 hys
      clear F9 N9
      k_steps
      rename Fr h₀ L _ m => F9
      rename News h₀ L _ _ => N9
      refine hret _ _ _ _ ⟨rfl, ?_⟩ F9 (fun p hp => N9 p (List.mem_cons_of_mem _ (List.mem_cons_of_mem _ hp)))
      rw [if_pos (by omega), ← hcb, sum_key (by omega)]
      exact ⟨_, rfl⟩
end
section
theorem kall_mine {news : List (Addr × Obj)} {d e : Addr} (h : ∀ p ∈ news, p.1 < d) (hde : @LE.le Nat _ d e) : ∀ p ∈ news, p.1 ≠ e := fun p hp => Nat.ne_of_lt (Nat.lt_of_lt_of_le (h p hp) hde)
theorem near_true {a k wd : Nat} {x y : Array UInt8} (h1 : (a : Int) - (k : Int) ≤ (wd : Int)) (h2 : (x.toList == y.toList) = true) : (decide (a - k ≤ wd) && decide (x = y)) = true := by
  have e : x = y := Array.toList_inj.mp (eq_of_beq h2)
  simp only [Bool.and_eq_true, decide_eq_true_eq]
  exact ⟨by omega, e⟩
theorem near_ne {a k wd : Nat} {x y : Array UInt8} (h2 : (x.toList == y.toList) = false) : (decide (a - k ≤ wd) && decide (x = y)) = false := by
  have e : ¬ x = y := fun e => by subst e; simp at h2
  simp [e]
theorem near_far {a k wd : Nat} {x y : Array UInt8} (hk : k < a) (h1 : ¬ (a : Int) - (k : Int) ≤ (wd : Int)) : (decide (a - k ≤ wd) && decide (x = y)) = false := by
  have e : ¬ a - k ≤ wd := by omega
  simp [e]
theorem src_mem {h₀ : Heap} {ax : Addr} {its : Array Value} {k : Nat} {news : List (Addr × Obj)} (h : (ax, listOf its k) ∈ news) : LCg.SrcAt h₀ ax its news := .inr ⟨_, h, rfl, _, rfl⟩
local macro_rules | `(tactic| k_mem) => `(tactic| assumption)
local macro_rules | `(tactic| k_all) => `(tactic| exact all_app (kall_mine (by assumption) (by omega)) (by assumption) (by k_mem) (by assumption))
local macro_rules | `(tactic| k_all) => `(tactic| exact kall_mine (by assumption) (by omega))
local macro_rules | `(tactic| k_ne) => `(tactic| (refine neN ?_; (try dsimp only); first | assumption | exact Ne.symm (by assumption)))
local macro_rules | `(tactic| walk_at "FinE") => `(tactic| ((unfold LCg.FinE); intro D' h' tk' F' N' o1'; (try simp only [LCg.Off1, and_true] at o1'); (repeat (obtain ⟨_, o1'⟩ := o1')); (try simp only [List.nil_append, List.cons_append] at N'); (try dsimp only)))
local macro_rules | `(tactic| walk_at "FinA") => `(tactic| ((unfold LCg.FinA); intro D' h' tk' F' N' o1'; (try simp only [LCg.Off1, and_true] at o1'); (repeat (obtain ⟨_, o1'⟩ := o1')); (try simp only [List.nil_append, List.cons_append] at N'); (try dsimp only)))
local macro_rules | `(tactic| walk_at "exec Assign cons ListComp") => `(tactic| (k_here; k_dflt (refine LCg.Assign_ListComp_U (F₀ := by k_asm) (by rfl) (by with_unfolding_all rfl) (by with_unfolding_all rfl) (by decide) (by rfl) (by decide) (by rfl) (by rfl) (by rfl) ?_)))
local macro_rules | `(tactic| walk_at "exec Assign cons ListComp") => `(tactic| (k_here; lct_look; k_dflt (refine LCt.Assign_ListComp_T (F₀ := by k_asm) (by rfl) (by with_unfolding_all rfl) (by with_unfolding_all rfl) (by decide) (by rfl) (by decide) (by rfl) (by rfl) (by rfl) ?_)))
local macro_rules | `(tactic| walk_at "eval ListComp") => `(tactic| (k_here; k_dflt (refine LCp.ListComp_P (F₀ := by k_asm) (by with_unfolding_all rfl) (by decide) (by rfl) (by decide) (by rfl) (by rfl) (by decide) ?_)))
local macro_rules | `(tactic| walk_at "eval ListComp") => `(tactic| (k_here; lct_look; k_dflt (refine LCt.ListComp_T (F₀ := by k_asm) (by with_unfolding_all rfl) (by decide) (by rfl) (by decide) (by rfl) ?_)))
local macro_rules | `(tactic| walk_at "CompSrcT") => `(tactic| refine stopIt ?_)
local macro_rules | `(tactic| walk_at "subscriptTail Name Slice ref ref") => `(tactic| (k_here; (with_reducible show wpAny _ _ (subscriptTail _ (Expr.Slice none (some _) none _) (Value.ref _) (Value.ref _)) _ _ _); refine stopIt ?_))
local macro_rules | `(tactic| walk_at "call ref") => `(tactic| (k_here; (with_reducible show wpAny _ _ (call (Value.ref 83) _) _ _ _); k_dflt (refine' Ctr.use ?k1 ?k2 ?k3 ?k4 ?k5 ?kK (alike_ctr _ _ _ _ _ _ _ _ _ _ _ _ ?c1 ?c2 ?c3) ?kd ?ku ?_; (case k1 => k_asm); (case k2 => k_asm); (case k3 => k_asm); (case k4 => k_asm); (case k5 => k_asm); (case kK => first | exact rfl | assumption); (case c1 => omega); (case c2 => omega); (case c3 => omega); (case kd => ktr_room); (case ku => ktr_units)); intro r9 news9 h9 tk9 hR9 F9 N9; obtain ⟨hn9, t9, hr9⟩ := hR9; subst hn9; subst hr9; (try dsimp only); (try k_fold)))
local macro_rules | `(tactic| walk_at "compareOp NotEq ref ref") => `(tactic| (k_here; (with_reducible show wpAny _ _ (compareOp CmpOp.NotEq (Value.ref _) (Value.ref _)) _ _ _); k_dflt (refine' ne_empty ?a ?b ?u ?_; (case a => is_list); (case b => is_list); (case u => units_room))))
local macro_rules | `(tactic| walk_at "subscriptTail") => `(tactic| (k_here; (with_reducible show wpAny _ _ (subscriptTail (Expr.ListComp _ _ _ _) _ (Value.ref _) (Value.int _ _)) _ _ _); refine stopIt ?_))
local macro_rules | `(tactic| walk_at "SrcLP") => `(tactic| refine stopIt ?_)
noncomputable abbrev tup3 (a : Int) (ta : Tok) (b : Int) (tb : Tok) (c : Int) (tc : Tok) : Obj := { cls := .type "tuple", data := .seq [.int a ta, .int b tb, .int c tc].toArray }
noncomputable def nearB (b : Array UInt8) (at' wd le : Nat) (noted : List Nat) : List Nat := noted.reverse.filter fun k => decide (at' - k ≤ wd) && decide (cutB b k (k + le) = cutB b at' (at' + le))
noncomputable def bestP (b : Array UInt8) (at' wd ch le : Nat) (noted : List Nat) : Nat × Nat := if at' + le ≤ b.size then pick (((nearB b at' wd le noted).take ch).map (mkP b at')) else (0, 0)
set_option maxRecDepth 100000 in
set_option maxHeartbeats 8000000 in
theorem best_ctr (w : World) (loose : List Str) (mean : ExcName → Option Value) (mg mb : Str → Option Value) (b : Array UInt8) (at' : Nat) (tb t1 : Tok) (nt ru : Addr) (wd ch le : Nat) (twd tch tle : Tok) (vs : List Value) (n : Nat) (noted : List Nat) (news : List (Addr × Obj)) (hsz : b.size ≤ 300) (hat : at' ≤ b.size) (hle : 3 ≤ le) (hle2 : le ≤ 6) (hwd : wd ≤ 32768) (hch : ch ≤ 4)
   (hnt : (nt, listOf vs.toArray n) ∈ news) (hI : IntsAre vs (noted.map fun (p : Nat) => (p : Int))) (hln : noted.length ≤ 300) (hlt : ∀ p ∈ noted, p < at') (hru : (ru, tup3 wd twd ch tch le tle) ∈ news) :
   Ctr w mean mg mb loose 2 88 [.bytes b tb, .ref nt, .int (at' : Int) t1, .ref ru] news (fun r news' => ∃ f t t', r = .ref f ∧ news' = (f, tup2 ((bestP b at' wd ch le noted).1 : Int) t ((bestP b at' wd ch le noted).2 : Int) t') :: news) := by
  unfold Ctr
  intro dp un gd cn cs a ccd cl outer A₀ base h₀ L m s Q E B F X N T hk hdp hun hret
  refine wpAny_call ?_
  k_dflt ktr_enter
  k_steps
  refine ⟨?_⟩
  rename Fr _ _ _ _ => F9
  rename News _ _ _ _ => N9
  refine slice_nat (s := ⟨_, _, _, _, _⟩) at' (at' + le) F9 N9 rfl (by omega) (by omega) ?_
  clear F9 N9
  intro h9 t9 k9 F9 N9
  have hcs := cut_size b at' (at' + le)
  generalize hcb : cutB b at' (at' + le) = cb at hcs
  k_steps
  · rename Fr h₀ L _ m => F9
    rename News h₀ L _ _ => N9
    have hb9 : bestP b at' wd ch le noted = (0, 0) := if_neg (by omega)
    simp only [hb9] at hret
    exact hret _ _ _ _ ⟨_, _, _, rfl, rfl⟩ F9 (led_head news N9 fun p hp => by repeat' (first | with_reducible exact hp | refine List.mem_cons_of_mem _ ?_))
  · have hfit : at' + le ≤ b.size := by omega
    have hle258 : le ≤ 258 := by omega
    have hle0 : 0 < le := by omega
    refine ⟨?_⟩
    rename Fr _ _ _ _ => F9
    rename News _ _ _ _ => N9
    rename IntsAre _ (List.reverse _) => hI9
    rw [← List.map_reverse] at hI9
    have hl9 := ints_len hI9
    simp only [List.length_map, List.length_reverse] at hl9
    k_dflt (refine' LCt.CompSrcT.ledger (by rfl) F9 N9 (by k_mem) ?sz ?R)
    case sz => rw [sizeLine_eq, List.size_toArray]; omega
    case R =>
      intro g9
      k_dflt (refine' restT_ints hI9 (fun k => decide (at' - k ≤ wd) && decide (cutB b k (k + le) = cb)) ?turn ?fin)
      case turn =>
        intro k t I oI C oC D m₂ ys h8 tk8 E' hk9 hC hx F8 N8 off8 ne8
        clear F9 N9
        have off8' := off8
        have hk8 := hlt k (List.mem_reverse.mp hk9)
        k_steps
        · refine ⟨?_⟩
          rename Fr _ _ _ _ => F9
          rename News _ _ _ _ => N9
          refine slice_nat (s := ⟨_, _, _, _, _⟩) k (k + le) F9 N9 rfl (by omega) (by omega) ?_
          clear F9 N9
          intro h9 t9 k9 F9 N9
          k_steps
          · exact LCg.CompEnd.intro (by assumption) (by assumption) _ (fun p hp => hp) off8' (src_mem (by k_mem)) ⟨rfl, near_true (by assumption) (by assumption), _, rfl⟩
          · exact LCg.CompEnd.intro (by assumption) (by assumption) _ (fun p hp => hp) off8' (src_mem (by k_mem)) ⟨rfl, near_ne (by assumption)⟩
        · exact LCg.CompEnd.intro (by assumption) (by assumption) _ (fun p hp => hp) off8' (src_mem (by k_mem)) ⟨rfl, near_far (by assumption) (by assumption)⟩
      case fin =>
        intro ys hys
        k_steps
        refine ⟨?_⟩
        clear F9 N9
        rename Fr _ _ _ _ => F9
        rename News _ _ _ _ => N9
        have hlf : (List.filter (fun k => decide (at' - k ≤ wd) && decide (cutB b k (k + le) = cb)) noted.reverse).length ≤ 300 := by
          have := List.length_filter_le (fun k => decide (at' - k ≤ wd) && decide (cutB b k (k + le) = cb)) noted.reverse
          rw [List.length_reverse] at this
          omega
        k_dflt (refine' slice_take (s := ⟨_, _, _, _, _⟩) F9 N9 (.head _) hys (by omega) ?_)
        clear F9 N9
        intro D7 ws7 h7 F9 N9 l7 hws
        k_lt l7
        have hl7 := ints_len hws
        simp only [List.length_map, List.length_take] at hl7
        have hb7 : ws7.length ≤ 300 := by
          rw [hl7]
          exact Nat.le_trans (Nat.min_le_right _ _) hlf
        clear hl7
        k_steps
        refine ⟨?_⟩
        k_dflt (refine' LCg.CompSrc.ledger (by rfl) F9 N9 (.head _) ?sz ?R)
        case sz => rw [sizeLine_eq, List.size_toArray]; exact Nat.le_trans hb7 (Nat.le_of_ble_eq_true rfl)
        case R =>
          intro g8
          k_dflt (refine' restU_tups hws (mkP b at') ?turn ?mono ?fin)
          case mono => exact fun l l' hs h => h.elim .inl fun ⟨o, h, r⟩ => .inr ⟨o, hs _ h, r⟩
          case turn =>
            intro k t I oI C oC D m₂ ys nw h8 tk8 E' hk9 hC hx F8 N8 off8 ne8
            clear F9 N9
            have off8' := off8
            simp only [List.cons_append] at N8
            have hk8 := hlt k (List.mem_reverse.mp (List.mem_filter.mp (List.mem_of_mem_take hk9)).1)
            k_steps
            have e9 : ((at' : Int) - (k : Int)) = ((at' - k : Nat) : Int) := by omega
            simp only [e9] at *
            rename Fr _ _ _ _ => F9
            rename News _ _ _ _ => N9
            exact LCg.CompEnd.intro F9 N9 _ rot4 (off3_cons (by omega) (by omega) (by omega) off8') (src_mem (.tail _ (.head _))) ⟨_, _, _, rfl, rfl⟩
          case fin =>
            intro ys nw hT hAT
            unfold LCg.FinA
            intro D8 h8 tk8 F8 N8 o8
            clear F9 N9
            simp only [List.cons_append] at N8 o8
            have hNC := NoCell.of N8 (fun p hp => by repeat' (first | with_reducible exact List.mem_append_right _ hp | refine List.mem_cons_of_mem _ ?_)) hAT
            simp only [LCg.Off1, and_true] at o8
            repeat (obtain ⟨_, o8⟩ := o8)
            have hl8 := hT.1
            simp only [List.length_map, List.length_take] at hl8
            have hb8 : ys.length ≤ 300 := by
              rw [hl8]
              exact Nat.le_trans (Nat.min_le_right _ _) hlf
            clear hl8
            dsimp only
            k_steps
            refine ⟨?_⟩
            rename Fr _ _ _ _ => F9
            rename News _ _ _ _ => N9
            k_dflt (refine' LCp.SrcLP.ledger (by rfl) F9 N9 (by k_mem) ?sz ?R)
            case sz => rw [sizeLine_eq, List.size_toArray]; exact Nat.le_trans hb8 (Nat.le_of_ble_eq_true rfl)
            case R =>
              intro g7
              k_dflt (refine' restP_fst (hT.mono fun p hp => by repeat' (first | with_reducible exact List.mem_append_right _ hp | refine List.mem_cons_of_mem _ ?_)) ?turn ?fin)
              case turn =>
                intro q t t' I oI C oC D m₂ ys7 h8 tk8 E' hk9 hC hx hx₂ F8 N8 off8 ne8
                clear F9 N9
                k_steps
                exact LCg.CompEnd.intro (by assumption) (by assumption) _ (fun p hp => hp) off8 (src_mem (by k_mem)) ⟨rfl, _, rfl⟩
              case fin =>
                intro ys7 hI7
                clear F9 N9
                have hl7' := ints_len hI7
                simp only [List.length_map, List.length_take] at hl7'
                have hb7' : ys7.length ≤ 300 := by
                  rw [hl7']
                  exact Nat.le_trans (Nat.min_le_right _ _) hlf
                clear hl7'
                k_steps
                · rename List.isEmpty _ = true => hE
                  have hys : ys = [] := by
                    cases ys with
                    | nil => rfl
                    | cons y r => simp at hE
                  have hps : List.map (mkP b at') (List.take ch (List.filter (fun k => decide (at' - k ≤ wd) && decide (cutB b k (k + le) = cb)) noted.reverse)) = [] := by
                    have := hT.1
                    rw [hys] at this
                    exact List.length_eq_zero_iff.mp this.symm
                  have hb9 : bestP b at' wd ch le noted = (0, 0) := by
                    unfold bestP nearB
                    rw [if_pos hfit, hcb, hps]
                    rfl
                  rename Fr h₀ L _ m => F9
                  rename News h₀ L _ _ => N9
                  simp only [hb9] at hret
                  exact hret _ _ _ _ ⟨_, _, _, rfl, rfl⟩ F9 (led_head news N9 fun p hp => by repeat' (first | with_reducible exact List.mem_append_left _ hp | refine List.mem_cons_of_mem _ ?_))
                · have hE : ys.isEmpty ≠ true := by
                    first | assumption | (rename List.isEmpty _ = false => hE; rw [hE]; decide)
                  rename Int => M9
                  rename M9 ∈ [0] ++ _ => hM1
                  rename ∀ (a : Int), a ∈ [0] ++ _ → a ≤ _ => hM2
                  have hps : List.map (mkP b at') (List.take ch (List.filter (fun k => decide (at' - k ≤ wd) && decide (cutB b k (k + le) = cb)) noted.reverse)) ≠ [] := by
                    intro h
                    have := hT.1
                    rw [h] at this
                    have := List.length_eq_zero_iff.mp this
                    subst this
                    simp at hE
                  have hpk := pick_head hps (fun x hx => by
                    obtain ⟨p, hp, rfl⟩ := List.mem_map.mp hx
                    have hp := List.mem_filter.mp (List.mem_of_mem_take hp)
                    have h1 := hlt p (List.mem_reverse.mp hp.1)
                    have h2 := hp.2
                    simp only [Bool.and_eq_true, decide_eq_true_eq] at h2
                    have h3 := (cut_iff (b := b) (Nat.le_of_lt h1) hle258 hfit).mp (h2.2.trans hcb.symm)
                    exact Nat.lt_of_lt_of_le hle0 h3) (M := M9) (by
                    rcases List.mem_append.mp hM1 with h | h
                    · left; simpa using h
                    · right; exact h) (fun x hx => hM2 _ (List.mem_append_right _ (List.mem_map_of_mem hx)))
                  refine ⟨?_⟩
                  rename Fr _ _ _ _ => F9
                  rename News _ _ _ _ => N9
                  k_dflt (refine' LCt.CompSrcT.ledger (by rfl) F9 N9 (by k_mem) ?sz ?R)
                  case sz => rw [sizeLine_eq, List.size_toArray]; exact Nat.le_trans hb8 (Nat.le_of_ble_eq_true rfl)
                  case R =>
                    intro g6
                    k_dflt (refine' restT_tups (hT.mono fun p hp => by repeat' (first | with_reducible exact List.mem_append_right _ hp | refine List.mem_cons_of_mem _ ?_)) (fun q => decide ((q.1 : Int) = M9)) ?turn ?fin)
                    case turn =>
                      intro q r t t' I oI C oC D m₂ ys7 h8 tk8 E' hq hm hC hx F8 N8 off8 ne8
                      clear F9 N9
                      have hm' : (r, tup2 (q.1 : Int) t (q.2 : Int) t') ∈ (I, oI) :: (C, oC) :: (D, LCg.lst ys7) :: _ := .tail _ (.tail _ (.tail _ hm))
                      k_steps
                      · exact LCg.CompEnd.intro (by assumption) (by assumption) _ (fun p hp => hp) off8 (src_mem (by k_mem)) ⟨rfl, by first | exact decide_eq_true (by assumption) | (simp only [decide_eq_true_eq]; omega), rfl⟩
                      · exact LCg.CompEnd.intro (by assumption) (by assumption) _ (fun p hp => hp) off8 (src_mem (by k_mem)) ⟨rfl, by first | exact decide_eq_false (by assumption) | (simp only [decide_eq_false_iff_not]; omega)⟩
                    case fin =>
                      intro ys9 hT9
                      clear F9
                      k_steps
                      refine ⟨?_⟩
                      rename Fr _ _ _ _ => F7
                      rename News _ _ _ _ => N7
                      k_dflt (refine' item_tups N7 (.head _) (hT9.mono fun p hp => .tail _ hp) hpk ?_)
                      intro f9 u9 u9' hm9
                      k_steps
                      clear F7 N7
                      have hb9 : bestP b at' wd ch le noted = pick (List.map (mkP b at') (List.take ch (List.filter (fun k => decide (at' - k ≤ wd) && decide (cutB b k (k + le) = cb)) noted.reverse))) := by
                        unfold bestP nearB
                        rw [if_pos hfit, hcb]
                      rename Fr h₀ L _ m => F7
                      rename News h₀ L _ _ => N7
                      simp only [hb9] at hret
                      exact hret _ _ _ _ ⟨_, _, _, rfl, rfl⟩ F7 (led_mem news N7 hm9 fun p hp => by repeat' (first | with_reducible exact List.mem_append_left _ hp | refine List.mem_cons_of_mem _ ?_))
end
section
noncomputable abbrev stO (pool : Addr) (c : Int) (tc : Tok) (n : Nat) : Obj := listOf [.ref pool, .int c tc].toArray n
theorem draw_use {w : World} {mean : ExcName → Option Value} {mg mb : Str → Option Value} {loose : List Str} {st pool : Addr} {n n' : Nat} {vs : List Value} {ns : List Int} {c : Int} {tc : Tok} {many : Int} {tm : Tok} {led r1 r2 : List (Addr × Obj)}
    {dp un : Nat} {gd : Option (List Code)} {cn : Str} {cs : Scope} {a : Addr} {ccd : Value} {cl : List (Str × Addr)} {outer : List Env} {A₀ : Around} {base h₀ : Heap} {L : Addr} {m : Str → Option Value} {s : Shared} {Q E : Value → Shared → Prop}
    (N : News h₀ L s.heap led) (P1 : Pick st (stO pool c tc n) led r1) (P2 : Pick pool (listOf vs.toArray n') r1 r2) (hne : @Ne Nat st pool) (hoff : OwnOff r2 [st, pool]) (hI : IntsAre vs ns) (hlen : ns.length ≤ 63) (hmany : 0 < many)
    (B : Below A₀ base outer h₀) (F : Fr h₀ L s.heap m) (X : (hd.heap_39 w.params).In h₀) (T : Top hd.view_39 loose mean mg mb h₀) (hk : cs.kind = .function) (hdp : dp + 10 < recursionLimit) (hun : un + 400 < cLine)
    (ret : ∀ x t c' tc' vs' ns' n1 n1' h' tk', 0 ≤ x → x < many → IntsAre vs' ns' → ns'.length ≤ 63 → Fr h₀ L h' m → News h₀ L h' ((st, stO pool c' tc' n1) :: (pool, listOf (List.toArray vs') n1') :: r2) → Q (.int x t) { s with heap := h', toks := tk' }) :
    wpAny (model Challenge.rw_pq0514_01.row.prog w) (ktrTop dp un gd cn cs L a ccd cl outer) (call (.ref 71) [.ref st, .int many tm]) Q E s := by
  refine Ctr.use B F X (fun p hp => N p (Pick.two P1 P2 p hp)) T hk (draw_ctr (c := c) (tc := tc) hne hoff hI hlen hmany) (by omega) (by omega) ?_
  rintro r news' h' tk' ⟨x, t, c', tc', vs', ns', n1, n1', rfl, h0, h1, hI', hl', rfl⟩ F' N'
  exact ret x t c' tc' vs' ns' n1 n1' h' tk' h0 h1 hI' hl' F' N'
theorem comp_perm {α : Type} {i c d s p : α} {r : List α} : ∀ q ∈ i :: c :: d :: s :: p :: r, q ∈ s :: p :: i :: c :: d :: r := fun q hq => by
  simp only [List.mem_cons] at hq ⊢
  rcases hq with h | h | h | h | h | h
  · exact .inr (.inr (.inl h))
  · exact .inr (.inr (.inr (.inl h)))
  · exact .inr (.inr (.inr (.inr (.inl h))))
  · exact .inl h
  · exact .inr (.inl h)
  · exact .inr (.inr (.inr (.inr (.inr h))))
section
variable {prog : Program} {w : World} {A : Around} {h₀ : Heap} {L : Addr} {m : Str → Option Value} {env : Env} {elt : Expr} {x : Str} {scope : Scope} {cl : List (Str × Addr)} {s : Shared} {Fin : List Value → List (Addr × Obj) → Prop}
open LCg in
theorem rest_draws {st pool : Addr} {rest : List (Addr × Obj)} {kinds : Int} {n : Nat} {P : Nat → Value → Prop}
    (turn : ∀ (c : Int) tc n1 n2 vs ns v I oI C oC D m₂ ys h tk (E' : Value → Shared → Prop), IntsAre vs ns → ns.length ≤ 63 → NsObj oC m₂ → m₂ x = some v → Fr h₀ L h m → News h₀ L h ((I, oI) :: (C, oC) :: (D, lst ys) :: (st, stO pool c tc n1) :: (pool, listOf (List.toArray vs) n2) :: rest) →
      Off3 I C D ((st, stO pool c tc n1) :: (pool, listOf (List.toArray vs) n2) :: rest) → ((@Ne Nat I C) ∧ (@Ne Nat I D) ∧ (@Ne Nat C D)) →
      wpAny (model prog w) A (eval elt (compEnvC scope cl C env)) (CompEnd h₀ L m { s with heap := h, toks := tk } I oI C oC D (lst ys) (fun _ => True)
        (fun y news' => ∃ z t c' tc' vs' ns' n1' n2', y = .int z t ∧ 97 ≤ z ∧ z < 97 + kinds ∧ IntsAre vs' ns' ∧ ns'.length ≤ 63 ∧ news' = (st, stO pool c' tc' n1') :: (pool, listOf (List.toArray vs') n2') :: rest)) E' { s with heap := h, toks := tk })
    (fin : ∀ ys xs c tc n1 n2 vs ns, IntsAre ys xs → xs.length = n → (∀ z ∈ xs, 97 ≤ z ∧ z < 97 + kinds) → IntsAre vs ns → ns.length ≤ 63 → Fin ys ((st, stO pool c tc n1) :: (pool, listOf (List.toArray vs) n2) :: rest))
    {c : Int} {tc : Tok} {n1 n2 : Nat} {vs : List Value} {ns : List Int} (hI : IntsAre vs ns) (hlen : ns.length ≤ 63) :
    CompRest prog w A h₀ L m env elt x scope cl s (fun _ => True) P Fin n 0 [] ((st, stO pool c tc n1) :: (pool, listOf (List.toArray vs) n2) :: rest) := by
  have key : ∀ (j i : Nat) (ys : List Value) (xs : List Int) (c : Int) (tc : Tok) (n1 n2 : Nat) (vs : List Value) (ns : List Int), i + j = n → xs.length = i → IntsAre ys xs → (∀ z ∈ xs, 97 ≤ z ∧ z < 97 + kinds) → IntsAre vs ns → ns.length ≤ 63 →
      CompRest prog w A h₀ L m env elt x scope cl s (fun _ => True) P Fin j i ys ((st, stO pool c tc n1) :: (pool, listOf (List.toArray vs) n2) :: rest) := by
    intro j
    induction j with
    | zero =>
      intro i ys xs c tc n1 n2 vs ns hi hx hy hb hI hl
      exact fin ys xs c tc n1 n2 vs ns hy (by omega) hb hI hl
    | succ j ih =>
      intro i ys xs c tc n1 n2 vs ns hi hx hy hb hI hl
      refine CompRest.succ ?_
      intro v I oI C oC D m₂ h tk E' hv hC hx' F N off ne
      refine wpAny_mono (turn c tc n1 n2 vs ns v I oI C oC D m₂ ys h tk E' hI hl hC hx' F N off ne) (fun y s'' hq => ?_) fun _ _ e => e
      obtain ⟨h', tk', nw', e', F', N', off', hS, z, t, c', tc', vs', ns', n1', n2', hy', h0, h1, hI', hl', hn⟩ := hq
      subst hn hy'
      refine ⟨h', tk', _, e', F', N', off', hS, ih (i + 1) _ (xs ++ [z]) c' tc' n1' n2' vs' ns' (by omega) (by simp [hx]) (IntsAre.append hy (.cons _ _ .nil)) (fun q hq => ?_) hI' hl'⟩
      rcases List.mem_append.mp hq with hq | hq
      · exact hb q hq
      · rw [List.mem_singleton.mp hq]; exact ⟨h0, h1⟩
  exact key n 0 [] [] c tc n1 n2 vs ns (by omega) rfl .nil (fun z hz => nomatch hz) hI hlen
end
section
variable {prog : Program} {w : World} {A : Around} {E : Value → Shared → Prop} {s : Shared} {h₀ : Heap} {L D : Addr} {m : Str → Option Value} {news : List (Addr × Obj)} {Q : Value → Shared → Prop}
theorem bytes_of {vs : List Value} {xs : List Int} {c : Nat} (F : Fr h₀ L s.heap m) (N : News h₀ L s.heap news) (hh : A.handled = none) (hm : (D, listOf vs.toArray c) ∈ news) (hi : IntsAre vs xs) (hr : ∀ z ∈ xs, 0 ≤ z ∧ z < 256) (hn : xs.length ≤ 16777216)
    (h : ∀ (l : List UInt8) h' t' k, l.length = xs.length → Fr h₀ L h' m → News h₀ L h' news → Q (.bytes l.toArray t') { s with heap := h', toks := k }) : wpAny (model prog w) A (call (.type "bytes") [.ref D]) Q E s :=
  KBa.make_K F N hh (⟨_, (N _ hm).1, rfl, c, rfl⟩ : s.heap.IsList D vs.toArray) hi hr hn fun h' t' k F' N' _ => by
    have := h (byteArr xs).toList h' t' k (by rw [Array.length_toList, byteArr_size]) F' N'
    simpa using this
theorem bytes_times {l : List UInt8} {n : Int} {t u : Tok} (hb : l ≠ []) (hlo : 0 ≤ n) (hn : n ≤ 1048576) (hs : l.length ≤ 16) (h : ∀ (l' : List UInt8) t' k, l'.length = n.toNat * l.length → Q (.bytes l'.toArray t') { s with toks := k }) :
    wpAny (model prog w) A (binaryOp .Mult (.bytes l.toArray t) (.int n u)) Q E s :=
  bytes_mul_any hb (by omega) hn hs fun t' k => h _ t' k (by simp)
theorem slice_size {value slice : PySem.Expr} {b : Array UInt8} {t tj : Tok} {j : Int} (hF : Fr h₀ L s.heap m) (hN : News h₀ L s.heap news) (hz : b.size ≤ 16777216)
    (h : ∀ (b' : Array UInt8) h' t' k, b'.size ≤ b.size → (0 ≤ j → b'.size ≤ j.toNat) → Fr h₀ L h' m → News h₀ L h' news → Q (.bytes b' t') { s with heap := h', toks := k })
    (hs : subscripted slice false (.bytes b t) (.ref s.heap.objs.size) = operate [.ref s.heap.objs.size, .bytes b t] (getItem (.bytes b t) (.ref s.heap.objs.size)) := by with_unfolding_all rfl)
    (ht : ∀ r, letTemporaryGo value (.bytes b t) r = pure () := by intro _; with_unfolding_all rfl) :
    wpAny (model prog w) A (subscriptTail value slice (.bytes b t) (.ref s.heap.objs.size)) Q E { s with heap := s.heap.push { cls := .type "slice", data := .fields #[.none, .int j tj, .none] } } := by
  refine KBc.slice_K (lo := none) (hi := some j) hF hN rfl .none (.int j tj) (by rw [KBw.ints_length]; exact hz) (fun h' t' k F' N' _ => h _ h' t' k (KBc.size_picked_le _ _ _) (fun hj => ?_) F' N') hs ht
  rw [KBc.picked_eq]
  obtain ⟨j', rfl⟩ := Int.eq_ofNat_of_zero_le hj
  simp only [Option.elim, clipAt_nat, Int.toNat_natCast, List.size_toArray, List.length_take]
  omega
end
theorem kall_lt {news : List (Addr × Obj)} {d e : Addr} (h : AllLt d news) (hde : @LE.le Nat _ d e) : ∀ p ∈ news, p.1 ≠ e := fun p hp => Nat.ne_of_lt (Nat.lt_of_lt_of_le (kst_ltOf h p hp) hde)
open LCg in
theorem off3_new {I C D st pool : Addr} {o o' q q' : Obj} {r : List (Addr × Obj)} (h : Off3 I C D ((st, o) :: (pool, o') :: r)) : Off3 I C D ((st, q) :: (pool, q') :: r) := ⟨h.1, h.2.1, h.2.2⟩
theorem news_perm {h₀ h : Heap} {L st pool : Addr} {led r1 r2 : List (Addr × Obj)} {c : Int} {tc : Tok} {n n' : Nat} {vs : List Value} (N : News h₀ L h led) (P1 : Pick st (stO pool c tc n) led r1) (P2 : Pick pool (listOf vs.toArray n') r1 r2) :
    News h₀ L h ((st, stO pool c tc n) :: (pool, listOf vs.toArray n') :: r2) := fun p hp => N p (Pick.two P1 P2 p hp)
theorem news_drop {h₀ h : Heap} {L : Addr} {a b : Addr × Obj} {r2 : List (Addr × Obj)} (rest : List (Addr × Obj)) (N : News h₀ L h (a :: b :: r2)) (hs : ∀ p ∈ rest, p ∈ r2) : News h₀ L h (a :: b :: rest) := fun p hp => N p (by
  rcases List.mem_cons.mp hp with rfl | hp
  · exact .head _
  · rcases List.mem_cons.mp hp with rfl | hp
    · exact .tail _ (.head _)
    · exact .tail _ (.tail _ (hs p hp)))
end
section
local macro_rules | `(tactic| k_all) => `(tactic| exact kall_lt (by assumption) (by omega))
local macro_rules | `(tactic| walk_at "eval ListComp") => `(tactic| (k_here; k_dflt (refine LCg.ListComp_U (F₀ := by k_asm) (by with_unfolding_all rfl) (by decide) (by rfl) (by decide) (by rfl) ?_)))
local macro_rules | `(tactic| walk_at "call type:bytes") => `(tactic| refine stopIt ?_)
local macro_rules | `(tactic| walk_at "binaryOp Mult bytes int") => `(tactic| refine stopIt ?_)
local macro_rules | `(tactic| walk_at "binaryOp Add bytes bytes") => `(tactic| refine stopIt ?_)
local macro_rules | `(tactic| walk_at "call ref") => `(tactic| (k_here; (with_reducible show wpAny _ _ (call (Value.ref 71) _) _ _ _); k_dflt (refine' draw_use ?N ?P1 ?P2 ?hne ?hoff ?hI ?hlen ?many ?B ?F ?X ?T ?hk ?kd ?ku ?_; (case N => k_asm); (case P1 => (first | exact Pick.head | exact (Pick.tail Pick.head) | exact (Pick.tail (Pick.tail Pick.head)) | exact (Pick.tail (Pick.tail (Pick.tail Pick.head))) | exact (Pick.tail (Pick.tail (Pick.tail (Pick.tail Pick.head)))))); (case P2 => (first | exact Pick.head | exact (Pick.tail Pick.head) | exact (Pick.tail (Pick.tail Pick.head)) | exact (Pick.tail (Pick.tail (Pick.tail Pick.head))) | exact (Pick.tail (Pick.tail (Pick.tail (Pick.tail Pick.head)))))); (case hne => assumption); (case hoff => repeat' (first | assumption | refine off_cons2 (neN (by (try dsimp only); first | assumption | exact Ne.symm (by assumption) | omega)) (neN (by (try dsimp only); first | assumption | exact Ne.symm (by assumption) | omega)) ?_)); (case hI => assumption); (case hlen => assumption); (case many => omega); (case B => k_asm); (case F => k_asm); (case X => k_asm); (case T => k_asm); (case hk => first | exact rfl | assumption); (case kd => ktr_room); (case ku => ktr_units)); intro x9 t9 c9 tc9 vs9 ns9 n9 n9' h9 tk9 hx9 hy9 hI9 hl9 F9 N9; (try dsimp only); (try k_fold)))
set_option maxRecDepth 100000 in
set_option maxHeartbeats 8000000 in
theorem octets_ctr {w : World} {loose : List Str} {mean : ExcName → Option Value} {mg mb : Str → Option Value}
   {st pool : Addr} {n n' : Nat} {vs : List Value} {ns : List Int} {c : Int} {tc : Tok} {rest : List (Addr × Obj)}
   (hne : @Ne Nat st pool) (hoff : OwnOff rest [st, pool]) (hI : IntsAre vs ns) (hlen : ns.length ≤ 63) :
   Ctr w mean mg mb loose 2 76 [.ref st] ((st, stO pool c tc n) :: (pool, listOf vs.toArray n') :: rest)
     (fun r news' => ∃ b t c' tc' vs' ns' n1 n1', r = .bytes b t ∧ b.size ≤ 300 ∧ IntsAre vs' ns' ∧ ns'.length ≤ 63 ∧ news' = (st, stO pool c' tc' n1) :: (pool, listOf (List.toArray vs') n1') :: rest) := by
  unfold Ctr
  intro dp un gd cn cs a ccd cl outer A₀ base h₀ L m s Q E B F X N T hk hdp hun hret
  refine wpAny_call ?_
  k_dflt ktr_enter
  rename _ ∧ _ ∧ AllLt _ _ => hlL
  obtain ⟨hlL1, hlL2, hlL3⟩ := hlL
  k_steps
  · refine ⟨?_⟩
    rename Fr _ _ _ _ => F9
    rename News _ _ _ _ => N9
    rename IsRange _ _ _ _ _ _ _ _ => hr9
    k_dflt (refine' LCg.CompSrc.range (by rfl) F9 N9 hr9 ?sm (rangeSize_nat _ _) ?sz ?R)
    case sm => exact small_one (by omega) (by omega) (by omega) (by omega)
    case sz => rw [sizeLine_eq]; omega
    case R =>
      intro g9
      k_dflt (refine' rest_draws (kinds := 2) ?turn ?fin (by assumption) (by assumption))
      case turn =>
        intro c7 tc7 n7 n7' vs7 ns7 v I oI C oC D m₂ ys h8 tk8 E' hI7 hl7 hC hx F8 N8 off8 ne8
        clear F9 N9 hr9
        have off8' := off8
        obtain ⟨⟨_, _, _⟩, ⟨_, _, _⟩, _⟩ := off8
        k_steps
        rename Fr _ _ _ _ => F9
        rename News _ _ _ _ => N9
        exact LCg.CompEnd.intro F9 N9 _ comp_perm (off3_new off8') trivial ⟨_, _, _, _, _, _, _, _, rfl, by omega, by omega, by assumption, by assumption, rfl⟩
      case fin =>
        intro ys xs c7 tc7 n7 n7' vs7 ns7 hys hxl hb hI7 hl7
        clear F9 N9 hr9
        k_steps
        refine ⟨?_⟩
        rename (@Ne Nat _ _) ∧ _ => oo
        obtain ⟨_, _, oo⟩ := oo
        clear oo
        rename Fr _ _ _ _ => F9
        rename News _ _ _ _ => N9
        k_dflt (refine' bytes_of F9 N9 (by rfl) (.head _) hys (fun z hz => by have := hb z hz; omega) (by omega) ?_)
        clear F9 N9
        intro l7 h7 t7 k7 hll F9 N9
        k_steps
        refine ⟨?_⟩
        refine bytes_times (by intro h; subst h; simp only [List.length_nil] at hll; omega) (by omega) (by omega) (by omega) ?_
        intro l6 t6 k6 hl6
        have hl5 : l6.length ≤ 266 * 3 := by
          rw [hl6]
          exact Nat.mul_le_mul (by omega) (by omega)
        k_steps
        refine ⟨?_⟩
        rename Fr _ _ _ _ => F9
        rename News _ _ _ _ => N9
        refine slice_size (s := ⟨_, _, _, _, _⟩) F9 N9 (by rw [List.size_toArray]; omega) ?_
        clear F9 N9
        intro b5 h5 t5 k5 hb5 hb5' F9 N9
        have hb5 := hb5' (by omega)
        clear hb5'
        k_steps
        · refine ⟨?_⟩
          rename Fr _ _ _ _ => F9
          rename News _ _ _ _ => N9
          refine slice_size (s := ⟨_, _, _, _, _⟩) F9 N9 (by omega) ?_
          clear F9 N9
          intro b4 h4 t4 k4 hb4 _ F9 N9
          k_steps
          refine ⟨?_⟩
          refine KBy.add_bytes (by show b4.size + 1 ≤ _; omega) ?_
          intro t3 k3
          k_steps
          rename Fr h₀ L _ m => F9
          rename News h₀ L _ _ => N9
          exact hret _ _ _ _ ⟨_, _, _, _, _, _, _, _, rfl, by rw [Array.size_append]; show b4.size + 1 ≤ 300; omega, by assumption, by assumption, rfl⟩ F9 (news_drop rest N9 (fun p hp => by repeat' (first | with_reducible exact hp | refine List.mem_cons_of_mem _ ?_)))
        · rename Fr h₀ L _ m => F9
          rename News h₀ L _ _ => N9
          exact hret _ _ _ _ ⟨_, _, _, _, _, _, _, _, rfl, by omega, by assumption, by assumption, rfl⟩ F9 (news_drop rest N9 (fun p hp => by repeat' (first | with_reducible exact hp | refine List.mem_cons_of_mem _ ?_)))
  · refine ⟨?_⟩
    rename Fr _ _ _ _ => F9
    rename News _ _ _ _ => N9
    rename IsRange _ _ _ _ _ _ _ _ => hr9
    k_dflt (refine' LCg.CompSrc.range (by rfl) F9 (news_perm N9 (.tail .head) (.tail .head)) hr9 ?sm (rangeSize_nat _ _) ?sz ?R)
    case sm => exact small_one (by omega) (by omega) (by omega) (by omega)
    case sz => rw [sizeLine_eq]; omega
    case R =>
      intro g9
      k_dflt (refine' rest_draws (kinds := 4) ?turn ?fin (by assumption) (by assumption))
      case turn =>
        intro c7 tc7 n7 n7' vs7 ns7 v I oI C oC D m₂ ys h8 tk8 E' hI7 hl7 hC hx F8 N8 off8 ne8
        clear F9 N9 hr9
        have off8' := off8
        obtain ⟨⟨_, _, _⟩, ⟨_, _, _⟩, _⟩ := off8
        k_steps
        rename Fr _ _ _ _ => F9
        rename News _ _ _ _ => N9
        exact LCg.CompEnd.intro F9 N9 _ comp_perm (off3_new off8') trivial ⟨_, _, _, _, _, _, _, _, rfl, by omega, by omega, by assumption, by assumption, rfl⟩
      case fin =>
        intro ys xs c7 tc7 n7 n7' vs7 ns7 hys hxl hb hI7 hl7
        clear F9 N9 hr9
        k_steps
        refine ⟨?_⟩
        rename (@Ne Nat _ _) ∧ _ => oo
        obtain ⟨_, _, oo⟩ := oo
        clear oo
        rename Fr _ _ _ _ => F9
        rename News _ _ _ _ => N9
        k_dflt (refine' bytes_of F9 N9 (by rfl) (.head _) hys (fun z hz => by have := hb z hz; omega) (by omega) ?_)
        clear F9 N9
        intro l7 h7 t7 k7 hll F9 N9
        k_steps
        clear F9 N9
        rename Fr h₀ L _ m => F9
        rename News h₀ L _ _ => N9
        exact hret _ _ _ _ ⟨_, _, _, _, _, _, _, _, rfl, by rw [List.size_toArray]; omega, by assumption, by assumption, rfl⟩ F9 (news_drop rest (news_perm N9 (.tail .head) (.tail .head)) (fun p hp => by repeat' (first | with_reducible exact hp | refine List.mem_cons_of_mem _ ?_)))
end
end
section
theorem look_bytes : typeLookup (.type "bytes") "__bytes__" = pure (some (.builtin "bytes.__bytes__")) := by rw [typeLookup_type, builtinLookup_eq_fast]; kernel_rfl
section
variable {prog : Program} {w : World} {A : Around} {E : Value → Shared → Prop} {s : Shared}
theorem new_same {b : Array UInt8} {t : Tok} {Q : Value → Shared → Prop} (hQ : Q (.bytes b t) s) :
    codeAny (model prog w) A (.call (.builtin "bytes.__new__") ⟨[.type "bytes", .bytes b t], []⟩) (wants Q E) s := by
  refine codeAny_of_tree ?_
  show wpAny _ A.in1 (do checkBuiltinCall "bytes.__new__" ⟨[.type "bytes", .bytes b t], []⟩; again (.builtin "bytes.__new__" ⟨[.type "bytes", .bytes b t], []⟩)) _ _ s
  refine wpAny_bind (wpAny_of_eq (F.bm_newCall _) (wpAny_pure ⟨plainId_quiet F.bm_plain _, codeAny_builtin F.bm_entry ?_⟩))
  rw [Around.under_plainId F.bm_plain _]
  have hT : s.TypeIs (.bytes b t) "bytes" := typeIs_bytes _ _ _
  unfold Builtin.«bytes.__new__»
  refine wpAny_bind (wpAny_of_eq (a := true) rfl ?_)
  refine bm_if_false rfl ?_
  refine wpAny_bind (wpAny_of_eq F.bm_sub ?_)
  refine bm_if_false rfl ?_
  refine wpAny_bind (wpAny_of_eq (F.bm_bind _) ?_)
  refine wpAny_bind (wpAny_of_eq (a := ()) rfl ?_)
  refine wpAny_bind (wpAny_of_eq (a := ()) rfl ?_)
  refine bm_if_false rfl ?_
  refine wpAny_bind (wpAny_specialOf hT look_bytes ?_)
  refine wpAny_bind (wpAny_rule ?_)
  refine wpAny_bind (wpAny_of_eq (a := Value.type "bytes") rfl ?_)
  refine bm_if_true (by decide) ?_
  show wpAny _ _ (if (Value.type "bytes" == Value.type "bytes") = true then _ else _) _ _ _
  refine bm_if_true (by decide) ?_
  first
    | exact wpAny_pure hQ
    | exact wpAny_bind (wpAny_pure (wpAny_pure hQ))
theorem bytes_same {b : Array UInt8} {t : Tok} {Q : Value → Shared → Prop} (hQ : Q (.bytes b t) s) : wpAny (model prog w) A (call (.type "bytes") [.bytes b t]) Q E s := by
  refine callType_codes (Q₁ := fun obj s₁ => s₁.TypeIs obj "bytes" ∧ Q obj s₁) F.bm_called (F.bm_typeCall _) F.entry_object_init
    (new_same ⟨PySem.W.typeIs_bytes _ _ _, hQ⟩) fun obj s₁ h₁ => ?_
  exact ⟨h₁.1, F.args_object_init_2 obj _, object_init_meets F.bm_called.init.lookup F.bm_called.made (by decide) prog w A.in1 _ s₁ ⟨h₁.1, rfl, h₁.2⟩⟩
end
end
section
section
variable {prog : Program} {w : World} {A : Around} {E : Value → Shared → Prop} {s : Shared} {env : Env} {h₀ : Heap} {x : Str} {body : List Stmt} {Q : Flow → Shared → Prop}
def TurnJ (h₀ : Heap) (L I : Addr) (oI : Obj) (Jn : (Str → Option Value) → List (Addr × Obj) → Prop) (s₁ : Shared) (Q : Flow → Shared → Prop) (f : Flow) (s₂ : Shared) : Prop :=
  match f with
  | .ret v => Q (.ret v) s₂
  | .brk => Q .next s₂
  | _ => ∃ h' tk m₂ news₂, s₂ = { s₁ with heap := h', toks := tk } ∧ Fr h₀ L h' m₂ ∧ News h₀ L h' ((I, oI) :: news₂) ∧ (∀ p ∈ news₂, p.1 ≠ I) ∧ Jn m₂ news₂
theorem loop_gen {I : Addr} {fp : List Addr} {n : Nat} {P : Nat → Value → Prop} {St : Nat → Heap → Prop} {m₀ : Str → Option Value} {news keep : List (Addr × Obj)}
    (W : Walks prog w A I fp [I] n P St) (hfp : ∀ b ∈ fp, b = I ∨ ∃ o, (b, o) ∈ keep) (hIf : I ∈ fp) (hob : ∀ i h, St i h → ∃ o, h.get? I = some o) (hLf : env.locals ∉ fp) (hI0 : h₀.get? I = none) (hnw : ∀ p ∈ news, p.1 ≠ I)
    (hst : St 0 s.heap) (F : Fr h₀ env.locals s.heap m₀) (N : News h₀ env.locals s.heap news) (J : Nat → (Str → Option Value) → List (Addr × Obj) → Prop) (h0 : J 0 m₀ news) (hJ : ∀ i m nw, J i m nw → ∀ p ∈ keep, p ∈ nw)
    (turn : ∀ i v m₁ news₁ h tk oI, i < n → P i v → J i m₁ news₁ → (∀ p ∈ news₁, p.1 ≠ I) → Fr h₀ env.locals h (fun y => if y = x then some v else m₁ y) → News h₀ env.locals h ((I, oI) :: news₁) →
      wpAny (model prog w) A (execs body env) (TurnJ h₀ env.locals I oI (J (i + 1)) { s with heap := h, toks := tk } Q) E { s with heap := h, toks := tk })
    (done : ∀ h' tk m' news', Fr h₀ env.locals h' m' → News h₀ env.locals h' news' → J n m' news' → Q .next { s with heap := h', toks := tk }) :
    LoopAtV prog w A h₀ env x body Q E (.ref I) s := by
  refine ⟨I, fp, [I], n, P, St, m₀, news, J, rfl, W, hLf, fun b hb => by rw [List.mem_singleton.mp hb]; exact hI0, fun p hp hm => hnw p hp (List.mem_singleton.mp hm), hst, F, N, h0, ?_, fun h' tk m' news' F' N' _ j => done h' tk m' news' F' N' j⟩
  rintro i v m₁ news₁ s₁ own ⟨h, tk, rfl⟩ hi hP hj hoff hown hval hall hst' F₁ N₁
  obtain ⟨oI, hoI⟩ := hob _ _ hst'
  have hoff' : ∀ p ∈ news₁, p.1 ≠ I := fun p hp e => hoff p hp (List.mem_singleton.mpr e)
  have hown2 : ∀ p ∈ own, p = (I, oI) ∨ p ∈ keep := by
    intro p hp
    have h1 := hval p hp
    rcases hfp p.1 (hown p hp) with e | ⟨o, ho⟩
    · left
      rw [e] at h1
      have h1' : h.get? I = some p.2 := h1
      have h2' : h.get? I = some oI := hoI
      rw [h2'] at h1'
      exact Prod.ext e (Option.some.inj h1').symm
    · right
      have h2 := (N₁ _ (List.mem_append_right _ (hJ _ _ _ hj _ ho))).1
      have h1' : h.get? p.1 = some p.2 := h1
      have h2' : h.get? p.1 = some o := h2
      rw [h2'] at h1'
      have : p = (p.1, o) := Prod.ext rfl (Option.some.inj h1').symm
      rw [this]
      exact ho
  have hIown : (I, oI) ∈ own := hall I hIf hI0 oI hoI
  refine wpAny_mono (turn i v m₁ news₁ h tk oI hi hP hj hoff' F₁ (fun p hp => ?_)) (fun f s₂ hq => ?_) fun _ _ e => e
  · rcases List.mem_cons.mp hp with rfl | hp
    · exact N₁ _ (List.mem_append_left _ hIown)
    · exact N₁ _ (List.mem_append_right _ hp)
  · have key : (∃ h' tk' m₂ news₂, s₂ = { ({ s with heap := h, toks := tk } : Shared) with heap := h', toks := tk' } ∧ Fr h₀ env.locals h' m₂ ∧ News h₀ env.locals h' ((I, oI) :: news₂) ∧ (∀ p ∈ news₂, p.1 ≠ I) ∧ J (i + 1) m₂ news₂) → LoopStepU h₀ env.locals [I] own (J (i + 1)) { s with heap := h, toks := tk } .next s₂ := by
      rintro ⟨h', tk', m₂, news₂, e, F', N', hno, j⟩
      refine ⟨rfl, h', tk', m₂, news₂, e, F', fun p hp => ?_, fun p hp hm => hno p hp (List.mem_singleton.mp hm), j⟩
      rcases List.mem_append.mp hp with hp | hp
      · rcases hown2 p hp with rfl | hk
        · exact N' _ (.head _)
        · exact N' _ (.tail _ (hJ _ _ _ j _ hk))
      · exact N' _ (.tail _ hp)
    cases f with
    | ret v => exact hq
    | brk => exact hq
    | next => exact key hq
    | cont => exact key hq
def ForSrc (s : Shared) (h₀ : Heap) (L : Addr) (J : List (Addr × Obj) → Nat → (Str → Option Value) → List (Addr × Obj) → Prop) (bound : Nat) (xv : Value) (s₁ : Shared) : Prop :=
  ∃ h tk m news keep n, s₁ = { s with heap := h, toks := tk } ∧ n ≤ bound ∧ Fr h₀ L h m ∧ News h₀ L h news ∧ J keep 0 m news ∧ (∀ i m nw, J keep i m nw → ∀ p ∈ keep, p ∈ nw) ∧
    ((∃ r c t u v, xv = .ref r ∧ keep = [] ∧ IsRange h r 0 c 1 t u v ∧ c = ((n : Nat) : Int) ∧ n ≤ 1048576) ∨
     (∃ ax lo vs c, xv = .ref ax ∧ keep = [(ax, lo)] ∧ lo.cls = .type "tuple" ∧ lo.data = .seq (List.toArray vs) c ∧ vs.length = n ∧ ∀ i v, vs[i]? = some v → ∃ t, v = Value.int ((i : Nat) : Int) t))
theorem for_two {px pos : Pos} {iter : PySem.Expr} (J : List (Addr × Obj) → Nat → (Str → Option Value) → List (Addr × Obj) → Prop) (bound : Nat) (hh : A.handled = none) (hx : env.kindOf x = some .local)
    (hp : (env.scope.kind == .class || (env.scope.kind == .module && env.locals != env.globals)) = false)
    (it : wpAny (model prog w) A (eval iter env) (ForSrc s h₀ env.locals J bound) E s)
    (turn : ∀ keep I oI i t m₁ news₁ h tk, i < bound → J keep i m₁ news₁ → (∀ p ∈ news₁, p.1 ≠ I) → Fr h₀ env.locals h (fun y => if y = x then some (.int ((i : Nat) : Int) t) else m₁ y) → News h₀ env.locals h ((I, oI) :: news₁) →
      wpAny (model prog w) A (execs body env) (TurnJ h₀ env.locals I oI (J keep (i + 1)) { s with heap := h, toks := tk } Q) E { s with heap := h, toks := tk })
    (done : ∀ keep n h tk m' news', n ≤ bound → J keep n m' news' → Fr h₀ env.locals h m' → News h₀ env.locals h news' → Q .next { s with heap := h, toks := tk })
    (hs : ∀ x, foldedSetIterable iter env x = pure x := by intro _; rfl)
    (hE : PassesOwn (model prog w) A env E := by passes_own) :
    wpAny (model prog w) A (exec (.For (.Name x px) iter body [] pos) env) Q E s := by
  refine For_invV h₀ hx hp (wpAny_mono it (fun xv s₁ hq => ?_) fun _ _ e => e) hs hE
  obtain ⟨h, tk, m, news, keep, n, rfl, hn, F, N, h0, hk, hc⟩ := hq
  rcases hc with ⟨r, c, t, u, v, rfl, rfl, hr, rfl, hbig⟩ | ⟨ax, lo, vs, c, rfl, rfl, hcl, hd, hlen, hvs⟩
  · have hrn : Builtin.Range.rangeSize 0 ((n : Nat) : Int) 1 = ((n : Nat) : Int) := by
      rw [rangeSize_nat]
      simp
    refine wpAny_pyIter_range hr (small_one (by omega) (by omega) (by omega) (by omega)) ?_
    have W : Walks prog w A h.objs.size [h.objs.size] [h.objs.size] n (fun i v => i < n ∧ ∃ t, v = .int (0 + i * 1) t)
      (fun i h' => IsRangeIter h' h.objs.size (0 + (i : Nat) * 1) ((n : Int) - (i : Nat)) 1) := (Walks.range hh _ 0 1 n).bound
    refine loop_gen (keep := []) W (fun b hb => .inl (List.mem_singleton.mp hb)) (List.mem_singleton.mpr rfl) (fun i h st => ⟨_, st⟩) ?_ ?_ (fun p hp => ?_) (by show IsRangeIter _ _ _ _ _; rw [hrn]; simpa using Heap.get?_push_size _ rfl) (F.push _) (fun p hp => ⟨Heap.get?_push_of_some _ (N p hp).1, (N p hp).2⟩) (J []) h0 hk ?_ ?_
    · intro hm
      exact absurd F.ns.lt ((List.mem_singleton.mp hm) ▸ Nat.lt_irrefl _)
    · exact next_is_new F
    · exact Nat.ne_of_lt (Heap.lt_size (N p hp).1)
    · rintro i v m₁ news₁ h' tk' oI hi ⟨_, t, rfl⟩ hj hoff F₁ N₁
      have e : (0 : Int) + (i : Int) * 1 = ((i : Nat) : Int) := by omega
      rw [e] at F₁
      exact turn [] _ oI i t m₁ news₁ h' tk' (by omega) hj hoff F₁ N₁
    · intro h' tk' m' news' F' N' j
      exact done [] n h' tk' m' news' hn j F' N'
  · have hm := hk _ _ _ h0 (ax, lo) (.head _)
    have hax := N _ hm
    have hl : h.IsTuple ax vs.toArray := ⟨lo, hax.1, hcl, c, hd⟩
    have hlt : ax < h.objs.size := Heap.lt_size hax.1
    have hne : ax ≠ h.objs.size := Nat.ne_of_lt hlt
    refine wpAny_pyIter_tuple hl ?_
    have W := Walks.tuple (prog := prog) (w := w) hh h.objs.size ax hne vs.toArray
    have hsz : vs.toArray.size = n := by rw [List.size_toArray]; exact hlen
    rw [hsz] at W
    refine loop_gen (keep := [(ax, lo)]) W (fun b hb => ?_) (List.mem_cons_self ..) (fun i h st => by obtain ⟨o, e, _⟩ := st.1; exact ⟨o, e⟩) ?_ ?_ (fun p hp => ?_) ⟨⟨_, Heap.get?_push_size _ rfl, rfl, rfl⟩, hl.at fun o e => Heap.get?_push_of_some _ e⟩ (F.push _) (fun p hp => ⟨Heap.get?_push_of_some _ (N p hp).1, (N p hp).2⟩) (J _) h0 hk ?_ ?_
    · rcases List.mem_cons.mp hb with e | hb
      · exact .inl e
      · exact .inr ⟨lo, by rw [List.mem_singleton.mp hb]; exact .head _⟩
    · intro hI
      rcases List.mem_cons.mp hI with e | hI
      · exact absurd F.ns.lt (e ▸ Nat.lt_irrefl _)
      · exact hax.2.1 (List.mem_singleton.mp hI).symm
    · exact next_is_new F
    · exact Nat.ne_of_lt (Heap.lt_size (N p hp).1)
    · intro i v m₁ news₁ h' tk' oI hi hP hj hoff F₁ N₁
      obtain ⟨t, rfl⟩ := hvs i v (by
        have hP' : vs.toArray[i]? = some v := hP
        simpa using hP')
      exact turn _ _ oI i t m₁ news₁ h' tk' (by omega) hj hoff F₁ N₁
    · intro h' tk' m' news' F' N' j
      exact done _ n h' tk' m' news' hn j F' N'
end
end
section
theorem fold_inj : ∀ (xs ys : List UInt8) (a c : Int), xs.length = ys.length → xs.foldl (fun (acc : Int) o => acc * 256 + ((o.toNat : Nat) : Int)) a = ys.foldl (fun (acc : Int) o => acc * 256 + ((o.toNat : Nat) : Int)) c → a = c ∧ xs = ys
  | [], [], _, _, _, h => ⟨h, rfl⟩
  | [], _ :: _, _, _, h, _ => by simp at h
  | _ :: _, [], _, _, h, _ => by simp at h
  | x :: xs, y :: ys, a, c, hl, h => by
    obtain ⟨h1, h2⟩ := fold_inj xs ys _ _ (by simpa using hl) h
    have hx := x.toNat_lt
    have hy := y.toNat_lt
    have h1 : a * 256 + ((x.toNat : Nat) : Int) = c * 256 + ((y.toNat : Nat) : Int) := h1
    have e1 : a = c := by omega
    have e2 : x.toNat = y.toNat := by omega
    exact ⟨e1, by rw [h2, UInt8.toNat_inj.mp e2]⟩
theorem key_cut {b : Array UInt8} {p a le : Nat} (hp : p + le ≤ b.size) (ha : a + le ≤ b.size) : keyOf b p le = keyOf b a le ↔ cutB b p (p + le) = cutB b a (a + le) := by
  unfold keyOf cutB
  rw [Nat.add_sub_cancel_left, Nat.add_sub_cancel_left]
  constructor
  · intro h
    rw [(fold_inj _ _ _ _ (by simp; omega) h).2]
  · intro h
    rw [show (b.toList.drop p).take le = (b.toList.drop a).take le by simpa using congrArg Array.toList h]
structure Row where
  key : Int
  ad : Addr
  vs : List Value
  cn : Nat
noncomputable def rowO (r : Row) : Addr × Obj := (r.ad, listOf r.vs.toArray r.cn)
noncomputable def rowKV (r : Row) : Int × Value := (r.key, .ref r.ad)
noncomputable def hasK (b : Array UInt8) (le : Nat) (k : Int) (p : Nat) : Bool := decide (p + le ≤ b.size) && decide (keyOf b p le = k)
noncomputable def psOf (b : Array UInt8) (le : Nat) (noted : List Nat) (k : Int) : List Nat := noted.filter (hasK b le k)
structure RInv (b : Array UInt8) (le : Nat) (fx : List Addr) (noted : List Nat) (rws : List Row) : Prop where
  keys : (rws.map Row.key).Nodup
  ads : (rws.map Row.ad).Nodup
  low : ∀ r ∈ rws, ∀ a ∈ fx, @LT.lt Nat _ a r.ad
  rowsAre : ∀ r ∈ rws, IntsAre r.vs ((psOf b le noted r.key).map fun (p : Nat) => (p : Int))
  all : ∀ p ∈ noted, p + le ≤ b.size → ∃ r ∈ rws, r.key = keyOf b p le
theorem RInv.nil (b : Array UInt8) (le : Nat) (fx : List Addr) : RInv b le fx [] [] := ⟨.nil, .nil, (fun _ h => nomatch h), (fun _ h => nomatch h), (fun _ h => nomatch h)⟩
theorem look_none {rws : List Row} {k : Int} (h : ∀ r ∈ rws, r.key ≠ k) : valueAt (rws.map rowKV) k = none := by
  unfold valueAt
  rw [List.find?_eq_none.mpr]
  · rfl
  · intro x hx
    obtain ⟨r, hr, rfl⟩ := List.mem_map.mp hx
    exact fun hc => h r hr (of_decide_eq_true hc)
theorem look_some {k : Int} : ∀ {rws : List Row} {r : Row}, (rws.map Row.key).Nodup → r ∈ rws → r.key = k → valueAt (rws.map rowKV) k = some (.ref r.ad)
  | [], _, _, h, _ => nomatch h
  | r₀ :: t, r, hn, h, hk => by
    unfold valueAt
    rw [List.map_cons, List.find?_cons]
    by_cases e : r₀.key = k
    · have : r = r₀ := by
        rcases List.mem_cons.mp h with rfl | h
        · rfl
        · exfalso
          rw [List.map_cons, List.nodup_cons] at hn
          exact hn.1 (by rw [e, ← hk]; exact List.mem_map_of_mem h)
      subst this
      simp [rowKV, e]
    · have hr : r ∈ t := by
        rcases List.mem_cons.mp h with rfl | h
        · exact absurd hk e
        · exact h
      have ih := look_some (List.nodup_cons.mp (by simpa using hn)).2 hr hk
      simp only [rowKV, e, decide_false]
      exact ih
theorem ps_lt {b : Array UInt8} {le : Nat} {noted : List Nat} {k : Int} {a : Nat} (h : ∀ p ∈ noted, p < a) : ∀ p ∈ psOf b le noted k, p < a := fun p hp => h p (List.mem_filter.mp hp).1
theorem ps_good {b : Array UInt8} {le at' : Nat} {noted : List Nat} (hfit : at' + le ≤ b.size) (hle : le ≤ 258) (h : ∀ p ∈ noted, p < at') : ∀ p ∈ psOf b le noted (keyOf b at' le), le ≤ alike b p at' := fun p hp => by
  obtain ⟨h1, h2⟩ := List.mem_filter.mp hp
  simp only [hasK, Bool.and_eq_true, decide_eq_true_eq] at h2
  exact (cut_iff (Nat.le_of_lt (h p h1)) hle hfit).mp ((key_cut h2.1 hfit).mp h2.2)
theorem has_cut {b : Array UInt8} {le at' p : Nat} (hfit : at' + le ≤ b.size) (h : p < at') : hasK b le (keyOf b at' le) p = decide (cutB b p (p + le) = cutB b at' (at' + le)) := by
  have hp : p + le ≤ b.size := by omega
  simp only [hasK, hp, decide_true, Bool.true_and, key_cut hp hfit]
theorem scan_best {b : Array UInt8} {le at' wd ch : Nat} {noted : List Nat} (hfit : at' + le ≤ b.size) (h : ∀ p ∈ noted, p < at') : scan b at' wd ch (psOf b le noted (keyOf b at' le)) = bestP b at' wd ch le noted := by
  unfold scan bestP nearR nearB psOf
  rw [if_pos hfit, ← List.filter_reverse, List.filter_filter]
  congr 2
  congr 1
  refine List.filter_congr fun p hp => ?_
  rw [has_cut hfit (h p (List.mem_reverse.mp hp))]
theorem best_none {b : Array UInt8} {le at' wd ch : Nat} {fx : List Addr} {noted : List Nat} {rws : List Row} (hfit : at' + le ≤ b.size) (h : ∀ p ∈ noted, p < at') (R : RInv b le fx noted rws) (hk : ∀ r ∈ rws, r.key ≠ keyOf b at' le) : bestP b at' wd ch le noted = (0, 0) := by
  have e : nearB b at' wd le noted = [] := by
    unfold nearB
    rw [List.filter_eq_nil_iff]
    intro p hp hc
    have hp := List.mem_reverse.mp hp
    have hlt := h p hp
    simp only [Bool.and_eq_true, decide_eq_true_eq] at hc
    obtain ⟨r, hr, e⟩ := R.all p hp (by omega)
    exact hk r hr (e.trans ((key_cut (by omega) hfit).mpr hc.2))
  unfold bestP
  rw [if_pos hfit, e, List.take_nil]
  rfl
theorem Ctr.mono {w : World} {mean : ExcName → Option Value} {mg mb : Str → Option Value} {loose : List Str} {d : Nat} {f : Addr} {vs : List Value} {news : List (Addr × Obj)} {Ret Ret' : Value → List (Addr × Obj) → Prop}
    (C : Ctr w mean mg mb loose d f vs news Ret) (h : ∀ r n, Ret r n → Ret' r n) : Ctr w mean mg mb loose d f vs news Ret' :=
  fun dp un gd cn cs a ccd cl outer A₀ base h₀ L m s Q E B F X N T hk hdp hun ret => C dp un gd cn cs a ccd cl outer A₀ base h₀ L m s Q E B F X N T hk hdp hun fun r n h' tk' hr => ret r n h' tk' (h r n hr)
theorem ps_len {b : Array UInt8} {le : Nat} {noted : List Nat} {k : Int} : (psOf b le noted k).length ≤ noted.length := List.length_filter_le _ _
section
variable {w : World} {loose : List Str} {mean : ExcName → Option Value} {mg mb : Str → Option Value}
   {x dx pd : Addr} {t1 t2 t3 t4 t5 : Tok} {b : Array UInt8} {tb : Tok} {wd : Nat} {twd : Tok} {ch : Nat} {tch : Tok} {le : Nat} {tle : Tok}
   {at' : Nat} {ta : Tok} {news : List (Addr × Obj)} {o : Obj} {fx : List Addr} {noted : List Nat} {rws : List Row}
theorem longest_best (hsz : b.size ≤ 300) (hat : at' ≤ b.size) (hle : 3 ≤ le) (hle2 : le ≤ 6)
   (hx : (x, instObj 60 dx) ∈ news) (hdx : (dx, finD w.params t1 t2 t3 t4 t5 b tb (wd : Int) twd (ch : Int) tch le tle pd) ∈ news)
   (ho : (pd, o) ∈ news) (hdo : o.IsDictOf (PySem.intKind Challenge.rw_pq0514_01.row.prog w) (rws.map rowKV)) (hlo : (pd == sysModules) = false)
   (R : RInv b le fx noted rws) (hrows : ∀ r ∈ rws, rowO r ∈ news) (hlt : ∀ p ∈ noted, p < at') (hso : noted.Pairwise (· < ·)) (hln : noted.length ≤ 300) :
   Ctr w mean mg mb loose 2 57 [.ref x, .int (at' : Int) ta] news (fun r news' => ∃ f t t', r = .ref f ∧ news' = (f, tup2 ((bestP b at' wd ch le noted).1 : Int) t ((bestP b at' wd ch le noted).2 : Int) t') :: news) := by
  by_cases hfit : at' + le ≤ b.size
  · by_cases hk : ∀ r ∈ rws, r.key ≠ keyOf b at' le
    · rw [best_none hfit hlt R hk]
      exact longest_out w loose mean mg mb x dx pd t1 t2 t3 t4 t5 b tb wd twd ch tch le tle at' ta news hsz hat hle hle2 hx hdx hfit o _ ho hdo hlo (by rw [look_none hk]; rfl)
    · have : ∃ r ∈ rws, r.key = keyOf b at' le := by
        refine Classical.byContradiction fun hc => hk fun r hr e => hc ⟨r, hr, e⟩
      obtain ⟨r, hr, e⟩ := this
      have hv := look_some R.keys hr e
      rw [← scan_best hfit hlt]
      have hI := R.rowsAre r hr
      rw [e] at hI
      exact longest_in w loose mean mg mb x dx pd t1 t2 t3 t4 t5 b tb wd twd ch tch le tle at' ta news hsz hat hle hle2 hx hdx hfit o _ ho hdo hlo r.ad r.vs r.cn _ hv (by rw [hv]; rfl) (hrows r hr) hI
        (by rw [ints_len hI, List.length_map]) (Nat.le_trans ps_len hln) (ps_lt hlt) (List.Pairwise.sublist List.filter_sublist hso) (ps_good hfit (by omega) hlt)
  · have e : bestP b at' wd ch le noted = (0, 0) := if_neg hfit
    rw [e]
    exact longest_none w loose mean mg mb x dx pd t1 t2 t3 t4 t5 b tb wd twd ch tch le tle at' ta news hsz hat hle hle2 hx hdx hfit
end
end
section
theorem ps_app (b : Array UInt8) (le : Nat) (noted : List Nat) (k : Int) (a : Nat) : psOf b le (noted ++ [a]) k = psOf b le noted k ++ (if hasK b le k a = true then [a] else []) := by
  unfold psOf
  rw [List.filter_append]
  congr 1
  by_cases h : hasK b le k a = true
  · simp [h]
  · simp [h]
noncomputable def bump (k : Int) (v : Value) (r : Row) : Row := if r.key = k then { r with vs := r.vs ++ [v], cn := r.cn + 1 } else r
theorem bump_key (k : Int) (v : Value) (r : Row) : (bump k v r).key = r.key := by unfold bump; split <;> rfl
theorem bump_ad (k : Int) (v : Value) (r : Row) : (bump k v r).ad = r.ad := by unfold bump; split <;> rfl
theorem upd_pre {d : Addr} {o o' : Obj} {l l' : List (Addr × Obj)} : ∀ {pre : List (Addr × Obj)}, (∀ p ∈ pre, p.1 ≠ d) → Upd d o o' l l' → Upd d o o' (pre ++ l) (pre ++ l')
  | [], _, U => U
  | p :: r, h, U => .tail (h p (.head _)) (upd_pre (fun q hq => h q (.tail _ hq)) U)
theorem bump_same {k : Int} {v : Value} : ∀ {t : List Row}, (∀ r ∈ t, r.key ≠ k) → t.map (bump k v) = t
  | [], _ => rfl
  | r :: t, h => by
    rw [List.map_cons, bump_same fun q hq => h q (.tail _ hq)]
    unfold bump
    rw [if_neg (h r (.head _))]
theorem upd_rows {k : Int} {v : Value} {keep : List (Addr × Obj)} : ∀ {rws : List Row} {r : Row}, (rws.map Row.key).Nodup → (rws.map Row.ad).Nodup → r ∈ rws → r.key = k → (∀ p ∈ keep, p.1 ≠ r.ad) →
    Upd r.ad (listOf r.vs.toArray r.cn) (listOf (r.vs.toArray.push v) (r.cn + 1)) (rws.map rowO ++ keep) ((rws.map (bump k v)).map rowO ++ keep)
  | [], _, _, _, h, _, _ => nomatch h
  | r₀ :: t, r, hk, ha, h, e, hkeep => by
    simp only [List.map_cons, List.nodup_cons] at hk ha
    by_cases h0 : r = r₀
    · subst h0
      have ht : ∀ q ∈ t, q.key ≠ k := fun q hq e2 => hk.1 (by rw [e, ← e2]; exact List.mem_map_of_mem hq)
      simp only [List.map_cons, List.cons_append]
      rw [bump_same ht]
      have e3 : rowO (bump k v r) = (r.ad, listOf (r.vs.toArray.push v) (r.cn + 1)) := by
        unfold bump rowO
        rw [if_pos e]
        simp
      rw [e3]
      refine .head fun p hp => ?_
      rcases List.mem_append.mp hp with hp | hp
      · obtain ⟨q, hq, rfl⟩ := List.mem_map.mp hp
        intro e4
        exact ha.1 (by rw [← show q.ad = r.ad from e4]; exact List.mem_map_of_mem hq)
      · exact hkeep p hp
    · have hr : r ∈ t := (List.mem_cons.mp h).resolve_left h0
      have hb : bump k v r₀ = r₀ := by
        unfold bump
        rw [if_neg fun e2 => hk.1 (by rw [e2, ← e]; exact List.mem_map_of_mem hr)]
      simp only [List.map_cons, List.cons_append, hb]
      refine .tail (fun e4 => ha.1 ?_) (upd_rows hk.2 ha.2 hr e hkeep)
      rw [show r₀.ad = r.ad from e4]
      exact List.mem_map_of_mem hr
theorem RInv.none {b : Array UInt8} {le a : Nat} {fx : List Addr} {noted : List Nat} {rws : List Row} (R : RInv b le fx noted rws) (h : ¬ a + le ≤ b.size) : RInv b le fx (noted ++ [a]) rws where
  keys := R.keys
  ads := R.ads
  low := R.low
  rowsAre := fun r hr => by
    rw [ps_app, if_neg (by simp [hasK, h]), List.append_nil]
    exact R.rowsAre r hr
  all := fun p hp hf => by
    rcases List.mem_append.mp hp with hp | hp
    · exact R.all p hp hf
    · rw [List.mem_singleton.mp hp] at hf
      exact absurd hf h
theorem RInv.old {b : Array UInt8} {le a : Nat} {fx : List Addr} {noted : List Nat} {rws : List Row} {r₀ : Row} {t : Tok} (R : RInv b le fx noted rws) (h : a + le ≤ b.size) (h0 : r₀ ∈ rws) (hk : r₀.key = keyOf b a le) : RInv b le fx (noted ++ [a]) (rws.map (bump (keyOf b a le) (.int (a : Int) t))) where
  keys := by
    have : (rws.map (bump (keyOf b a le) (.int (a : Int) t))).map Row.key = rws.map Row.key := by
      rw [List.map_map]
      exact List.map_congr_left fun r _ => bump_key _ _ r
    rw [this]
    exact R.keys
  ads := by
    have : (rws.map (bump (keyOf b a le) (.int (a : Int) t))).map Row.ad = rws.map Row.ad := by
      rw [List.map_map]
      exact List.map_congr_left fun r _ => bump_ad _ _ r
    rw [this]
    exact R.ads
  low := fun r hr x hx => by
    obtain ⟨q, hq, rfl⟩ := List.mem_map.mp hr
    rw [bump_ad]
    exact R.low q hq x hx
  rowsAre := fun r hr => by
    obtain ⟨q, hq, rfl⟩ := List.mem_map.mp hr
    rw [bump_key, ps_app]
    have hI := R.rowsAre q hq
    unfold bump
    by_cases e : q.key = keyOf b a le
    · rw [if_pos e, if_pos (by simp [hasK, h, e]), List.map_append]
      exact IntsAre.append hI (.cons _ _ .nil)
    · rw [if_neg e, if_neg (by simp only [hasK, h, decide_true, Bool.true_and, decide_eq_true_eq]; exact fun e2 => e e2.symm), List.append_nil]
      exact hI
  all := fun p hp hf => by
    rcases List.mem_append.mp hp with hp | hp
    · obtain ⟨r, hr, e⟩ := R.all p hp hf
      exact ⟨_, List.mem_map_of_mem hr, by rw [bump_key]; exact e⟩
    · rw [List.mem_singleton.mp hp]
      exact ⟨_, List.mem_map_of_mem h0, by rw [bump_key]; exact hk⟩
theorem RInv.new {b : Array UInt8} {le a : Nat} {fx : List Addr} {noted : List Nat} {rws : List Row} {l : Addr} {t : Tok} (R : RInv b le fx noted rws) (h : a + le ≤ b.size) (hk : ∀ r ∈ rws, r.key ≠ keyOf b a le) (hl : ∀ r ∈ rws, @LT.lt Nat _ r.ad l) (hfx : ∀ x ∈ fx, @LT.lt Nat _ x l) :
    RInv b le fx (noted ++ [a]) (rws ++ [⟨keyOf b a le, l, [.int (a : Int) t], 1⟩]) where
  keys := by
    rw [List.map_append, List.nodup_append]
    refine ⟨R.keys, by simp, fun x hx y hy e => ?_⟩
    obtain ⟨r, hr, rfl⟩ := List.mem_map.mp hx
    exact hk r hr (by rw [e]; simpa using hy)
  ads := by
    rw [List.map_append, List.nodup_append]
    refine ⟨R.ads, by simp, fun x hx y hy e => ?_⟩
    obtain ⟨r, hr, rfl⟩ := List.mem_map.mp hx
    have e2 : r.ad = l := by rw [e]; simpa using hy
    have := hl r hr
    rw [e2] at this
    exact Nat.lt_irrefl _ this
  low := fun r hr x hx => by
    rcases List.mem_append.mp hr with hr | hr
    · exact R.low r hr x hx
    · rw [List.mem_singleton.mp hr]; exact hfx x hx
  rowsAre := fun r hr => by
    rw [ps_app]
    rcases List.mem_append.mp hr with hr | hr
    · rw [if_neg (by simp only [hasK, h, decide_true, Bool.true_and, decide_eq_true_eq]; exact fun e2 => hk r hr e2.symm), List.append_nil]
      exact R.rowsAre r hr
    · rw [List.mem_singleton.mp hr]
      have e : psOf b le noted (keyOf b a le) = [] := by
        unfold psOf
        rw [List.filter_eq_nil_iff]
        intro p hp hc
        simp only [hasK, Bool.and_eq_true, decide_eq_true_eq] at hc
        obtain ⟨q, hq, e⟩ := R.all p hp hc.1
        exact hk q hq (e.trans hc.2)
      simp only [e, List.nil_append]
      rw [if_pos (by simp [hasK, h])]
      exact .cons _ _ .nil
  all := fun p hp hf => by
    rcases List.mem_append.mp hp with hp | hp
    · obtain ⟨r, hr, e⟩ := R.all p hp hf
      exact ⟨r, List.mem_append_left _ hr, e⟩
    · rw [List.mem_singleton.mp hp]
      exact ⟨_, List.mem_append_right _ (.head _), rfl⟩
section
variable {w : World} {loose : List Str} {mean : ExcName → Option Value} {mg mb : Str → Option Value}
   {x dx pd : Addr} {t1 t2 t3 t4 t5 : Tok} {b : Array UInt8} {tb : Tok} {wd : Nat} {twd : Tok} {ch : Nat} {tch : Tok} {le : Nat} {tle : Tok}
   {at' : Nat} {ta : Tok} {base keep : List (Addr × Obj)} {o : Obj} {fx : List Addr} {noted : List Nat} {rws : List Row}
theorem note_inv (hsz : b.size ≤ 300) (hat : at' ≤ b.size) (hle : 3 ≤ le) (hle2 : le ≤ 6)
   (hx : (x, instObj 60 dx) ∈ base) (hdx : (dx, finD w.params t1 t2 t3 t4 t5 b tb (wd : Int) twd (ch : Int) tch le tle pd) ∈ base)
   (hpd : ∀ p ∈ base ++ (rws.map rowO ++ keep), p.1 ≠ pd) (hdo : o.IsDictOf (PySem.intKind Challenge.rw_pq0514_01.row.prog w) (rws.map rowKV)) (hlo : (pd == sysModules) = false)
   (R : RInv b le fx noted rws) (hoff : ∀ r ∈ rws, ∀ p ∈ base ++ keep, p.1 ≠ r.ad) (hln : noted.length ≤ 300) (hrl : rws.length ≤ 300) (hfx : ∀ a ∈ fx, a = pd ∨ ∃ q, (a, q) ∈ base ++ (rws.map rowO ++ keep)) :
   Ctr w mean mg mb loose 2 43 [.ref x, .int (at' : Int) ta] ((pd, o) :: (base ++ (rws.map rowO ++ keep))) (fun r news' => r = .none ∧ ∃ o' rws', o'.IsDictOf (PySem.intKind Challenge.rw_pq0514_01.row.prog w) (rws'.map rowKV) ∧ RInv b le fx (noted ++ [at']) rws' ∧ rws'.length ≤ rws.length + 1 ∧
     (∀ p ∈ (pd, o') :: (base ++ (rws'.map rowO ++ keep)), p ∈ news') ∧ ∀ r ∈ rws', (∃ r0 ∈ rws, r0.ad = r.ad) ∨ ∀ p ∈ base ++ (rws.map rowO ++ keep), @LT.lt Nat _ p.1 r.ad) := by
  have hx' : (x, instObj 60 dx) ∈ (pd, o) :: (base ++ (rws.map rowO ++ keep)) := .tail _ (List.mem_append_left _ hx)
  have hdx' : (dx, finD w.params t1 t2 t3 t4 t5 b tb (wd : Int) twd (ch : Int) tch le tle pd) ∈ (pd, o) :: (base ++ (rws.map rowO ++ keep)) := .tail _ (List.mem_append_left _ hdx)
  by_cases hfit : at' + le ≤ b.size
  · by_cases hk : ∀ r ∈ rws, r.key ≠ keyOf b at' le
    · refine (note_new w loose mean mg mb x dx pd t1 t2 t3 t4 t5 b tb wd twd ch tch le tle at' ta (base ++ (rws.map rowO ++ keep)) hsz hat hle hle2 (List.mem_append_left _ hx) (List.mem_append_left _ hdx) hfit o _ hpd hdo hlo (look_none hk) (by rw [look_none hk]; rfl) (by rw [List.length_map]; omega)).mono ?_
      rintro r n ⟨rfl, l', o', rfl, hd', hpl, hlt⟩
      have hs : stored (rws.map rowKV) (keyOf b at' le) (.ref l') = (rws ++ [(⟨keyOf b at' le, l', [.int (at' : Int) ta], 1⟩ : Row)]).map rowKV := by
        unfold stored
        rw [if_neg, List.map_append]
        · rfl
        · intro hc
          obtain ⟨y, hy, e⟩ := List.any_eq_true.mp hc
          obtain ⟨r, hr, rfl⟩ := List.mem_map.mp hy
          exact hk r hr (of_decide_eq_true e)
      rw [hs] at hd'
      have hall := kst_ltOf hlt
      refine ⟨rfl, o', _, hd', R.new hfit hk (fun r hr => hall (rowO r) (List.mem_append_right _ (List.mem_append_left _ (List.mem_map_of_mem hr)))) (fun a ha => ?_), by simp, fun p hp => ?_, fun r hr => ?_⟩
      · rcases hfx a ha with rfl | ⟨q, hq⟩
        · exact hpl
        · exact hall _ hq
      · rcases List.mem_cons.mp hp with rfl | hp
        · exact .tail _ (.head _)
        · rcases List.mem_append.mp hp with hp | hp
          · exact .tail _ (.tail _ (List.mem_append_left _ hp))
          · rcases List.mem_append.mp hp with hp | hp
            · rw [List.map_append] at hp
              rcases List.mem_append.mp hp with hp | hp
              · exact .tail _ (.tail _ (List.mem_append_right _ (List.mem_append_left _ hp)))
              · rw [List.mem_singleton.mp hp]; exact .head _
            · exact .tail _ (.tail _ (List.mem_append_right _ (List.mem_append_right _ hp)))
      · rcases List.mem_append.mp hr with hr | hr
        · exact .inl ⟨r, hr, rfl⟩
        · rw [List.mem_singleton.mp hr]; exact .inr hall
    · have : ∃ r ∈ rws, r.key = keyOf b at' le := by
        refine Classical.byContradiction fun hc => hk fun r hr e => hc ⟨r, hr, e⟩
      obtain ⟨r, hr, e⟩ := this
      have hv := look_some R.keys hr e
      have hvl : r.vs.length ≤ 1000 := by
        have := ints_len (R.rowsAre r hr)
        rw [List.length_map] at this
        have h2 := ps_len (b := b) (le := le) (noted := noted) (k := r.key)
        omega
      have U : Upd r.ad (listOf r.vs.toArray r.cn) (listOf (r.vs.toArray.push (.int (at' : Int) ta)) (r.cn + 1)) ((pd, o) :: (base ++ (rws.map rowO ++ keep))) ((pd, o) :: (base ++ ((rws.map (bump (keyOf b at' le) (.int (at' : Int) ta))).map rowO ++ keep))) := by
        refine .tail (Ne.symm (hpd (rowO r) (List.mem_append_right _ (List.mem_append_left _ (List.mem_map_of_mem hr))))) (upd_pre (fun p hp => hoff r hr p (List.mem_append_left _ hp)) ?_)
        exact upd_rows R.keys R.ads hr e fun p hp => hoff r hr p (List.mem_append_right _ hp)
      refine (note_old w loose mean mg mb x dx pd t1 t2 t3 t4 t5 b tb wd twd ch tch le tle at' ta _ _ hsz hat hle hle2 hx' hdx' hfit o _ (.head _) hdo hlo r.ad r.vs r.cn hv (by rw [hv]; rfl) (.tail _ (List.mem_append_right _ (List.mem_append_left _ (List.mem_map_of_mem hr)))) hvl U).mono ?_
      rintro r' n ⟨rfl, rfl⟩
      refine ⟨rfl, o, _, ?_, R.old hfit hr e, by simp, fun p hp => hp, fun q hq => ?_⟩
      · have : (rws.map (bump (keyOf b at' le) (.int (at' : Int) ta))).map rowKV = rws.map rowKV := by
          rw [List.map_map]
          refine List.map_congr_left fun q _ => ?_
          show ((bump _ _ q).key, Value.ref (bump _ _ q).ad) = _
          rw [bump_key, bump_ad]
          rfl
        rw [this]
        exact hdo
      · obtain ⟨q0, hq0, rfl⟩ := List.mem_map.mp hq
        exact .inl ⟨q0, hq0, (bump_ad _ _ q0).symm⟩
  · refine (note_none w loose mean mg mb x dx pd t1 t2 t3 t4 t5 b tb wd twd ch tch le tle at' ta _ hsz hat hle hle2 hx' hdx' hfit).mono ?_
    rintro r n ⟨rfl, rfl⟩
    exact ⟨rfl, o, rws, hdo, R.none hfit, by omega, fun p hp => hp, fun r hr => .inl ⟨r, hr, rfl⟩⟩
end
end
section
theorem clampW (v : Int) : ∃ wd : Nat, wd ≤ 32768 ∧ (if (if 32768 < v then 32768 else v) > 1 then (if 32768 < v then 32768 else v) else 1) = ((wd : Nat) : Int) ∧
    (if 32768 < (if 1 > v then 1 else v) then 32768 else (if 1 > v then 1 else v)) = ((wd : Nat) : Int) := by
  refine ⟨(if (if 32768 < v then 32768 else v) > 1 then (if 32768 < v then 32768 else v) else 1 : Int).toNat, ?_, ?_, ?_⟩
  · repeat' split
    all_goals omega
  · repeat' split
    all_goals omega
  · repeat' split
    all_goals omega
theorem clampL {x : Int} (h0 : 0 ≤ x) (h1 : x < 5) : ∃ le : Nat, 3 ≤ le ∧ le ≤ 6 ∧ (if [(3 : Int), 4, 2, 1, 6].getD x.toNat 0 > 3 then [(3 : Int), 4, 2, 1, 6].getD x.toNat 0 else 3) = ((le : Nat) : Int) ∧
    (if 3 > [(3 : Int), 4, 2, 1, 6].getD x.toNat 0 then 3 else [(3 : Int), 4, 2, 1, 6].getD x.toNat 0) = ((le : Nat) : Int) := by
  have : x = 0 ∨ x = 1 ∨ x = 2 ∨ x = 3 ∨ x = 4 := by omega
  rcases this with rfl | rfl | rfl | rfl | rfl
  · exact ⟨3, by decide, by decide, by decide, by decide⟩
  · exact ⟨4, by decide, by decide, by decide, by decide⟩
  · exact ⟨3, by decide, by decide, by decide, by decide⟩
  · exact ⟨3, by decide, by decide, by decide, by decide⟩
  · exact ⟨6, by decide, by decide, by decide, by decide⟩
structure Fix where
  st : Addr
  pool : Addr
  x : Addr
  dx : Addr
  pd : Addr
  nt : Addr
  ru : Addr
  fin : Obj
  rul : Obj
structure Fix.Ord (f : Fix) : Prop where
  a : @LT.lt Nat _ f.pool f.st
  b : @LT.lt Nat _ f.st f.dx
  c : @LT.lt Nat _ f.dx f.x
  d : @LT.lt Nat _ f.x f.pd
  e : @LT.lt Nat _ f.pd f.ru
  f : @LT.lt Nat _ f.ru f.nt
noncomputable def ledL (f : Fix) (c : Int) (tc : Tok) (n1 : Nat) (vs2 : List Value) (n2 : Nat) (o : Obj) (nvs : List Value) (nn : Nat) (rk : List (Addr × Obj)) : List (Addr × Obj) :=
  (f.st, stO f.pool c tc n1) :: (f.pool, listOf vs2.toArray n2) :: (f.x, instObj 60 f.dx) :: (f.dx, f.fin) :: (f.pd, o) :: (f.nt, listOf nvs.toArray nn) :: (f.ru, f.rul) :: rk
noncomputable def fxL (f : Fix) (keep : List (Addr × Obj)) : List Addr := f.st :: f.pool :: f.x :: f.dx :: f.pd :: f.nt :: f.ru :: keep.map Prod.fst
structure JF (w : World) (b : Array UInt8) (le : Nat) (f : Fix) (keep : List (Addr × Obj)) (i : Nat) (vs2 : List Value) (o : Obj) (nvs : List Value) (noted : List Nat) (rws : List Row) : Prop where
  pool : ∃ ns, IntsAre vs2 ns ∧ ns.length ≤ 63
  dict : o.IsDictOf (PySem.intKind Challenge.rw_pq0514_01.row.prog w) (rws.map rowKV)
  inv : RInv b le (fxL f keep) noted rws
  nts : IntsAre nvs (noted.map fun (p : Nat) => (p : Int))
  nlen : noted.length ≤ i
  rlen : rws.length ≤ i
  lt : ∀ p ∈ noted, p < i
  so : noted.Pairwise (· < ·)
  keepOff : ∀ p ∈ keep, @LT.lt Nat _ f.nt p.1
def JJ (w : World) (b : Array UInt8) (le : Nat) (f : Fix) (x : Str) (m₀ : Str → Option Value) (keep : List (Addr × Obj)) (i : Nat) (m : Str → Option Value) (news : List (Addr × Obj)) : Prop :=
  (∀ y, y ≠ x → m y = m₀ y) ∧ ∃ c tc n1 vs2 n2 o nvs nn noted rws, news = ledL f c tc n1 vs2 n2 o nvs nn (rws.map rowO ++ keep) ∧ JF w b le f keep i vs2 o nvs noted rws
section
variable {prog : Program} {w : World} {A : Around} {E : Value → Shared → Prop} {s : Shared} {env : Env} {h₀ : Heap} {x : Str} {body : List Stmt} {Q : Flow → Shared → Prop}
theorem for_law {px pos : Pos} {iter : PySem.Expr} {b : Array UInt8} {le : Nat} {m₀ : Str → Option Value} {f : Fix} {c₀ : Int} {tc₀ : Tok} {k₁ k₂ k₃ : Nat} {ws ws' : List Value} {o₀ : Obj} {rk₀ : List (Addr × Obj)} (_F : Fr h₀ env.locals s.heap m₀) (_N : News h₀ env.locals s.heap (ledL f c₀ tc₀ k₁ ws k₂ o₀ ws' k₃ rk₀)) (hh : A.handled = none) (hx : env.kindOf x = some .local)
    (hp : (env.scope.kind == .class || (env.scope.kind == .module && env.locals != env.globals)) = false)
    (it : wpAny (model prog w) A (eval iter env) (ForSrc s h₀ env.locals (JJ w b le f x m₀) b.size) E s)
    (turn : ∀ keep I oI i t c tc n1 vs2 n2 o nvs nn noted rws h tk, i < b.size → JF w b le f keep i vs2 o nvs noted rws → (∀ p ∈ ledL f c tc n1 vs2 n2 o nvs nn (rws.map rowO ++ keep), p.1 ≠ I) →
      Fr h₀ env.locals h (fun y => if y = x then some (.int ((i : Nat) : Int) t) else m₀ y) → News h₀ env.locals h ((I, oI) :: ledL f c tc n1 vs2 n2 o nvs nn (rws.map rowO ++ keep)) →
      wpAny (model prog w) A (execs body env) (TurnJ h₀ env.locals I oI (JJ w b le f x m₀ keep (i + 1)) { s with heap := h, toks := tk } Q) E { s with heap := h, toks := tk })
    (done : ∀ keep u i c tc n1 vs2 n2 o nvs nn noted rws h tk, i ≤ b.size → JF w b le f keep i vs2 o nvs noted rws →
      Fr h₀ env.locals h (fun y => if y = x then u else m₀ y) → News h₀ env.locals h (ledL f c tc n1 vs2 n2 o nvs nn (rws.map rowO ++ keep)) → Q .next { s with heap := h, toks := tk })
    (hs : ∀ x, foldedSetIterable iter env x = pure x := by intro _; rfl)
    (hE : PassesOwn (model prog w) A env E := by passes_own) :
    wpAny (model prog w) A (exec (.For (.Name x px) iter body [] pos) env) Q E s := by
  refine for_two (JJ w b le f x m₀) b.size hh hx hp it ?_ ?_ hs hE
  · rintro keep I oI i t m₁ news₁ h tk hi ⟨hm, c, tc, n1, vs2, n2, o, nvs, nn, noted, rws, rfl, hj⟩ hoff F N
    have e : (fun y => if y = x then some (Value.int ((i : Nat) : Int) t) else m₁ y) = fun y => if y = x then some (Value.int ((i : Nat) : Int) t) else m₀ y := by
      funext y
      by_cases hy : y = x
      · simp [hy]
      · simp only [if_neg hy]; exact hm y hy
    rw [e] at F
    exact turn keep I oI i t c tc n1 vs2 n2 o nvs nn noted rws h tk hi hj hoff F N
  · rintro keep n h tk m' news' hn ⟨hm, c, tc, n1, vs2, n2, o, nvs, nn, noted, rws, rfl, hj⟩ F N
    have e : m' = fun y => if y = x then m' x else m₀ y := by
      funext y
      by_cases hy : y = x
      · simp [hy]
      · simp only [if_neg hy]; exact hm y hy
    rw [e] at F
    exact done keep _ n c tc n1 vs2 n2 o nvs nn noted rws h tk hn hj F N
end
theorem JF.off' {b : Array UInt8} {le : Nat} {f : Fix} {keep : List (Addr × Obj)} {noted : List Nat} {rws : List Row} (h : f.Ord) (R : RInv b le (fxL f keep) noted rws) (hk : ∀ p ∈ keep, @LT.lt Nat _ f.nt p.1) {a : Addr} (ha : a ∈ fxL f []) : ∀ p ∈ rws.map rowO ++ keep, p.1 ≠ a := fun p hp => by
  rcases List.mem_append.mp hp with hp | hp
  · obtain ⟨r, hr, rfl⟩ := List.mem_map.mp hp
    have hmem : a ∈ fxL f keep := by
      simp only [fxL, List.map_nil, List.mem_cons, List.not_mem_nil, or_false] at ha
      simp only [fxL, List.mem_cons]
      rcases ha with h | h | h | h | h | h | h <;> simp [h]
    exact Nat.ne_of_gt (R.low r hr a hmem)
  · have h1 := hk p hp
    obtain ⟨h2, h3, h4, h5, h6, h7⟩ := h
    simp only [fxL, List.map_nil, List.mem_cons, List.not_mem_nil, or_false] at ha
    refine neN ?_
    rcases ha with rfl | rfl | rfl | rfl | rfl | rfl | rfl <;> omega
section
variable {w : World} {b : Array UInt8} {le : Nat} {f : Fix} {keep : List (Addr × Obj)} {i : Nat} {vs2 : List Value} {o : Obj} {nvs : List Value} {noted : List Nat} {rws : List Row}
/-- the rows and what is kept lie apart from the state's two objects -/
theorem JF.off (j : JF w b le f keep i vs2 o nvs noted rws) (h : f.Ord) {a : Addr} (ha : a ∈ fxL f []) : ∀ p ∈ rws.map rowO ++ keep, p.1 ≠ a := JF.off' h j.inv j.keepOff ha
theorem JF.grow (j : JF w b le f keep i vs2 o nvs noted rws) {vs2' : List Value} {ns : List Int} (hI : IntsAre vs2' ns) (hl : ns.length ≤ 63) : JF w b le f keep (i + 1) vs2' o nvs noted rws :=
  ⟨⟨ns, hI, hl⟩, j.dict, j.inv, j.nts, Nat.le_succ_of_le j.nlen, Nat.le_succ_of_le j.rlen, fun p hp => Nat.lt_succ_of_lt (j.lt p hp), j.so, j.keepOff⟩
theorem JF.add (j : JF w b le f keep i vs2 o nvs noted rws) {vs2' : List Value} {ns : List Int} {o' : Obj} {rws' : List Row} {t : Tok} (hI : IntsAre vs2' ns) (hl : ns.length ≤ 63)
    (hd : o'.IsDictOf (PySem.intKind Challenge.rw_pq0514_01.row.prog w) (rws'.map rowKV)) (R : RInv b le (fxL f keep) (noted ++ [i]) rws') (hr : rws'.length ≤ rws.length + 1) : JF w b le f keep (i + 1) vs2' o' (nvs ++ [.int (i : Int) t]) (noted ++ [i]) rws' where
  pool := ⟨ns, hI, hl⟩
  dict := hd
  inv := R
  nts := by rw [List.map_append]; exact IntsAre.append j.nts (.cons _ _ .nil)
  nlen := by rw [List.length_append]; have := j.nlen; simp; omega
  rlen := by have := j.rlen; omega
  lt := fun p hp => by
    rcases List.mem_append.mp hp with hp | hp
    · exact Nat.lt_succ_of_lt (j.lt p hp)
    · rw [List.mem_singleton.mp hp]; exact Nat.lt_succ_self _
  so := by
    rw [List.pairwise_append]
    refine ⟨j.so, List.pairwise_singleton _ _, fun p hp q hq => ?_⟩
    rw [List.mem_singleton.mp hq]
    exact j.lt p hp
  keepOff := j.keepOff
end
theorem start_led {P : Params} {h₀ h : Heap} {L dT nt ru pd x dx st pool : Addr} {oT o : Obj} {b : Array UInt8} {v c cv lx : Int} {n n' : Nat} {vs : List Value} {rest : List (Addr × Obj)} {ta tch tl k1 k2 k3 k4 k5 tb u2 u3 u4 : Tok} {tc : Tok}
    (N : News h₀ L h ((dT, oT) :: (nt, listOf (List.toArray []) 0) :: (ru, tup3 (if 32768 < (if 1 > v then 1 else v) then 32768 else (if 1 > v then 1 else v)) ta cv tch (if 3 > [(3 : Int), 4, 2, 1, 6].getD lx.toNat 0 then 3 else [(3 : Int), 4, 2, 1, 6].getD lx.toNat 0) tl) :: (pd, o) :: (x, instObj 60 dx) ::
      (dx, dictOf [⟨PyData.keyHash P (Str.ofString "octets"), .str (Str.ofString "octets") k1, .bytes b tb⟩, ⟨PyData.keyHash P (Str.ofString "window"), .str (Str.ofString "window") k2, .int (if (if 32768 < v then 32768 else v) > 1 then (if 32768 < v then 32768 else v) else 1) u2⟩,
        ⟨PyData.keyHash P (Str.ofString "chain"), .str (Str.ofString "chain") k3, .int cv u3⟩, ⟨PyData.keyHash P (Str.ofString "least"), .str (Str.ofString "least") k4, .int (if [(3 : Int), 4, 2, 1, 6].getD lx.toNat 0 > 3 then [(3 : Int), 4, 2, 1, 6].getD lx.toNat 0 else 3) u4⟩, ⟨PyData.keyHash P (Str.ofString "places"), .str (Str.ofString "places") k5, .ref pd⟩] 5) ::
      (st, stO pool c tc n) :: (pool, listOf vs.toArray n') :: rest)) (h1 : 0 ≤ lx) (h2 : lx < 5) (h3 : 0 ≤ cv) (h4 : cv < 5) (a1 : @LT.lt Nat _ pool st) (a2 : @LT.lt Nat _ st dx) (a3 : @LT.lt Nat _ dx x) (a4 : @LT.lt Nat _ x pd) (a5 : @LT.lt Nat _ pd ru) (a6 : @LT.lt Nat _ ru nt) :
    ∃ wd le ch : Nat, wd ≤ 32768 ∧ 3 ≤ le ∧ le ≤ 6 ∧ ch ≤ 4 ∧ Fix.Ord ⟨st, pool, x, dx, pd, nt, ru, finD P k1 k2 k3 k4 k5 b tb (wd : Int) u2 (ch : Int) u3 le u4 pd, tup3 (wd : Int) ta (ch : Int) tch (le : Int) tl⟩ ∧ News h₀ L h (ledL ⟨st, pool, x, dx, pd, nt, ru, finD P k1 k2 k3 k4 k5 b tb (wd : Int) u2 (ch : Int) u3 le u4 pd, tup3 (wd : Int) ta (ch : Int) tch (le : Int) tl⟩ c tc n vs n' o [] 0 (([] : List Row).map rowO ++ [])) := by
  obtain ⟨wd, hw, e1, e2⟩ := clampW v
  obtain ⟨le, hl1, hl2, e3, e4⟩ := clampL h1 h2
  obtain ⟨ch, rfl⟩ := Int.eq_ofNat_of_zero_le h3
  rw [e1, e2, e3, e4] at N
  refine ⟨wd, le, ch, hw, hl1, hl2, by omega, ⟨a1, a2, a3, a4, a5, a6⟩, fun p hp => N p ?_⟩
  simp only [ledL, List.map_nil, List.append_nil, List.mem_cons, List.not_mem_nil, or_false] at hp
  rcases hp with h | h | h | h | h | h | h
  · rw [h]; exact .tail _ (.tail _ (.tail _ (.tail _ (.tail _ (.tail _ (.head _))))))
  · rw [h]; exact .tail _ (.tail _ (.tail _ (.tail _ (.tail _ (.tail _ (.tail _ (.head _)))))))
  · rw [h]; exact .tail _ (.tail _ (.tail _ (.tail _ (.head _))))
  · rw [h]; exact .tail _ (.tail _ (.tail _ (.tail _ (.tail _ (.head _)))))
  · rw [h]; exact .tail _ (.tail _ (.tail _ (.head _)))
  · rw [h]; exact .tail _ (.head _)
  · rw [h]; exact .tail _ (.tail _ (.head _))
section
variable {w : World} {b : Array UInt8} {le : Nat} {f : Fix} {x : Str} {m₀ : Str → Option Value} {h₀ h : Heap} {L : Addr} {s : Shared} {c : Int} {tc : Tok} {n1 n2 tk : Nat} {vs2 : List Value} {ns : List Int} {o : Obj}
theorem JF.start {keep : List (Addr × Obj)} (hI : IntsAre vs2 ns) (hl : ns.length ≤ 63) (hd : o.IsDictOf (PySem.intKind Challenge.rw_pq0514_01.row.prog w) []) (hk : ∀ p ∈ keep, @LT.lt Nat _ f.nt p.1) : JF w b le f keep 0 vs2 o [] [] [] :=
  ⟨⟨ns, hI, hl⟩, hd, RInv.nil _ _ _, .nil, Nat.le_refl _, Nat.le_refl _, (fun _ h => nomatch h), .nil, hk⟩
theorem JJ_keep {keep : List (Addr × Obj)} : ∀ i m nw, JJ w b le f x m₀ keep i m nw → ∀ p ∈ keep, p ∈ nw := by
  rintro i m nw ⟨_, c, tc, n1, vs2, n2, o, nvs, nn, noted, rws, rfl, _⟩ p hp
  unfold ledL
  exact .tail _ (.tail _ (.tail _ (.tail _ (.tail _ (.tail _ (.tail _ (List.mem_append_right _ hp)))))))
theorem src_range {r : Addr} {cc : Int} {t u v : Tok} (F : Fr h₀ L h m₀) (N : News h₀ L h (ledL f c tc n1 vs2 n2 o [] 0 [])) (hr : IsRange h r 0 cc 1 t u v) (g0 : 0 ≤ cc) (g1 : cc ≤ (b.size : Int)) (hb : b.size ≤ 300)
    (hI : IntsAre vs2 ns) (hl : ns.length ≤ 63) (hd : o.IsDictOf (PySem.intKind Challenge.rw_pq0514_01.row.prog w) []) : ForSrc s h₀ L (JJ w b le f x m₀) b.size (.ref r) { s with heap := h, toks := tk } :=
  ⟨h, tk, m₀, ledL f c tc n1 vs2 n2 o [] 0 (([] : List Row).map rowO ++ []), [], cc.toNat, rfl, by omega, F, N, ⟨fun _ _ => rfl, c, tc, n1, vs2, n2, o, [], 0, [], [], rfl, JF.start hI hl hd fun _ h => nomatch h⟩, JJ_keep,
    .inl ⟨r, cc, t, u, v, rfl, rfl, hr, (Int.toNat_of_nonneg g0).symm, by omega⟩⟩
theorem src_tup {ax : Addr} {lo : Obj} {vs : List Value} {k : Nat} (F : Fr h₀ L h m₀) (N : News h₀ L h ((ax, lo) :: ledL f c tc n1 vs2 n2 o [] 0 [])) (hc : lo.cls = .type "tuple") (hdt : lo.data = .seq (List.toArray vs) k) (hlen : vs.length ≤ b.size)
    (hvs : ∀ i v, vs[i]? = some v → ∃ t, v = Value.int ((i : Nat) : Int) t) (hax : @LT.lt Nat _ f.nt ax) (hI : IntsAre vs2 ns) (hl : ns.length ≤ 63) (hd : o.IsDictOf (PySem.intKind Challenge.rw_pq0514_01.row.prog w) []) : ForSrc s h₀ L (JJ w b le f x m₀) b.size (.ref ax) { s with heap := h, toks := tk } :=
  ⟨h, tk, m₀, ledL f c tc n1 vs2 n2 o [] 0 (([] : List Row).map rowO ++ [(ax, lo)]), [(ax, lo)], vs.length, rfl, hlen, F, fun p hp => N p (by
    have hp' : p ∈ ledL f c tc n1 vs2 n2 o [] 0 [] ++ [(ax, lo)] := hp
    rcases List.mem_append.mp hp' with h | h
    · exact .tail _ h
    · rw [List.mem_singleton.mp h]; exact .head _), ⟨fun _ _ => rfl, c, tc, n1, vs2, n2, o, [], 0, [], [], rfl, JF.start hI hl hd fun p hp => by rw [List.mem_singleton.mp hp]; exact hax⟩, JJ_keep,
    .inr ⟨ax, lo, vs, k, rfl, rfl, hc, hdt, rfl, hvs⟩⟩
end
theorem off_all {f : Fix} {c : Int} {tc : Tok} {n1 n2 nn : Nat} {vs2 nvs : List Value} {o : Obj} {rk : List (Addr × Obj)} {I : Addr} (h : ∀ p ∈ ledL f c tc n1 vs2 n2 o nvs nn rk, p.1 ≠ I) :
    @Ne Nat f.st I ∧ @Ne Nat f.pool I ∧ @Ne Nat f.x I ∧ @Ne Nat f.dx I ∧ @Ne Nat f.pd I ∧ @Ne Nat f.nt I ∧ @Ne Nat f.ru I ∧ ∀ p ∈ rk, p.1 ≠ I := by
  unfold ledL at h
  exact ⟨h _ (.head _), h _ (.tail _ (.head _)), h _ (.tail _ (.tail _ (.head _))), h _ (.tail _ (.tail _ (.tail _ (.head _)))), h _ (.tail _ (.tail _ (.tail _ (.tail _ (.head _))))), h _ (.tail _ (.tail _ (.tail _ (.tail _ (.tail _ (.head _)))))),
    h _ (.tail _ (.tail _ (.tail _ (.tail _ (.tail _ (.tail _ (.head _))))))), fun p hp => h p (.tail _ (.tail _ (.tail _ (.tail _ (.tail _ (.tail _ (.tail _ hp)))))))⟩
theorem JF.own {w : World} {b : Array UInt8} {le : Nat} {f : Fix} {keep : List (Addr × Obj)} {i : Nat} {vs2 : List Value} {o : Obj} {nvs : List Value} {noted : List Nat} {rws : List Row} (j : JF w b le f keep i vs2 o nvs noted rws) (h : f.Ord) : OwnOff (rws.map rowO ++ keep) [f.st, f.pool] := fun p hp a ha => by
  refine j.off h ?_ p hp
  rcases List.mem_cons.mp ha with rfl | ha
  · exact .head _
  · rw [List.mem_singleton.mp ha]; exact .tail _ (.head _)
theorem ne_same {prog : Program} {w : World} {A : Around} {E : Value → Shared → Prop} {s : Shared} {Q : Value → Shared → Prop} {c : Prop} [Decidable c] {k : Int} {r1 r2 : Value} (h1 : if c then ∃ t, r1 = .int k t else r1 = .none) (h2 : if c then ∃ t, r2 = .int k t else r2 = .none) (h : Q (.bool false) s) :
    wpAny (model prog w) A (compareOp .NotEq r1 r2) Q E s := by
  by_cases hc : c
  · rw [if_pos hc] at h1 h2
    obtain ⟨t1, rfl⟩ := h1
    obtain ⟨t2, rfl⟩ := h2
    exact ne_int (by simpa using h)
  · rw [if_neg hc] at h1 h2
    subst h1 h2
    exact EqBoolInt.of_rcne SeqAt.RcNeAt.none_none h
def LedIs (_ : List (Addr × Obj)) : Prop := True
theorem led_is {h₀ h : Heap} {L : Addr} {led : List (Addr × Obj)} (_N : News h₀ L h led) : LedIs led := trivial
theorem news_like {h₀ h : Heap} {L : Addr} {led led' : List (Addr × Obj)} (_N : LedIs led') (N : News h₀ L h led) (hs : ∀ p ∈ led', p ∈ led) : News h₀ L h led' := fun p hp => N p (hs p hp)
theorem note_perm {h₀ hp : Heap} {L : Addr} {a b c d e p g h : Addr × Obj} {rk : List (Addr × Obj)} (N : News h₀ L hp (a :: b :: c :: d :: e :: p :: g :: h :: rk)) : News h₀ L hp (p :: ([a, b, c, d, e, g, h] ++ rk)) := fun q hq => N q (by
  simp only [List.cons_append, List.nil_append, List.mem_cons] at hq ⊢
  rcases hq with h | h | h | h | h | h | h | h | h <;> simp [h])
section
variable {w : World} {loose : List Str} {mean : ExcName → Option Value} {mg mb : Str → Option Value} {b : Array UInt8} {le : Nat} {f : Fix} {keep : List (Addr × Obj)} {i : Nat} {vs2 : List Value} {o o1 o2 oI o6 o7 : Obj} {nvs : List Value} {noted : List Nat} {rws : List Row} {I : Addr}
   {t1 t2 t3 t4 t5 tb twd tch tle ta : Tok} {wd ch : Nat}
theorem note_law (hord : f.Ord) (j : JF w b le f keep i vs2 o nvs noted rws) (hI : @Ne Nat f.pd I) (hI8 : ∀ p ∈ rws.map rowO ++ keep, p.1 ≠ I) (hsz : b.size ≤ 300) (hi : i < b.size) (hle : 3 ≤ le) (hle2 : le ≤ 6) (hfin : f.fin = finD w.params t1 t2 t3 t4 t5 b tb (wd : Int) twd (ch : Int) tch le tle f.pd) (hlo : (f.pd == sysModules) = false) :
    Ctr w mean mg mb loose 2 43 [.ref f.x, .int ((i : Nat) : Int) ta] ((f.pd, o) :: ([(f.st, o1), (f.pool, o2), (I, oI), (f.x, instObj 60 f.dx), (f.dx, f.fin), (f.nt, o6), (f.ru, o7)] ++ (rws.map rowO ++ keep)))
      (fun r news' => r = .none ∧ ∃ o' rws', o'.IsDictOf (PySem.intKind Challenge.rw_pq0514_01.row.prog w) (rws'.map rowKV) ∧ RInv b le (fxL f keep) (noted ++ [i]) rws' ∧ rws'.length ≤ rws.length + 1 ∧
        (∀ p ∈ (f.pd, o') :: ([(f.st, o1), (f.pool, o2), (I, oI), (f.x, instObj 60 f.dx), (f.dx, f.fin), (f.nt, o6), (f.ru, o7)] ++ (rws'.map rowO ++ keep)), p ∈ news') ∧ ∀ p ∈ rws'.map rowO ++ keep, p.1 ≠ I) := by
  have hn := j.nlen
  have hr := j.rlen
  obtain ⟨h1, h2, h3, h4, h5, h6⟩ := id hord
  have hrk := j.off hord (a := f.pd) (by simp [fxL])
  refine (note_inv (x := f.x) (dx := f.dx) (pd := f.pd) (o := o) (fx := fxL f keep) (noted := noted) (rws := rws) (keep := keep) (wd := wd) (ch := ch) (twd := twd) (tch := tch) (tle := tle) (tb := tb) (t1 := t1) (t2 := t2) (t3 := t3) (t4 := t4) (t5 := t5) (le := le) (base := [(f.st, o1), (f.pool, o2), (I, oI), (f.x, instObj 60 f.dx), (f.dx, f.fin), (f.nt, o6), (f.ru, o7)])
    hsz (Nat.le_of_lt hi) hle hle2 (by simp) (by rw [← hfin]; simp) ?_ j.dict hlo j.inv ?_ (by omega) (by omega) ?_).mono ?_
  · intro p hp
    rcases List.mem_append.mp hp with hp | hp
    · simp only [List.mem_cons, List.not_mem_nil, or_false] at hp
      refine neN ?_
      rcases hp with rfl | rfl | rfl | rfl | rfl | rfl | rfl <;> dsimp only <;> omega
    · exact hrk p hp
  · intro r hr' p hp
    have hlow := j.inv.low r hr'
    rcases List.mem_append.mp hp with hp | hp
    · simp only [List.mem_cons, List.not_mem_nil, or_false] at hp
      rcases hp with rfl | rfl | rfl | rfl | rfl | rfl | rfl
      · exact Nat.ne_of_lt (hlow _ (by simp [fxL]))
      · exact Nat.ne_of_lt (hlow _ (by simp [fxL]))
      · exact Ne.symm (hI8 (rowO r) (List.mem_append_left _ (List.mem_map_of_mem hr')))
      · exact Nat.ne_of_lt (hlow _ (by simp [fxL]))
      · exact Nat.ne_of_lt (hlow _ (by simp [fxL]))
      · exact Nat.ne_of_lt (hlow _ (by simp [fxL]))
      · exact Nat.ne_of_lt (hlow _ (by simp [fxL]))
    · refine Nat.ne_of_lt (hlow p.1 ?_)
      unfold fxL
      exact .tail _ (.tail _ (.tail _ (.tail _ (.tail _ (.tail _ (.tail _ (List.mem_map_of_mem hp)))))))
  · intro a ha
    simp only [fxL, List.mem_cons] at ha
    rcases ha with rfl | rfl | rfl | rfl | rfl | rfl | rfl | ha
    · exact .inr ⟨_, .head _⟩
    · exact .inr ⟨_, .tail _ (.head _)⟩
    · exact .inr ⟨_, .tail _ (.tail _ (.tail _ (.head _)))⟩
    · exact .inr ⟨_, .tail _ (.tail _ (.tail _ (.tail _ (.head _))))⟩
    · exact .inl rfl
    · exact .inr ⟨_, .tail _ (.tail _ (.tail _ (.tail _ (.tail _ (.head _)))))⟩
    · exact .inr ⟨_, .tail _ (.tail _ (.tail _ (.tail _ (.tail _ (.tail _ (.head _))))))⟩
    · obtain ⟨q, hq, rfl⟩ := List.mem_map.mp ha
      exact .inr ⟨q.2, List.mem_append_right _ (List.mem_append_right _ hq)⟩
  · rintro r n ⟨rfl, o', rws', hd, hR, hl, hs, hold⟩
    refine ⟨rfl, o', rws', hd, hR, hl, hs, fun p hp => ?_⟩
    rcases List.mem_append.mp hp with hp | hp
    · obtain ⟨q, hq, rfl⟩ := List.mem_map.mp hp
      rcases hold q hq with ⟨r0, hr0, e⟩ | hlt
      · show q.ad ≠ I
        rw [← e]
        exact hI8 (rowO r0) (List.mem_append_left _ (List.mem_map_of_mem hr0))
      · exact Nat.ne_of_gt (hlt (I, oI) (.tail _ (.tail _ (.head _))))
    · exact hI8 p (List.mem_append_right _ hp)
end
theorem upd_nt {f : Fix} (h : f.Ord) {I : Addr} (hI : @Ne Nat f.nt I) {o1 o2 oI o3 o4 o5 o6 o6' o7 : Obj} {rk : List (Addr × Obj)} (hrk : ∀ p ∈ rk, p.1 ≠ f.nt) :
    Upd f.nt o6 o6' ((f.pd, o5) :: (f.st, o1) :: (f.pool, o2) :: (I, oI) :: (f.x, o3) :: (f.dx, o4) :: (f.nt, o6) :: (f.ru, o7) :: rk) ((f.pd, o5) :: (f.st, o1) :: (f.pool, o2) :: (I, oI) :: (f.x, o3) :: (f.dx, o4) :: (f.nt, o6') :: (f.ru, o7) :: rk) := by
  obtain ⟨h1, h2, h3, h4, h5, h6⟩ := h
  refine .tail (neN (by dsimp only; omega)) (.tail (neN (by dsimp only; omega)) (.tail (neN (by dsimp only; omega)) (.tail (neN (by dsimp only; omega)) (.tail (neN (by dsimp only; omega)) (.tail (neN (by dsimp only; omega)) (.head fun p hp => ?_))))))
  rcases List.mem_cons.mp hp with rfl | hp
  · exact neN (by dsimp only; omega)
  · exact hrk p hp
theorem turn_end {w : World} {b : Array UInt8} {le : Nat} {f : Fix} {keep : List (Addr × Obj)} {i : Nat} {vs2 : List Value} {o : Obj} {nvs : List Value} {noted : List Nat} {rws : List Row} {I : Addr} {oI : Obj} {c : Int} {tc : Tok} {n1 n2 nn tk tk₀ : Nat} {x : Str} {v : Option Value} {m₀ : Str → Option Value}
    {h₀ h' h₁ : Heap} {L : Addr} {s : Shared} {Q : Flow → Shared → Prop} {led : List (Addr × Obj)} (F : Fr h₀ L h' (fun y => if y = x then v else m₀ y)) (N : News h₀ L h' led) (hs : ∀ p ∈ (I, oI) :: ledL f c tc n1 vs2 n2 o nvs nn (rws.map rowO ++ keep), p ∈ led)
    (hn1 : @Ne Nat f.st I) (hn2 : @Ne Nat f.pool I) (hn3 : @Ne Nat f.x I) (hn4 : @Ne Nat f.dx I) (hn5 : @Ne Nat f.pd I) (hn6 : @Ne Nat f.nt I) (hn7 : @Ne Nat f.ru I) (hn8 : ∀ p ∈ rws.map rowO ++ keep, p.1 ≠ I)
    (j : JF w b le f keep (i + 1) vs2 o nvs noted rws) : TurnJ h₀ L I oI (JJ w b le f x m₀ keep (i + 1)) { s with heap := h₁, toks := tk₀ } Q .next { s with heap := h', toks := tk } := by
  refine ⟨h', tk, _, ledL f c tc n1 vs2 n2 o nvs nn (rws.map rowO ++ keep), rfl, F, fun p hp => N p (hs p hp), fun p hp => ?_, fun y hy => by simp [hy], c, tc, n1, vs2, n2, o, nvs, nn, noted, rws, rfl, j⟩
  unfold ledL at hp
  simp only [List.mem_cons] at hp
  rcases hp with rfl | rfl | rfl | rfl | rfl | rfl | rfl | hp
  · exact hn1
  · exact hn2
  · exact hn3
  · exact hn4
  · exact hn5
  · exact hn6
  · exact hn7
  · exact hn8 p hp
theorem rot3 {α : Type} {i s p : α} {r : List α} : ∀ q ∈ i :: s :: p :: r, q ∈ s :: p :: i :: r := fun q hq => by
  simp only [List.mem_cons] at hq ⊢
  rcases hq with h | h | h | h <;> simp [h]
theorem rot8 {α : Type} {i s p x d pd nt ru : α} {r : List α} : ∀ q ∈ i :: s :: p :: x :: d :: pd :: nt :: ru :: r, q ∈ pd :: s :: p :: i :: x :: d :: nt :: ru :: r := fun q hq => by
  rcases List.mem_cons.mp hq with rfl | hq
  · exact .tail _ (.tail _ (.tail _ (.head _)))
  rcases List.mem_cons.mp hq with rfl | hq
  · exact .tail _ (.head _)
  rcases List.mem_cons.mp hq with rfl | hq
  · exact .tail _ (.tail _ (.head _))
  rcases List.mem_cons.mp hq with rfl | hq
  · exact .tail _ (.tail _ (.tail _ (.tail _ (.head _))))
  rcases List.mem_cons.mp hq with rfl | hq
  · exact .tail _ (.tail _ (.tail _ (.tail _ (.tail _ (.head _)))))
  rcases List.mem_cons.mp hq with rfl | hq
  · exact .head _
  exact .tail _ (.tail _ (.tail _ (.tail _ (.tail _ (.tail _ hq)))))
section
variable {w : World} {loose : List Str} {mean : ExcName → Option Value} {mg mb : Str → Option Value} {b : Array UInt8} {news : List (Addr × Obj)} {B A : Int}
theorem len_gen {x dx pd : Addr} {t1 t2 t3 t4 t5 tb twd tch tle tbf ta : Tok} {wd ch : Int} {le : Nat} (hx : (x, instObj 60 dx) ∈ news) (hdx : (dx, finD w.params t1 t2 t3 t4 t5 b tb wd twd ch tch le tle pd) ∈ news) (hsz : b.size ≤ 300) (h0 : 0 ≤ B) (h1 : B ≤ A) (h2 : A ≤ (b.size : Int)) :
   Ctr w mean mg mb loose 1 50 [.ref x, .int B tbf, .int A ta] news (fun r news' => news' = news ∧ ∃ t, r = .int ((alike b B.toNat A.toNat : Nat) : Int) t) := by
  obtain ⟨a, rfl⟩ := Int.eq_ofNat_of_zero_le (show 0 ≤ A by omega)
  exact len_int hx hdx hsz h0 h1 (by omega)
theorem alike_gen {tb t1 t2 : Tok} (hsz : b.size ≤ 300) (h0 : 0 ≤ B) (h1 : B ≤ A) (h2 : A ≤ (b.size : Int)) :
   Ctr w mean mg mb loose 1 83 [.bytes b tb, .int B t1, .int A t2] news (fun r news' => news' = news ∧ ∃ t, r = .int ((alike b B.toNat A.toNat : Nat) : Int) t) := by
  obtain ⟨a, rfl⟩ := Int.eq_ofNat_of_zero_le (show 0 ≤ A by omega)
  obtain ⟨c, rfl⟩ := Int.eq_ofNat_of_zero_le h0
  exact alike_ctr w loose mean mg mb b c a tb t1 t2 news hsz (by omega) (by omega)
end
end
section
local macro_rules | `(tactic| walk_at "call ref") => `(tactic| (k_here; (with_reducible show wpAny _ _ (call (Value.ref 71) _) _ _ _); first | (k_dflt (refine' draw_use ?N ?P1 ?P2 ?hne ?hoff ?hI ?hlen ?many ?B ?F ?X ?T ?hk ?kd ?ku ?_; (case N => k_asm); (case P1 => (first | exact Pick.head | exact (Pick.tail Pick.head) | exact (Pick.tail (Pick.tail Pick.head)) | exact (Pick.tail (Pick.tail (Pick.tail Pick.head))) | exact (Pick.tail (Pick.tail (Pick.tail (Pick.tail Pick.head)))))); (case P2 => (first | exact Pick.head | exact (Pick.tail Pick.head) | exact (Pick.tail (Pick.tail Pick.head)) | exact (Pick.tail (Pick.tail (Pick.tail Pick.head))) | exact (Pick.tail (Pick.tail (Pick.tail (Pick.tail Pick.head)))))); (case hne => (exact neN (by (try dsimp only); omega))); (case hoff => repeat' (first | assumption | exact off_nil | refine off_cons2 (neN (by (try dsimp only); omega)) (neN (by (try dsimp only); omega)) ?_)); (case hI => assumption); (case hlen => (first | assumption | omega)); (case many => omega); (case B => k_asm); (case F => k_asm); (case X => k_asm); (case T => k_asm); (case hk => first | exact rfl | assumption); (case kd => ktr_room); (case ku => ktr_units)); intro x9 t9 c9 tc9 vs9 ns9 n9 n9' h9 tk9 hx9 hy9 hI9 hl9 F9 N9; (try dsimp only); (try k_fold)) | refine stopIt ?_))
local macro_rules | `(tactic| walk_at "call ref") => `(tactic| (k_here; (first | (with_reducible show wpAny _ _ (call (Value.ref 57) _) _ _ _) | (with_reducible show wpAny _ _ (call (Value.ref 88) _) _ _ _) | (with_reducible show wpAny _ _ (call (Value.ref 36) _) _ _ _) | (with_reducible show wpAny _ _ (call (Value.ref 93) _) _ _ _) | (with_reducible show wpAny _ _ (call (Value.ref 43) _) _ _ _) | (with_reducible show wpAny _ _ (call (Value.ref 50) _) _ _ _) | (with_reducible show wpAny _ _ (call (Value.ref 83) _) _ _ _) | (with_reducible show wpAny _ _ (call (Value.ref 76) _) _ _ _)); refine stopIt ?_))
local macro_rules | `(tactic| walk_at "call type:bytes") => `(tactic| (k_here; (with_reducible show wpAny _ _ (call (Value.type "bytes") [Value.bytes _ _]) _ _ _); refine bytes_same ?_))
local macro_rules | `(tactic| walk_at "call builtin:list.append") => `(tactic| refine stopIt ?_)
local macro_rules | `(tactic| walk_at "subscriptTail") => `(tactic| (k_here; (with_reducible show wpAny _ _ (subscriptTail _ (PySem.Expr.Constant (PySem.Const.int 2) _ _) (Value.ref _) (Value.int _ _)) _ _ _); k_dflt (refine' item_tupleT ?t ?a ?b ?c ?d ?_; (case t => exact News.isTup (by k_asm) (by k_mem)); (case a => decide); (case b => decide); (case c => rfl); (case d => rfl); k_whole)))
local macro_rules | `(tactic| walk_at "exec For") => `(tactic| refine stopIt ?_)
set_option maxRecDepth 100000 in
set_option maxHeartbeats 8000000 in
theorem law_all : PySem.Challenge.rw_pq0514_01.Holds := hd (by
  k_go0
  k_steps
  refine ⟨?_⟩
  rename Fr _ _ _ _ => F9
  rename News _ _ _ _ => N9
  k_dflt (refine' Ctr.use ?B F9 ?X N9 ?T ?hk (octets_ctr (st := _) (pool := _) ?c1 ?c2 ?c3 ?c4) ?kd ?ku ?_)
  case B => k_asm
  case X => k_asm
  case T => k_asm
  case hk => first | exact rfl | assumption
  case c1 => exact neN (by (try dsimp only); omega)
  case c2 => repeat' (first | assumption | exact off_nil | refine off_cons2 (neN (by (try dsimp only); omega)) (neN (by (try dsimp only); omega)) ?_)
  case c3 => assumption
  case c4 => omega
  case kd => ktr_room
  case ku => ktr_units
  clear N9 F9
  rintro r9 news9 h9 tk9 ⟨b, tb, c9, tc9, vs9, ns9, n9, n9', rfl, hsz, hI9, hl9, rfl⟩ F9 N8
  have N9 := news_drop [] N8 (fun p hp => nomatch hp)
  clear N8
  k_steps
  refine ⟨?_⟩
  rename Fr _ _ _ _ => F9
  rename News _ _ _ _ => N9
  obtain ⟨wd, le, ch, hwd, hle, hle2, hch, hord, N7⟩ := start_led N9 (by assumption) (by assumption) (by assumption) (by assumption) (by omega) (by omega) (by omega) (by omega) (by omega) (by omega)
  k_dflt (refine' for_law (b := b) (le := le) F9 N7 ?hh ?hx ?hp ?it ?turn ?done)
  case hh => rfl
  case hx => rfl
  case hp => rfl
  case it =>
    clear N9
    simp only [ledL, List.map_nil, List.append_nil] at N7
    k_steps
    · rename Fr _ _ _ _ => F8
      rename News _ _ _ _ => N8
      rename IsRange _ _ _ _ _ _ _ _ => hr9
      k_dflt (refine' src_range F8 ?N hr9 (by omega) (by omega) hsz ?hI ?hl ?hd)
      case N => exact N8
      case hI => assumption
      case hl => assumption
      case hd => assumption
    · k_dflt (refine' src_tup ?F ?N ?cc ?dd ?len ?vs ?ax ?hI ?hl ?hd)
      case F => k_asm
      case N => k_asm
      case cc => rfl
      case dd => rfl
      case len => show 4 ≤ b.size; omega
      case vs =>
        intro i v hv
        match i with
        | 0 => exact ⟨_, (Option.some.inj hv).symm⟩
        | 1 => exact ⟨_, (Option.some.inj hv).symm⟩
        | 2 => exact ⟨_, (Option.some.inj hv).symm⟩
        | 3 => exact ⟨_, (Option.some.inj hv).symm⟩
        | n + 4 => cases hv
      case ax => dsimp only; omega
      case hI => assumption
      case hl => assumption
      case hd => assumption
  case turn =>
    clear N7
    intro keep I oI i t c tc n1 vs2 n2 o nvs nn noted rws h tk hi hj hoff F8 N8
    have hown := hj.own hord
    have hrn : noted.length ≤ 300 := by have := hj.nlen; omega
    have hrr : rws.length ≤ 300 := by have := hj.rlen; omega
    obtain ⟨hn1, hn2, hn3, hn4, hn5, hn6, hn7, hn8⟩ := off_all hoff
    obtain ⟨ho1, ho2, ho3, ho4, ho5, ho6⟩ := id hord
    simp only [ledL] at N8
    dsimp only at hn1 hn2 hn3 hn4 hn5 hn6 hn7 ho1 ho2 ho3 ho4 ho5 ho6 hown
    have hled := led_is N8
    k_steps
    refine ⟨?_⟩
    rename Fr _ _ _ _ => F7
    rename News _ _ _ _ => N7
    k_dflt (refine' Ctr.use ?B F7 ?X N7 ?T ?hk (longest_best (noted := noted) (rws := rws) (fx := fxL _ keep) hsz (Nat.le_of_lt hi) hle hle2 (by k_mem) (by k_mem) (by k_mem) hj.dict (by assumption) hj.inv (fun r hr => by repeat' (first | with_reducible exact List.mem_append_left _ (List.mem_map_of_mem hr) | refine List.mem_cons_of_mem _ ?_)) hj.lt hj.so hrn) ?kd ?ku ?_)
    case B => k_asm
    case X => k_asm
    case T => k_asm
    case hk => first | exact rfl | assumption
    case kd => ktr_room
    case ku => ktr_units
    clear F7 N7
    rintro r9 news9 h9 tk9 ⟨f1, u1, u1', rfl, rfl⟩ F7 N7
    k_steps
    refine ⟨?_⟩
    rename Fr _ _ _ _ => F6
    rename News _ _ _ _ => N6
    k_dflt (refine' Ctr.use ?B F6 ?X N6 ?T ?hk (best_ctr _ _ _ _ _ b i _ _ _ _ wd ch le _ _ _ nvs nn noted _ hsz (Nat.le_of_lt hi) hle hle2 hwd hch (by k_mem) hj.nts hrn hj.lt (by k_mem)) ?kd ?ku ?_)
    case B => k_asm
    case X => k_asm
    case T => k_asm
    case hk => first | exact rfl | assumption
    case kd => ktr_room
    case ku => ktr_units
    clear F6 N6
    rintro r9 news9 h9 tk9 ⟨f2, u2, u2', rfl, rfl⟩ F6 N6
    k_steps
    refine ⟨?_⟩
    rename Fr _ _ _ _ => F5
    rename News _ _ _ _ => N5
    k_dflt (refine' Ctr.use ?B F5 ?X N5 ?T ?hk (key_ctr _ _ _ _ _ _ _ _ _ _ _ _ _ b _ (wd : Int) _ (ch : Int) _ le _ i _ _ hsz (Nat.le_of_lt hi) hle hle2 (by k_mem) (by k_mem)) ?kd ?ku ?_)
    case B => k_asm
    case X => k_asm
    case T => k_asm
    case hk => first | exact rfl | assumption
    case kd => ktr_room
    case ku => ktr_units
    clear F5 N5
    rintro r5 news9 h9 tk9 ⟨rfl, hr5⟩ F5 N5
    k_steps
    refine ⟨?_⟩
    rename Fr _ _ _ _ => F5
    rename News _ _ _ _ => N5
    k_dflt (refine' Ctr.use ?B F5 ?X N5 ?T ?hk (number_ctr _ _ _ _ _ b i _ _ _ le _ hsz (Nat.le_of_lt hi) hle hle2) ?kd ?ku ?_)
    case B => k_asm
    case X => k_asm
    case T => k_asm
    case hk => first | exact rfl | assumption
    case kd => ktr_room
    case ku => ktr_units
    clear F5 N5
    rintro r4 news9 h9 tk9 ⟨rfl, hr4⟩ F5 N5
    k_steps
    k_here
    k_dflt (refine ne_same hr5 hr4 ?_)
    k_steps
    refine ⟨?_⟩
    rename Fr _ _ _ _ => F5
    rename News _ _ _ _ => N5
    have N4 := news_like hled N5 (fun p hp => by repeat' (first | with_reducible exact hp | refine List.mem_cons_of_mem _ ?_))
    obtain ⟨ns2, hI2, hl2⟩ := hj.pool
    k_dflt (refine' draw_use N4 (.tail .head) (.tail .head) ?hne ?hoff hI2 hl2 ?many ?B F5 ?X ?T ?hk ?kd ?ku ?_)
    case hne => exact neN (by omega)
    case hoff => repeat' (first | exact hown | refine off_cons2 (neN (by (try dsimp only); omega)) (neN (by (try dsimp only); omega)) ?_)
    case many => omega
    case B => k_asm
    case X => k_asm
    case T => k_asm
    case hk => first | exact rfl | assumption
    case kd => ktr_room
    case ku => ktr_units
    clear N4 F5 N5
    intro x4 t4 c4 tc4 vs4 ns4 n4 n4' h4 tk4 hx4 hy4 hI4 hl4 F4 N4
    k_steps
    · refine ⟨?_⟩
      rename Fr _ _ _ _ => F3
      rename News _ _ _ _ => N3
      k_dflt (refine' Ctr.use ?B F3 ?X (note_perm N3) ?T ?hk (note_law hord hj hn5 hn8 hsz hi hle hle2 ?hfin ?hlo) ?kd ?ku ?_)
      case B => k_asm
      case X => k_asm
      case T => k_asm
      case hk => first | exact rfl | assumption
      case hfin => rfl
      case hlo => dsimp only; assumption
      case kd => ktr_room
      case ku => ktr_units
      clear F3 N3
      rintro r3 news9 h9 tk9 ⟨rfl, o3, rws3, hd3, hR3, hl3, hs3, hI3⟩ F3 N3'
      have N3 := fun p hp => N3' p (hs3 p hp)
      clear N3'
      simp only [List.cons_append, List.nil_append] at N3
      k_steps
      refine ⟨?_⟩
      rename Fr _ _ _ _ => F2
      rename News _ _ _ _ => N2
      have hrk3 := JF.off' hord hR3 hj.keepOff (a := _) (.tail _ (.tail _ (.tail _ (.tail _ (.tail _ (.head _))))))
      have hnv : nvs.length ≤ 300 := by
        have := ints_len hj.nts
        rw [List.length_map] at this
        omega
      k_dflt (refine' append_K F2 N2 (upd_nt hord hn6 hrk3) ?_ ?z)
      case z => rw [sizeLine_eq]; simp only [List.size_toArray]; omega
      clear F2 N2
      intro h2 F2 N2
      simp only [List.push_toArray] at N2
      k_steps
      rename Fr _ _ _ _ => F1
      rename News _ _ _ _ => N1
      exact turn_end F1 N1 rot8 hn1 hn2 hn3 hn4 hn5 hn6 hn7 hI3 (hj.add hI4 hl4 hd3 hR3 hl3)
    · rename Fr _ _ _ _ => F3
      rename News _ _ _ _ => N3
      exact turn_end F3 N3 rot3 hn1 hn2 hn3 hn4 hn5 hn6 hn7 hn8 (hj.grow hI4 hl4)
  case done =>
    clear N7
    intro keep u i c tc n1 vs2 n2 o nvs nn noted rws h tk hi hj F8 N8
    have hown := hj.own hord
    obtain ⟨ns2, hI2, hl2⟩ := hj.pool
    obtain ⟨ho1, ho2, ho3, ho4, ho5, ho6⟩ := id hord
    simp only [ledL] at N8
    dsimp only at ho1 ho2 ho3 ho4 ho5 ho6 hown
    k_steps
    · refine ⟨?_⟩
      rename Fr _ _ _ _ => F7
      rename News _ _ _ _ => N7
      k_dflt (refine' Ctr.use ?B F7 ?X N7 ?T ?hk (len_gen (by k_mem) (by k_mem) hsz (by omega) (by omega) (by omega)) ?kd ?ku ?_)
      case B => k_asm
      case X => k_asm
      case T => k_asm
      case hk => first | exact rfl | assumption
      case kd => ktr_room
      case ku => ktr_units
      clear F7 N7
      rintro r9 news9 h9 tk9 ⟨rfl, t7, rfl⟩ F7 N7
      k_steps
      refine ⟨?_⟩
      rename Fr _ _ _ _ => F7
      rename News _ _ _ _ => N7
      k_dflt (refine' Ctr.use ?B F7 ?X N7 ?T ?hk (alike_gen hsz (by omega) (by omega) (by omega)) ?kd ?ku ?_)
      case B => k_asm
      case X => k_asm
      case T => k_asm
      case hk => first | exact rfl | assumption
      case kd => ktr_room
      case ku => ktr_units
      clear F7 N7
      rintro r9 news9 h9 tk9 ⟨rfl, t7, rfl⟩ F7 N7
      k_steps
      refine ⟨?_⟩
      rename Fr _ _ _ _ => F7
      rename News _ _ _ _ => N7
      k_dflt (refine' Ctr.use ?B F7 ?X N7 ?T ?hk (longest_none _ _ _ _ _ _ _ _ _ _ _ _ _ b _ (wd : Int) _ (ch : Int) _ le _ b.size _ _ hsz (Nat.le_refl _) hle hle2 (by k_mem) (by k_mem) (by omega)) ?kd ?ku ?_)
      case B => k_asm
      case X => k_asm
      case T => k_asm
      case hk => first | exact rfl | assumption
      case kd => ktr_room
      case ku => ktr_units
      clear F7 N7
      rintro r9 news9 h9 tk9 ⟨f1, u1, u1', rfl, rfl⟩ F7 N7
      k_steps
      refine ⟨?_⟩
      rename Fr _ _ _ _ => F7
      rename News _ _ _ _ => N7
      k_dflt (refine' Ctr.use ?B F7 ?X N7 ?T ?hk (key_none (by k_mem) (by k_mem) hsz (Nat.le_refl _) hle hle2 (by omega)) ?kd ?ku ?_)
      case B => k_asm
      case X => k_asm
      case T => k_asm
      case hk => first | exact rfl | assumption
      case kd => ktr_room
      case ku => ktr_units
      clear F7 N7
      rintro r9 news9 h9 tk9 ⟨rfl, rfl⟩ F7 N7
      k_steps
    · refine ⟨?_⟩
      rename Fr _ _ _ _ => F7
      rename News _ _ _ _ => N7
      k_dflt (refine' Ctr.use ?B F7 ?X N7 ?T ?hk (longest_none _ _ _ _ _ _ _ _ _ _ _ _ _ b _ (wd : Int) _ (ch : Int) _ le _ b.size _ _ hsz (Nat.le_refl _) hle hle2 (by k_mem) (by k_mem) (by omega)) ?kd ?ku ?_)
      case B => k_asm
      case X => k_asm
      case T => k_asm
      case hk => first | exact rfl | assumption
      case kd => ktr_room
      case ku => ktr_units
      clear F7 N7
      rintro r9 news9 h9 tk9 ⟨f1, u1, u1', rfl, rfl⟩ F7 N7
      k_steps
      refine ⟨?_⟩
      rename Fr _ _ _ _ => F7
      rename News _ _ _ _ => N7
      k_dflt (refine' Ctr.use ?B F7 ?X N7 ?T ?hk (key_none (by k_mem) (by k_mem) hsz (Nat.le_refl _) hle hle2 (by omega)) ?kd ?ku ?_)
      case B => k_asm
      case X => k_asm
      case T => k_asm
      case hk => first | exact rfl | assumption
      case kd => ktr_room
      case ku => ktr_units
      clear F7 N7
      rintro r9 news9 h9 tk9 ⟨rfl, rfl⟩ F7 N7
      k_steps)
end
end Mine
theorem PySem.Challenge.cw_pq0514_01_holds : PySem.Challenge.rw_pq0514_01.Holds := by
  exact Mine.law_all
